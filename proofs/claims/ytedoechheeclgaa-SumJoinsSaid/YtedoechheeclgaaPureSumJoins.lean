/- The statement SumJoins over numbers and lists: the sum of one text of at most 3000 bytes and then another is that of both together. No further condition. -/
import Derived.Test.YtedoechheeclgaaQSumJoinsx1
import Derived.Test.YtedoechheeclgaaCrc
namespace Go.Proofs.Ytedoechheeclgaa.Pure
open Go.RowKit Go.Proofs.Ytedoechheeclgaa.QSumJoins Go.Proofs.Ytedoechheeclgaa.Crc Go.Proofs.YtedoechheeclgaaW.PrintWords Go.Proofs.YtedoechheeclgaaW.PrintLast
namespace SumJoinsP
theorem More_l1 (l : List Int) (n x : Int) (r : Int) (d : Nat) : ∀ (c : Nat) (i : Int), c < 2 ^ 32 → i + d = 8 → 0 ≤ i →
    Ev (fun k => sum_More.l0 k ((csteps d c : Nat) : Int) l n (wrap64 (x + 1))) r → Ev (fun k => sum_More.l1 k (c : Int) l n x i) r := by
  induction d with
  | zero =>
    intro c i hc hi h0 h
    refine Ev.step (fun k => ?_) h
    simp only [sum_More.l1]
    rw [if_neg (by omega)]
    rfl
  | succ d ih =>
    intro c i hc hi h0 h
    refine Ev.step (fun k => ?_) (ih (cstep c) (i + 1) (cstep_lt hc) (by omega) (by omega) h)
    simp only [sum_More.l1]
    rw [if_pos (by omega), bits_and1_u32 hc, wrap64_small (by omega) (by omega)]
    by_cases ho : c % 2 = 1
    · rw [if_pos (by omega), cstep_odd ho, ← bits_xor_u32 (by omega) (by decide)]
      rfl
    · rw [if_neg (by omega), cstep_even ho]
      rfl
theorem More_l0 (l : List Int) (hn : l.length ≤ 140737488351232) (b : List Nat) : ∀ (i : Nat) (c : Nat), (∀ x ∈ b, x < 256) → c < 2 ^ 32 → i ≤ l.length → l.drop i = b.map Int.ofNat →
    Ev (fun k => sum_More.l0 k (c : Int) l (l.length : Int) (i : Int)) ((crc c b ^^^ 4294967295 : Nat) : Int) := by
  induction b with
  | nil =>
    intro i c hb hc hi hd
    have hi2 := drop_nil hd
    refine Ev.step (f := fun _ => some ((crc c [] ^^^ 4294967295 : Nat) : Int)) (fun k => ?_) (Ev.now _)
    simp only [sum_More.l0]
    have h1 := bits_xor_u32 hc (b := 4294967295) (by decide)
    have h2 := Nat.xor_lt_two_pow (n := 32) hc (y := 4294967295) (by decide)
    rw [if_neg (by omega), show (4294967295 : Int) = ((4294967295 : Nat) : Int) from rfl, h1, wrap64_small (by omega) (by omega)]
    rfl
  | cons x b ih =>
    intro i c hb hc hi hd
    obtain ⟨hlt, hx, ht⟩ := drop_cons hd
    have hx256 : x < 256 := hb x (by simp)
    have hcx : c ^^^ x < 2 ^ 32 := Nat.xor_lt_two_pow hc (by omega)
    have hrd : rd l (i : Int) = (x : Int) := by simp [rd, List.getD_eq_getElem?_getD, hx]
    refine Ev.step (fun k => ?_) (More_l1 l (l.length : Int) i _ 8 (c ^^^ x) 0 hcx (by omega) (by omega) (by
      rw [wrap64_small (by omega) (by omega)]
      exact ih (i + 1) (csteps 8 (c ^^^ x)) (fun y hy => hb y (List.mem_cons_of_mem _ hy)) (csteps_lt hcx) (by omega) ht))
    simp only [sum_More.l0]
    rw [if_pos (by omega), if_pos (by omega), if_pos (by omega), hrd, Int.emod_eq_of_lt (by omega) (by omega), bits_xor_u32 hc (by omega)]
theorem More_ev (b : List Nat) (hb : ∀ x ∈ b, x < 256) (hn : b.length ≤ 140737488351232) (s : Nat) (hs : s < 2 ^ 32) :
    Ev (fun k => sum_More.f k (s : Int) (b.map Int.ofNat)) ((crc (s ^^^ 4294967295) b ^^^ 4294967295 : Nat) : Int) := by
  have h := More_l0 (b.map Int.ofNat) (by simpa using hn) b 0 (s ^^^ 4294967295) hb (Nat.xor_lt_two_pow hs (by decide)) (by omega) rfl
  unfold sum_More.f
  rw [show (4294967295 : Int) = ((4294967295 : Nat) : Int) from rfl, Int.emod_eq_of_lt (by omega) (by omega), bits_xor_u32 hs (by decide)]
  exact h
theorem More_ev_any (b : List Nat) (hb : ∀ x ∈ b, x < 256) (hn : b.length ≤ 140737488351232) (s : Int) :
    Ev (fun k => sum_More.f k s (b.map Int.ofNat)) ((crc ((s % 4294967296).toNat ^^^ 4294967295) b ^^^ 4294967295 : Nat) : Int) := by
  have hs : (s % 4294967296).toNat < 2 ^ 32 := by omega
  have h := More_l0 (b.map Int.ofNat) (by simpa using hn) b 0 ((s % 4294967296).toNat ^^^ 4294967295) hb (Nat.xor_lt_two_pow hs (by decide)) (by omega) rfl
  unfold sum_More.f
  rw [show (4294967295 : Int) = ((4294967295 : Nat) : Int) from rfl, show s % 4294967296 = (((s % 4294967296).toNat : Nat) : Int) from by omega, bits_xor_u32 hs (by decide)]
  exact h
/-- The sum of bytes. -/
def sumN (b : List Nat) : Nat := crc 4294967295 b ^^^ 4294967295
theorem sumN_lt (b : List Nat) (hb : ∀ x ∈ b, x < 256) : sumN b < 2 ^ 32 := Nat.xor_lt_two_pow (crc_lt (by decide) hb) (by decide)
theorem Sum_ev (b : List Nat) (hb : ∀ x ∈ b, x < 256) (hn : b.length ≤ 140737488351232) : Ev (fun k => sum_Sum.f k (b.map Int.ofNat)) ((sumN b : Nat) : Int) := by
  unfold sum_Sum.f
  refine Ev.bind (More_ev b hb hn 0 (by decide)) ?_
  exact Ev.now _
theorem awake_ev : Ev (fun k => aquiferlaw3_awake.f k) true := by
  unfold aquiferlaw3_awake.f
  refine Ev.bind (Sum_ev [49, 50, 51, 52, 53, 54, 55, 56, 57] (by decide) (by decide)) ?_
  rw [show sumN [49, 50, 51, 52, 53, 54, 55, 56, 57] = 3421780262 from by decide +kernel]
  exact Ev.now _
theorem j0_true (l0 l1 : List Int) : Ev (fun k => aquiferlaw3_SumJoins.j0 k l0 l1 true) true := by
  refine Ev.step (fun k => ?_) awake_ev
  simp only [aquiferlaw3_SumJoins.j0, if_true]
  cases aquiferlaw3_awake.f k <;> rfl
theorem j0_false (a b : List Nat) (ha : ∀ x ∈ a, x < 256) (hb : ∀ x ∈ b, x < 256) (la : a.length ≤ 3000) (lb : b.length ≤ 3000) :
    Ev (fun k => aquiferlaw3_SumJoins.j0 k (a.map Int.ofNat) (b.map Int.ofNat) false) true := by
  have hab : ∀ x ∈ a ++ b, x < 256 := fun x hx => (List.mem_append.1 hx).elim (ha x) (hb x)
  have hS := Sum_ev (a ++ b) hab (by rw [List.length_append]; omega)
  have hja : sumN (a ++ b) = crc (sumN a ^^^ 4294967295) b ^^^ 4294967295 := by
    unfold sumN; rw [crc_append, Nat.xor_assoc, Nat.xor_self, Nat.xor_zero]
  have hself : sumN (a ++ b) = crc (sumN (a ++ b) ^^^ 4294967295) [] ^^^ 4294967295 := by
    rw [crc_nil, Nat.xor_assoc, Nat.xor_self, Nat.xor_zero]
  refine Ev.step (f := fun k => (sum_Sum.f k (a.map Int.ofNat)).bind fun t117 => (sum_More.f k t117 (b.map Int.ofNat)).bind fun t118 => (sum_Sum.f k ((a ++ b).map Int.ofNat)).bind fun t119 => if t118 = t119 then (sum_Sum.f k ((a ++ b).map Int.ofNat)).bind fun t120 => (sum_More.f k t120 []).bind fun t121 => (sum_Sum.f k ((a ++ b).map Int.ofNat)).bind fun t122 => if t121 = t122 then (aquiferlaw3_awake.f k).bind fun t123 => some t123 else some false else some false) (fun k => ?_) ?_
  · simp only [aquiferlaw3_SumJoins.j0]
    rw [if_neg (by decide)]
    simp only [Option.bind_some]
    rw [if_pos (by simp; omega), if_pos (by simp; omega)]
    simp only [List.nil_append, List.map_append]
  · refine Ev.bind (Sum_ev a ha (by omega)) (Ev.bind (More_ev b hb (by omega) (sumN a) (sumN_lt a ha)) (Ev.bind hS ?_))
    rw [← hja]
    simp only [if_true]
    refine Ev.bind hS (Ev.bind (More_ev [] (by simp) (by simp) (sumN (a ++ b)) (sumN_lt _ hab)) (Ev.bind hS ?_))
    rw [← hself]
    simp only [if_true]
    exact Ev.bind awake_ev (Ev.now _)
end SumJoinsP
open SumJoinsP
theorem SumJoins : aquiferlaw3_SumJoins.Pure := by
  intro l0 l1 h0 n0 w0 h1 n1 w1
  obtain ⟨a, rfl, ha⟩ := bytes_nat l0 w0
  obtain ⟨b, rfl, hb⟩ := bytes_nat l1 w1
  refine Ev.rounds ?_
  unfold aquiferlaw3_SumJoins.f
  by_cases g0 : ((a.map Int.ofNat).length : Int) > 3000
  · simp only [if_pos g0]; exact j0_true _ _
  · simp only [if_neg g0]
    by_cases g1 : ((b.map Int.ofNat).length : Int) > 3000
    · rw [decide_eq_true g1]; exact j0_true _ _
    · rw [decide_eq_false g1]
      simp only [List.length_map] at g0 g1
      exact j0_false a b ha hb (by omega) (by omega)
end Go.Proofs.Ytedoechheeclgaa.Pure
