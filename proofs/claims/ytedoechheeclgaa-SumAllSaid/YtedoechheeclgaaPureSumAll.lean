/- The statement SumAll over numbers and lists: the sum of any bytes of at most 5000, from any beginning, is the reference's, and the document's example comes out. No further condition. -/
import Derived.Test.YtedoechheeclgaaQSumAllx1
import Derived.Test.YtedoechheeclgaaCrc
namespace Go.Proofs.Ytedoechheeclgaa.Pure
open Go.RowKit Go.Proofs.Ytedoechheeclgaa.QSumAll Go.Proofs.Ytedoechheeclgaa.Crc Go.Proofs.YtedoechheeclgaaW.PrintWords Go.Proofs.YtedoechheeclgaaW.PrintLast
namespace SumAllP
theorem More_l1 (l : List Int) (n x : Int) (r : Int) (d : Nat) : ∀ (c : Nat) (i : Int), c < 2 ^ 32 → i + d = 8 → 0 ≤ i →
    Ev (fun k => sum_More.l0 k ((csteps d c : Nat) : Int) l n (wrap64 (x + 1))) r → Ev (fun k => sum_More.l1 k (c : Int) l n x i) r := by
  induction d with
  | zero =>
    intro c i hc hi h0 h
    refine Ev.step (fun k => ?_) h
    simp only [sum_More.l1]
    rw [if_neg (by omega)]
    rfl
  | succ d ih =>
    intro c i hc hi h0 h
    refine Ev.step (fun k => ?_) (ih (cstep c) (i + 1) (cstep_lt hc) (by omega) (by omega) h)
    simp only [sum_More.l1]
    rw [if_pos (by omega), bits_and1_u32 hc, wrap64_small (by omega) (by omega)]
    by_cases ho : c % 2 = 1
    · rw [if_pos (by omega), cstep_odd ho, ← bits_xor_u32 (by omega) (by decide)]
      rfl
    · rw [if_neg (by omega), cstep_even ho]
      rfl
theorem More_l0 (l : List Int) (hn : l.length ≤ 140737488351232) (b : List Nat) : ∀ (i : Nat) (c : Nat), (∀ x ∈ b, x < 256) → c < 2 ^ 32 → i ≤ l.length → l.drop i = b.map Int.ofNat →
    Ev (fun k => sum_More.l0 k (c : Int) l (l.length : Int) (i : Int)) ((crc c b ^^^ 4294967295 : Nat) : Int) := by
  induction b with
  | nil =>
    intro i c hb hc hi hd
    have hi2 := drop_nil hd
    refine Ev.step (f := fun _ => some ((crc c [] ^^^ 4294967295 : Nat) : Int)) (fun k => ?_) (Ev.now _)
    simp only [sum_More.l0]
    have h1 := bits_xor_u32 hc (b := 4294967295) (by decide)
    have h2 := Nat.xor_lt_two_pow (n := 32) hc (y := 4294967295) (by decide)
    rw [if_neg (by omega), show (4294967295 : Int) = ((4294967295 : Nat) : Int) from rfl, h1, wrap64_small (by omega) (by omega)]
    rfl
  | cons x b ih =>
    intro i c hb hc hi hd
    obtain ⟨hlt, hx, ht⟩ := drop_cons hd
    have hx256 : x < 256 := hb x (by simp)
    have hcx : c ^^^ x < 2 ^ 32 := Nat.xor_lt_two_pow hc (by omega)
    have hrd : rd l (i : Int) = (x : Int) := by simp [rd, List.getD_eq_getElem?_getD, hx]
    refine Ev.step (fun k => ?_) (More_l1 l (l.length : Int) i _ 8 (c ^^^ x) 0 hcx (by omega) (by omega) (by
      rw [wrap64_small (by omega) (by omega)]
      exact ih (i + 1) (csteps 8 (c ^^^ x)) (fun y hy => hb y (List.mem_cons_of_mem _ hy)) (csteps_lt hcx) (by omega) ht))
    simp only [sum_More.l0]
    rw [if_pos (by omega), if_pos (by omega), if_pos (by omega), hrd, Int.emod_eq_of_lt (by omega) (by omega), bits_xor_u32 hc (by omega)]
theorem More_ev (b : List Nat) (hb : ∀ x ∈ b, x < 256) (hn : b.length ≤ 140737488351232) (s : Nat) (hs : s < 2 ^ 32) :
    Ev (fun k => sum_More.f k (s : Int) (b.map Int.ofNat)) ((crc (s ^^^ 4294967295) b ^^^ 4294967295 : Nat) : Int) := by
  have h := More_l0 (b.map Int.ofNat) (by simpa using hn) b 0 (s ^^^ 4294967295) hb (Nat.xor_lt_two_pow hs (by decide)) (by omega) rfl
  unfold sum_More.f
  rw [show (4294967295 : Int) = ((4294967295 : Nat) : Int) from rfl, Int.emod_eq_of_lt (by omega) (by omega), bits_xor_u32 hs (by decide)]
  exact h
theorem More_ev_any (b : List Nat) (hb : ∀ x ∈ b, x < 256) (hn : b.length ≤ 140737488351232) (s : Int) :
    Ev (fun k => sum_More.f k s (b.map Int.ofNat)) ((crc ((s % 4294967296).toNat ^^^ 4294967295) b ^^^ 4294967295 : Nat) : Int) := by
  have hs : (s % 4294967296).toNat < 2 ^ 32 := by omega
  have h := More_l0 (b.map Int.ofNat) (by simpa using hn) b 0 ((s % 4294967296).toNat ^^^ 4294967295) hb (Nat.xor_lt_two_pow hs (by decide)) (by omega) rfl
  unfold sum_More.f
  rw [show (4294967295 : Int) = ((4294967295 : Nat) : Int) from rfl, show s % 4294967296 = (((s % 4294967296).toNat : Nat) : Int) from by omega, bits_xor_u32 hs (by decide)]
  exact h
/-- The sum of bytes. -/
def sumN (b : List Nat) : Nat := crc 4294967295 b ^^^ 4294967295
theorem sumN_lt (b : List Nat) (hb : ∀ x ∈ b, x < 256) : sumN b < 2 ^ 32 := Nat.xor_lt_two_pow (crc_lt (by decide) hb) (by decide)
theorem Sum_ev (b : List Nat) (hb : ∀ x ∈ b, x < 256) (hn : b.length ≤ 140737488351232) : Ev (fun k => sum_Sum.f k (b.map Int.ofNat)) ((sumN b : Nat) : Int) := by
  unfold sum_Sum.f
  refine Ev.bind (More_ev b hb hn 0 (by decide)) ?_
  exact Ev.now _
theorem awake_ev : Ev (fun k => aquiferlaw3_awake.f k) true := by
  unfold aquiferlaw3_awake.f
  refine Ev.bind (Sum_ev [49, 50, 51, 52, 53, 54, 55, 56, 57] (by decide) (by decide)) ?_
  rw [show sumN [49, 50, 51, 52, 53, 54, 55, 56, 57] = 3421780262 from by decide +kernel]
  exact Ev.now _
theorem Ref_l1 (l : List Int) (x : Int) (r : Int) (d : Nat) : ∀ (c : Nat) (i : Int), c < 2 ^ 32 → i + d = 8 → 0 ≤ i →
    Ev (fun k => aquiferref1_More.l0 k l ((csteps d c : Nat) : Int) (wrap64 (x + 1))) r → Ev (fun k => aquiferref1_More.l1 k l (c : Int) x i) r := by
  induction d with
  | zero =>
    intro c i hc hi h0 h
    refine Ev.step (fun k => ?_) h
    simp only [aquiferref1_More.l1]
    rw [if_neg (by omega)]
    rfl
  | succ d ih =>
    intro c i hc hi h0 h
    refine Ev.step (fun k => ?_) (ih (cstep c) (i + 1) (cstep_lt hc) (by omega) (by omega) h)
    simp only [aquiferref1_More.l1]
    rw [if_pos (by omega), bits_and1_u32 hc, wrap64_small (by omega) (by omega)]
    by_cases ho : c % 2 = 1
    · rw [if_pos (by omega), cstep_odd ho, ← bits_xor_u32 (by omega) (by decide)]
      rfl
    · rw [if_neg (by omega), cstep_even ho]
      rfl
theorem Ref_l0 (l : List Int) (hn : l.length ≤ 140737488351232) (b : List Nat) : ∀ (i : Nat) (c : Nat), (∀ x ∈ b, x < 256) → c < 2 ^ 32 → i ≤ l.length → l.drop i = b.map Int.ofNat →
    Ev (fun k => aquiferref1_More.l0 k l (c : Int) (i : Int)) ((crc c b ^^^ 4294967295 : Nat) : Int) := by
  induction b with
  | nil =>
    intro i c hb hc hi hd
    have hi2 := drop_nil hd
    refine Ev.step (f := fun _ => some ((crc c [] ^^^ 4294967295 : Nat) : Int)) (fun k => ?_) (Ev.now _)
    simp only [aquiferref1_More.l0]
    have h1 := bits_xor_u32 hc (b := 4294967295) (by decide)
    have h2 := Nat.xor_lt_two_pow (n := 32) hc (y := 4294967295) (by decide)
    rw [if_neg (by omega), show (4294967295 : Int) = ((4294967295 : Nat) : Int) from rfl, h1, wrap64_small (by omega) (by omega)]
    rfl
  | cons x b ih =>
    intro i c hb hc hi hd
    obtain ⟨hlt, hx, ht⟩ := drop_cons hd
    have hx256 : x < 256 := hb x (by simp)
    have hcx : c ^^^ x < 2 ^ 32 := Nat.xor_lt_two_pow hc (by omega)
    have hrd : rd l (i : Int) = (x : Int) := by simp [rd, List.getD_eq_getElem?_getD, hx]
    refine Ev.step (fun k => ?_) (Ref_l1 l i _ 8 (c ^^^ x) 0 hcx (by omega) (by omega) (by
      rw [wrap64_small (by omega) (by omega)]
      exact ih (i + 1) (csteps 8 (c ^^^ x)) (fun y hy => hb y (List.mem_cons_of_mem _ hy)) (csteps_lt hcx) (by omega) ht))
    simp only [aquiferref1_More.l0]
    rw [if_pos (by omega), if_pos (by omega), hrd, Int.emod_eq_of_lt (by omega) (by omega), bits_xor_u32 hc (by omega)]
theorem Ref_ev_any (b : List Nat) (hb : ∀ x ∈ b, x < 256) (hn : b.length ≤ 140737488351232) (s : Int) :
    Ev (fun k => aquiferref1_More.f k s (b.map Int.ofNat)) ((crc ((s % 4294967296).toNat ^^^ 4294967295) b ^^^ 4294967295 : Nat) : Int) := by
  have hs : (s % 4294967296).toNat < 2 ^ 32 := by omega
  have h := Ref_l0 (b.map Int.ofNat) (by simpa using hn) b 0 ((s % 4294967296).toNat ^^^ 4294967295) hb (Nat.xor_lt_two_pow hs (by decide)) (by omega) rfl
  unfold aquiferref1_More.f
  rw [show (4294967295 : Int) = ((4294967295 : Nat) : Int) from rfl, show s % 4294967296 = (((s % 4294967296).toNat : Nat) : Int) from by omega, bits_xor_u32 hs (by decide)]
  exact h
theorem RefSum_ev (b : List Nat) (hb : ∀ x ∈ b, x < 256) (hn : b.length ≤ 140737488351232) : Ev (fun k => aquiferref1_Sum.f k (b.map Int.ofNat)) ((sumN b : Nat) : Int) := by
  unfold aquiferref1_Sum.f
  refine Ev.bind (Ref_ev_any b hb hn 0) ?_
  exact Ev.now _
end SumAllP
open SumAllP
theorem SumAll : aquiferlaw3_SumAll.Pure := by
  intro l s hl hn hw hs
  obtain ⟨b, rfl, hb⟩ := bytes_nat l hw
  have hn' : b.length ≤ 140737488351232 := by simpa using hn
  refine Ev.rounds ?_
  unfold aquiferlaw3_SumAll.f
  by_cases h : ((b.map Int.ofNat).length : Int) > 5000
  · simp only [if_pos h]; exact Ev.now _
  · simp only [if_neg h]
    refine Ev.bind (Sum_ev b hb hn') (Ev.bind (RefSum_ev b hb hn') ?_)
    simp only [if_true]
    refine Ev.bind (More_ev_any b hb hn' s) (Ev.bind (Ref_ev_any b hb hn' s) ?_)
    simp only [if_true]
    exact Ev.bind awake_ev (Ev.now _)
end Go.Proofs.Ytedoechheeclgaa.Pure
