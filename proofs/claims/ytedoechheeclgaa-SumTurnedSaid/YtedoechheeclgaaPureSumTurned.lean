/- The statement SumTurned over numbers and lists: bits side by side, up to 32 of them, that are turned in a text of 5 to 3000 bytes, turn the sum. No further condition. -/
import Derived.Test.YtedoechheeclgaaQSumTurnedx1
import Derived.Test.YtedoechheeclgaaCrc
namespace Go.Proofs.Ytedoechheeclgaa.Pure
open Go.RowKit Go.Proofs.Ytedoechheeclgaa.QSumTurned Go.Proofs.Ytedoechheeclgaa.Crc Go.Proofs.YtedoechheeclgaaW.PrintWords Go.Proofs.YtedoechheeclgaaW.PrintLast Go.Proofs.YtedoechheeclgaaW.PrintMore
namespace SumTurnedP
theorem More_l1 (l : List Int) (n x : Int) (r : Int) (d : Nat) : ∀ (c : Nat) (i : Int), c < 2 ^ 32 → i + d = 8 → 0 ≤ i →
    Ev (fun k => sum_More.l0 k ((csteps d c : Nat) : Int) l n (wrap64 (x + 1))) r → Ev (fun k => sum_More.l1 k (c : Int) l n x i) r := by
  induction d with
  | zero =>
    intro c i hc hi h0 h
    refine Ev.step (fun k => ?_) h
    simp only [sum_More.l1]
    rw [if_neg (by omega)]
    rfl
  | succ d ih =>
    intro c i hc hi h0 h
    refine Ev.step (fun k => ?_) (ih (cstep c) (i + 1) (cstep_lt hc) (by omega) (by omega) h)
    simp only [sum_More.l1]
    rw [if_pos (by omega), bits_and1_u32 hc, wrap64_small (by omega) (by omega)]
    by_cases ho : c % 2 = 1
    · rw [if_pos (by omega), cstep_odd ho, ← bits_xor_u32 (by omega) (by decide)]
      rfl
    · rw [if_neg (by omega), cstep_even ho]
      rfl
theorem More_l0 (l : List Int) (hn : l.length ≤ 140737488351232) (b : List Nat) : ∀ (i : Nat) (c : Nat), (∀ x ∈ b, x < 256) → c < 2 ^ 32 → i ≤ l.length → l.drop i = b.map Int.ofNat →
    Ev (fun k => sum_More.l0 k (c : Int) l (l.length : Int) (i : Int)) ((crc c b ^^^ 4294967295 : Nat) : Int) := by
  induction b with
  | nil =>
    intro i c hb hc hi hd
    have hi2 := drop_nil hd
    refine Ev.step (f := fun _ => some ((crc c [] ^^^ 4294967295 : Nat) : Int)) (fun k => ?_) (Ev.now _)
    simp only [sum_More.l0]
    have h1 := bits_xor_u32 hc (b := 4294967295) (by decide)
    have h2 := Nat.xor_lt_two_pow (n := 32) hc (y := 4294967295) (by decide)
    rw [if_neg (by omega), show (4294967295 : Int) = ((4294967295 : Nat) : Int) from rfl, h1, wrap64_small (by omega) (by omega)]
    rfl
  | cons x b ih =>
    intro i c hb hc hi hd
    obtain ⟨hlt, hx, ht⟩ := drop_cons hd
    have hx256 : x < 256 := hb x (by simp)
    have hcx : c ^^^ x < 2 ^ 32 := Nat.xor_lt_two_pow hc (by omega)
    have hrd : rd l (i : Int) = (x : Int) := by simp [rd, List.getD_eq_getElem?_getD, hx]
    refine Ev.step (fun k => ?_) (More_l1 l (l.length : Int) i _ 8 (c ^^^ x) 0 hcx (by omega) (by omega) (by
      rw [wrap64_small (by omega) (by omega)]
      exact ih (i + 1) (csteps 8 (c ^^^ x)) (fun y hy => hb y (List.mem_cons_of_mem _ hy)) (csteps_lt hcx) (by omega) ht))
    simp only [sum_More.l0]
    rw [if_pos (by omega), if_pos (by omega), if_pos (by omega), hrd, Int.emod_eq_of_lt (by omega) (by omega), bits_xor_u32 hc (by omega)]
theorem More_ev (b : List Nat) (hb : ∀ x ∈ b, x < 256) (hn : b.length ≤ 140737488351232) (s : Nat) (hs : s < 2 ^ 32) :
    Ev (fun k => sum_More.f k (s : Int) (b.map Int.ofNat)) ((crc (s ^^^ 4294967295) b ^^^ 4294967295 : Nat) : Int) := by
  have h := More_l0 (b.map Int.ofNat) (by simpa using hn) b 0 (s ^^^ 4294967295) hb (Nat.xor_lt_two_pow hs (by decide)) (by omega) rfl
  unfold sum_More.f
  rw [show (4294967295 : Int) = ((4294967295 : Nat) : Int) from rfl, Int.emod_eq_of_lt (by omega) (by omega), bits_xor_u32 hs (by decide)]
  exact h
theorem More_ev_any (b : List Nat) (hb : ∀ x ∈ b, x < 256) (hn : b.length ≤ 140737488351232) (s : Int) :
    Ev (fun k => sum_More.f k s (b.map Int.ofNat)) ((crc ((s % 4294967296).toNat ^^^ 4294967295) b ^^^ 4294967295 : Nat) : Int) := by
  have hs : (s % 4294967296).toNat < 2 ^ 32 := by omega
  have h := More_l0 (b.map Int.ofNat) (by simpa using hn) b 0 ((s % 4294967296).toNat ^^^ 4294967295) hb (Nat.xor_lt_two_pow hs (by decide)) (by omega) rfl
  unfold sum_More.f
  rw [show (4294967295 : Int) = ((4294967295 : Nat) : Int) from rfl, show s % 4294967296 = (((s % 4294967296).toNat : Nat) : Int) from by omega, bits_xor_u32 hs (by decide)]
  exact h
/-- The sum of bytes. -/
def sumN (b : List Nat) : Nat := crc 4294967295 b ^^^ 4294967295
theorem sumN_lt (b : List Nat) (hb : ∀ x ∈ b, x < 256) : sumN b < 2 ^ 32 := Nat.xor_lt_two_pow (crc_lt (by decide) hb) (by decide)
theorem Sum_ev (b : List Nat) (hb : ∀ x ∈ b, x < 256) (hn : b.length ≤ 140737488351232) : Ev (fun k => sum_Sum.f k (b.map Int.ofNat)) ((sumN b : Nat) : Int) := by
  unfold sum_Sum.f
  refine Ev.bind (More_ev b hb hn 0 (by decide)) ?_
  exact Ev.now _
theorem awake_ev : Ev (fun k => aquiferlaw3_awake.f k) true := by
  unfold aquiferlaw3_awake.f
  refine Ev.bind (Sum_ev [49, 50, 51, 52, 53, 54, 55, 56, 57] (by decide) (by decide)) ?_
  rw [show sumN [49, 50, 51, 52, 53, 54, 55, 56, 57] = 3421780262 from by decide +kernel]
  exact Ev.now _
theorem j0_true (l0 : List Int) (a1 a2 : Int) : Ev (fun k => aquiferlaw3_SumTurned.j0 k l0 a1 a2 true) true := by
  refine Ev.step (fun k => ?_) awake_ev
  simp only [aquiferlaw3_SumTurned.j0, if_true]
  cases aquiferlaw3_awake.f k <;> rfl
theorem rd_map (c : List Nat) (j : Nat) (hj : j < c.length) : rd (c.map Int.ofNat) (j : Int) = (c[j] : Int) := by
  simp [rd, List.getD_eq_getElem?_getD, List.getElem?_eq_getElem hj]
theorem mbit_lt (m i r : Nat) (hr : r < 8) : (m >>> i % 2) <<< r < 256 := by
  rw [Nat.shiftLeft_eq]
  have h1 : m >>> i % 2 ≤ 1 := by omega
  have h2 : 2 ^ r ≤ 2 ^ 7 := Nat.pow_le_pow_right (by decide) (by omega)
  have := Nat.mul_le_mul h1 h2
  omega
theorem shl_bit (m i r : Nat) (hm : m < 2 ^ 32) (hi : i < 32) (hr : r < 8) :
    (shl .u8 ((Go.bits .and .u32 (shr .u32 (m : Int) ((i : Nat) : Int)) 1) % 256) ((r : Nat) : Int)) = (((m >>> i % 2) <<< r : Nat) : Int) := by
  have e1 : shr .u32 (m : Int) ((i : Nat) : Int) = ((m >>> i : Nat) : Int) := by
    unfold shr
    rw [Int.toNat_natCast, Nat.min_eq_left (by simp [IntKind.bits]; omega), Nat.shiftRight_eq_div_pow]
    simp
  rw [e1, bits_and1_u32 (by rw [Nat.shiftRight_eq_div_pow]; exact Nat.lt_of_le_of_lt (Nat.div_le_self _ _) hm)]
  have e2 : ((m >>> i % 2 : Nat) : Int) % 256 = ((m >>> i % 2 : Nat) : Int) := by omega
  have hz := mbit_lt m i r hr
  rw [e2]
  unfold shl
  rw [Int.toNat_natCast, Nat.min_eq_left (by simp [IntKind.bits]; omega), IntKind.wrap_u8]
  rw [Nat.shiftLeft_eq] at hz ⊢
  have e3 : ((m >>> i % 2 : Nat) : Int) * 2 ^ r = ((m >>> i % 2 * 2 ^ r : Nat) : Int) := by simp
  rw [e3]
  omega
theorem w1_ (bit i : Nat) (h : bit < 100000) (hi : i < 32) : wrap64 ((bit : Int) + (i : Int)) = ((bit + i : Nat) : Int) := by unfold wrap64; omega
theorem w2_ (n : Nat) (h : n < 200000) : wrap64 (Int.tdiv (n : Int) 8) = ((n / 8 : Nat) : Int) := by
  rw [Int.tdiv_eq_ediv_of_nonneg (by omega)]; unfold wrap64; omega
theorem w3_ (i : Nat) (h : i < 200000) : IntKind.u64.wrap ((i : Nat) : Int) = ((i : Nat) : Int) := by simp [IntKind.wrap, IntKind.bits, IntKind.signed]; omega
theorem w4_ (n : Nat) (h : n < 200000) : IntKind.u64.wrap (Int.tmod (n : Int) 8) = ((n % 8 : Nat) : Int) := by
  rw [Int.tmod_eq_emod_of_nonneg (by omega), show (n : Int) % 8 = ((n % 8 : Nat) : Int) from by omega]; exact w3_ _ (by omega)
theorem w5_ (i : Nat) (h : i < 200000) : wrap64 ((i : Int) + 1) = ((i + 1 : Nat) : Int) := by unfold wrap64; omega
theorem pow_place (bit i x : Nat) : 2 ^ (8 * ((bit + i) / 8)) * (x * 2 ^ ((bit + i) % 8)) = 2 ^ bit * (2 ^ i * x) := by
  rw [Nat.mul_comm x, ← Nat.mul_assoc, ← Nat.mul_assoc, ← Nat.pow_add, ← Nat.pow_add]
  congr 2; omega
theorem xor_mul (n x y : Nat) : 2 ^ n * x ^^^ 2 ^ n * y = 2 ^ n * (x ^^^ y) := by
  simp only [Nat.mul_comm (2 ^ n), ← Nat.shiftLeft_eq]; exact (Nat.shiftLeft_xor_distrib ..).symm
theorem mod_succ (m i : Nat) : m % 2 ^ i ^^^ 2 ^ i * (m >>> i % 2) = m % 2 ^ (i + 1) := by
  apply Nat.eq_of_testBit_eq
  intro j
  rw [Nat.testBit_xor, Nat.testBit_mod_two_pow, Nat.testBit_mod_two_pow, Nat.testBit_two_pow_mul]
  rcases Nat.lt_trichotomy j i with h | h | h
  · simp [h, Nat.lt_succ_of_lt h, Nat.not_le.2 h]
  · subst h
    simp [Nat.shiftRight_eq_div_pow, Nat.testBit_eq_decide_div_mod_eq]
  · have h1 : ¬ j < i := by omega
    have h2 : ¬ j < i + 1 := by omega
    have h3 : (m >>> i % 2).testBit (j - i) = false := by
      apply Nat.testBit_lt_two_pow
      have : 2 ^ 1 ≤ 2 ^ (j - i) := Nat.pow_le_pow_right (by decide) (by omega)
      omega
    simp [h1, h2, h3]
theorem sum_ne (b c : List Nat) (hlen : c.length = b.length) (m : Nat) (hm : m < 2 ^ 32) (h0 : m ≠ 0) (bit : Nat) (hbit : bit ≤ 8 * b.length) (hle : le c = le b ^^^ (2 ^ bit * m)) : sumN b ≠ sumN c := by
  intro e
  apply crc_turned 4294967295 b c hlen.symm m bit hm h0 hbit hle
  have e2 := congrArg (fun x => x ^^^ 4294967295) e
  simpa [sumN, Nat.xor_assoc] using e2
/-- What is left of the mask from bit i on, at its place. -/
theorem loop (b : List Nat) (hb : ∀ x ∈ b, x < 256) (lb : b.length ≤ 3000) (m : Nat) (hm : m < 2 ^ 32) (h0 : m ≠ 0) (bit : Nat) (hbit : bit + 32 ≤ 8 * b.length) (d : Nat) :
    ∀ (i : Nat) (c : List Nat), i + d = 32 → c.length = b.length → (∀ x ∈ c, x < 256) → le c = le b ^^^ (2 ^ bit * (m % 2 ^ i)) →
      Ev (fun k => aquiferlaw3_SumTurned.l0 k (b.map Int.ofNat) (m : Int) (c.map Int.ofNat) (bit : Int) (i : Int)) true := by
  induction d with
  | zero =>
    intro i c hi hlen hc hle
    obtain rfl : i = 32 := by omega
    rw [Nat.mod_eq_of_lt hm] at hle
    have hne := sum_ne b c hlen m hm h0 bit (by omega) hle
    have hne' : ¬ ((sumN b : Nat) : Int) = ((sumN c : Nat) : Int) := fun e => hne (Int.ofNat.inj e)
    refine Ev.step (f := fun k => (sum_Sum.f k (b.map Int.ofNat)).bind fun t116 => (sum_Sum.f k (c.map Int.ofNat)).bind fun t117 => if t116 = t117 then some false else (aquiferlaw3_awake.f k).bind fun t118 => some t118) (fun k => ?_) ?_
    · simp only [aquiferlaw3_SumTurned.l0]
      rw [if_neg (by omega)]
    · refine Ev.bind (Sum_ev b hb (by omega)) (Ev.bind (Sum_ev c hc (by omega)) ?_)
      simp only [if_neg hne']
      exact Ev.bind awake_ev (Ev.now _)
  | succ d ih =>
    intro i c hi hlen hc hle
    have hj : (bit + i) / 8 < c.length := by clear hle hm ih; omega
    have hx : c[(bit + i) / 8] < 256 := hc _ (List.getElem_mem hj)
    have hr8 : (bit + i) % 8 < 8 := Nat.mod_lt _ (by decide)
    have hi32 : i < 32 := by clear hle hm ih; omega
    have hbl : bit < 100000 := by clear hle hm ih; omega
    have hz := mbit_lt m i ((bit + i) % 8) hr8
    have hrd := rd_map c ((bit + i) / 8) hj
    have hsh := shl_bit m i ((bit + i) % 8) hm hi32 hr8
    have hlj : (((bit + i) / 8 : Nat) : Int) < ((c.map Int.ofNat).length : Int) := by rw [List.length_map]; exact Int.ofNat_lt.2 hj
    have hi1 : (i : Int) < 32 := Int.ofNat_lt.2 hi32
    have hnew : (c.map Int.ofNat).set ((bit + i) / 8) (((c[(bit + i) / 8] ^^^ ((m >>> i % 2) <<< ((bit + i) % 8)) : Nat) : Int)) = (c.set ((bit + i) / 8) (c[(bit + i) / 8] ^^^ ((m >>> i % 2) <<< ((bit + i) % 8)))).map Int.ofNat := by
      rw [List.map_set]; rfl
    have hle2 : le (c.set ((bit + i) / 8) (c[(bit + i) / 8] ^^^ ((m >>> i % 2) <<< ((bit + i) % 8)))) = le b ^^^ (2 ^ bit * (m % 2 ^ (i + 1))) := by
      rw [le_set c _ hj, hle, Nat.xor_assoc, Nat.shiftLeft_eq, pow_place, xor_mul, mod_succ]
    have hc2 : ∀ x ∈ c.set ((bit + i) / 8) (c[(bit + i) / 8] ^^^ ((m >>> i % 2) <<< ((bit + i) % 8))), x < 256 := by
      intro x hx'
      rcases List.mem_or_eq_of_mem_set hx' with h | h
      · exact hc x h
      · rw [h]; exact Nat.xor_lt_two_pow (n := 8) hx hz
    refine Ev.step (fun k => ?_) (ih (i + 1) _ (by omega) (by simpa using hlen) hc2 hle2)
    simp only [aquiferlaw3_SumTurned.l0]
    rw [if_pos hi1, w1_ bit i hbl hi32, w2_ _ (by omega), if_pos (Int.natCast_nonneg _), if_pos hlj, w3_ i (by omega), if_pos (Int.natCast_nonneg _), w4_ _ (by omega), if_pos (Int.natCast_nonneg _), hrd, hsh, bits_xor_u8 hx hz, w5_ i (by omega), Int.toNat_natCast, hnew]
theorem le_self (b : List Nat) (bit m : Nat) : le b = le b ^^^ (2 ^ bit * (m % 2 ^ 0)) := by simp [Nat.mod_one]
end SumTurnedP
open SumTurnedP
theorem SumTurned : aquiferlaw3_SumTurned.Pure := by
  intro l0 a1 a2 h0 n0 w0 w1 w2
  obtain ⟨b, rfl, hb⟩ := bytes_nat l0 w0
  have g1 := wf_u16 w1
  have g2 := wf_u32 w2
  refine Ev.rounds ?_
  unfold aquiferlaw3_SumTurned.f
  by_cases h3 : ((b.map Int.ofNat).length : Int) > 3000
  · simp only [if_pos h3]; exact j0_true _ _ _
  simp only [if_neg h3]
  by_cases h5 : ((b.map Int.ofNat).length : Int) < 5
  · simp only [if_pos h5]; exact j0_true _ _ _
  simp only [if_neg h5]
  by_cases hm : a2 = 0
  · rw [beq_iff_eq.2 hm]; exact j0_true _ _ _
  rw [beq_eq_false_iff_ne.2 hm]
  simp only [List.length_map] at h3 h5
  obtain ⟨m, rfl⟩ := Int.eq_ofNat_of_zero_le g2.1
  have e8 : wrap64 (wrap64 (8 * ((b.map Int.ofNat).length : Int)) - 32) = ((8 * b.length - 32 : Nat) : Int) := by rw [List.length_map]; unfold wrap64; omega
  obtain ⟨at_, rfl⟩ := Int.eq_ofNat_of_zero_le g1.1
  have ew : wrap64 (at_ : Int) = (at_ : Int) := by unfold wrap64; omega
  have hlt := Nat.mod_lt at_ (show 0 < 8 * b.length - 32 by omega)
  refine Ev.step (fun k => ?_) (loop b hb (by omega) m (by omega) (by omega) (at_ % (8 * b.length - 32)) (by omega) 32 0 b (by omega) rfl hb (le_self _ _ _))
  simp only [aquiferlaw3_SumTurned.j0]
  rw [if_neg (by decide)]
  simp only [Option.bind_some]
  rw [if_pos (by simp; omega), e8, if_neg (by omega), ew, Int.tmod_eq_emod_of_nonneg (by omega)]
  simp only [List.nil_append]
  rfl
end Go.Proofs.Ytedoechheeclgaa.Pure
