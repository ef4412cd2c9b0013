/- The check sum's step as a map on natural numbers that goes with the exclusive or: plain arithmetic, no program in it. -/
import Derived.Laws.BitsLemmas
import Derived.RowKit
import Derived.Test.YtlleenoigcjemaaWWords
namespace Go.Proofs.Ytlleenoigcjemaa.Crc
open Go.RowKit


def cstep (c : Nat) : Nat := (c >>> 1) ^^^ (if c.testBit 0 then 3988292384 else 0)
def csteps : Nat → Nat → Nat
  | 0, c => c
  | n + 1, c => csteps n (cstep c)
theorem csteps_add (m n c : Nat) : csteps (m + n) c = csteps n (csteps m c) := by
  induction m generalizing c with
  | zero => simp [csteps]
  | succ m ih => rw [Nat.succ_add]; simp only [csteps]; exact ih _
theorem csteps_succ (n c : Nat) : csteps (n + 1) c = cstep (csteps n c) := by rw [csteps_add]; rfl
theorem cstep_xor (a b : Nat) : cstep (a ^^^ b) = cstep a ^^^ cstep b := by
  unfold cstep
  rw [Nat.shiftRight_xor_distrib, Nat.testBit_xor]
  cases a.testBit 0 <;> cases b.testBit 0 <;> simp
  · ac_rfl
  · ac_rfl
  · rw [show a >>> 1 ^^^ 3988292384 ^^^ (b >>> 1 ^^^ 3988292384) = (a >>> 1 ^^^ b >>> 1) ^^^ (3988292384 ^^^ 3988292384) from by ac_rfl]
    simp
theorem csteps_xor (n a b : Nat) : csteps n (a ^^^ b) = csteps n a ^^^ csteps n b := by
  induction n generalizing a b with
  | zero => rfl
  | succ n ih => simp only [csteps]; rw [cstep_xor, ih]
theorem cstep_zero : cstep 0 = 0 := by decide
theorem csteps_zero (n : Nat) : csteps n 0 = 0 := by
  induction n with
  | zero => rfl
  | succ n ih => simp only [csteps]; rw [cstep_zero, ih]
theorem cstep_double (x : Nat) : cstep (2 * x) = x := by
  unfold cstep
  have h : (2 * x).testBit 0 = false := by simp [Nat.testBit_zero]
  rw [h]
  simp [Nat.shiftRight_succ]
theorem csteps_shift (n x : Nat) : csteps n (2 ^ n * x) = x := by
  induction n with
  | zero => simp [csteps]
  | succ n ih => simp only [csteps]; rw [Nat.pow_succ, Nat.mul_comm (2 ^ n) 2, Nat.mul_assoc, cstep_double, ih]
theorem cstep_lt {c : Nat} (h : c < 2 ^ 32) : cstep c < 2 ^ 32 := by
  unfold cstep
  apply Nat.xor_lt_two_pow
  · rw [Nat.shiftRight_succ]; omega
  · split <;> omega
theorem csteps_lt {n c : Nat} (h : c < 2 ^ 32) : csteps n c < 2 ^ 32 := by
  induction n generalizing c with
  | zero => exact h
  | succ n ih => exact ih (cstep_lt h)
theorem cstep_ne {c : Nat} (h : c < 2 ^ 32) (h0 : c ≠ 0) : cstep c ≠ 0 := by
  unfold cstep
  have hb : (c >>> 1) = c / 2 := by simp [Nat.shiftRight_succ]
  cases hc : c.testBit 0 with
  | false =>
    have : c % 2 = 0 := by simpa [Nat.testBit_zero] using hc
    simp [hb]; omega
  | true =>
    intro e
    have h31 := congrArg (fun n => Nat.testBit n 31) e
    simp [Nat.testBit_xor] at h31
    have h32 : c.testBit 32 = false := Nat.testBit_lt_two_pow h
    rw [h32] at h31
    exact absurd h31 (by decide)
theorem csteps_ne {n c : Nat} (h : c < 2 ^ 32) (h0 : c ≠ 0) : csteps n c ≠ 0 := by
  induction n generalizing c with
  | zero => exact h0
  | succ n ih => exact ih (cstep_lt h) (cstep_ne h h0)


def le : List Nat → Nat
  | [] => 0
  | b :: l => b ^^^ (2 ^ 8 * le l)
def crc (c : Nat) (l : List Nat) : Nat := l.foldl (fun c b => csteps 8 (c ^^^ b)) c
theorem crc_nil (c : Nat) : crc c [] = c := rfl
theorem crc_cons (c b : Nat) (l : List Nat) : crc c (b :: l) = crc (csteps 8 (c ^^^ b)) l := rfl
theorem crc_append (c : Nat) (a b : List Nat) : crc c (a ++ b) = crc (crc c a) b := by simp [crc]
theorem crc_lt {c : Nat} {l : List Nat} (hc : c < 2 ^ 32) (hl : ∀ x ∈ l, x < 256) : crc c l < 2 ^ 32 := by
  induction l generalizing c with
  | nil => exact hc
  | cons b l ih =>
    rw [crc_cons]
    refine ih (csteps_lt (Nat.xor_lt_two_pow hc ?_)) (fun x hx => hl x (List.mem_cons_of_mem _ hx))
    exact Nat.lt_trans (hl b (by simp)) (by decide)
theorem crc_le (c : Nat) (l : List Nat) : crc c l = csteps (8 * l.length) (c ^^^ le l) := by
  induction l generalizing c with
  | nil => simp [crc, le, csteps]
  | cons b l ih =>
    rw [crc_cons, ih, List.length_cons, Nat.mul_succ, Nat.add_comm, csteps_add]
    congr 1
    rw [le, ← Nat.xor_assoc, csteps_xor 8 (c ^^^ b), csteps_shift]
/-- Two texts of one length whose numbers differ by up to 32 bits side by side have different sums. -/
theorem crc_turned (c : Nat) (a b : List Nat) (hl : a.length = b.length) (m n : Nat) (hm : m < 2 ^ 32) (h0 : m ≠ 0) (hn : n ≤ 8 * a.length) (h : le b = le a ^^^ (2 ^ n * m)) : crc c a ≠ crc c b := by
  intro e
  rw [crc_le, crc_le, h, ← hl, ← Nat.xor_assoc, csteps_xor _ (c ^^^ le a) (2 ^ n * m)] at e
  have e2 : csteps (8 * a.length) (2 ^ n * m) = 0 := by
    have := congrArg (fun x => csteps (8 * a.length) (c ^^^ le a) ^^^ x) e
    simpa [← Nat.xor_assoc] using this.symm
  obtain ⟨d, hd⟩ : ∃ d, 8 * a.length = n + d := ⟨8 * a.length - n, by omega⟩
  rw [hd, csteps_add, csteps_shift] at e2
  exact csteps_ne hm h0 e2
theorem le_set (l : List Nat) (j : Nat) (hj : j < l.length) (x : Nat) : le (l.set j (l[j] ^^^ x)) = le l ^^^ (2 ^ (8 * j) * x) := by
  induction l generalizing j with
  | nil => simp at hj
  | cons b l ih =>
    cases j with
    | zero => simp [le]; ac_rfl
    | succ j =>
      simp only [List.set_cons_succ, List.getElem_cons_succ, le]
      rw [ih j (by simpa using hj), Nat.mul_succ, Nat.add_comm, Nat.pow_add, Nat.mul_assoc]
      rw [show 2 ^ 8 * (le l ^^^ 2 ^ (8 * j) * x) = 2 ^ 8 * le l ^^^ 2 ^ 8 * (2 ^ (8 * j) * x) from by
        simp only [Nat.mul_comm (2 ^ 8), ← Nat.shiftLeft_eq]; exact Nat.shiftLeft_xor_distrib ..]
      ac_rfl

theorem bits_xor (k : IntKind) {a b : Nat} (ha : a < 2 ^ k.bits) (hb : b < 2 ^ k.bits) : Go.bits .xor k (a : Int) (b : Int) = k.wrap ((a ^^^ b : Nat) : Int) := by
  simp only [Go.bits, BitVec.ofInt_natCast, BitVec.toNat_xor, BitVec.toNat_ofNat]
  rw [Nat.mod_eq_of_lt ha, Nat.mod_eq_of_lt hb]
theorem bits_and (k : IntKind) {a b : Nat} (ha : a < 2 ^ k.bits) (hb : b < 2 ^ k.bits) : Go.bits .and k (a : Int) (b : Int) = k.wrap ((a &&& b : Nat) : Int) := by
  simp only [Go.bits, BitVec.ofInt_natCast, BitVec.toNat_and, BitVec.toNat_ofNat]
  rw [Nat.mod_eq_of_lt ha, Nat.mod_eq_of_lt hb]
theorem bits_xor_u32 {a b : Nat} (ha : a < 2 ^ 32) (hb : b < 2 ^ 32) : Go.bits .xor .u32 (a : Int) (b : Int) = ((a ^^^ b : Nat) : Int) := by
  have hx := Nat.xor_lt_two_pow ha hb
  rw [bits_xor .u32 ha hb, IntKind.wrap_u32]; omega
theorem bits_xor_u8 {a b : Nat} (ha : a < 256) (hb : b < 256) : Go.bits .xor .u8 (a : Int) (b : Int) = ((a ^^^ b : Nat) : Int) := by
  have hx := Nat.xor_lt_two_pow (n := 8) ha hb
  rw [bits_xor .u8 ha hb, IntKind.wrap_u8]; omega
theorem bits_xor_i64 {a b : Nat} (ha : a < 2 ^ 32) (hb : b < 2 ^ 32) : Go.bits .xor .i64 (a : Int) (b : Int) = ((a ^^^ b : Nat) : Int) := by
  have hx := Nat.xor_lt_two_pow ha hb
  rw [bits_xor .i64 (Nat.lt_trans ha (by decide)) (Nat.lt_trans hb (by decide))]
  simp [IntKind.wrap, IntKind.bits, IntKind.signed]
  omega
theorem bits_and1_u32 {a : Nat} (ha : a < 2 ^ 32) : Go.bits .and .u32 (a : Int) 1 = ((a % 2 : Nat) : Int) := by
  have h := bits_and .u32 (a := a) (b := 1) ha (by decide)
  rw [Nat.and_one_is_mod, IntKind.wrap_u32] at h
  refine h.trans ?_
  omega
theorem wf_u8 {x : Int} (h : (Lit.int .u8 x).wf = true) : 0 ≤ x ∧ x < 256 := by
  simp [Lit.wf, IntKind.min, IntKind.max, IntKind.bits, IntKind.signed] at h; omega
theorem wf_u16 {x : Int} (h : (Lit.int .u16 x).wf = true) : 0 ≤ x ∧ x < 65536 := by
  simp [Lit.wf, IntKind.min, IntKind.max, IntKind.bits, IntKind.signed] at h; omega
theorem wf_u32 {x : Int} (h : (Lit.int .u32 x).wf = true) : 0 ≤ x ∧ x < 4294967296 := by
  simp [Lit.wf, IntKind.min, IntKind.max, IntKind.bits, IntKind.signed] at h; omega
theorem wf_i64 {x : Int} (h : (Lit.int .i64 x).wf = true) : -9223372036854775808 ≤ x ∧ x ≤ 9223372036854775807 := by
  simp [Lit.wf, IntKind.min, IntKind.max, IntKind.bits, IntKind.signed] at h; omega
theorem bytes_nat (l : List Int) (h : ∀ x ∈ l, (Lit.int .u8 x).wf = true) : ∃ b : List Nat, l = b.map Int.ofNat ∧ ∀ x ∈ b, x < 256 := by
  induction l with
  | nil => exact ⟨[], rfl, by simp⟩
  | cons x l ih =>
    obtain ⟨b, rfl, hb⟩ := ih fun y hy => h y (List.mem_cons_of_mem _ hy)
    have hx := wf_u8 (h x (by simp))
    refine ⟨x.toNat :: b, ?_, ?_⟩
    · rw [List.map_cons]; congr 1; simp; omega
    · intro y hy
      rcases List.mem_cons.1 hy with rfl | hy
      · omega
      · exact hb y hy

theorem cstep_odd {c : Nat} (h : c % 2 = 1) : cstep c = (c / 2) ^^^ 3988292384 := by
  have hb : c.testBit 0 = true := by simp [Nat.testBit_zero, h]
  unfold cstep; rw [hb]; simp [Nat.shiftRight_succ]
theorem cstep_even {c : Nat} (h : ¬ c % 2 = 1) : cstep c = c / 2 := by
  have hb : c.testBit 0 = false := by simp [Nat.testBit_zero]; omega
  unfold cstep; rw [hb]; simp [Nat.shiftRight_succ]
theorem wrap64_small {n : Int} (h0 : -9223372036854775808 ≤ n) (h1 : n ≤ 9223372036854775807) : wrap64 n = n := by unfold wrap64; omega
theorem drop_cons {α : Type} {l : List α} {i : Nat} {x : α} {t : List α} (h : l.drop i = x :: t) : i < l.length ∧ l[i]? = some x ∧ l.drop (i + 1) = t := by
  have hi : i < l.length := by
    refine Nat.lt_of_not_le fun hn => ?_
    rw [List.drop_eq_nil_of_le hn] at h; cases h
  refine ⟨hi, ?_, ?_⟩
  · have := List.getElem?_drop (xs := l) (i := i) (j := 0)
    rw [h] at this; simpa using this.symm
  · rw [← List.drop_drop, h]; rfl
theorem drop_nil {α : Type} {l : List α} {i : Nat} (h : l.drop i = []) : l.length ≤ i := List.drop_eq_nil_iff.1 h
end Go.Proofs.Ytlleenoigcjemaa.Crc
