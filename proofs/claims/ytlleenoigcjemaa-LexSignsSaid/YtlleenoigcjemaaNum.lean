/- Numbers of 32 bits as four bytes and back: plain arithmetic, no program in it. -/
import Derived.Laws.BitsLemmas
import Derived.RowKit
import Derived.Test.YtlleenoigcjemaaWMore
namespace Go.Proofs.Ytlleenoigcjemaa.Num
open Go.RowKit Go.Proofs.YtlleenoigcjemaaW.PrintWords
theorem wf_u8 {x : Int} (h : (Lit.int .u8 x).wf = true) : 0 ≤ x ∧ x < 256 := by
  simp [Lit.wf, IntKind.min, IntKind.max, IntKind.bits, IntKind.signed] at h; omega
theorem wf_u16 {x : Int} (h : (Lit.int .u16 x).wf = true) : 0 ≤ x ∧ x < 65536 := by
  simp [Lit.wf, IntKind.min, IntKind.max, IntKind.bits, IntKind.signed] at h; omega
theorem wf_i16 {x : Int} (h : (Lit.int .i16 x).wf = true) : -32768 ≤ x ∧ x < 32768 := by
  simp [Lit.wf, IntKind.min, IntKind.max, IntKind.bits, IntKind.signed] at h; omega
theorem wf_u32 {x : Int} (h : (Lit.int .u32 x).wf = true) : 0 ≤ x ∧ x < 4294967296 := by
  simp [Lit.wf, IntKind.min, IntKind.max, IntKind.bits, IntKind.signed] at h; omega
theorem wf_i64 {x : Int} (h : (Lit.int .i64 x).wf = true) : -9223372036854775808 ≤ x ∧ x ≤ 9223372036854775807 := by
  simp [Lit.wf, IntKind.min, IntKind.max, IntKind.bits, IntKind.signed] at h; omega
theorem wrap64_small {n : Int} (h0 : -9223372036854775808 ≤ n) (h1 : n ≤ 9223372036854775807) : wrap64 n = n := by unfold wrap64; omega
theorem w_i64 (n : Int) (h0 : 0 ≤ n) (h1 : n < 2 ^ 60) : IntKind.i64.wrap n = n := by
  simp [IntKind.wrap, IntKind.bits, IntKind.signed]; omega
theorem or4 (a b c d : Int) (a0 : 0 ≤ a) (a1 : a < 256) (b0 : 0 ≤ b) (b1 : b < 256) (c0 : 0 ≤ c) (c1 : c < 256) (d0 : 0 ≤ d) (d1 : d < 256) :
    Go.bits .or .i64 (Go.bits .or .i64 (Go.bits .or .i64 (wrap64 ((wrap64 a) * 16777216)) (wrap64 ((wrap64 b) * 65536))) (wrap64 ((wrap64 c) * 256))) (wrap64 d) = a * 16777216 + b * 65536 + c * 256 + d := by
  rw [wrap64_small (n := a) (by omega) (by omega), wrap64_small (n := b) (by omega) (by omega), wrap64_small (n := c) (by omega) (by omega), wrap64_small (n := d) (by omega) (by omega),
    wrap64_small (n := a * 16777216) (by omega) (by omega), wrap64_small (n := b * 65536) (by omega) (by omega), wrap64_small (n := c * 256) (by omega) (by omega)]
  rw [bits_join .i64 60 (by decide) w_i64 24 (a * 16777216) (b * 65536) (by omega) (by omega) (by omega) (by omega) (by omega) (by omega)]
  rw [bits_join .i64 60 (by decide) w_i64 16 (a * 16777216 + b * 65536) (c * 256) (by omega) (by omega) (by omega) (by omega) (by omega) (by omega)]
  rw [bits_join .i64 60 (by decide) w_i64 8 (a * 16777216 + b * 65536 + c * 256) d (by omega) (by omega) (by omega) (by omega) (by omega) (by omega)]
/-- The four bytes of a number, the highest first. -/
def u32 (n : Int) : List Int := [(n / 16777216) % 256, (n / 65536) % 256, (n / 256) % 256, n % 256]
theorem u32_length (n : Int) : (u32 n).length = 4 := rfl
theorem u32_bytes (n : Int) : ∀ x ∈ u32 n, 0 ≤ x ∧ x < 256 := by
  intro x hx
  simp only [u32, List.mem_cons, List.not_mem_nil, or_false] at hx
  rcases hx with rfl | rfl | rfl | rfl <;> omega
theorem u32_back (n : Int) (h0 : 0 ≤ n) (h1 : n < 4294967296) : (n / 16777216) % 256 * 16777216 + (n / 65536) % 256 * 65536 + (n / 256) % 256 * 256 + n % 256 = n := by omega
theorem u32_far (n m : Int) : u32 (n + 4294967296 * m) = u32 n := by
  unfold u32
  rw [show (n + 4294967296 * m) / 16777216 % 256 = n / 16777216 % 256 from by omega, show (n + 4294967296 * m) / 65536 % 256 = n / 65536 % 256 from by omega,
    show (n + 4294967296 * m) / 256 % 256 = n / 256 % 256 from by omega, show (n + 4294967296 * m) % 256 = n % 256 from by omega]
theorem u32_wrap (n : Int) : u32 (wrap64 n) = u32 n := by
  have : wrap64 n = n + 4294967296 * (-4294967296 * ((n + 9223372036854775808) / 18446744073709551616)) := by unfold wrap64; omega
  rw [this, u32_far]
/-- The number of four bytes at a place. -/
def num (l : List Int) (i : Nat) : Int := l.getD i 0 * 16777216 + l.getD (i + 1) 0 * 65536 + l.getD (i + 2) 0 * 256 + l.getD (i + 3) 0
theorem num_append (a b : List Int) (i : Nat) : num (a ++ b) (a.length + i) = num b i := by
  have h : ∀ j, (a ++ b).getD (a.length + j) 0 = b.getD j 0 := fun j => by
    rw [List.getD_eq_getElem?_getD, List.getElem?_append_right (by omega), Nat.add_sub_cancel_left, ← List.getD_eq_getElem?_getD]
  unfold num
  rw [show a.length + i + 1 = a.length + (i + 1) from by omega, show a.length + i + 2 = a.length + (i + 2) from by omega, show a.length + i + 3 = a.length + (i + 3) from by omega, h, h, h, h]
theorem num_left (a b : List Int) (i : Nat) (hi : i + 4 ≤ a.length) : num (a ++ b) i = num a i := by
  have h : ∀ j, j < a.length → (a ++ b).getD j 0 = a.getD j 0 := fun j hj => by
    rw [List.getD_eq_getElem?_getD, List.getElem?_append_left hj, ← List.getD_eq_getElem?_getD]
  unfold num
  rw [h _ (by omega), h _ (by omega), h _ (by omega), h _ (by omega)]
theorem num_u32 (n : Int) (h0 : 0 ≤ n) (h1 : n < 4294967296) : num (u32 n) 0 = n := u32_back n h0 h1
theorem byte_getD (l : List Int) (h : ∀ x ∈ l, 0 ≤ x ∧ x < 256) (i : Nat) : 0 ≤ l.getD i 0 ∧ l.getD i 0 < 256 := by
  rw [List.getD_eq_getElem?_getD]
  cases hg : l[i]? with
  | none => simp
  | some x => exact h x (List.mem_of_getElem? hg)
theorem num_range (l : List Int) (h : ∀ x ∈ l, 0 ≤ x ∧ x < 256) (i : Nat) : 0 ≤ num l i ∧ num l i < 4294967296 := by
  have h0 := byte_getD l h i
  have h1 := byte_getD l h (i + 1)
  have h2 := byte_getD l h (i + 2)
  have h3 := byte_getD l h (i + 3)
  unfold num; omega
end Go.Proofs.Ytlleenoigcjemaa.Num
