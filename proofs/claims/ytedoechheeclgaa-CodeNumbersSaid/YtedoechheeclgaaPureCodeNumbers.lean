/- The statement CodeNumbers over numbers and lists: a number of 32 bits is four bytes and is read back behind any at most 100 bytes; numbers 2^32 apart have the same. No further condition. -/
import Derived.Test.YtedoechheeclgaaQCodeNumbersx2
import Derived.Test.YtedoechheeclgaaNum
namespace Go.Proofs.Ytedoechheeclgaa.Pure
open Go.RowKit Go.Proofs.Ytedoechheeclgaa.QCodeNumbers Go.Proofs.Ytedoechheeclgaa.Num Go.Proofs.YtedoechheeclgaaW.PrintWords Go.Proofs.YtedoechheeclgaaW.PrintLast
namespace CodeNumbersP
theorem U32_f (n : Int) : code_U32.f n = some (u32 n) := rfl
theorem Get_yes (l : List Int) (h : ∀ x ∈ l, 0 ≤ x ∧ x < 256) (hn : l.length ≤ 1407374883551232) (i : Nat) (hi : i + 4 ≤ l.length) : code_Get.f l (i : Int) = some (num l i, true) := by
  have h0 := byte_getD l h i
  have h1 := byte_getD l h (i + 1)
  have h2 := byte_getD l h (i + 2)
  have h3 := byte_getD l h (i + 3)
  have e1 : wrap64 ((i : Int) + 1) = ((i + 1 : Nat) : Int) := by unfold wrap64; omega
  have e2 : wrap64 ((i : Int) + 2) = ((i + 2 : Nat) : Int) := by unfold wrap64; omega
  have e3 : wrap64 ((i : Int) + 3) = ((i + 3 : Nat) : Int) := by unfold wrap64; omega
  have e4 : wrap64 ((l.length : Int) - 4) = (l.length : Int) - 4 := by unfold wrap64; omega
  have r : ∀ j : Nat, rd l (j : Int) = l.getD j 0 := fun j => by simp [rd]
  unfold code_Get.f
  rw [e1, e2, e3, e4, if_neg (by omega), if_neg (by omega), if_neg (by omega), if_pos (by omega), if_pos (by omega), if_pos (by omega), if_pos (by omega), if_pos (by omega), if_pos (by omega), if_pos (by omega), if_pos (by omega), r, r, r, r]
  rw [or4 _ _ _ _ h0.1 h0.2 h1.1 h1.2 h2.1 h2.2 h3.1 h3.2]
  rfl
theorem Get_no (l : List Int) (hn : l.length ≤ 1407374883551232) (i : Int) (hi : i < 0 ∨ (l.length : Int) < i + 4) : code_Get.f l i = some (0, false) := by
  unfold code_Get.f
  have e4 : wrap64 ((l.length : Int) - 4) = (l.length : Int) - 4 := by unfold wrap64; omega
  rw [e4]
  by_cases h1 : i < 0
  · rw [if_pos h1]
  · rw [if_neg h1]
    by_cases h2 : (l.length : Int) < 4
    · rw [if_pos h2]
    · rw [if_neg h2, if_pos (by omega)]
theorem awake_ev : Ev (fun k => aquiferlaw2_awake.f k) true := Ev.of (fun k => aquiferlaw2_awake.mono k) (k := 5) (by decide +kernel)
end CodeNumbersP
open CodeNumbersP
theorem CodeNumbers : aquiferlaw2_CodeNumbers.Pure := by
  intro n l m wn hl hl2 wl wm
  have hn := wf_u32 wn
  have hm := wf_i16 wm
  have hb : ∀ x ∈ l, 0 ≤ x ∧ x < 256 := fun x hx => wf_u8 (wl x hx)
  have en : wrap64 n = n := wrap64_small (by omega) (by omega)
  have hb2 : ∀ x ∈ l ++ u32 n, 0 ≤ x ∧ x < 256 := fun x hx => (List.mem_append.1 hx).elim (hb x) (u32_bytes n x)
  refine Ev.rounds ?_
  unfold aquiferlaw2_CodeNumbers.f
  by_cases hc : (l.length : Int) > 100
  · simp only [if_pos hc]; exact Ev.bind awake_ev (Ev.now _)
  have hlen : (l ++ u32 n).length = l.length + 4 := by rw [List.length_append, u32_length]
  have c1 : ([] : List Int).length + l.length < 140737488355328 := by simp; omega
  have c2 : l.length + (u32 n).length < 140737488355328 := by rw [u32_length]; omega
  have g1 := Get_yes (l ++ u32 n) hb2 (by omega) l.length (by omega)
  have g2 := Get_no (l ++ u32 n) (by omega) ((l.length : Int) + 1) (by omega)
  have e1 : wrap64 ((l.length : Int) + 1) = (l.length : Int) + 1 := wrap64_small (by omega) (by omega)
  have e2 : num (l ++ u32 n) l.length = n := by
    have := num_append l (u32 n) 0
    rw [Nat.add_zero] at this
    rw [this, num_u32 n hn.1 hn.2]
  have e3 : u32 (wrap64 (n + wrap64 (wrap64 m * 4294967296))) = u32 n := by
    rw [u32_wrap, wrap64_small (n := m) (by omega) (by omega), wrap64_small (n := m * 4294967296) (by omega) (by omega), Int.mul_comm, u32_far]
  simp only [if_neg hc, Option.bind_some, if_pos c1, List.nil_append, U32_f, en, if_pos c2, g1, e1, g2, e2, e3, if_true]
  simp only [Bool.false_eq_true, if_false]
  exact Ev.bind awake_ev (Ev.now _)
end Go.Proofs.Ytedoechheeclgaa.Pure
