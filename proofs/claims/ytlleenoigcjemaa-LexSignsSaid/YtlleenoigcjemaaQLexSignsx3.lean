-- Written by wip/myprint.py of this session's repo, out of the translation. Lean checks it.
import Derived.Test.YtlleenoigcjemaaQLexSignsx0
import Derived.Test.YtlleenoigcjemaaQLexSignsx1
import Derived.Test.YtlleenoigcjemaaQLexSignsx2
namespace Go.Proofs.Ytlleenoigcjemaa.QLexSigns
open Go.RowKit Go.Proofs.YtlleenoigcjemaaW.PrintWords Go.Proofs.YtlleenoigcjemaaW.PrintLast Go.Proofs.YtlleenoigcjemaaW.PrintMore
attribute [local go_sem] max2_int min2_int max_two min_two max_three min_three max_four min_four   -- for this text's walks alone
set_option linter.unusedVariables false
set_option linter.unusedSimpArgs false

/-! ### aquiferlaw11_LexSigns: function 11 -/
def aquiferlaw11_LexSigns.f (k : Nat) (a0 : Int) (a1 : Int) : Option (Bool) := (some (([(⟨#[61, 61]⟩ : ByteArray), (⟨#[60, 61]⟩ : ByteArray), (⟨#[45, 62]⟩ : ByteArray)] : List ByteArray) : List ByteArray)).bind fun y130 => (if 0 ≤ (Int.tmod a0 3) then (if (Int.tmod a0 3) < (y130.length : Int) then (if 1 + (rdOf ByteArray.empty y130 (Int.tmod a0 3)).size ≤ 9223372036854775807 then (if ((⟨#[97]⟩ : ByteArray) ++ (rdOf ByteArray.empty y130 (Int.tmod a0 3))).size + 1 ≤ 9223372036854775807 then ((lex_Lex.f k (((⟨#[97]⟩ : ByteArray) ++ (rdOf ByteArray.empty y130 (Int.tmod a0 3))) ++ (⟨#[98]⟩ : ByteArray))).bind fun bt134 => (if 0 ≤ 1 then (if 1 ≤ ((rdOf ByteArray.empty y130 (Int.tmod a0 3)).size : Int) then (if 1 + ((rdOf ByteArray.empty y130 (Int.tmod a0 3)).extract 0 1).size ≤ 9223372036854775807 then (if ((⟨#[97]⟩ : ByteArray) ++ ((rdOf ByteArray.empty y130 (Int.tmod a0 3)).extract 0 1)).size + 1 ≤ 9223372036854775807 then (if (((⟨#[97]⟩ : ByteArray) ++ ((rdOf ByteArray.empty y130 (Int.tmod a0 3)).extract 0 1)) ++ (⟨#[32]⟩ : ByteArray)).size + ((rdOf ByteArray.empty y130 (Int.tmod a0 3)).extract 1 (rdOf ByteArray.empty y130 (Int.tmod a0 3)).size).size ≤ 9223372036854775807 then (if ((((⟨#[97]⟩ : ByteArray) ++ ((rdOf ByteArray.empty y130 (Int.tmod a0 3)).extract 0 1)) ++ (⟨#[32]⟩ : ByteArray)) ++ ((rdOf ByteArray.empty y130 (Int.tmod a0 3)).extract 1 (rdOf ByteArray.empty y130 (Int.tmod a0 3)).size)).size + 1 ≤ 9223372036854775807 then ((lex_Lex.f k (((((⟨#[97]⟩ : ByteArray) ++ ((rdOf ByteArray.empty y130 (Int.tmod a0 3)).extract 0 1)) ++ (⟨#[32]⟩ : ByteArray)) ++ ((rdOf ByteArray.empty y130 (Int.tmod a0 3)).extract 1 (rdOf ByteArray.empty y130 (Int.tmod a0 3)).size)) ++ (⟨#[98]⟩ : ByteArray))).bind fun bt139 => ((some (([Go.bits .or .u8 a1 128] : List Int) : List Int)).bind fun y144 => (if 2 + (strOfNums y144).size ≤ 9223372036854775807 then (if ((⟨#[97, 32]⟩ : ByteArray) ++ (strOfNums y144)).size + 2 ≤ 9223372036854775807 then ((lex_Lex.f k (((⟨#[97, 32]⟩ : ByteArray) ++ (strOfNums y144)) ++ (⟨#[32, 98]⟩ : ByteArray))).bind fun bt147 => ((aquiferlaw1_Num.f bt139.2.1).bind fun t152 => (if (Int.tmod a0 3) < 2 then ((aquiferlaw1_Num.f bt139.2.1).bind fun t153 => (if t153 = 0 then ((aquiferlaw1_Num.f bt134.2.1).bind fun t154 => (if t154 = 0 then (if (bt134.1.length : Int) = 4 then (if 1 < (bt134.1.length : Int) then (if ((rd_T49 bt134.1 1).f1).toList = (rdOf ByteArray.empty y130 (Int.tmod a0 3)).toList then (if (bt139.1.length : Int) = 5 then ((aquiferlaw1_Num.f bt147.2.1).bind fun t156 => (if t156 = 10 then (if bt147.2.2 = 2 then ((aquiferlaw11_awake.f k).bind fun t157 => (some t157)) else (some false)) else (some false))) else (some false)) else (some false)) else (none)) else (some false)) else (some false))) else ((aquiferlaw1_Num.f bt134.2.1).bind fun t158 => (if t158 = 0 then (if (bt134.1.length : Int) = 4 then (if 1 < (bt134.1.length : Int) then (if ((rd_T49 bt134.1 1).f1).toList = (rdOf ByteArray.empty y130 (Int.tmod a0 3)).toList then (some false) else (some false)) else (none)) else (some false)) else (some false))))) else ((aquiferlaw1_Num.f bt134.2.1).bind fun t160 => (if t160 = 0 then (if (bt134.1.length : Int) = 4 then (if 1 < (bt134.1.length : Int) then (if ((rd_T49 bt134.1 1).f1).toList = (rdOf ByteArray.empty y130 (Int.tmod a0 3)).toList then (if t152 = 10 then ((aquiferlaw1_Num.f bt147.2.1).bind fun t162 => (if t162 = 10 then (if bt147.2.2 = 2 then ((aquiferlaw11_awake.f k).bind fun t163 => (some t163)) else (some false)) else (some false))) else (some false)) else (some false)) else (none)) else (some false)) else (some false)))))) else (none)) else (none)))) else (none)) else (none)) else (none)) else (none)) else (none)) else (none))) else (none)) else (none)) else (none)) else (none))
theorem aquiferlaw11_LexSigns.mono : ∀ a0 a1 k, LeO (aquiferlaw11_LexSigns.f k a0 a1) (aquiferlaw11_LexSigns.f (k + 1) a0 a1) := by
  intro a0 a1 k
  unfold aquiferlaw11_LexSigns.f
  repeat' first
      | (with_reducible exact aquiferlaw11_awake.mono _)
      | (with_reducible exact lex_Lex.mono _ _)
      | (with_reducible exact LeO.refl _)
      | (with_reducible exact LeO.none _)
      | (with_reducible refine LeO.ite ?_ ?_)
      | (with_reducible refine LeO.bind ?_ (fun _ => ?_))
      | exact aquiferlaw11_awake.mono _
      | exact lex_Lex.mono _ _
      | exact LeO.none _
      | refine LeO.ite ?_ ?_
      | refine LeO.bind ?_ (fun _ => ?_)
def aquiferlaw11_LexSigns.T3 : Bool × List (List Nat × List Nat) := (true, [([], []), ([0], [0]), ([1], [1]), ([2], [2]), ([], []), ([4], [4]), ([3, 5], [3, 5]), ([6], [6]), ([7], [7]), ([8], [8]), ([9], [9]), ([9], [9]), ([9], [9]), ([10, 8, 0, 1, 2, 3, 4, 5, 6, 7, 8, 9, 10], [10]), ([11, 13, 0, 1, 2, 3, 4, 5, 6, 7, 8, 9, 10, 11, 13], [11]), ([12, 14, 0, 1, 2, 3, 4, 5, 6, 7, 8, 9, 10, 11, 12, 13, 14], [12])])
def aquiferlaw11_LexSigns.B3 : List Nat := [0, 1, 3, 7, 0, 16, 63, 127, 255, 511, 1023, 1023, 1023, 2047, 12287, 32767]
theorem aquiferlaw11_LexSigns.tab3 : rtab .any (opsOf Try.f11 3) = aquiferlaw11_LexSigns.T3 := by kernel_rfl
theorem aquiferlaw11_LexSigns.bits3 : waitsOk aquiferlaw11_LexSigns.T3.2 aquiferlaw11_LexSigns.B3 = true := by kernel_rfl
set_option maxHeartbeats 8000000 in
set_option maxRecDepth 100000 in
theorem aquiferlaw11_LexSigns.calls (k : Nat) (a0 : Int) (a1 : Int) (r : Bool) (w : World) (HLT_ : Aside0 (r = true)) (h : aquiferlaw11_LexSigns.f k a0 a1 = some r) :
    Calls Try.prog 11 #[.int .u8 a0, .int .u8 a1] w fun e w' => e = .returned (.bool r) ∧ Below w.heap.size w w' := by
  have HB := Aside0.mk (Below.refl w.heap.size w)
  have H : ((some (([(⟨#[61, 61]⟩ : ByteArray), (⟨#[60, 61]⟩ : ByteArray), (⟨#[45, 62]⟩ : ByteArray)] : List ByteArray) : List ByteArray)).bind fun y130 => (if 0 ≤ (Int.tmod a0 3) then (if (Int.tmod a0 3) < (y130.length : Int) then (if 1 + (rdOf ByteArray.empty y130 (Int.tmod a0 3)).size ≤ 9223372036854775807 then (if ((⟨#[97]⟩ : ByteArray) ++ (rdOf ByteArray.empty y130 (Int.tmod a0 3))).size + 1 ≤ 9223372036854775807 then ((lex_Lex.f k (((⟨#[97]⟩ : ByteArray) ++ (rdOf ByteArray.empty y130 (Int.tmod a0 3))) ++ (⟨#[98]⟩ : ByteArray))).bind fun bt134 => (if 0 ≤ 1 then (if 1 ≤ ((rdOf ByteArray.empty y130 (Int.tmod a0 3)).size : Int) then (if 1 + ((rdOf ByteArray.empty y130 (Int.tmod a0 3)).extract 0 1).size ≤ 9223372036854775807 then (if ((⟨#[97]⟩ : ByteArray) ++ ((rdOf ByteArray.empty y130 (Int.tmod a0 3)).extract 0 1)).size + 1 ≤ 9223372036854775807 then (if (((⟨#[97]⟩ : ByteArray) ++ ((rdOf ByteArray.empty y130 (Int.tmod a0 3)).extract 0 1)) ++ (⟨#[32]⟩ : ByteArray)).size + ((rdOf ByteArray.empty y130 (Int.tmod a0 3)).extract 1 (rdOf ByteArray.empty y130 (Int.tmod a0 3)).size).size ≤ 9223372036854775807 then (if ((((⟨#[97]⟩ : ByteArray) ++ ((rdOf ByteArray.empty y130 (Int.tmod a0 3)).extract 0 1)) ++ (⟨#[32]⟩ : ByteArray)) ++ ((rdOf ByteArray.empty y130 (Int.tmod a0 3)).extract 1 (rdOf ByteArray.empty y130 (Int.tmod a0 3)).size)).size + 1 ≤ 9223372036854775807 then ((lex_Lex.f k (((((⟨#[97]⟩ : ByteArray) ++ ((rdOf ByteArray.empty y130 (Int.tmod a0 3)).extract 0 1)) ++ (⟨#[32]⟩ : ByteArray)) ++ ((rdOf ByteArray.empty y130 (Int.tmod a0 3)).extract 1 (rdOf ByteArray.empty y130 (Int.tmod a0 3)).size)) ++ (⟨#[98]⟩ : ByteArray))).bind fun bt139 => ((some (([Go.bits .or .u8 a1 128] : List Int) : List Int)).bind fun y144 => (if 2 + (strOfNums y144).size ≤ 9223372036854775807 then (if ((⟨#[97, 32]⟩ : ByteArray) ++ (strOfNums y144)).size + 2 ≤ 9223372036854775807 then ((lex_Lex.f k (((⟨#[97, 32]⟩ : ByteArray) ++ (strOfNums y144)) ++ (⟨#[32, 98]⟩ : ByteArray))).bind fun bt147 => ((aquiferlaw1_Num.f bt139.2.1).bind fun t152 => (if (Int.tmod a0 3) < 2 then ((aquiferlaw1_Num.f bt139.2.1).bind fun t153 => (if t153 = 0 then ((aquiferlaw1_Num.f bt134.2.1).bind fun t154 => (if t154 = 0 then (if (bt134.1.length : Int) = 4 then (if 1 < (bt134.1.length : Int) then (if ((rd_T49 bt134.1 1).f1).toList = (rdOf ByteArray.empty y130 (Int.tmod a0 3)).toList then (if (bt139.1.length : Int) = 5 then ((aquiferlaw1_Num.f bt147.2.1).bind fun t156 => (if t156 = 10 then (if bt147.2.2 = 2 then ((aquiferlaw11_awake.f k).bind fun t157 => (some t157)) else (some false)) else (some false))) else (some false)) else (some false)) else (none)) else (some false)) else (some false))) else ((aquiferlaw1_Num.f bt134.2.1).bind fun t158 => (if t158 = 0 then (if (bt134.1.length : Int) = 4 then (if 1 < (bt134.1.length : Int) then (if ((rd_T49 bt134.1 1).f1).toList = (rdOf ByteArray.empty y130 (Int.tmod a0 3)).toList then (some false) else (some false)) else (none)) else (some false)) else (some false))))) else ((aquiferlaw1_Num.f bt134.2.1).bind fun t160 => (if t160 = 0 then (if (bt134.1.length : Int) = 4 then (if 1 < (bt134.1.length : Int) then (if ((rd_T49 bt134.1 1).f1).toList = (rdOf ByteArray.empty y130 (Int.tmod a0 3)).toList then (if t152 = 10 then ((aquiferlaw1_Num.f bt147.2.1).bind fun t162 => (if t162 = 10 then (if bt147.2.2 = 2 then ((aquiferlaw11_awake.f k).bind fun t163 => (some t163)) else (some false)) else (some false))) else (some false)) else (some false)) else (none)) else (some false)) else (some false)))))) else (none)) else (none)))) else (none)) else (none)) else (none)) else (none)) else (none)) else (none))) else (none)) else (none)) else (none)) else (none))) = some r := h
  clear h
  obtain ⟨y130, hy130⟩ : ∃ y_ : List ByteArray, y_ = (([(⟨#[61, 61]⟩ : ByteArray), (⟨#[60, 61]⟩ : ByteArray), (⟨#[45, 62]⟩ : ByteArray)] : List ByteArray)) := ⟨_, rfl⟩
  replace H : (if 0 ≤ (Int.tmod a0 3) then (if (Int.tmod a0 3) < (y130.length : Int) then (if 1 + (rdOf ByteArray.empty y130 (Int.tmod a0 3)).size ≤ 9223372036854775807 then (if ((⟨#[97]⟩ : ByteArray) ++ (rdOf ByteArray.empty y130 (Int.tmod a0 3))).size + 1 ≤ 9223372036854775807 then ((lex_Lex.f k (((⟨#[97]⟩ : ByteArray) ++ (rdOf ByteArray.empty y130 (Int.tmod a0 3))) ++ (⟨#[98]⟩ : ByteArray))).bind fun bt134 => (if 0 ≤ 1 then (if 1 ≤ ((rdOf ByteArray.empty y130 (Int.tmod a0 3)).size : Int) then (if 1 + ((rdOf ByteArray.empty y130 (Int.tmod a0 3)).extract 0 1).size ≤ 9223372036854775807 then (if ((⟨#[97]⟩ : ByteArray) ++ ((rdOf ByteArray.empty y130 (Int.tmod a0 3)).extract 0 1)).size + 1 ≤ 9223372036854775807 then (if (((⟨#[97]⟩ : ByteArray) ++ ((rdOf ByteArray.empty y130 (Int.tmod a0 3)).extract 0 1)) ++ (⟨#[32]⟩ : ByteArray)).size + ((rdOf ByteArray.empty y130 (Int.tmod a0 3)).extract 1 (rdOf ByteArray.empty y130 (Int.tmod a0 3)).size).size ≤ 9223372036854775807 then (if ((((⟨#[97]⟩ : ByteArray) ++ ((rdOf ByteArray.empty y130 (Int.tmod a0 3)).extract 0 1)) ++ (⟨#[32]⟩ : ByteArray)) ++ ((rdOf ByteArray.empty y130 (Int.tmod a0 3)).extract 1 (rdOf ByteArray.empty y130 (Int.tmod a0 3)).size)).size + 1 ≤ 9223372036854775807 then ((lex_Lex.f k (((((⟨#[97]⟩ : ByteArray) ++ ((rdOf ByteArray.empty y130 (Int.tmod a0 3)).extract 0 1)) ++ (⟨#[32]⟩ : ByteArray)) ++ ((rdOf ByteArray.empty y130 (Int.tmod a0 3)).extract 1 (rdOf ByteArray.empty y130 (Int.tmod a0 3)).size)) ++ (⟨#[98]⟩ : ByteArray))).bind fun bt139 => ((some (([Go.bits .or .u8 a1 128] : List Int) : List Int)).bind fun y144 => (if 2 + (strOfNums y144).size ≤ 9223372036854775807 then (if ((⟨#[97, 32]⟩ : ByteArray) ++ (strOfNums y144)).size + 2 ≤ 9223372036854775807 then ((lex_Lex.f k (((⟨#[97, 32]⟩ : ByteArray) ++ (strOfNums y144)) ++ (⟨#[32, 98]⟩ : ByteArray))).bind fun bt147 => ((aquiferlaw1_Num.f bt139.2.1).bind fun t152 => (if (Int.tmod a0 3) < 2 then ((aquiferlaw1_Num.f bt139.2.1).bind fun t153 => (if t153 = 0 then ((aquiferlaw1_Num.f bt134.2.1).bind fun t154 => (if t154 = 0 then (if (bt134.1.length : Int) = 4 then (if 1 < (bt134.1.length : Int) then (if ((rd_T49 bt134.1 1).f1).toList = (rdOf ByteArray.empty y130 (Int.tmod a0 3)).toList then (if (bt139.1.length : Int) = 5 then ((aquiferlaw1_Num.f bt147.2.1).bind fun t156 => (if t156 = 10 then (if bt147.2.2 = 2 then ((aquiferlaw11_awake.f k).bind fun t157 => (some t157)) else (some false)) else (some false))) else (some false)) else (some false)) else (none)) else (some false)) else (some false))) else ((aquiferlaw1_Num.f bt134.2.1).bind fun t158 => (if t158 = 0 then (if (bt134.1.length : Int) = 4 then (if 1 < (bt134.1.length : Int) then (if ((rd_T49 bt134.1 1).f1).toList = (rdOf ByteArray.empty y130 (Int.tmod a0 3)).toList then (some false) else (some false)) else (none)) else (some false)) else (some false))))) else ((aquiferlaw1_Num.f bt134.2.1).bind fun t160 => (if t160 = 0 then (if (bt134.1.length : Int) = 4 then (if 1 < (bt134.1.length : Int) then (if ((rd_T49 bt134.1 1).f1).toList = (rdOf ByteArray.empty y130 (Int.tmod a0 3)).toList then (if t152 = 10 then ((aquiferlaw1_Num.f bt147.2.1).bind fun t162 => (if t162 = 10 then (if bt147.2.2 = 2 then ((aquiferlaw11_awake.f k).bind fun t163 => (some t163)) else (some false)) else (some false))) else (some false)) else (some false)) else (none)) else (some false)) else (some false)))))) else (none)) else (none)))) else (none)) else (none)) else (none)) else (none)) else (none)) else (none))) else (none)) else (none)) else (none)) else (none)) = some r := by first | (rw [hy130]; with_reducible exact H) | (have H2_ := (Option.bind_some _ _).symm.trans H; rw [hy130]; with_reducible exact H2_) | (have H2_ := (Option.bind_some _ _).symm.trans H; with_reducible exact H2_) | with_reducible exact H | (rw [hy130]; exact H) | exact H
  have Ny130 := Aside0.mk hy130
  clear hy130
  obtain ⟨ji3, hji3⟩ : ∃ j_ : Int, (Int.tmod a0 3) = j_ := ⟨_, rfl⟩
  replace H : (if 0 ≤ (ji3) then (if (ji3) < (y130.length : Int) then (if 1 + (rdOf ByteArray.empty y130 (ji3)).size ≤ 9223372036854775807 then (if ((⟨#[97]⟩ : ByteArray) ++ (rdOf ByteArray.empty y130 (ji3))).size + 1 ≤ 9223372036854775807 then ((lex_Lex.f k (((⟨#[97]⟩ : ByteArray) ++ (rdOf ByteArray.empty y130 (ji3))) ++ (⟨#[98]⟩ : ByteArray))).bind fun bt134 => (if 0 ≤ 1 then (if 1 ≤ ((rdOf ByteArray.empty y130 (ji3)).size : Int) then (if 1 + ((rdOf ByteArray.empty y130 (ji3)).extract 0 1).size ≤ 9223372036854775807 then (if ((⟨#[97]⟩ : ByteArray) ++ ((rdOf ByteArray.empty y130 (ji3)).extract 0 1)).size + 1 ≤ 9223372036854775807 then (if (((⟨#[97]⟩ : ByteArray) ++ ((rdOf ByteArray.empty y130 (ji3)).extract 0 1)) ++ (⟨#[32]⟩ : ByteArray)).size + ((rdOf ByteArray.empty y130 (ji3)).extract 1 (rdOf ByteArray.empty y130 (ji3)).size).size ≤ 9223372036854775807 then (if ((((⟨#[97]⟩ : ByteArray) ++ ((rdOf ByteArray.empty y130 (ji3)).extract 0 1)) ++ (⟨#[32]⟩ : ByteArray)) ++ ((rdOf ByteArray.empty y130 (ji3)).extract 1 (rdOf ByteArray.empty y130 (ji3)).size)).size + 1 ≤ 9223372036854775807 then ((lex_Lex.f k (((((⟨#[97]⟩ : ByteArray) ++ ((rdOf ByteArray.empty y130 (ji3)).extract 0 1)) ++ (⟨#[32]⟩ : ByteArray)) ++ ((rdOf ByteArray.empty y130 (ji3)).extract 1 (rdOf ByteArray.empty y130 (ji3)).size)) ++ (⟨#[98]⟩ : ByteArray))).bind fun bt139 => ((some (([Go.bits .or .u8 a1 128] : List Int) : List Int)).bind fun y144 => (if 2 + (strOfNums y144).size ≤ 9223372036854775807 then (if ((⟨#[97, 32]⟩ : ByteArray) ++ (strOfNums y144)).size + 2 ≤ 9223372036854775807 then ((lex_Lex.f k (((⟨#[97, 32]⟩ : ByteArray) ++ (strOfNums y144)) ++ (⟨#[32, 98]⟩ : ByteArray))).bind fun bt147 => ((aquiferlaw1_Num.f bt139.2.1).bind fun t152 => (if (ji3) < 2 then ((aquiferlaw1_Num.f bt139.2.1).bind fun t153 => (if t153 = 0 then ((aquiferlaw1_Num.f bt134.2.1).bind fun t154 => (if t154 = 0 then (if (bt134.1.length : Int) = 4 then (if 1 < (bt134.1.length : Int) then (if ((rd_T49 bt134.1 1).f1).toList = (rdOf ByteArray.empty y130 (ji3)).toList then (if (bt139.1.length : Int) = 5 then ((aquiferlaw1_Num.f bt147.2.1).bind fun t156 => (if t156 = 10 then (if bt147.2.2 = 2 then ((aquiferlaw11_awake.f k).bind fun t157 => (some t157)) else (some false)) else (some false))) else (some false)) else (some false)) else (none)) else (some false)) else (some false))) else ((aquiferlaw1_Num.f bt134.2.1).bind fun t158 => (if t158 = 0 then (if (bt134.1.length : Int) = 4 then (if 1 < (bt134.1.length : Int) then (if ((rd_T49 bt134.1 1).f1).toList = (rdOf ByteArray.empty y130 (ji3)).toList then (some false) else (some false)) else (none)) else (some false)) else (some false))))) else ((aquiferlaw1_Num.f bt134.2.1).bind fun t160 => (if t160 = 0 then (if (bt134.1.length : Int) = 4 then (if 1 < (bt134.1.length : Int) then (if ((rd_T49 bt134.1 1).f1).toList = (rdOf ByteArray.empty y130 (ji3)).toList then (if t152 = 10 then ((aquiferlaw1_Num.f bt147.2.1).bind fun t162 => (if t162 = 10 then (if bt147.2.2 = 2 then ((aquiferlaw11_awake.f k).bind fun t163 => (some t163)) else (some false)) else (some false))) else (some false)) else (some false)) else (none)) else (some false)) else (some false)))))) else (none)) else (none)))) else (none)) else (none)) else (none)) else (none)) else (none)) else (none))) else (none)) else (none)) else (none)) else (none)) = some r := by first | (rw [hji3] at H; exact H) | (simp only [hji3] at H ⊢; exact H)
  by_cases c4 : 0 ≤ (ji3)
  · rw [if_pos c4] at H
    have c4b0 : decide (0 ≤ (ji3)) = true := decide_eq_true c4
    clear c4
    by_cases c5 : (ji3) < (y130.length : Int)
    · rw [if_pos c5] at H
      have c5b0 : decide ((ji3) < (y130.length : Int)) = true := decide_eq_true c5
      clear c5
      by_cases c6 : 1 + (rdOf ByteArray.empty y130 (ji3)).size ≤ 9223372036854775807
      · rw [if_pos c6] at H
        have c6b0 := eq_true c6
        have c6b1 : decide (1 + (rdOf ByteArray.empty y130 (ji3)).size ≤ 9223372036854775807) = true := decide_eq_true c6
        try have c6b2 : (9223372036854775807 < 1 + (rdOf ByteArray.empty y130 (ji3)).size) = False := eq_false (Nat.not_lt.2 c6)
        by_cases c7 : ((⟨#[97]⟩ : ByteArray) ++ (rdOf ByteArray.empty y130 (ji3))).size + 1 ≤ 9223372036854775807
        · rw [if_pos c7] at H
          have c7b0 := eq_true c7
          have c7b1 : decide (((⟨#[97]⟩ : ByteArray) ++ (rdOf ByteArray.empty y130 (ji3))).size + 1 ≤ 9223372036854775807) = true := decide_eq_true c7
          try have c7b2 : (9223372036854775807 < ((⟨#[97]⟩ : ByteArray) ++ (rdOf ByteArray.empty y130 (ji3))).size + 1) = False := eq_false (Nat.not_lt.2 c7)
          have c7b3 : (9223372036854775807 < 1 + (rdOf ByteArray.empty y130 (ji3)).size + 1) = False := by have h_ := c7b2; simp only [ByteArray.size_append] at h_; exact h_
          replace H := Option.bind_eq_some_iff.mp H
          obtain ⟨⟨t134, t135, t136⟩, A80, H⟩ := H
          replace H : (if 0 ≤ 1 then (if 1 ≤ ((rdOf ByteArray.empty y130 (ji3)).size : Int) then (if 1 + ((rdOf ByteArray.empty y130 (ji3)).extract 0 1).size ≤ 9223372036854775807 then (if ((⟨#[97]⟩ : ByteArray) ++ ((rdOf ByteArray.empty y130 (ji3)).extract 0 1)).size + 1 ≤ 9223372036854775807 then (if (((⟨#[97]⟩ : ByteArray) ++ ((rdOf ByteArray.empty y130 (ji3)).extract 0 1)) ++ (⟨#[32]⟩ : ByteArray)).size + ((rdOf ByteArray.empty y130 (ji3)).extract 1 (rdOf ByteArray.empty y130 (ji3)).size).size ≤ 9223372036854775807 then (if ((((⟨#[97]⟩ : ByteArray) ++ ((rdOf ByteArray.empty y130 (ji3)).extract 0 1)) ++ (⟨#[32]⟩ : ByteArray)) ++ ((rdOf ByteArray.empty y130 (ji3)).extract 1 (rdOf ByteArray.empty y130 (ji3)).size)).size + 1 ≤ 9223372036854775807 then ((lex_Lex.f k (((((⟨#[97]⟩ : ByteArray) ++ ((rdOf ByteArray.empty y130 (ji3)).extract 0 1)) ++ (⟨#[32]⟩ : ByteArray)) ++ ((rdOf ByteArray.empty y130 (ji3)).extract 1 (rdOf ByteArray.empty y130 (ji3)).size)) ++ (⟨#[98]⟩ : ByteArray))).bind fun bt139 => ((some (([Go.bits .or .u8 a1 128] : List Int) : List Int)).bind fun y144 => (if 2 + (strOfNums y144).size ≤ 9223372036854775807 then (if ((⟨#[97, 32]⟩ : ByteArray) ++ (strOfNums y144)).size + 2 ≤ 9223372036854775807 then ((lex_Lex.f k (((⟨#[97, 32]⟩ : ByteArray) ++ (strOfNums y144)) ++ (⟨#[32, 98]⟩ : ByteArray))).bind fun bt147 => ((aquiferlaw1_Num.f bt139.2.1).bind fun t152 => (if (ji3) < 2 then ((aquiferlaw1_Num.f bt139.2.1).bind fun t153 => (if t153 = 0 then ((aquiferlaw1_Num.f t135).bind fun t154 => (if t154 = 0 then (if (t134.length : Int) = 4 then (if 1 < (t134.length : Int) then (if ((rd_T49 t134 1).f1).toList = (rdOf ByteArray.empty y130 (ji3)).toList then (if (bt139.1.length : Int) = 5 then ((aquiferlaw1_Num.f bt147.2.1).bind fun t156 => (if t156 = 10 then (if bt147.2.2 = 2 then ((aquiferlaw11_awake.f k).bind fun t157 => (some t157)) else (some false)) else (some false))) else (some false)) else (some false)) else (none)) else (some false)) else (some false))) else ((aquiferlaw1_Num.f t135).bind fun t158 => (if t158 = 0 then (if (t134.length : Int) = 4 then (if 1 < (t134.length : Int) then (if ((rd_T49 t134 1).f1).toList = (rdOf ByteArray.empty y130 (ji3)).toList then (some false) else (some false)) else (none)) else (some false)) else (some false))))) else ((aquiferlaw1_Num.f t135).bind fun t160 => (if t160 = 0 then (if (t134.length : Int) = 4 then (if 1 < (t134.length : Int) then (if ((rd_T49 t134 1).f1).toList = (rdOf ByteArray.empty y130 (ji3)).toList then (if t152 = 10 then ((aquiferlaw1_Num.f bt147.2.1).bind fun t162 => (if t162 = 10 then (if bt147.2.2 = 2 then ((aquiferlaw11_awake.f k).bind fun t163 => (some t163)) else (some false)) else (some false))) else (some false)) else (some false)) else (none)) else (some false)) else (some false)))))) else (none)) else (none)))) else (none)) else (none)) else (none)) else (none)) else (none)) else (none)) = some r := H
          have A8 := Aside0.mk A80
          clear A80
          by_cases c9 : 0 ≤ 1
          · rw [if_pos c9] at H
            have c9b0 := eq_true c9
            have c9b1 : decide (0 ≤ 1) = true := decide_eq_true c9
            clear c9
            by_cases c10 : 1 ≤ ((rdOf ByteArray.empty y130 (ji3)).size : Int)
            · rw [if_pos c10] at H
              have c10b0 := eq_true c10
              have c10b1 : decide (1 ≤ ((rdOf ByteArray.empty y130 (ji3)).size : Int)) = true := decide_eq_true c10
              clear c10
              by_cases c11 : 1 + ((rdOf ByteArray.empty y130 (ji3)).extract 0 1).size ≤ 9223372036854775807
              · rw [if_pos c11] at H
                have c11b0 := eq_true c11
                have c11b1 : decide (1 + ((rdOf ByteArray.empty y130 (ji3)).extract 0 1).size ≤ 9223372036854775807) = true := decide_eq_true c11
                try have c11b2 : (9223372036854775807 < 1 + ((rdOf ByteArray.empty y130 (ji3)).extract 0 1).size) = False := eq_false (Nat.not_lt.2 c11)
                have c11b4 : (9223372036854775807 < 1 + min 1 (rdOf ByteArray.empty y130 (ji3)).size) = False := by have h_ := c11b2; simp only [ByteArray.size_append, ByteArray.size_extract, Nat.sub_zero, Nat.min_self] at h_; exact h_
                by_cases c12 : ((⟨#[97]⟩ : ByteArray) ++ ((rdOf ByteArray.empty y130 (ji3)).extract 0 1)).size + 1 ≤ 9223372036854775807
                · rw [if_pos c12] at H
                  have c12b0 := eq_true c12
                  have c12b1 : decide (((⟨#[97]⟩ : ByteArray) ++ ((rdOf ByteArray.empty y130 (ji3)).extract 0 1)).size + 1 ≤ 9223372036854775807) = true := decide_eq_true c12
                  try have c12b2 : (9223372036854775807 < ((⟨#[97]⟩ : ByteArray) ++ ((rdOf ByteArray.empty y130 (ji3)).extract 0 1)).size + 1) = False := eq_false (Nat.not_lt.2 c12)
                  have c12b4 : (9223372036854775807 < 1 + min 1 (rdOf ByteArray.empty y130 (ji3)).size + 1) = False := by have h_ := c12b2; simp only [ByteArray.size_append, ByteArray.size_extract, Nat.sub_zero, Nat.min_self] at h_; exact h_
                  have c12b3 : (9223372036854775807 < 1 + ((rdOf ByteArray.empty y130 (ji3)).extract 0 1).size + 1) = False := by have h_ := c12b2; simp only [ByteArray.size_append] at h_; exact h_
                  have c13b0 := eq_true (of_decide_eq_true (by first | (with_reducible assumption) | assumption) : 1 ≤ ((rdOf ByteArray.empty y130 (ji3)).size : Int))
                  by_cases c14 : (((⟨#[97]⟩ : ByteArray) ++ ((rdOf ByteArray.empty y130 (ji3)).extract 0 1)) ++ (⟨#[32]⟩ : ByteArray)).size + ((rdOf ByteArray.empty y130 (ji3)).extract 1 (rdOf ByteArray.empty y130 (ji3)).size).size ≤ 9223372036854775807
                  · rw [if_pos c14] at H
                    have c14b0 := eq_true c14
                    have c14b1 : decide ((((⟨#[97]⟩ : ByteArray) ++ ((rdOf ByteArray.empty y130 (ji3)).extract 0 1)) ++ (⟨#[32]⟩ : ByteArray)).size + ((rdOf ByteArray.empty y130 (ji3)).extract 1 (rdOf ByteArray.empty y130 (ji3)).size).size ≤ 9223372036854775807) = true := decide_eq_true c14
                    try have c14b2 : (9223372036854775807 < (((⟨#[97]⟩ : ByteArray) ++ ((rdOf ByteArray.empty y130 (ji3)).extract 0 1)) ++ (⟨#[32]⟩ : ByteArray)).size + ((rdOf ByteArray.empty y130 (ji3)).extract 1 (rdOf ByteArray.empty y130 (ji3)).size).size) = False := eq_false (Nat.not_lt.2 c14)
                    have c14b4 : (9223372036854775807 < 1 + min 1 (rdOf ByteArray.empty y130 (ji3)).size + 1 + ((rdOf ByteArray.empty y130 (ji3)).size - 1)) = False := by have h_ := c14b2; simp only [ByteArray.size_append, ByteArray.size_extract, Nat.sub_zero, Nat.min_self] at h_; exact h_
                    have c14b3 : (9223372036854775807 < 1 + ((rdOf ByteArray.empty y130 (ji3)).extract 0 1).size + 1 + ((rdOf ByteArray.empty y130 (ji3)).extract 1 (rdOf ByteArray.empty y130 (ji3)).size).size) = False := by have h_ := c14b2; simp only [ByteArray.size_append] at h_; exact h_
                    by_cases c15 : ((((⟨#[97]⟩ : ByteArray) ++ ((rdOf ByteArray.empty y130 (ji3)).extract 0 1)) ++ (⟨#[32]⟩ : ByteArray)) ++ ((rdOf ByteArray.empty y130 (ji3)).extract 1 (rdOf ByteArray.empty y130 (ji3)).size)).size + 1 ≤ 9223372036854775807
                    · rw [if_pos c15] at H
                      have c15b0 := eq_true c15
                      have c15b1 : decide (((((⟨#[97]⟩ : ByteArray) ++ ((rdOf ByteArray.empty y130 (ji3)).extract 0 1)) ++ (⟨#[32]⟩ : ByteArray)) ++ ((rdOf ByteArray.empty y130 (ji3)).extract 1 (rdOf ByteArray.empty y130 (ji3)).size)).size + 1 ≤ 9223372036854775807) = true := decide_eq_true c15
                      try have c15b2 : (9223372036854775807 < ((((⟨#[97]⟩ : ByteArray) ++ ((rdOf ByteArray.empty y130 (ji3)).extract 0 1)) ++ (⟨#[32]⟩ : ByteArray)) ++ ((rdOf ByteArray.empty y130 (ji3)).extract 1 (rdOf ByteArray.empty y130 (ji3)).size)).size + 1) = False := eq_false (Nat.not_lt.2 c15)
                      have c15b4 : (9223372036854775807 < 1 + min 1 (rdOf ByteArray.empty y130 (ji3)).size + 1 + ((rdOf ByteArray.empty y130 (ji3)).size - 1) + 1) = False := by have h_ := c15b2; simp only [ByteArray.size_append, ByteArray.size_extract, Nat.sub_zero, Nat.min_self] at h_; exact h_
                      have c15b3 : (9223372036854775807 < 1 + ((rdOf ByteArray.empty y130 (ji3)).extract 0 1).size + 1 + ((rdOf ByteArray.empty y130 (ji3)).extract 1 (rdOf ByteArray.empty y130 (ji3)).size).size + 1) = False := by have h_ := c15b2; simp only [ByteArray.size_append] at h_; exact h_
                      replace H := Option.bind_eq_some_iff.mp H
                      obtain ⟨⟨t139, t140, t141⟩, A160, H⟩ := H
                      replace H : ((some (([Go.bits .or .u8 a1 128] : List Int) : List Int)).bind fun y144 => (if 2 + (strOfNums y144).size ≤ 9223372036854775807 then (if ((⟨#[97, 32]⟩ : ByteArray) ++ (strOfNums y144)).size + 2 ≤ 9223372036854775807 then ((lex_Lex.f k (((⟨#[97, 32]⟩ : ByteArray) ++ (strOfNums y144)) ++ (⟨#[32, 98]⟩ : ByteArray))).bind fun bt147 => ((aquiferlaw1_Num.f t140).bind fun t152 => (if (ji3) < 2 then ((aquiferlaw1_Num.f t140).bind fun t153 => (if t153 = 0 then ((aquiferlaw1_Num.f t135).bind fun t154 => (if t154 = 0 then (if (t134.length : Int) = 4 then (if 1 < (t134.length : Int) then (if ((rd_T49 t134 1).f1).toList = (rdOf ByteArray.empty y130 (ji3)).toList then (if (t139.length : Int) = 5 then ((aquiferlaw1_Num.f bt147.2.1).bind fun t156 => (if t156 = 10 then (if bt147.2.2 = 2 then ((aquiferlaw11_awake.f k).bind fun t157 => (some t157)) else (some false)) else (some false))) else (some false)) else (some false)) else (none)) else (some false)) else (some false))) else ((aquiferlaw1_Num.f t135).bind fun t158 => (if t158 = 0 then (if (t134.length : Int) = 4 then (if 1 < (t134.length : Int) then (if ((rd_T49 t134 1).f1).toList = (rdOf ByteArray.empty y130 (ji3)).toList then (some false) else (some false)) else (none)) else (some false)) else (some false))))) else ((aquiferlaw1_Num.f t135).bind fun t160 => (if t160 = 0 then (if (t134.length : Int) = 4 then (if 1 < (t134.length : Int) then (if ((rd_T49 t134 1).f1).toList = (rdOf ByteArray.empty y130 (ji3)).toList then (if t152 = 10 then ((aquiferlaw1_Num.f bt147.2.1).bind fun t162 => (if t162 = 10 then (if bt147.2.2 = 2 then ((aquiferlaw11_awake.f k).bind fun t163 => (some t163)) else (some false)) else (some false))) else (some false)) else (some false)) else (none)) else (some false)) else (some false)))))) else (none)) else (none))) = some r := H
                      have A16 := Aside0.mk A160
                      clear A160
                      obtain ⟨y144, hy144⟩ : ∃ y_ : List Int, y_ = (([Go.bits .or .u8 a1 128] : List Int)) := ⟨_, rfl⟩
                      replace H : (if 2 + (strOfNums y144).size ≤ 9223372036854775807 then (if ((⟨#[97, 32]⟩ : ByteArray) ++ (strOfNums y144)).size + 2 ≤ 9223372036854775807 then ((lex_Lex.f k (((⟨#[97, 32]⟩ : ByteArray) ++ (strOfNums y144)) ++ (⟨#[32, 98]⟩ : ByteArray))).bind fun bt147 => ((aquiferlaw1_Num.f t140).bind fun t152 => (if (ji3) < 2 then ((aquiferlaw1_Num.f t140).bind fun t153 => (if t153 = 0 then ((aquiferlaw1_Num.f t135).bind fun t154 => (if t154 = 0 then (if (t134.length : Int) = 4 then (if 1 < (t134.length : Int) then (if ((rd_T49 t134 1).f1).toList = (rdOf ByteArray.empty y130 (ji3)).toList then (if (t139.length : Int) = 5 then ((aquiferlaw1_Num.f bt147.2.1).bind fun t156 => (if t156 = 10 then (if bt147.2.2 = 2 then ((aquiferlaw11_awake.f k).bind fun t157 => (some t157)) else (some false)) else (some false))) else (some false)) else (some false)) else (none)) else (some false)) else (some false))) else ((aquiferlaw1_Num.f t135).bind fun t158 => (if t158 = 0 then (if (t134.length : Int) = 4 then (if 1 < (t134.length : Int) then (if ((rd_T49 t134 1).f1).toList = (rdOf ByteArray.empty y130 (ji3)).toList then (some false) else (some false)) else (none)) else (some false)) else (some false))))) else ((aquiferlaw1_Num.f t135).bind fun t160 => (if t160 = 0 then (if (t134.length : Int) = 4 then (if 1 < (t134.length : Int) then (if ((rd_T49 t134 1).f1).toList = (rdOf ByteArray.empty y130 (ji3)).toList then (if t152 = 10 then ((aquiferlaw1_Num.f bt147.2.1).bind fun t162 => (if t162 = 10 then (if bt147.2.2 = 2 then ((aquiferlaw11_awake.f k).bind fun t163 => (some t163)) else (some false)) else (some false))) else (some false)) else (some false)) else (none)) else (some false)) else (some false)))))) else (none)) else (none)) = some r := by first | (rw [hy144]; with_reducible exact H) | (have H2_ := (Option.bind_some _ _).symm.trans H; rw [hy144]; with_reducible exact H2_) | (have H2_ := (Option.bind_some _ _).symm.trans H; with_reducible exact H2_) | with_reducible exact H | (rw [hy144]; exact H) | exact H
                      have Ny144 := Aside0.mk hy144
                      clear hy144
                      by_cases c17 : 2 + (strOfNums y144).size ≤ 9223372036854775807
                      · rw [if_pos c17] at H
                        have c17b0 := eq_true c17
                        have c17b1 : decide (2 + (strOfNums y144).size ≤ 9223372036854775807) = true := decide_eq_true c17
                        try have c17b2 : (9223372036854775807 < 2 + (strOfNums y144).size) = False := eq_false (Nat.not_lt.2 c17)
                        by_cases c18 : ((⟨#[97, 32]⟩ : ByteArray) ++ (strOfNums y144)).size + 2 ≤ 9223372036854775807
                        · rw [if_pos c18] at H
                          have c18b0 := eq_true c18
                          have c18b1 : decide (((⟨#[97, 32]⟩ : ByteArray) ++ (strOfNums y144)).size + 2 ≤ 9223372036854775807) = true := decide_eq_true c18
                          try have c18b2 : (9223372036854775807 < ((⟨#[97, 32]⟩ : ByteArray) ++ (strOfNums y144)).size + 2) = False := eq_false (Nat.not_lt.2 c18)
                          have c18b3 : (9223372036854775807 < 2 + (strOfNums y144).size + 2) = False := by have h_ := c18b2; simp only [ByteArray.size_append] at h_; exact h_
                          replace H := Option.bind_eq_some_iff.mp H
                          obtain ⟨⟨t147, t148, t149⟩, A190, H⟩ := H
                          replace H : ((aquiferlaw1_Num.f t140).bind fun t152 => (if (ji3) < 2 then ((aquiferlaw1_Num.f t140).bind fun t153 => (if t153 = 0 then ((aquiferlaw1_Num.f t135).bind fun t154 => (if t154 = 0 then (if (t134.length : Int) = 4 then (if 1 < (t134.length : Int) then (if ((rd_T49 t134 1).f1).toList = (rdOf ByteArray.empty y130 (ji3)).toList then (if (t139.length : Int) = 5 then ((aquiferlaw1_Num.f t148).bind fun t156 => (if t156 = 10 then (if t149 = 2 then ((aquiferlaw11_awake.f k).bind fun t157 => (some t157)) else (some false)) else (some false))) else (some false)) else (some false)) else (none)) else (some false)) else (some false))) else ((aquiferlaw1_Num.f t135).bind fun t158 => (if t158 = 0 then (if (t134.length : Int) = 4 then (if 1 < (t134.length : Int) then (if ((rd_T49 t134 1).f1).toList = (rdOf ByteArray.empty y130 (ji3)).toList then (some false) else (some false)) else (none)) else (some false)) else (some false))))) else ((aquiferlaw1_Num.f t135).bind fun t160 => (if t160 = 0 then (if (t134.length : Int) = 4 then (if 1 < (t134.length : Int) then (if ((rd_T49 t134 1).f1).toList = (rdOf ByteArray.empty y130 (ji3)).toList then (if t152 = 10 then ((aquiferlaw1_Num.f t148).bind fun t162 => (if t162 = 10 then (if t149 = 2 then ((aquiferlaw11_awake.f k).bind fun t163 => (some t163)) else (some false)) else (some false))) else (some false)) else (some false)) else (none)) else (some false)) else (some false))))) = some r := H
                          have A19 := Aside0.mk A190
                          clear A190
                          replace H := Option.bind_eq_some_iff.mp H
                          obtain ⟨t152, A200, H⟩ := H
                          replace H : (if (ji3) < 2 then ((aquiferlaw1_Num.f t140).bind fun t153 => (if t153 = 0 then ((aquiferlaw1_Num.f t135).bind fun t154 => (if t154 = 0 then (if (t134.length : Int) = 4 then (if 1 < (t134.length : Int) then (if ((rd_T49 t134 1).f1).toList = (rdOf ByteArray.empty y130 (ji3)).toList then (if (t139.length : Int) = 5 then ((aquiferlaw1_Num.f t148).bind fun t156 => (if t156 = 10 then (if t149 = 2 then ((aquiferlaw11_awake.f k).bind fun t157 => (some t157)) else (some false)) else (some false))) else (some false)) else (some false)) else (none)) else (some false)) else (some false))) else ((aquiferlaw1_Num.f t135).bind fun t158 => (if t158 = 0 then (if (t134.length : Int) = 4 then (if 1 < (t134.length : Int) then (if ((rd_T49 t134 1).f1).toList = (rdOf ByteArray.empty y130 (ji3)).toList then (some false) else (some false)) else (none)) else (some false)) else (some false))))) else ((aquiferlaw1_Num.f t135).bind fun t160 => (if t160 = 0 then (if (t134.length : Int) = 4 then (if 1 < (t134.length : Int) then (if ((rd_T49 t134 1).f1).toList = (rdOf ByteArray.empty y130 (ji3)).toList then (if t152 = 10 then ((aquiferlaw1_Num.f t148).bind fun t162 => (if t162 = 10 then (if t149 = 2 then ((aquiferlaw11_awake.f k).bind fun t163 => (some t163)) else (some false)) else (some false))) else (some false)) else (some false)) else (none)) else (some false)) else (some false)))) = some r := H
                          have A20 := Aside0.mk A200
                          clear A200
                          by_cases c21 : (ji3) < 2
                          · rw [if_pos c21] at H
                            have c21b0 : decide ((ji3) < 2) = true := decide_eq_true c21
                            clear c21
                            replace H := Option.bind_eq_some_iff.mp H
                            obtain ⟨t153, A220, H⟩ := H
                            replace H : (if t153 = 0 then ((aquiferlaw1_Num.f t135).bind fun t154 => (if t154 = 0 then (if (t134.length : Int) = 4 then (if 1 < (t134.length : Int) then (if ((rd_T49 t134 1).f1).toList = (rdOf ByteArray.empty y130 (ji3)).toList then (if (t139.length : Int) = 5 then ((aquiferlaw1_Num.f t148).bind fun t156 => (if t156 = 10 then (if t149 = 2 then ((aquiferlaw11_awake.f k).bind fun t157 => (some t157)) else (some false)) else (some false))) else (some false)) else (some false)) else (none)) else (some false)) else (some false))) else ((aquiferlaw1_Num.f t135).bind fun t158 => (if t158 = 0 then (if (t134.length : Int) = 4 then (if 1 < (t134.length : Int) then (if ((rd_T49 t134 1).f1).toList = (rdOf ByteArray.empty y130 (ji3)).toList then (some false) else (some false)) else (none)) else (some false)) else (some false)))) = some r := H
                            have A22 := Aside0.mk A220
                            clear A220
                            by_cases c23 : t153 = 0
                            · rw [if_pos c23] at H
                              have c23b0 : (t153 == 0) = true := beq_iff_eq.mpr c23
                              have c23b1 : (t153 != 0) = false := bne_eq_false_iff_eq.mpr c23
                              clear c23
                              replace H := Option.bind_eq_some_iff.mp H
                              obtain ⟨t154, A240, H⟩ := H
                              replace H : (if t154 = 0 then (if (t134.length : Int) = 4 then (if 1 < (t134.length : Int) then (if ((rd_T49 t134 1).f1).toList = (rdOf ByteArray.empty y130 (ji3)).toList then (if (t139.length : Int) = 5 then ((aquiferlaw1_Num.f t148).bind fun t156 => (if t156 = 10 then (if t149 = 2 then ((aquiferlaw11_awake.f k).bind fun t157 => (some t157)) else (some false)) else (some false))) else (some false)) else (some false)) else (none)) else (some false)) else (some false)) = some r := H
                              have A24 := Aside0.mk A240
                              clear A240
                              by_cases c25 : t154 = 0
                              · rw [if_pos c25] at H
                                have c25b0 : (t154 == 0) = true := beq_iff_eq.mpr c25
                                have c25b1 : (t154 != 0) = false := bne_eq_false_iff_eq.mpr c25
                                clear c25
                                by_cases c26 : (t134.length : Int) = 4
                                · rw [if_pos c26] at H
                                  have c26b0 : ((t134.length : Int) == 4) = true := beq_iff_eq.mpr c26
                                  have c26b1 : ((t134.length : Int) != 4) = false := bne_eq_false_iff_eq.mpr c26
                                  clear c26
                                  by_cases c27 : 1 < (t134.length : Int)
                                  · rw [if_pos c27] at H
                                    have c27b0 : decide (1 < (t134.length : Int)) = true := decide_eq_true c27
                                    have c27b1 : decide (1 < t134.length) = true := decide_eq_true (by omega)
                                    clear c27
                                    by_cases c28 : ((rd_T49 t134 1).f1).toList = (rdOf ByteArray.empty y130 (ji3)).toList
                                    · rw [if_pos c28] at H
                                      have c28b0 : (((rd_T49 t134 1).f1).toList == (rdOf ByteArray.empty y130 (ji3)).toList) = true := beq_iff_eq.mpr c28
                                      have c28b1 : (((rd_T49 t134 1).f1).toList != (rdOf ByteArray.empty y130 (ji3)).toList) = false := bne_eq_false_iff_eq.mpr c28
                                      clear c28
                                      by_cases c29 : (t139.length : Int) = 5
                                      · rw [if_pos c29] at H
                                        have c29b0 : ((t139.length : Int) == 5) = true := beq_iff_eq.mpr c29
                                        have c29b1 : ((t139.length : Int) != 5) = false := bne_eq_false_iff_eq.mpr c29
                                        clear c29
                                        replace H := Option.bind_eq_some_iff.mp H
                                        obtain ⟨t156, A300, H⟩ := H
                                        replace H : (if t156 = 10 then (if t149 = 2 then ((aquiferlaw11_awake.f k).bind fun t157 => (some t157)) else (some false)) else (some false)) = some r := H
                                        have A30 := Aside0.mk A300
                                        clear A300
                                        by_cases c31 : t156 = 10
                                        · rw [if_pos c31] at H
                                          have c31b0 : (t156 == 10) = true := beq_iff_eq.mpr c31
                                          have c31b1 : (t156 != 10) = false := bne_eq_false_iff_eq.mpr c31
                                          clear c31
                                          by_cases c32 : t149 = 2
                                          · rw [if_pos c32] at H
                                            have c32b0 : (t149 == 2) = true := beq_iff_eq.mpr c32
                                            have c32b1 : (t149 != 2) = false := bne_eq_false_iff_eq.mpr c32
                                            clear c32
                                            replace H := Option.bind_eq_some_iff.mp H
                                            obtain ⟨t157, A330, H⟩ := H
                                            replace H : (some t157) = some r := H
                                            have A33 := Aside0.mk A330
                                            clear A330
                                            obtain rfl := Option.some.inj H
                                            go_enter Try.func11, Try.ntmps11
                                            try go_wp2_with (first | ((with_reducible refine gate_dst (N := 16) rfl ?_); (try (refine gate_guard (by rfl) ?_; dsimp only)); refine Kd.R_lit Kd.string _ 9 ?hg (N := 16) ?hd (xs := ([(⟨#[61, 61]⟩ : ByteArray), (⟨#[60, 61]⟩ : ByteArray), (⟨#[45, 62]⟩ : ByteArray)] : List ByteArray)) (inner := [.string (⟨#[61, 61]⟩ : ByteArray), .string (⟨#[60, 61]⟩ : ByteArray), .string (⟨#[45, 62]⟩ : ByteArray)]) (ok := fun _ => True) (okp := fun _ => True) ?hr ?hp (fun _ hk => hk) trivial (Below.refl _ _) (Nat.le_refl _) (by simp) ?_; (case hd => rfl); (case hg => rfl); (case hr => first | (go_simp; done) | (go_simp; rfl)); (case hp => exact (Reps.one (show Kd.M Kd.string _ _ _ (⟨#[61, 61]⟩ : ByteArray) [.string (⟨#[61, 61]⟩ : ByteArray)] from rfl) (Reps.one (show Kd.M Kd.string _ _ _ (⟨#[60, 61]⟩ : ByteArray) [.string (⟨#[60, 61]⟩ : ByteArray)] from rfl) (Reps.one (show Kd.M Kd.string _ _ _ (⟨#[45, 62]⟩ : ByteArray) [.string (⟨#[45, 62]⟩ : ByteArray)] from rfl) (Reps.none _ _))))); intro v131 w34 ho35 hb hg_ hnew_; clear hg_ hnew_; (first | rw [← Ny130.out] at ho35 | (simp only [Int.reduceToNat] at ho35; rw [← Ny130.out] at ho35)); have n0_ := Aside0.mk (Kd.R_lower ho35 (below_size (by repeat (first | (with_reducible first | exact HB.out | apply below_alloc | apply pw_below_drewN | apply below_drew1) | exact HB.out)))); have n1_ := Aside0.mk (below_step (by repeat (first | (with_reducible first | exact HB.out | apply below_alloc | apply pw_below_drewN | apply below_drew1) | exact HB.out)) hb); clear HB; have HO132 := n0_; have HB := n1_; clear n0_ n1_; clear hb ho35; obtain ⟨Ao36, co36, eo36⟩ := Kd.R_slice HO132.out; subst eo36; have p133 : 0 ≤ ((ji3) : Int) := of_decide_eq_true (by first | (with_reducible assumption) | assumption); have q133 : (ji3) < (y130.length : Int) := of_decide_eq_true (by first | (with_reducible assumption) | assumption); obtain ⟨ad133, e133, hx133_0⟩ := Kd.at_string (Kd.R_reads' HO132.out).2.2 (ji3) p133 q133; cases e133; replace p133 := eq_true p133; replace q133 := eq_true q133) | ((with_reducible refine gate_callee (f := 21) rfl ?_); refine goesL_ (some 25) rfl rfl Try.func21 (by kernel_rfl) rfl #[.string (((⟨#[97]⟩ : ByteArray) ++ (rdOf ByteArray.empty y130 (ji3))) ++ (⟨#[98]⟩ : ByteArray))] rfl (by (try simp only [List.map_toArray, List.map_cons, List.map_nil]); first | done | (simp only [hji3]; rfl) | rfl | (simp only [List.length_drop, List.length_take]; rfl)) ?_; (with_reducible refine (lex_Lex.calls k (((⟨#[97]⟩ : ByteArray) ++ (rdOf ByteArray.empty y130 (ji3))) ++ (⟨#[98]⟩ : ByteArray)) t134 t135 t136 _ A8.out).mono ?_); rintro e w37 ⟨v137, rfl, ho0, hb⟩; refine ⟨_, rfl, ?_⟩; have n0_ := Aside0.mk (Kd.R_below (by (with_reducible repeat (first | apply Kd.R_alloc | apply Kd.R_drewN | apply Kd.R_drew)); exact HO132.out) hb); have n1_ := Aside0.mk (Kd.R_lower ho0 (below_size (by repeat (first | (with_reducible first | exact HB.out | apply below_alloc | apply pw_below_drewN | apply below_drew1) | exact HB.out)))); have n2_ := Aside0.mk (below_step (by repeat (first | (with_reducible first | exact HB.out | apply below_alloc | apply pw_below_drewN | apply below_drew1) | exact HB.out)) hb); clear HO132; clear HB; have HO132 := n0_; have HO138 := n1_; have HB := n2_; clear n0_ n1_ n2_; (try clear hb); (try clear hb2); (try clear hk); (try clear hi); (try clear ho0)))
                                            have n0_ := Aside0.mk (Kd.R_drew HO132.out)
                                            have n1_ := Aside0.mk (Kd.R_drew HO138.out)
                                            have n2_ := Aside0.mk (below_drew1 HB.out)
                                            clear HO132
                                            clear HO138
                                            clear HB
                                            have HO132 := n0_
                                            have HO138 := n1_
                                            have HB := n2_
                                            clear n0_ n1_ n2_
                                            refine start_ (n := 16) (S := fun w' => True) (ds := []) #[false, false, false, false, false, false, false, false, false, false, false, false, false, false, false, false] (by kernel_rfl) rfl rfl trivial (fun hHeld => ?_); refine with_tabW aquiferlaw11_LexSigns.tab3 aquiferlaw11_LexSigns.bits3 (fun HT_ HW_ => ?_)
                                            generalize w37.drew = w38 at HO132 HO138 HB hHeld ⊢
                                            refine pure_ (i := 0) (N := some 30) (v := ?_) (a' := ?_) #[true, false, false, false, false, false, false, false, false, false, false, false, false, false, false, false] rfl rfl (any_of HT_.out (by kernel_rfl)) (fun _ _ _ h => h) (Or.inl ⟨by rfl, ?_⟩) ?_ ?_
                                            rotate_left
                                            · intro w'
                                              go_simp
                                              with_reducible rfl
                                            rotate_left
                                            · simp only [Act.put, List.setIfInBounds_toArray, List.set_cons_zero, List.set_cons_succ, i64_w, i32_w]
                                              rfl
                                            refine pure_ (i := 1) (N := some 31) (v := ?_) (a' := ?_) #[true, true, false, false, false, false, false, false, false, false, false, false, false, false, false, false] rfl rfl (any_of HT_.out (by kernel_rfl)) (fun _ _ _ h => h) (Or.inl ⟨by rfl, ?_⟩) ?_ ?_
                                            rotate_left
                                            · intro w'
                                              go_simp
                                              with_reducible rfl
                                            rotate_left
                                            · simp only [Act.put, List.setIfInBounds_toArray, List.set_cons_zero, List.set_cons_succ, i64_w, i32_w]
                                              rfl
                                            refine pure_ (i := 2) (N := some 32) (v := ?_) (a' := ?_) #[true, true, true, false, false, false, false, false, false, false, false, false, false, false, false, false] rfl rfl (any_of HT_.out (by kernel_rfl)) (fun _ _ _ h => h) (Or.inl ⟨by rfl, ?_⟩) ?_ ?_
                                            rotate_left
                                            · intro w'
                                              go_simp
                                              with_reducible rfl
                                            rotate_left
                                            · simp only [Act.put, List.setIfInBounds_toArray, List.set_cons_zero, List.set_cons_succ, i64_w, i32_w]
                                              rfl
                                            refine pure_ (i := 3) (N := some 33) (v := ?_) (a' := ?_) #[true, true, true, true, false, false, false, false, false, false, false, false, false, false, false, false] rfl rfl (any_of HT_.out (by kernel_rfl)) (fun _ _ _ h => h) (Or.inl ⟨by rfl, ?_⟩) ?_ ?_
                                            rotate_left
                                            · intro w'
                                              go_simp
                                              with_reducible rfl
                                            rotate_left
                                            · simp only [Act.put, List.setIfInBounds_toArray, List.set_cons_zero, List.set_cons_succ, i64_w, i32_w]
                                              rfl
                                            refine pure_ (i := 4) (N := some 34) (v := ?_) (a' := ?_) #[true, true, true, true, true, false, false, false, false, false, false, false, false, false, false, false] rfl rfl (any_of HT_.out (by kernel_rfl)) (fun _ _ _ h => h) (Or.inl ⟨by rfl, ?_⟩) ?_ ?_
                                            rotate_left
                                            · intro w'
                                              go_simp
                                              with_reducible rfl
                                            rotate_left
                                            · simp only [Act.put, List.setIfInBounds_toArray, List.set_cons_zero, List.set_cons_succ, i64_w, i32_w]
                                              rfl
                                            refine pure_ (i := 5) (N := some 35) (v := ?_) (a' := ?_) #[true, true, true, true, true, true, false, false, false, false, false, false, false, false, false, false] rfl rfl (any_of HT_.out (by kernel_rfl)) (fun _ _ _ h => h) (Or.inl ⟨by rfl, ?_⟩) ?_ ?_
                                            rotate_left
                                            · intro w'
                                              go_simp
                                              with_reducible rfl
                                            rotate_left
                                            · simp only [Act.put, List.setIfInBounds_toArray, List.set_cons_zero, List.set_cons_succ, i64_w, i32_w]
                                              rfl
                                            refine pure_ (i := 6) (N := some 36) (v := ?_) (a' := ?_) #[true, true, true, true, true, true, true, false, false, false, false, false, false, false, false, false] rfl rfl (any_of HT_.out (by kernel_rfl)) (fun _ _ _ h => h) (Or.inl ⟨by rfl, ?_⟩) ?_ ?_
                                            rotate_left
                                            · intro w'
                                              go_simp
                                              with_reducible rfl
                                            rotate_left
                                            · simp only [Act.put, List.setIfInBounds_toArray, List.set_cons_zero, List.set_cons_succ, i64_w, i32_w]
                                              rfl
                                            refine pure_ (i := 7) (N := some 37) (v := ?_) (a' := ?_) #[true, true, true, true, true, true, true, true, false, false, false, false, false, false, false, false] rfl rfl (any_of HT_.out (by kernel_rfl)) (fun _ _ _ h => h) (Or.inl ⟨by rfl, ?_⟩) ?_ ?_
                                            rotate_left
                                            · intro w'
                                              go_simp
                                              with_reducible rfl
                                            rotate_left
                                            · simp only [Act.put, List.setIfInBounds_toArray, List.set_cons_zero, List.set_cons_succ, i64_w, i32_w]
                                              rfl
                                            refine one_ (i := 8) (N := some 38) #[true, true, true, true, true, true, true, true, true, false, false, false, false, false, false, false] rfl rfl (one_of HT_.out (by kernel_rfl)) (by decide) (fun K hK => ?_)
                                            refine goes_ Try.func21 (by kernel_rfl) rfl #[.string (((((⟨#[97]⟩ : ByteArray) ++ ((rdOf ByteArray.empty y130 (ji3)).extract 0 1)) ++ (⟨#[32]⟩ : ByteArray)) ++ ((rdOf ByteArray.empty y130 (ji3)).extract 1 (rdOf ByteArray.empty y130 (ji3)).size)) ++ (⟨#[98]⟩ : ByteArray))] (by rfl) rfl rfl (by (try simp only [List.map_toArray, List.map_cons, List.map_nil]); first | done | (simp only [hji3]; rfl) | rfl | (simp only [List.length_drop, List.length_take]; rfl)) ?_
                                            with_reducible refine (lex_Lex.calls k (((((⟨#[97]⟩ : ByteArray) ++ ((rdOf ByteArray.empty y130 (ji3)).extract 0 1)) ++ (⟨#[32]⟩ : ByteArray)) ++ ((rdOf ByteArray.empty y130 (ji3)).extract 1 (rdOf ByteArray.empty y130 (ji3)).size)) ++ (⟨#[98]⟩ : ByteArray)) t139 t140 t141 _ A16.out).mono ?_
                                            rintro e w39 ⟨v142, rfl, ho0, hb⟩
                                            refine ⟨_, rfl, ?_⟩
                                            have n0_ := Aside0.mk (Kd.R_below (by (with_reducible repeat (first | apply Kd.R_alloc | apply Kd.R_drewN | apply Kd.R_drew)); exact HO132.out) hb)
                                            have n1_ := Aside0.mk (Kd.R_elder' (by (with_reducible repeat (first | apply Kd.R_alloc | apply Kd.R_drewN | apply Kd.R_drew)); exact HO138.out) (Kd.R_base ho0) hb)
                                            have n2_ := Aside0.mk (Kd.R_lower (Kd.R_new' ho0 (Kd.R_lt (by (with_reducible repeat (first | apply Kd.R_alloc | apply Kd.R_drewN | apply Kd.R_drew)); exact HO138.out))) (below_size (by repeat (first | (with_reducible first | exact HB.out | apply below_alloc | apply pw_below_drewN | apply below_drew1) | exact HB.out))))
                                            have n3_ := Aside0.mk (below_step (by repeat (first | (with_reducible first | exact HB.out | apply below_alloc | apply pw_below_drewN | apply below_drew1) | exact HB.out)) hb)
                                            clear HO132
                                            clear HO138
                                            clear HB
                                            have HO132 := n0_
                                            have HO138 := n1_
                                            have HO143 := n2_
                                            have HB := n3_
                                            clear n0_ n1_ n2_ n3_
                                            (try clear hb)
                                            (try clear hb2)
                                            (try clear hk)
                                            (try clear hi)
                                            (try clear ho0)
                                            refine hK.out _ _ trivial (fun hHeld => ?_)
                                            clear hK K
                                            refine norm_ (a' := ?_) ?_ ?_
                                            rotate_left
                                            · show Act.put _ (some 38) _ = _
                                              simp only [Act.put, List.setIfInBounds_toArray, List.set_cons_zero, List.set_cons_succ, i64_w, i32_w]
                                              rfl
                                            refine pure_ (i := 9) (N := some 29) (v := ?_) (a' := ?_) #[true, true, true, true, true, true, true, true, true, true, false, false, false, false, false, false] rfl rfl (any_of HT_.out (by kernel_rfl)) (fun _ _ _ h => h) (Or.inl ⟨by rfl, ?_⟩) ?_ ?_
                                            rotate_left
                                            · intro w'
                                              go_simp
                                              with_reducible rfl
                                            rotate_left
                                            · simp only [Act.put, List.setIfInBounds_toArray, List.set_cons_zero, List.set_cons_succ, i64_w, i32_w]
                                              rfl
                                            refine pure_ (i := 10) (N := some 39) (v := ?_) (a' := ?_) #[true, true, true, true, true, true, true, true, true, true, true, false, false, false, false, false] rfl rfl (any_of HT_.out (by kernel_rfl)) (fun _ _ _ h => h) (Or.inl ⟨by rfl, ?_⟩) ?_ ?_
                                            rotate_left
                                            · intro w'
                                              go_simp
                                              with_reducible rfl
                                            rotate_left
                                            · simp only [Act.put, List.setIfInBounds_toArray, List.set_cons_zero, List.set_cons_succ, i64_w, i32_w]
                                              rfl
                                            refine pure_ (i := 11) (N := some 40) (v := ?_) (a' := ?_) #[true, true, true, true, true, true, true, true, true, true, true, true, false, false, false, false] rfl rfl (any_of HT_.out (by kernel_rfl)) (fun _ _ _ h => h) (Or.inl ⟨by rfl, ?_⟩) ?_ ?_
                                            rotate_left
                                            · intro w'
                                              go_simp
                                              with_reducible rfl
                                            rotate_left
                                            · simp only [Act.put, List.setIfInBounds_toArray, List.set_cons_zero, List.set_cons_succ, i64_w, i32_w]
                                              rfl
                                            refine pure_ (i := 12) (N := some 41) (v := ?_) (a' := ?_) #[true, true, true, true, true, true, true, true, true, true, true, true, true, false, false, false] rfl rfl (any_of HT_.out (by kernel_rfl)) (fun _ _ _ h => h) (Or.inl ⟨by rfl, ?_⟩) ?_ ?_
                                            rotate_left
                                            · intro w'
                                              go_simp
                                              with_reducible rfl
                                            rotate_left
                                            · simp only [Act.put, List.setIfInBounds_toArray, List.set_cons_zero, List.set_cons_succ, i64_w, i32_w]
                                              rfl
                                            refine pure_ (i := 13) (N := some 9) (v := ?_) (a' := ?_) #[true, true, true, true, true, true, true, true, true, true, true, true, true, true, false, false] rfl rfl (any_of HT_.out (by kernel_rfl)) (fun _ _ _ h => h) (Or.inl ⟨by rfl, ?_⟩) ?_ ?_
                                            rotate_left
                                            · intro w'
                                              go_simp
                                              with_reducible rfl
                                            rotate_left
                                            · simp only [Act.put, List.setIfInBounds_toArray, List.set_cons_zero, List.set_cons_succ, i64_w, i32_w]
                                              rfl
                                            refine pure_ (i := 14) (N := some 10) (v := ?_) (a' := ?_) #[true, true, true, true, true, true, true, true, true, true, true, true, true, true, true, false] rfl rfl (any_of HT_.out (by kernel_rfl)) (fun _ _ _ h => h) (Or.inl ⟨by rfl, ?_⟩) ?_ ?_
                                            rotate_left
                                            · intro w'
                                              go_simp
                                              with_reducible rfl
                                            rotate_left
                                            · simp only [Act.put, List.setIfInBounds_toArray, List.set_cons_zero, List.set_cons_succ, i64_w, i32_w]
                                              rfl
                                            refine pure_ (i := 15) (N := some 11) (v := ?_) (a' := ?_) #[true, true, true, true, true, true, true, true, true, true, true, true, true, true, true, true] rfl rfl (any_of HT_.out (by kernel_rfl)) (fun _ _ _ h => h) (Or.inl ⟨by rfl, ?_⟩) ?_ ?_
                                            rotate_left
                                            · intro w'
                                              go_simp
                                              with_reducible rfl
                                            rotate_left
                                            · simp only [Act.put, List.setIfInBounds_toArray, List.set_cons_zero, List.set_cons_succ, i64_w, i32_w]
                                              rfl
                                            refine done_ (done_of HT_.out (by kernel_rfl)) ?_
                                            try go_wp2_with (first | ((with_reducible refine gate_dst (N := 45) rfl ?_); (try (refine gate_guard (by rfl) ?_; dsimp only)); refine Kd.R_lit (Kd.int .u8) _ 5 ?hg (N := 45) ?hd (xs := ([Go.bits .or .u8 a1 128] : List Int)) (inner := [.int .u8 (Go.bits .or .u8 a1 128)]) (ok := fun _ => True) (okp := fun _ => True) ?hr ?hp (fun _ hk => hk) trivial (Below.refl _ _) (Nat.le_refl _) (by simp) ?_; (case hd => rfl); (case hg => rfl); (case hr => first | (go_simp; done) | (go_simp; rfl)); (case hp => exact (Reps.one (show Kd.M (Kd.int .u8) _ _ _ (Go.bits .or .u8 a1 128) [.int .u8 (Go.bits .or .u8 a1 128)] from rfl) (Reps.none _ _))); intro v145 w40 ho41 hb hg_ hnew_; clear hg_ hnew_; (first | rw [← Ny144.out] at ho41 | (simp only [Int.reduceToNat] at ho41; rw [← Ny144.out] at ho41)); have n0_ := Aside0.mk (Kd.R_below (by (with_reducible repeat (first | apply Kd.R_alloc | apply Kd.R_drewN | apply Kd.R_drew)); exact HO132.out) hb); have n1_ := Aside0.mk (Kd.R_below (by (with_reducible repeat (first | apply Kd.R_alloc | apply Kd.R_drewN | apply Kd.R_drew)); exact HO138.out) hb); have n2_ := Aside0.mk (Kd.R_below (by (with_reducible repeat (first | apply Kd.R_alloc | apply Kd.R_drewN | apply Kd.R_drew)); exact HO143.out) hb); have n3_ := Aside0.mk (Kd.R_lower ho41 (below_size (by repeat (first | (with_reducible first | exact HB.out | apply below_alloc | apply pw_below_drewN | apply below_drew1) | exact HB.out)))); have n4_ := Aside0.mk (below_step (by repeat (first | (with_reducible first | exact HB.out | apply below_alloc | apply pw_below_drewN | apply below_drew1) | exact HB.out)) hb); clear HO132; clear HO138; clear HO143; clear HB; have HO132 := n0_; have HO138 := n1_; have HO143 := n2_; have HO146 := n3_; have HB := n4_; clear n0_ n1_ n2_ n3_ n4_; clear hb ho41; have hcv42 := own_string (P := Try.prog) Try.underlying22 Try.underlying5 Try.underlying9 (Kd.own_of_R HO146.out); have hcw42 := fun (nq_ : Nat) => own_string (P := Try.prog) Try.underlying22 Try.underlying5 Try.underlying9 (Kd.own_of_R (Kd.R_drewN HO146.out nq_))) | ((with_reducible refine gate_callee (f := 21) rfl ?_); refine goesL_ (some 49) rfl rfl Try.func21 (by kernel_rfl) rfl #[.string (((⟨#[97, 32]⟩ : ByteArray) ++ (strOfNums y144)) ++ (⟨#[32, 98]⟩ : ByteArray))] rfl (by (try simp only [List.map_toArray, List.map_cons, List.map_nil]); first | done | rfl | (simp only [List.length_drop, List.length_take]; rfl)) ?_; (with_reducible refine (lex_Lex.calls k (((⟨#[97, 32]⟩ : ByteArray) ++ (strOfNums y144)) ++ (⟨#[32, 98]⟩ : ByteArray)) t147 t148 t149 _ A19.out).mono ?_); rintro e w43 ⟨v150, rfl, ho0, hb⟩; refine ⟨_, rfl, ?_⟩; have n0_ := Aside0.mk (Kd.R_below (by (with_reducible repeat (first | apply Kd.R_alloc | apply Kd.R_drewN | apply Kd.R_drew)); exact HO132.out) hb); have n1_ := Aside0.mk (Kd.R_elder' (by (with_reducible repeat (first | apply Kd.R_alloc | apply Kd.R_drewN | apply Kd.R_drew)); exact HO138.out) (Kd.R_base ho0) hb); have n2_ := Aside0.mk (Kd.R_elder' (by (with_reducible repeat (first | apply Kd.R_alloc | apply Kd.R_drewN | apply Kd.R_drew)); exact HO143.out) (Kd.R_base ho0) hb); have n3_ := Aside0.mk (Kd.R_below (by (with_reducible repeat (first | apply Kd.R_alloc | apply Kd.R_drewN | apply Kd.R_drew)); exact HO146.out) hb); have n4_ := Aside0.mk (Kd.R_lower (Kd.R_new' (Kd.R_new' ho0 (Kd.R_lt (by (with_reducible repeat (first | apply Kd.R_alloc | apply Kd.R_drewN | apply Kd.R_drew)); exact HO138.out))) (Kd.R_lt (by (with_reducible repeat (first | apply Kd.R_alloc | apply Kd.R_drewN | apply Kd.R_drew)); exact HO143.out))) (below_size (by repeat (first | (with_reducible first | exact HB.out | apply below_alloc | apply pw_below_drewN | apply below_drew1) | exact HB.out)))); have n5_ := Aside0.mk (below_step (by repeat (first | (with_reducible first | exact HB.out | apply below_alloc | apply pw_below_drewN | apply below_drew1) | exact HB.out)) hb); clear HO132; clear HO138; clear HO143; clear HO146; clear HB; have HO132 := n0_; have HO138 := n1_; have HO143 := n2_; have HO146 := n3_; have HO151 := n4_; have HB := n5_; clear n0_ n1_ n2_ n3_ n4_ n5_; (try clear hb); (try clear hb2); (try clear hk); (try clear hi); (try clear ho0)) | ((with_reducible refine gate_callee (f := 17) rfl ?_); refine goesL_ (some 54) rfl rfl Try.func17 (by kernel_rfl) rfl #[.int .i64 t140] rfl (by (try simp only [List.map_toArray, List.map_cons, List.map_nil]); first | done | rfl | (simp only [List.length_drop, List.length_take]; rfl)) ?_; (with_reducible refine (aquiferlaw1_Num.calls t140 t152 _ A20.out).mono ?_); rintro e w' ⟨rfl, ⟨nd, rfl⟩⟩; refine ⟨_, rfl, ?_⟩) | ((with_reducible refine gate_callee (f := 17) rfl ?_); refine goesL_ (some 60) rfl rfl Try.func17 (by kernel_rfl) rfl #[.int .i64 t140] rfl (by (try simp only [List.map_toArray, List.map_cons, List.map_nil]); first | done | rfl | (simp only [List.length_drop, List.length_take]; rfl)) ?_; (with_reducible refine (aquiferlaw1_Num.calls t140 t153 _ A22.out).mono ?_); rintro e w' ⟨rfl, ⟨nd, rfl⟩⟩; refine ⟨_, rfl, ?_⟩; obtain ⟨Ao44, co44, eo44⟩ := Kd.R_slice HO143.out; subst eo44) | ((with_reducible refine gate_callee (f := 17) rfl ?_); refine goesL_ (some 68) rfl rfl Try.func17 (by kernel_rfl) rfl #[.int .i64 t135] rfl (by (try simp only [List.map_toArray, List.map_cons, List.map_nil]); first | done | rfl | (simp only [List.length_drop, List.length_take]; rfl)) ?_; (with_reducible refine (aquiferlaw1_Num.calls t135 t154 _ A24.out).mono ?_); rintro e w' ⟨rfl, ⟨nd, rfl⟩⟩; refine ⟨_, rfl, ?_⟩; obtain ⟨Ao45, co45, eo45⟩ := Kd.R_slice HO138.out; subst eo45; have p155 : 0 ≤ (1 : Int) := (by omega); have q155 : 1 < (t134.length : Int) := of_decide_eq_true (by first | (with_reducible assumption) | assumption); obtain ⟨ad155, e155, hx155_0, hx155_1, hx155_2⟩ := at_T49 (Kd.R_reads' HO138.out).2.2 1 p155 q155; cases e155; (try simp only [show (1 : Int).toNat = 1 from rfl, Nat.reduceMul, Nat.reduceEqDiff, Go.Addr.add, ↓reduceIte] at hx155_0); (try simp only [show (1 : Int).toNat = 1 from rfl, Nat.reduceMul, Nat.reduceEqDiff, Go.Addr.add, ↓reduceIte] at hx155_1); (try simp only [show (1 : Int).toNat = 1 from rfl, Nat.reduceMul, Nat.reduceEqDiff, Go.Addr.add, ↓reduceIte] at hx155_2); have qi155 : (1 < t134.length) = True := eq_true (by omega); (try rw [show ((1 : Int)).toNat = 1 from rfl] at hx155_0); (try rw [show 1 * 3 = 3 from rfl] at hx155_0); (try rw [show ((1 : Int)).toNat = 1 from rfl] at hx155_1); (try rw [show 1 * 3 = 3 from rfl] at hx155_1); (try rw [show ((1 : Int)).toNat = 1 from rfl] at hx155_2); (try rw [show 1 * 3 = 3 from rfl] at hx155_2); replace p155 := eq_true p155; replace q155 := eq_true q155) | ((with_reducible refine gate_callee (f := 17) rfl ?_); (with_reducible refine gate_dst (N := 88) rfl ?_); (refine gate_guard (by rfl) ?_; dsimp only); refine goesL_ (some 88) rfl rfl Try.func17 (by kernel_rfl) rfl #[.int .i64 t148] rfl (by (try simp only [List.map_toArray, List.map_cons, List.map_nil]); first | done | rfl | (simp only [List.length_drop, List.length_take]; rfl)) ?_; (with_reducible refine (aquiferlaw1_Num.calls t148 t156 _ A30.out).mono ?_); rintro e w' ⟨rfl, ⟨nd, rfl⟩⟩; refine ⟨_, rfl, ?_⟩) | ((with_reducible refine gate_callee (f := 20) rfl ?_); (with_reducible refine gate_dst (N := 96) rfl ?_); (refine gate_guard (by rfl) ?_; dsimp only); refine goesL_ (some 96) rfl rfl Try.func20 (by kernel_rfl) rfl #[] rfl (by (try simp only [List.map_toArray, List.map_cons, List.map_nil]); first | done | rfl | (simp only [List.length_drop, List.length_take]; rfl)) ?_; (with_reducible refine (aquiferlaw11_awake.calls k  t157 _ A33.out).mono ?_); rintro e w46 ⟨rfl, hb⟩; refine ⟨_, rfl, ?_⟩; have n0_ := Aside0.mk (Kd.R_below (by (with_reducible repeat (first | apply Kd.R_alloc | apply Kd.R_drewN | apply Kd.R_drew)); exact HO132.out) hb); have n1_ := Aside0.mk (Kd.R_below (by (with_reducible repeat (first | apply Kd.R_alloc | apply Kd.R_drewN | apply Kd.R_drew)); exact HO138.out) hb); have n2_ := Aside0.mk (Kd.R_below (by (with_reducible repeat (first | apply Kd.R_alloc | apply Kd.R_drewN | apply Kd.R_drew)); exact HO143.out) hb); have n3_ := Aside0.mk (Kd.R_below (by (with_reducible repeat (first | apply Kd.R_alloc | apply Kd.R_drewN | apply Kd.R_drew)); exact HO146.out) hb); have n4_ := Aside0.mk (Kd.R_below (by (with_reducible repeat (first | apply Kd.R_alloc | apply Kd.R_drewN | apply Kd.R_drew)); exact HO151.out) hb); have n5_ := Aside0.mk (below_step (by repeat (first | (with_reducible first | exact HB.out | apply below_alloc | apply pw_below_drewN | apply below_drew1) | exact HB.out)) hb); clear HO132; clear HO138; clear HO143; clear HO146; clear HO151; clear HB; have HO132 := n0_; have HO138 := n1_; have HO143 := n2_; have HO146 := n3_; have HO151 := n4_; have HB := n5_; clear n0_ n1_ n2_ n3_ n4_ n5_; (try clear hb); (try clear hb2); (try clear hk); (try clear hi)))
                                            go_ret
                                            exact ⟨by first | rfl | (simp [errW_none, errW_some] <;> rfl) | (simp only [← hji3]; first | rfl | (simp [errW_none, errW_some] <;> rfl)) | (simp [*, errW_none, errW_some] <;> rfl), by repeat (first | (with_reducible first | exact HB.out | apply below_alloc | apply pw_below_drewN | apply below_drew1) | exact HB.out)⟩
                                          · rw [if_neg c32] at H
                                            have c32b0 : (t149 == 2) = false := beq_eq_false_iff_ne.mpr c32
                                            have c32b1 : (t149 != 2) = true := bne_iff_ne.mpr c32
                                            exact absurd (HLT_.out.symm.trans (Option.some.inj H).symm) (by decide)
                                        · rw [if_neg c31] at H
                                          have c31b0 : (t156 == 10) = false := beq_eq_false_iff_ne.mpr c31
                                          have c31b1 : (t156 != 10) = true := bne_iff_ne.mpr c31
                                          exact absurd (HLT_.out.symm.trans (Option.some.inj H).symm) (by decide)
                                      · rw [if_neg c29] at H
                                        have c29b0 : ((t139.length : Int) == 5) = false := beq_eq_false_iff_ne.mpr c29
                                        have c29b1 : ((t139.length : Int) != 5) = true := bne_iff_ne.mpr c29
                                        exact absurd (HLT_.out.symm.trans (Option.some.inj H).symm) (by decide)
                                    · rw [if_neg c28] at H
                                      have c28b0 : (((rd_T49 t134 1).f1).toList == (rdOf ByteArray.empty y130 (ji3)).toList) = false := beq_eq_false_iff_ne.mpr c28
                                      have c28b1 : (((rd_T49 t134 1).f1).toList != (rdOf ByteArray.empty y130 (ji3)).toList) = true := bne_iff_ne.mpr c28
                                      exact absurd (HLT_.out.symm.trans (Option.some.inj H).symm) (by decide)
                                  · rw [if_neg c27] at H
                                    exact absurd H (by simp)
                                · rw [if_neg c26] at H
                                  have c26b0 : ((t134.length : Int) == 4) = false := beq_eq_false_iff_ne.mpr c26
                                  have c26b1 : ((t134.length : Int) != 4) = true := bne_iff_ne.mpr c26
                                  exact absurd (HLT_.out.symm.trans (Option.some.inj H).symm) (by decide)
                              · rw [if_neg c25] at H
                                have c25b0 : (t154 == 0) = false := beq_eq_false_iff_ne.mpr c25
                                have c25b1 : (t154 != 0) = true := bne_iff_ne.mpr c25
                                exact absurd (HLT_.out.symm.trans (Option.some.inj H).symm) (by decide)
                            · rw [if_neg c23] at H
                              have c23b0 : (t153 == 0) = false := beq_eq_false_iff_ne.mpr c23
                              have c23b1 : (t153 != 0) = true := bne_iff_ne.mpr c23
                              replace H := Option.bind_eq_some_iff.mp H
                              obtain ⟨t158, A470, H⟩ := H
                              replace H : (if t158 = 0 then (if (t134.length : Int) = 4 then (if 1 < (t134.length : Int) then (if ((rd_T49 t134 1).f1).toList = (rdOf ByteArray.empty y130 (ji3)).toList then (some false) else (some false)) else (none)) else (some false)) else (some false)) = some r := H
                              have A47 := Aside0.mk A470
                              clear A470
                              by_cases c48 : t158 = 0
                              · rw [if_pos c48] at H
                                have c48b0 : (t158 == 0) = true := beq_iff_eq.mpr c48
                                have c48b1 : (t158 != 0) = false := bne_eq_false_iff_eq.mpr c48
                                clear c48
                                by_cases c49 : (t134.length : Int) = 4
                                · rw [if_pos c49] at H
                                  have c49b0 : ((t134.length : Int) == 4) = true := beq_iff_eq.mpr c49
                                  have c49b1 : ((t134.length : Int) != 4) = false := bne_eq_false_iff_eq.mpr c49
                                  clear c49
                                  by_cases c50 : 1 < (t134.length : Int)
                                  · rw [if_pos c50] at H
                                    have c50b0 : decide (1 < (t134.length : Int)) = true := decide_eq_true c50
                                    have c50b1 : decide (1 < t134.length) = true := decide_eq_true (by omega)
                                    clear c50
                                    by_cases c51 : ((rd_T49 t134 1).f1).toList = (rdOf ByteArray.empty y130 (ji3)).toList
                                    · rw [if_pos c51] at H
                                      have c51b0 : (((rd_T49 t134 1).f1).toList == (rdOf ByteArray.empty y130 (ji3)).toList) = true := beq_iff_eq.mpr c51
                                      have c51b1 : (((rd_T49 t134 1).f1).toList != (rdOf ByteArray.empty y130 (ji3)).toList) = false := bne_eq_false_iff_eq.mpr c51
                                      clear c51
                                      exact absurd (HLT_.out.symm.trans (Option.some.inj H).symm) (by decide)
                                    · rw [if_neg c51] at H
                                      have c51b0 : (((rd_T49 t134 1).f1).toList == (rdOf ByteArray.empty y130 (ji3)).toList) = false := beq_eq_false_iff_ne.mpr c51
                                      have c51b1 : (((rd_T49 t134 1).f1).toList != (rdOf ByteArray.empty y130 (ji3)).toList) = true := bne_iff_ne.mpr c51
                                      exact absurd (HLT_.out.symm.trans (Option.some.inj H).symm) (by decide)
                                  · rw [if_neg c50] at H
                                    exact absurd H (by simp)
                                · rw [if_neg c49] at H
                                  have c49b0 : ((t134.length : Int) == 4) = false := beq_eq_false_iff_ne.mpr c49
                                  have c49b1 : ((t134.length : Int) != 4) = true := bne_iff_ne.mpr c49
                                  exact absurd (HLT_.out.symm.trans (Option.some.inj H).symm) (by decide)
                              · rw [if_neg c48] at H
                                have c48b0 : (t158 == 0) = false := beq_eq_false_iff_ne.mpr c48
                                have c48b1 : (t158 != 0) = true := bne_iff_ne.mpr c48
                                exact absurd (HLT_.out.symm.trans (Option.some.inj H).symm) (by decide)
                          · rw [if_neg c21] at H
                            have c21b0 : decide ((ji3) < 2) = false := decide_eq_false c21
                            clear c21
                            replace H := Option.bind_eq_some_iff.mp H
                            obtain ⟨t160, A520, H⟩ := H
                            replace H : (if t160 = 0 then (if (t134.length : Int) = 4 then (if 1 < (t134.length : Int) then (if ((rd_T49 t134 1).f1).toList = (rdOf ByteArray.empty y130 (ji3)).toList then (if t152 = 10 then ((aquiferlaw1_Num.f t148).bind fun t162 => (if t162 = 10 then (if t149 = 2 then ((aquiferlaw11_awake.f k).bind fun t163 => (some t163)) else (some false)) else (some false))) else (some false)) else (some false)) else (none)) else (some false)) else (some false)) = some r := H
                            have A52 := Aside0.mk A520
                            clear A520
                            by_cases c53 : t160 = 0
                            · rw [if_pos c53] at H
                              have c53b0 : (t160 == 0) = true := beq_iff_eq.mpr c53
                              have c53b1 : (t160 != 0) = false := bne_eq_false_iff_eq.mpr c53
                              clear c53
                              by_cases c54 : (t134.length : Int) = 4
                              · rw [if_pos c54] at H
                                have c54b0 : ((t134.length : Int) == 4) = true := beq_iff_eq.mpr c54
                                have c54b1 : ((t134.length : Int) != 4) = false := bne_eq_false_iff_eq.mpr c54
                                clear c54
                                by_cases c55 : 1 < (t134.length : Int)
                                · rw [if_pos c55] at H
                                  have c55b0 : decide (1 < (t134.length : Int)) = true := decide_eq_true c55
                                  have c55b1 : decide (1 < t134.length) = true := decide_eq_true (by omega)
                                  clear c55
                                  by_cases c56 : ((rd_T49 t134 1).f1).toList = (rdOf ByteArray.empty y130 (ji3)).toList
                                  · rw [if_pos c56] at H
                                    have c56b0 : (((rd_T49 t134 1).f1).toList == (rdOf ByteArray.empty y130 (ji3)).toList) = true := beq_iff_eq.mpr c56
                                    have c56b1 : (((rd_T49 t134 1).f1).toList != (rdOf ByteArray.empty y130 (ji3)).toList) = false := bne_eq_false_iff_eq.mpr c56
                                    clear c56
                                    by_cases c57 : t152 = 10
                                    · rw [if_pos c57] at H
                                      have c57b0 : (t152 == 10) = true := beq_iff_eq.mpr c57
                                      have c57b1 : (t152 != 10) = false := bne_eq_false_iff_eq.mpr c57
                                      clear c57
                                      replace H := Option.bind_eq_some_iff.mp H
                                      obtain ⟨t162, A580, H⟩ := H
                                      replace H : (if t162 = 10 then (if t149 = 2 then ((aquiferlaw11_awake.f k).bind fun t163 => (some t163)) else (some false)) else (some false)) = some r := H
                                      have A58 := Aside0.mk A580
                                      clear A580
                                      by_cases c59 : t162 = 10
                                      · rw [if_pos c59] at H
                                        have c59b0 : (t162 == 10) = true := beq_iff_eq.mpr c59
                                        have c59b1 : (t162 != 10) = false := bne_eq_false_iff_eq.mpr c59
                                        clear c59
                                        by_cases c60 : t149 = 2
                                        · rw [if_pos c60] at H
                                          have c60b0 : (t149 == 2) = true := beq_iff_eq.mpr c60
                                          have c60b1 : (t149 != 2) = false := bne_eq_false_iff_eq.mpr c60
                                          clear c60
                                          replace H := Option.bind_eq_some_iff.mp H
                                          obtain ⟨t163, A610, H⟩ := H
                                          replace H : (some t163) = some r := H
                                          have A61 := Aside0.mk A610
                                          clear A610
                                          obtain rfl := Option.some.inj H
                                          go_enter Try.func11, Try.ntmps11
                                          try go_wp2_with (first | ((with_reducible refine gate_dst (N := 16) rfl ?_); (try (refine gate_guard (by rfl) ?_; dsimp only)); refine Kd.R_lit Kd.string _ 9 ?hg (N := 16) ?hd (xs := ([(⟨#[61, 61]⟩ : ByteArray), (⟨#[60, 61]⟩ : ByteArray), (⟨#[45, 62]⟩ : ByteArray)] : List ByteArray)) (inner := [.string (⟨#[61, 61]⟩ : ByteArray), .string (⟨#[60, 61]⟩ : ByteArray), .string (⟨#[45, 62]⟩ : ByteArray)]) (ok := fun _ => True) (okp := fun _ => True) ?hr ?hp (fun _ hk => hk) trivial (Below.refl _ _) (Nat.le_refl _) (by simp) ?_; (case hd => rfl); (case hg => rfl); (case hr => first | (go_simp; done) | (go_simp; rfl)); (case hp => exact (Reps.one (show Kd.M Kd.string _ _ _ (⟨#[61, 61]⟩ : ByteArray) [.string (⟨#[61, 61]⟩ : ByteArray)] from rfl) (Reps.one (show Kd.M Kd.string _ _ _ (⟨#[60, 61]⟩ : ByteArray) [.string (⟨#[60, 61]⟩ : ByteArray)] from rfl) (Reps.one (show Kd.M Kd.string _ _ _ (⟨#[45, 62]⟩ : ByteArray) [.string (⟨#[45, 62]⟩ : ByteArray)] from rfl) (Reps.none _ _))))); intro v131 w62 ho63 hb hg_ hnew_; clear hg_ hnew_; (first | rw [← Ny130.out] at ho63 | (simp only [Int.reduceToNat] at ho63; rw [← Ny130.out] at ho63)); have n0_ := Aside0.mk (Kd.R_lower ho63 (below_size (by repeat (first | (with_reducible first | exact HB.out | apply below_alloc | apply pw_below_drewN | apply below_drew1) | exact HB.out)))); have n1_ := Aside0.mk (below_step (by repeat (first | (with_reducible first | exact HB.out | apply below_alloc | apply pw_below_drewN | apply below_drew1) | exact HB.out)) hb); clear HB; have HO132 := n0_; have HB := n1_; clear n0_ n1_; clear hb ho63; obtain ⟨Ao64, co64, eo64⟩ := Kd.R_slice HO132.out; subst eo64; have p133 : 0 ≤ ((ji3) : Int) := of_decide_eq_true (by first | (with_reducible assumption) | assumption); have q133 : (ji3) < (y130.length : Int) := of_decide_eq_true (by first | (with_reducible assumption) | assumption); obtain ⟨ad133, e133, hx133_0⟩ := Kd.at_string (Kd.R_reads' HO132.out).2.2 (ji3) p133 q133; cases e133; replace p133 := eq_true p133; replace q133 := eq_true q133) | ((with_reducible refine gate_callee (f := 21) rfl ?_); refine goesL_ (some 25) rfl rfl Try.func21 (by kernel_rfl) rfl #[.string (((⟨#[97]⟩ : ByteArray) ++ (rdOf ByteArray.empty y130 (ji3))) ++ (⟨#[98]⟩ : ByteArray))] rfl (by (try simp only [List.map_toArray, List.map_cons, List.map_nil]); first | done | (simp only [hji3]; rfl) | rfl | (simp only [List.length_drop, List.length_take]; rfl)) ?_; (with_reducible refine (lex_Lex.calls k (((⟨#[97]⟩ : ByteArray) ++ (rdOf ByteArray.empty y130 (ji3))) ++ (⟨#[98]⟩ : ByteArray)) t134 t135 t136 _ A8.out).mono ?_); rintro e w65 ⟨v137, rfl, ho0, hb⟩; refine ⟨_, rfl, ?_⟩; have n0_ := Aside0.mk (Kd.R_below (by (with_reducible repeat (first | apply Kd.R_alloc | apply Kd.R_drewN | apply Kd.R_drew)); exact HO132.out) hb); have n1_ := Aside0.mk (Kd.R_lower ho0 (below_size (by repeat (first | (with_reducible first | exact HB.out | apply below_alloc | apply pw_below_drewN | apply below_drew1) | exact HB.out)))); have n2_ := Aside0.mk (below_step (by repeat (first | (with_reducible first | exact HB.out | apply below_alloc | apply pw_below_drewN | apply below_drew1) | exact HB.out)) hb); clear HO132; clear HB; have HO132 := n0_; have HO138 := n1_; have HB := n2_; clear n0_ n1_ n2_; (try clear hb); (try clear hb2); (try clear hk); (try clear hi); (try clear ho0)))
                                          have n0_ := Aside0.mk (Kd.R_drew HO132.out)
                                          have n1_ := Aside0.mk (Kd.R_drew HO138.out)
                                          have n2_ := Aside0.mk (below_drew1 HB.out)
                                          clear HO132
                                          clear HO138
                                          clear HB
                                          have HO132 := n0_
                                          have HO138 := n1_
                                          have HB := n2_
                                          clear n0_ n1_ n2_
                                          refine start_ (n := 16) (S := fun w' => True) (ds := []) #[false, false, false, false, false, false, false, false, false, false, false, false, false, false, false, false] (by kernel_rfl) rfl rfl trivial (fun hHeld => ?_); refine with_tabW aquiferlaw11_LexSigns.tab3 aquiferlaw11_LexSigns.bits3 (fun HT_ HW_ => ?_)
                                          generalize w65.drew = w66 at HO132 HO138 HB hHeld ⊢
                                          refine pure_ (i := 0) (N := some 30) (v := ?_) (a' := ?_) #[true, false, false, false, false, false, false, false, false, false, false, false, false, false, false, false] rfl rfl (any_of HT_.out (by kernel_rfl)) (fun _ _ _ h => h) (Or.inl ⟨by rfl, ?_⟩) ?_ ?_
                                          rotate_left
                                          · intro w'
                                            go_simp
                                            with_reducible rfl
                                          rotate_left
                                          · simp only [Act.put, List.setIfInBounds_toArray, List.set_cons_zero, List.set_cons_succ, i64_w, i32_w]
                                            rfl
                                          refine pure_ (i := 1) (N := some 31) (v := ?_) (a' := ?_) #[true, true, false, false, false, false, false, false, false, false, false, false, false, false, false, false] rfl rfl (any_of HT_.out (by kernel_rfl)) (fun _ _ _ h => h) (Or.inl ⟨by rfl, ?_⟩) ?_ ?_
                                          rotate_left
                                          · intro w'
                                            go_simp
                                            with_reducible rfl
                                          rotate_left
                                          · simp only [Act.put, List.setIfInBounds_toArray, List.set_cons_zero, List.set_cons_succ, i64_w, i32_w]
                                            rfl
                                          refine pure_ (i := 2) (N := some 32) (v := ?_) (a' := ?_) #[true, true, true, false, false, false, false, false, false, false, false, false, false, false, false, false] rfl rfl (any_of HT_.out (by kernel_rfl)) (fun _ _ _ h => h) (Or.inl ⟨by rfl, ?_⟩) ?_ ?_
                                          rotate_left
                                          · intro w'
                                            go_simp
                                            with_reducible rfl
                                          rotate_left
                                          · simp only [Act.put, List.setIfInBounds_toArray, List.set_cons_zero, List.set_cons_succ, i64_w, i32_w]
                                            rfl
                                          refine pure_ (i := 3) (N := some 33) (v := ?_) (a' := ?_) #[true, true, true, true, false, false, false, false, false, false, false, false, false, false, false, false] rfl rfl (any_of HT_.out (by kernel_rfl)) (fun _ _ _ h => h) (Or.inl ⟨by rfl, ?_⟩) ?_ ?_
                                          rotate_left
                                          · intro w'
                                            go_simp
                                            with_reducible rfl
                                          rotate_left
                                          · simp only [Act.put, List.setIfInBounds_toArray, List.set_cons_zero, List.set_cons_succ, i64_w, i32_w]
                                            rfl
                                          refine pure_ (i := 4) (N := some 34) (v := ?_) (a' := ?_) #[true, true, true, true, true, false, false, false, false, false, false, false, false, false, false, false] rfl rfl (any_of HT_.out (by kernel_rfl)) (fun _ _ _ h => h) (Or.inl ⟨by rfl, ?_⟩) ?_ ?_
                                          rotate_left
                                          · intro w'
                                            go_simp
                                            with_reducible rfl
                                          rotate_left
                                          · simp only [Act.put, List.setIfInBounds_toArray, List.set_cons_zero, List.set_cons_succ, i64_w, i32_w]
                                            rfl
                                          refine pure_ (i := 5) (N := some 35) (v := ?_) (a' := ?_) #[true, true, true, true, true, true, false, false, false, false, false, false, false, false, false, false] rfl rfl (any_of HT_.out (by kernel_rfl)) (fun _ _ _ h => h) (Or.inl ⟨by rfl, ?_⟩) ?_ ?_
                                          rotate_left
                                          · intro w'
                                            go_simp
                                            with_reducible rfl
                                          rotate_left
                                          · simp only [Act.put, List.setIfInBounds_toArray, List.set_cons_zero, List.set_cons_succ, i64_w, i32_w]
                                            rfl
                                          refine pure_ (i := 6) (N := some 36) (v := ?_) (a' := ?_) #[true, true, true, true, true, true, true, false, false, false, false, false, false, false, false, false] rfl rfl (any_of HT_.out (by kernel_rfl)) (fun _ _ _ h => h) (Or.inl ⟨by rfl, ?_⟩) ?_ ?_
                                          rotate_left
                                          · intro w'
                                            go_simp
                                            with_reducible rfl
                                          rotate_left
                                          · simp only [Act.put, List.setIfInBounds_toArray, List.set_cons_zero, List.set_cons_succ, i64_w, i32_w]
                                            rfl
                                          refine pure_ (i := 7) (N := some 37) (v := ?_) (a' := ?_) #[true, true, true, true, true, true, true, true, false, false, false, false, false, false, false, false] rfl rfl (any_of HT_.out (by kernel_rfl)) (fun _ _ _ h => h) (Or.inl ⟨by rfl, ?_⟩) ?_ ?_
                                          rotate_left
                                          · intro w'
                                            go_simp
                                            with_reducible rfl
                                          rotate_left
                                          · simp only [Act.put, List.setIfInBounds_toArray, List.set_cons_zero, List.set_cons_succ, i64_w, i32_w]
                                            rfl
                                          refine one_ (i := 8) (N := some 38) #[true, true, true, true, true, true, true, true, true, false, false, false, false, false, false, false] rfl rfl (one_of HT_.out (by kernel_rfl)) (by decide) (fun K hK => ?_)
                                          refine goes_ Try.func21 (by kernel_rfl) rfl #[.string (((((⟨#[97]⟩ : ByteArray) ++ ((rdOf ByteArray.empty y130 (ji3)).extract 0 1)) ++ (⟨#[32]⟩ : ByteArray)) ++ ((rdOf ByteArray.empty y130 (ji3)).extract 1 (rdOf ByteArray.empty y130 (ji3)).size)) ++ (⟨#[98]⟩ : ByteArray))] (by rfl) rfl rfl (by (try simp only [List.map_toArray, List.map_cons, List.map_nil]); first | done | (simp only [hji3]; rfl) | rfl | (simp only [List.length_drop, List.length_take]; rfl)) ?_
                                          with_reducible refine (lex_Lex.calls k (((((⟨#[97]⟩ : ByteArray) ++ ((rdOf ByteArray.empty y130 (ji3)).extract 0 1)) ++ (⟨#[32]⟩ : ByteArray)) ++ ((rdOf ByteArray.empty y130 (ji3)).extract 1 (rdOf ByteArray.empty y130 (ji3)).size)) ++ (⟨#[98]⟩ : ByteArray)) t139 t140 t141 _ A16.out).mono ?_
                                          rintro e w67 ⟨v142, rfl, ho0, hb⟩
                                          refine ⟨_, rfl, ?_⟩
                                          have n0_ := Aside0.mk (Kd.R_below (by (with_reducible repeat (first | apply Kd.R_alloc | apply Kd.R_drewN | apply Kd.R_drew)); exact HO132.out) hb)
                                          have n1_ := Aside0.mk (Kd.R_elder' (by (with_reducible repeat (first | apply Kd.R_alloc | apply Kd.R_drewN | apply Kd.R_drew)); exact HO138.out) (Kd.R_base ho0) hb)
                                          have n2_ := Aside0.mk (Kd.R_lower (Kd.R_new' ho0 (Kd.R_lt (by (with_reducible repeat (first | apply Kd.R_alloc | apply Kd.R_drewN | apply Kd.R_drew)); exact HO138.out))) (below_size (by repeat (first | (with_reducible first | exact HB.out | apply below_alloc | apply pw_below_drewN | apply below_drew1) | exact HB.out))))
                                          have n3_ := Aside0.mk (below_step (by repeat (first | (with_reducible first | exact HB.out | apply below_alloc | apply pw_below_drewN | apply below_drew1) | exact HB.out)) hb)
                                          clear HO132
                                          clear HO138
                                          clear HB
                                          have HO132 := n0_
                                          have HO138 := n1_
                                          have HO143 := n2_
                                          have HB := n3_
                                          clear n0_ n1_ n2_ n3_
                                          (try clear hb)
                                          (try clear hb2)
                                          (try clear hk)
                                          (try clear hi)
                                          (try clear ho0)
                                          refine hK.out _ _ trivial (fun hHeld => ?_)
                                          clear hK K
                                          refine norm_ (a' := ?_) ?_ ?_
                                          rotate_left
                                          · show Act.put _ (some 38) _ = _
                                            simp only [Act.put, List.setIfInBounds_toArray, List.set_cons_zero, List.set_cons_succ, i64_w, i32_w]
                                            rfl
                                          refine pure_ (i := 9) (N := some 29) (v := ?_) (a' := ?_) #[true, true, true, true, true, true, true, true, true, true, false, false, false, false, false, false] rfl rfl (any_of HT_.out (by kernel_rfl)) (fun _ _ _ h => h) (Or.inl ⟨by rfl, ?_⟩) ?_ ?_
                                          rotate_left
                                          · intro w'
                                            go_simp
                                            with_reducible rfl
                                          rotate_left
                                          · simp only [Act.put, List.setIfInBounds_toArray, List.set_cons_zero, List.set_cons_succ, i64_w, i32_w]
                                            rfl
                                          refine pure_ (i := 10) (N := some 39) (v := ?_) (a' := ?_) #[true, true, true, true, true, true, true, true, true, true, true, false, false, false, false, false] rfl rfl (any_of HT_.out (by kernel_rfl)) (fun _ _ _ h => h) (Or.inl ⟨by rfl, ?_⟩) ?_ ?_
                                          rotate_left
                                          · intro w'
                                            go_simp
                                            with_reducible rfl
                                          rotate_left
                                          · simp only [Act.put, List.setIfInBounds_toArray, List.set_cons_zero, List.set_cons_succ, i64_w, i32_w]
                                            rfl
                                          refine pure_ (i := 11) (N := some 40) (v := ?_) (a' := ?_) #[true, true, true, true, true, true, true, true, true, true, true, true, false, false, false, false] rfl rfl (any_of HT_.out (by kernel_rfl)) (fun _ _ _ h => h) (Or.inl ⟨by rfl, ?_⟩) ?_ ?_
                                          rotate_left
                                          · intro w'
                                            go_simp
                                            with_reducible rfl
                                          rotate_left
                                          · simp only [Act.put, List.setIfInBounds_toArray, List.set_cons_zero, List.set_cons_succ, i64_w, i32_w]
                                            rfl
                                          refine pure_ (i := 12) (N := some 41) (v := ?_) (a' := ?_) #[true, true, true, true, true, true, true, true, true, true, true, true, true, false, false, false] rfl rfl (any_of HT_.out (by kernel_rfl)) (fun _ _ _ h => h) (Or.inl ⟨by rfl, ?_⟩) ?_ ?_
                                          rotate_left
                                          · intro w'
                                            go_simp
                                            with_reducible rfl
                                          rotate_left
                                          · simp only [Act.put, List.setIfInBounds_toArray, List.set_cons_zero, List.set_cons_succ, i64_w, i32_w]
                                            rfl
                                          refine pure_ (i := 13) (N := some 9) (v := ?_) (a' := ?_) #[true, true, true, true, true, true, true, true, true, true, true, true, true, true, false, false] rfl rfl (any_of HT_.out (by kernel_rfl)) (fun _ _ _ h => h) (Or.inl ⟨by rfl, ?_⟩) ?_ ?_
                                          rotate_left
                                          · intro w'
                                            go_simp
                                            with_reducible rfl
                                          rotate_left
                                          · simp only [Act.put, List.setIfInBounds_toArray, List.set_cons_zero, List.set_cons_succ, i64_w, i32_w]
                                            rfl
                                          refine pure_ (i := 14) (N := some 10) (v := ?_) (a' := ?_) #[true, true, true, true, true, true, true, true, true, true, true, true, true, true, true, false] rfl rfl (any_of HT_.out (by kernel_rfl)) (fun _ _ _ h => h) (Or.inl ⟨by rfl, ?_⟩) ?_ ?_
                                          rotate_left
                                          · intro w'
                                            go_simp
                                            with_reducible rfl
                                          rotate_left
                                          · simp only [Act.put, List.setIfInBounds_toArray, List.set_cons_zero, List.set_cons_succ, i64_w, i32_w]
                                            rfl
                                          refine pure_ (i := 15) (N := some 11) (v := ?_) (a' := ?_) #[true, true, true, true, true, true, true, true, true, true, true, true, true, true, true, true] rfl rfl (any_of HT_.out (by kernel_rfl)) (fun _ _ _ h => h) (Or.inl ⟨by rfl, ?_⟩) ?_ ?_
                                          rotate_left
                                          · intro w'
                                            go_simp
                                            with_reducible rfl
                                          rotate_left
                                          · simp only [Act.put, List.setIfInBounds_toArray, List.set_cons_zero, List.set_cons_succ, i64_w, i32_w]
                                            rfl
                                          refine done_ (done_of HT_.out (by kernel_rfl)) ?_
                                          try go_wp2_with (first | ((with_reducible refine gate_dst (N := 45) rfl ?_); (try (refine gate_guard (by rfl) ?_; dsimp only)); refine Kd.R_lit (Kd.int .u8) _ 5 ?hg (N := 45) ?hd (xs := ([Go.bits .or .u8 a1 128] : List Int)) (inner := [.int .u8 (Go.bits .or .u8 a1 128)]) (ok := fun _ => True) (okp := fun _ => True) ?hr ?hp (fun _ hk => hk) trivial (Below.refl _ _) (Nat.le_refl _) (by simp) ?_; (case hd => rfl); (case hg => rfl); (case hr => first | (go_simp; done) | (go_simp; rfl)); (case hp => exact (Reps.one (show Kd.M (Kd.int .u8) _ _ _ (Go.bits .or .u8 a1 128) [.int .u8 (Go.bits .or .u8 a1 128)] from rfl) (Reps.none _ _))); intro v145 w68 ho69 hb hg_ hnew_; clear hg_ hnew_; (first | rw [← Ny144.out] at ho69 | (simp only [Int.reduceToNat] at ho69; rw [← Ny144.out] at ho69)); have n0_ := Aside0.mk (Kd.R_below (by (with_reducible repeat (first | apply Kd.R_alloc | apply Kd.R_drewN | apply Kd.R_drew)); exact HO132.out) hb); have n1_ := Aside0.mk (Kd.R_below (by (with_reducible repeat (first | apply Kd.R_alloc | apply Kd.R_drewN | apply Kd.R_drew)); exact HO138.out) hb); have n2_ := Aside0.mk (Kd.R_below (by (with_reducible repeat (first | apply Kd.R_alloc | apply Kd.R_drewN | apply Kd.R_drew)); exact HO143.out) hb); have n3_ := Aside0.mk (Kd.R_lower ho69 (below_size (by repeat (first | (with_reducible first | exact HB.out | apply below_alloc | apply pw_below_drewN | apply below_drew1) | exact HB.out)))); have n4_ := Aside0.mk (below_step (by repeat (first | (with_reducible first | exact HB.out | apply below_alloc | apply pw_below_drewN | apply below_drew1) | exact HB.out)) hb); clear HO132; clear HO138; clear HO143; clear HB; have HO132 := n0_; have HO138 := n1_; have HO143 := n2_; have HO146 := n3_; have HB := n4_; clear n0_ n1_ n2_ n3_ n4_; clear hb ho69; have hcv70 := own_string (P := Try.prog) Try.underlying22 Try.underlying5 Try.underlying9 (Kd.own_of_R HO146.out); have hcw70 := fun (nq_ : Nat) => own_string (P := Try.prog) Try.underlying22 Try.underlying5 Try.underlying9 (Kd.own_of_R (Kd.R_drewN HO146.out nq_))) | ((with_reducible refine gate_callee (f := 21) rfl ?_); refine goesL_ (some 49) rfl rfl Try.func21 (by kernel_rfl) rfl #[.string (((⟨#[97, 32]⟩ : ByteArray) ++ (strOfNums y144)) ++ (⟨#[32, 98]⟩ : ByteArray))] rfl (by (try simp only [List.map_toArray, List.map_cons, List.map_nil]); first | done | rfl | (simp only [List.length_drop, List.length_take]; rfl)) ?_; (with_reducible refine (lex_Lex.calls k (((⟨#[97, 32]⟩ : ByteArray) ++ (strOfNums y144)) ++ (⟨#[32, 98]⟩ : ByteArray)) t147 t148 t149 _ A19.out).mono ?_); rintro e w71 ⟨v150, rfl, ho0, hb⟩; refine ⟨_, rfl, ?_⟩; have n0_ := Aside0.mk (Kd.R_below (by (with_reducible repeat (first | apply Kd.R_alloc | apply Kd.R_drewN | apply Kd.R_drew)); exact HO132.out) hb); have n1_ := Aside0.mk (Kd.R_elder' (by (with_reducible repeat (first | apply Kd.R_alloc | apply Kd.R_drewN | apply Kd.R_drew)); exact HO138.out) (Kd.R_base ho0) hb); have n2_ := Aside0.mk (Kd.R_elder' (by (with_reducible repeat (first | apply Kd.R_alloc | apply Kd.R_drewN | apply Kd.R_drew)); exact HO143.out) (Kd.R_base ho0) hb); have n3_ := Aside0.mk (Kd.R_below (by (with_reducible repeat (first | apply Kd.R_alloc | apply Kd.R_drewN | apply Kd.R_drew)); exact HO146.out) hb); have n4_ := Aside0.mk (Kd.R_lower (Kd.R_new' (Kd.R_new' ho0 (Kd.R_lt (by (with_reducible repeat (first | apply Kd.R_alloc | apply Kd.R_drewN | apply Kd.R_drew)); exact HO138.out))) (Kd.R_lt (by (with_reducible repeat (first | apply Kd.R_alloc | apply Kd.R_drewN | apply Kd.R_drew)); exact HO143.out))) (below_size (by repeat (first | (with_reducible first | exact HB.out | apply below_alloc | apply pw_below_drewN | apply below_drew1) | exact HB.out)))); have n5_ := Aside0.mk (below_step (by repeat (first | (with_reducible first | exact HB.out | apply below_alloc | apply pw_below_drewN | apply below_drew1) | exact HB.out)) hb); clear HO132; clear HO138; clear HO143; clear HO146; clear HB; have HO132 := n0_; have HO138 := n1_; have HO143 := n2_; have HO146 := n3_; have HO151 := n4_; have HB := n5_; clear n0_ n1_ n2_ n3_ n4_ n5_; (try clear hb); (try clear hb2); (try clear hk); (try clear hi); (try clear ho0)) | ((with_reducible refine gate_callee (f := 17) rfl ?_); refine goesL_ (some 54) rfl rfl Try.func17 (by kernel_rfl) rfl #[.int .i64 t140] rfl (by (try simp only [List.map_toArray, List.map_cons, List.map_nil]); first | done | rfl | (simp only [List.length_drop, List.length_take]; rfl)) ?_; (with_reducible refine (aquiferlaw1_Num.calls t140 t152 _ A20.out).mono ?_); rintro e w' ⟨rfl, ⟨nd, rfl⟩⟩; refine ⟨_, rfl, ?_⟩) | ((with_reducible refine gate_callee (f := 17) rfl ?_); refine goesL_ (some 68) rfl rfl Try.func17 (by kernel_rfl) rfl #[.int .i64 t135] rfl (by (try simp only [List.map_toArray, List.map_cons, List.map_nil]); first | done | rfl | (simp only [List.length_drop, List.length_take]; rfl)) ?_; (with_reducible refine (aquiferlaw1_Num.calls t135 t160 _ A52.out).mono ?_); rintro e w' ⟨rfl, ⟨nd, rfl⟩⟩; refine ⟨_, rfl, ?_⟩; obtain ⟨Ao72, co72, eo72⟩ := Kd.R_slice HO138.out; subst eo72; have p161 : 0 ≤ (1 : Int) := (by omega); have q161 : 1 < (t134.length : Int) := of_decide_eq_true (by first | (with_reducible assumption) | assumption); obtain ⟨ad161, e161, hx161_0, hx161_1, hx161_2⟩ := at_T49 (Kd.R_reads' HO138.out).2.2 1 p161 q161; cases e161; (try simp only [show (1 : Int).toNat = 1 from rfl, Nat.reduceMul, Nat.reduceEqDiff, Go.Addr.add, ↓reduceIte] at hx161_0); (try simp only [show (1 : Int).toNat = 1 from rfl, Nat.reduceMul, Nat.reduceEqDiff, Go.Addr.add, ↓reduceIte] at hx161_1); (try simp only [show (1 : Int).toNat = 1 from rfl, Nat.reduceMul, Nat.reduceEqDiff, Go.Addr.add, ↓reduceIte] at hx161_2); have qi161 : (1 < t134.length) = True := eq_true (by omega); (try rw [show ((1 : Int)).toNat = 1 from rfl] at hx161_0); (try rw [show 1 * 3 = 3 from rfl] at hx161_0); (try rw [show ((1 : Int)).toNat = 1 from rfl] at hx161_1); (try rw [show 1 * 3 = 3 from rfl] at hx161_1); (try rw [show ((1 : Int)).toNat = 1 from rfl] at hx161_2); (try rw [show 1 * 3 = 3 from rfl] at hx161_2); replace p161 := eq_true p161; replace q161 := eq_true q161) | ((with_reducible refine gate_callee (f := 17) rfl ?_); (with_reducible refine gate_dst (N := 88) rfl ?_); (refine gate_guard (by rfl) ?_; dsimp only); refine goesL_ (some 88) rfl rfl Try.func17 (by kernel_rfl) rfl #[.int .i64 t148] rfl (by (try simp only [List.map_toArray, List.map_cons, List.map_nil]); first | done | rfl | (simp only [List.length_drop, List.length_take]; rfl)) ?_; (with_reducible refine (aquiferlaw1_Num.calls t148 t162 _ A58.out).mono ?_); rintro e w' ⟨rfl, ⟨nd, rfl⟩⟩; refine ⟨_, rfl, ?_⟩) | ((with_reducible refine gate_callee (f := 20) rfl ?_); (with_reducible refine gate_dst (N := 96) rfl ?_); (refine gate_guard (by rfl) ?_; dsimp only); refine goesL_ (some 96) rfl rfl Try.func20 (by kernel_rfl) rfl #[] rfl (by (try simp only [List.map_toArray, List.map_cons, List.map_nil]); first | done | rfl | (simp only [List.length_drop, List.length_take]; rfl)) ?_; (with_reducible refine (aquiferlaw11_awake.calls k  t163 _ A61.out).mono ?_); rintro e w73 ⟨rfl, hb⟩; refine ⟨_, rfl, ?_⟩; have n0_ := Aside0.mk (Kd.R_below (by (with_reducible repeat (first | apply Kd.R_alloc | apply Kd.R_drewN | apply Kd.R_drew)); exact HO132.out) hb); have n1_ := Aside0.mk (Kd.R_below (by (with_reducible repeat (first | apply Kd.R_alloc | apply Kd.R_drewN | apply Kd.R_drew)); exact HO138.out) hb); have n2_ := Aside0.mk (Kd.R_below (by (with_reducible repeat (first | apply Kd.R_alloc | apply Kd.R_drewN | apply Kd.R_drew)); exact HO143.out) hb); have n3_ := Aside0.mk (Kd.R_below (by (with_reducible repeat (first | apply Kd.R_alloc | apply Kd.R_drewN | apply Kd.R_drew)); exact HO146.out) hb); have n4_ := Aside0.mk (Kd.R_below (by (with_reducible repeat (first | apply Kd.R_alloc | apply Kd.R_drewN | apply Kd.R_drew)); exact HO151.out) hb); have n5_ := Aside0.mk (below_step (by repeat (first | (with_reducible first | exact HB.out | apply below_alloc | apply pw_below_drewN | apply below_drew1) | exact HB.out)) hb); clear HO132; clear HO138; clear HO143; clear HO146; clear HO151; clear HB; have HO132 := n0_; have HO138 := n1_; have HO143 := n2_; have HO146 := n3_; have HO151 := n4_; have HB := n5_; clear n0_ n1_ n2_ n3_ n4_ n5_; (try clear hb); (try clear hb2); (try clear hk); (try clear hi)))
                                          go_ret
                                          exact ⟨by first | rfl | (simp [errW_none, errW_some] <;> rfl) | (simp only [← hji3]; first | rfl | (simp [errW_none, errW_some] <;> rfl)) | (simp [*, errW_none, errW_some] <;> rfl), by repeat (first | (with_reducible first | exact HB.out | apply below_alloc | apply pw_below_drewN | apply below_drew1) | exact HB.out)⟩
                                        · rw [if_neg c60] at H
                                          have c60b0 : (t149 == 2) = false := beq_eq_false_iff_ne.mpr c60
                                          have c60b1 : (t149 != 2) = true := bne_iff_ne.mpr c60
                                          exact absurd (HLT_.out.symm.trans (Option.some.inj H).symm) (by decide)
                                      · rw [if_neg c59] at H
                                        have c59b0 : (t162 == 10) = false := beq_eq_false_iff_ne.mpr c59
                                        have c59b1 : (t162 != 10) = true := bne_iff_ne.mpr c59
                                        exact absurd (HLT_.out.symm.trans (Option.some.inj H).symm) (by decide)
                                    · rw [if_neg c57] at H
                                      have c57b0 : (t152 == 10) = false := beq_eq_false_iff_ne.mpr c57
                                      have c57b1 : (t152 != 10) = true := bne_iff_ne.mpr c57
                                      exact absurd (HLT_.out.symm.trans (Option.some.inj H).symm) (by decide)
                                  · rw [if_neg c56] at H
                                    have c56b0 : (((rd_T49 t134 1).f1).toList == (rdOf ByteArray.empty y130 (ji3)).toList) = false := beq_eq_false_iff_ne.mpr c56
                                    have c56b1 : (((rd_T49 t134 1).f1).toList != (rdOf ByteArray.empty y130 (ji3)).toList) = true := bne_iff_ne.mpr c56
                                    exact absurd (HLT_.out.symm.trans (Option.some.inj H).symm) (by decide)
                                · rw [if_neg c55] at H
                                  exact absurd H (by simp)
                              · rw [if_neg c54] at H
                                have c54b0 : ((t134.length : Int) == 4) = false := beq_eq_false_iff_ne.mpr c54
                                have c54b1 : ((t134.length : Int) != 4) = true := bne_iff_ne.mpr c54
                                exact absurd (HLT_.out.symm.trans (Option.some.inj H).symm) (by decide)
                            · rw [if_neg c53] at H
                              have c53b0 : (t160 == 0) = false := beq_eq_false_iff_ne.mpr c53
                              have c53b1 : (t160 != 0) = true := bne_iff_ne.mpr c53
                              exact absurd (HLT_.out.symm.trans (Option.some.inj H).symm) (by decide)
                        · rw [if_neg c18] at H
                          exact absurd H (by simp)
                      · rw [if_neg c17] at H
                        exact absurd H (by simp)
                    · rw [if_neg c15] at H
                      exact absurd H (by simp)
                  · rw [if_neg c14] at H
                    exact absurd H (by simp)
                · rw [if_neg c12] at H
                  exact absurd H (by simp)
              · rw [if_neg c11] at H
                exact absurd H (by simp)
            · rw [if_neg c10] at H
              exact absurd H (by simp)
          · rw [if_neg c9] at H
            exact absurd H (by simp)
        · rw [if_neg c7] at H
          exact absurd H (by simp)
      · rw [if_neg c6] at H
        exact absurd H (by simp)
    · rw [if_neg c5] at H
      exact absurd H (by simp)
  · rw [if_neg c4] at H
    exact absurd H (by simp)

/-- THE ONE PURE STATEMENT of aquiferlaw11_LexSigns: yours. -/
def aquiferlaw11_LexSigns.Pure : Prop := ∀ (a0 : Int) (a1 : Int), (Lit.int .u8 a0).wf = true → (Lit.int .u8 a1).wf = true → ∃ k, aquiferlaw11_LexSigns.f k a0 a1 = some true
theorem aquiferlaw11_LexSigns.walk (P : aquiferlaw11_LexSigns.Pure) (a0 : Int) (a1 : Int) (w : World) (w0 : (Lit.int .u8 a0).wf = true) (w1 : (Lit.int .u8 a1).wf = true) :
    Calls Try.prog 11 #[.int .u8 a0, .int .u8 a1] w fun e w' => e = .returned (.bool true) ∧ Below w.heap.size w w' := by
  obtain ⟨k, h⟩ := P a0 a1 w0 w1
  refine (aquiferlaw11_LexSigns.calls k a0 a1 true w ⟨rfl⟩ h).mono ?_
  rintro e w' ⟨rfl, hd⟩
  exact ⟨rfl, hd⟩

end Go.Proofs.Ytlleenoigcjemaa.QLexSigns
