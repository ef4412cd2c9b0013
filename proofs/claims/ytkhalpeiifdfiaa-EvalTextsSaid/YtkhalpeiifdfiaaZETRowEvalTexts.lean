import Derived.Test.YtkhalpeiifdfiaaRows
import Derived.Test.YtkhalpeiifdfiaaZETPureEvalTexts
import Derived.WalkKit
import Derived.ProofKit
import Derived.OpenShut
import Derived.ShutString
import Derived.ChangeOld
import Derived.Below
import Derived.SizedLaws
import Derived.Test.YtkhalpeiifdfiaaZETWSized
import Derived.Test.YtkhalpeiifdfiaaZETOpens
namespace Go.Proofs.Ytkhalpeiifdfiaa.evalTexts
open Go.ChangeShapes Go.WideShapes Go.ChangeAt Go.RowKit Go.Proofs.Ytkhalpeiifdfiaa.QEvalTexts
open Go.ChangeMaps (open_string shut_string)
set_option linter.unusedVariables false
theorem own : ownKnob Try.prog.godebug = none := by kernel_rfl
theorem tells_32 {H : Type} {enc : TypeId × Value → H} {W : World} {base : Nat} {spare : Nat → Bool} {held : Bool} : Opens.Tells enc Try.prog W base spare held 32 k32 (fun _ => True) := by
 intro fuel cs x h
 obtain ⟨xs, n, _, _, hl, hn, hf⟩ := DataW.trod_struct Try.underlying32 h
 replace hl := hl.trans (show Try.prog.cellsOf 32 = 3 by kernel_rfl)
 replace hn : xs.length = 3 := hn
 rcases cs with _ | ⟨c0, cs⟩
 · exact absurd hl (by simp)
 rcases cs with _ | ⟨c1, cs⟩
 · exact absurd hl (by simp)
 rcases cs with _ | ⟨c2, cs⟩
 · exact absurd hl (by simp)
 rcases cs with _ | ⟨c3, cs⟩
 case cons => exact absurd hl (by simp)
 have z0 : DataW.trod enc Try.prog W base spare held n 9 [c0] = some (xs[0]'(by omega)) := by
  rw [← List.getElem?_eq_getElem (h := by omega)]
  exact (congrArg (DataW.trod enc Try.prog W base spare held n 9) (show [c0] = (([c0, c1, c2]).drop 0).take (Try.prog.cellsOf 9) by rw [show Try.prog.cellsOf 9 = 1 by kernel_rfl]; rfl)).trans (hf 0 _ rfl)
 have z1 : DataW.trod enc Try.prog W base spare held n 9 [c1] = some (xs[1]'(by omega)) := by
  rw [← List.getElem?_eq_getElem (h := by omega)]
  exact (congrArg (DataW.trod enc Try.prog W base spare held n 9) (show [c1] = (([c0, c1, c2]).drop 1).take (Try.prog.cellsOf 9) by rw [show Try.prog.cellsOf 9 = 1 by kernel_rfl]; rfl)).trans (hf 1 _ rfl)
 have z2 : DataW.trod enc Try.prog W base spare held n 3 [c2] = some (xs[2]'(by omega)) := by
  rw [← List.getElem?_eq_getElem (h := by omega)]
  exact (congrArg (DataW.trod enc Try.prog W base spare held n 3) (show [c2] = (([c0, c1, c2]).drop 2).take (Try.prog.cellsOf 3) by rw [show Try.prog.cellsOf 3 = 1 by kernel_rfl]; rfl)).trans (hf 2 _ rfl)
 obtain ⟨a0, e0, _, _⟩ := DataW.trod_string Try.underlying9 z0
 obtain rfl : c0 = .string a0 := by simpa using e0
 obtain ⟨a1, e1, _, _⟩ := DataW.trod_string Try.underlying9 z1
 obtain rfl : c1 = .string a1 := by simpa using e1
 obtain ⟨a2, e2, _, _⟩ := DataW.trod_int Try.underlying3 z2
 obtain rfl : c2 = .int .i64 a2 := by simpa using e2
 exact ⟨⟨a0, a1, a2⟩, k32_mk W ⟨a0, a1, a2⟩, trivial⟩
theorem laidOut : laidOutB Try.prog = true := by kernel_rfl
def IsRow (k : IntKind) (w : World) (a : Option Addr) (len cap : Nat) (zs : List Int) : Prop :=
 (a = none ∧ len = 0 ∧ cap = 0 ∧ zs = []) ∨
 ∃ x, a = some x ∧ len ≤ cap ∧ cap ≤ maxLen ∧ zs.length = cap ∧ (∀ i, i < zs.length → w.cell? (x.add i) = some (.int k (zs.getD i 0))) ∧ ∀ n ∈ zs, (Lit.int k n).wf = true
set_option maxRecDepth 100000 in
theorem lifted (os : Os) (started : os.Started) (H : Type) (enc : TypeId × Value → H) :
  ReturnsInHanded {} Try.checked os 3 .any (Rows.evalTextsSpec.pre6 enc Try.prog Try.f3 Rows.evalTextsRow.domain false) (Rows.evalTextsSpec.post enc Try.prog Try.f3 false true false false) := by
 refine returnsInHanded_of_change_sized (C := Try.checked) own started (by kernel_rfl) Try.func3
  (ChangeSpec.witness6 (enc := enc) (C := Try.checked) false ⟨#[], #[.string ByteArray.empty, .string ByteArray.empty, .slice none 0 0, .slice none 0 0], []⟩ 8 (by kernel_rfl) (by kernel_rfl) (by kernel_rfl) (by kernel_rfl)) ?_
 intro W base args ds gs before hval0 hW hcnd hsz0 _
 have hsz : (DataW.weightsEach Try.prog (Try.f3.params.toList ++ Rows.evalTextsSpec.plain.varTypes Try.prog) (ds ++ gs)).all (· ≤ reachBytes) = true := hsz0
 have hval : ∀ (j : Nat) t v, Try.f3.params[j]? = some t → args[j]? = some v → Value.okWide Try.prog W .any base t v := hval0
 have hW' := hW
 obtain ⟨p, q, hA0, hV, rfl, hfz, hnd⟩ := hW
 have hA : DataW.TrodAll enc Try.prog W 0 (fun _ => true) true Try.f3.params.toList args.toList ds p := hA0
 rw [Try.params3] at hA hval hsz
 obtain ⟨v0, vs0, d0, ds0, p0, q0, hargs, rfl, rfl, h0, r0⟩ := trodAll_cons hA
 obtain ⟨v1, vs1, d1, ds1, p1, q1, rfl, rfl, rfl, h1, r1⟩ := trodAll_cons r0
 obtain ⟨v2, vs2, d2, ds2, p2, q2, rfl, rfl, rfl, h2, r2⟩ := trodAll_cons r1
 obtain ⟨v3, vs3, d3, ds3, p3, q3, rfl, rfl, rfl, h3, r3⟩ := trodAll_cons r2
 obtain ⟨rfl, rfl, rfl⟩ := trodAll_nil r3
 obtain rfl : args = #[v0, v1, v2, v3] := by cases args; simp_all
 obtain ⟨rfl, rfl⟩ := trodVars_none hV
 obtain ⟨a0, rfl, rfl, rfl, y0⟩ := open_string Try.underlying9 (hval 0 9 v0 rfl rfl) h0
 have w0 : a0.size ≤ 140737488351232 := by
  have z := sized_string hsz (j := 0) (t := 9) rfl rfl
  rw [Array.length_toList] at z
  exact z
 obtain ⟨a1, rfl, rfl, rfl, y1⟩ := open_string Try.underlying9 (hval 1 9 v1 rfl rfl) h1
 have w1 : a1.size ≤ 140737488351232 := by
  have z := sized_string hsz (j := 1) (t := 9) rfl rfl
  rw [Array.length_toList] at z
  exact z
 obtain ⟨a2, len2, cap2, rfl⟩ := okWide_slice Try.underlying22 (hval 2 22 v2 rfl rfl)
 have k2 := h2
 have lt2 : ∀ x ∈ p2, x.block < W.heap.size := by obtain ⟨m, hm⟩ := k2; exact DataW.trod_lt m _ _ _ hm
 obtain ⟨z2, e2, w2, c2, y2, q2⟩ := Opens.handed hsz (j := 2) (t := 22) rfl rfl Try.underlying22 (by kernel_rfl) (B := 40) (by kernel_rfl) (tells_32) h2
 subst e2
 obtain ⟨a3, len3, cap3, rfl⟩ := okWide_slice Try.underlying22 (hval 3 22 v3 rfl rfl)
 have k3 := h3
 have lt3 : ∀ x ∈ p3, x.block < W.heap.size := by obtain ⟨m, hm⟩ := k3; exact DataW.trod_lt m _ _ _ hm
 obtain ⟨z3, e3, w3, c3, y3, q3⟩ := Opens.handed hsz (j := 3) (t := 22) rfl rfl Try.underlying22 (by kernel_rfl) (B := 40) (by kernel_rfl) (tells_32) h3
 subst e3
 clear hA0 hval0 hsz0 hsz
 refine (QEvalTexts.rl_EvalTexts.walk Pure.EvalTexts a0 a1 a2 cap2 z2 a3 cap3 z3 W w0 w1 w2 c2 y2 w3 c3 y3).mono fun e W' ⟨he, bel⟩ => ?_
 subst he
 exact ⟨_, rfl, _, _, _, [], _, [], hW', trodAll_mk1 (shut_bool Try.underlying4 _), (trodAll_cons_mk (shut_string Try.underlying9 y0) (trodAll_cons_mk (shut_string Try.underlying9 y1) (trodAll_cons_mk (Below.trod laidOut (by kernel_rfl) (of_decide_eq_true (by kernel_rfl)) k2 bel lt2) (trodAll_cons_mk (Below.trod laidOut (by kernel_rfl) (of_decide_eq_true (by kernel_rfl)) k3 bel lt3) trodAll_mk0)))), rfl, bel.frame _, fun h => by cases h⟩
theorem over : Rows.evalTextsRow.holds Try.pinned (OpenSpec.ofChange Rows.evalTextsSpec) :=
 OpenClaim.holds_of_wide 3 Try.f3 rfl rfl rfl rfl rfl rfl rfl ⟨rfl, rfl, rfl, rfl, rfl⟩ rfl rfl rfl rfl rfl (by kernel_rfl) Try.func3 (by kernel_rfl)
  (of_decide_eq_true (by kernel_rfl)) (by unfold Func.isWrapper; first | (rw [if_pos (by decide +kernel)]; kernel_rfl) | (rw [if_neg (by decide +kernel)]; exact ⟨rfl, rfl⟩))
  (fun os started H enc _ => lifted os started H enc)
theorem proved : Rows.EvalTextsSaid := over
#print axioms proved
end Go.Proofs.Ytkhalpeiifdfiaa.evalTexts
namespace Go.Proofs.Ytkhalpeiifdfiaa
theorem evalTexts_holds : Rows.EvalTextsSaid := evalTexts.proved
end Go.Proofs.Ytkhalpeiifdfiaa
