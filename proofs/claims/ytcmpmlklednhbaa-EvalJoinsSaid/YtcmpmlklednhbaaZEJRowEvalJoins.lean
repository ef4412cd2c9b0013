import Derived.Test.YtcmpmlklednhbaaRows
import Derived.Test.YtcmpmlklednhbaaZEJPureEvalJoins
import Derived.WalkKit
import Derived.ProofKit
import Derived.OpenShut
import Derived.ShutString
import Derived.ChangeOld
import Derived.Below
import Derived.SizedLaws
import Derived.Test.YtcmpmlklednhbaaZEJWSized
import Derived.Test.YtcmpmlklednhbaaZEJOpens
namespace Go.Proofs.Ytcmpmlklednhbaa.evalJoins
open Go.ChangeShapes Go.WideShapes Go.ChangeAt Go.RowKit Go.Proofs.Ytcmpmlklednhbaa.QEvalJoins
open Go.ChangeMaps (open_string shut_string)
set_option linter.unusedVariables false
theorem own : ownKnob Try.prog.godebug = none := by kernel_rfl
theorem tells_63 {H : Type} {enc : TypeId × Value → H} {W : World} {base : Nat} {spare : Nat → Bool} {held : Bool} : Opens.Tells enc Try.prog W base spare held 63 k63 (fun _ => True) := by
 intro fuel cs x h
 obtain ⟨xs, n, _, _, hl, hn, hf⟩ := DataW.trod_struct Try.underlying63 h
 replace hl := hl.trans (show Try.prog.cellsOf 63 = 3 by kernel_rfl)
 replace hn : xs.length = 3 := hn
 rcases cs with _ | ⟨c0, cs⟩
 ·
  exact absurd hl (by simp)
 rcases cs with _ | ⟨c1, cs⟩
 ·
  exact absurd hl (by simp)
 rcases cs with _ | ⟨c2, cs⟩
 ·
  exact absurd hl (by simp)
 rcases cs with _ | ⟨c3, cs⟩
 case cons => exact absurd hl (by simp)
 have z0 : DataW.trod enc Try.prog W base spare held n 9 [c0] = some (xs[0]'(by omega)) := by
  rw [← List.getElem?_eq_getElem (h := by omega)]
  have z := hf 0 _ rfl
  replace z := (congrArg (fun q => DataW.trod enc Try.prog W base spare held n 9 q) (show [c0] = (([c0, c1, c2]).drop 0).take (Try.prog.cellsOf 9) by rw [show Try.prog.cellsOf 9 = 1 by kernel_rfl]; rfl)).trans z
  exact z
 have z1 : DataW.trod enc Try.prog W base spare held n 9 [c1] = some (xs[1]'(by omega)) := by
  rw [← List.getElem?_eq_getElem (h := by omega)]
  have z := hf 1 _ rfl
  replace z := (congrArg (fun q => DataW.trod enc Try.prog W base spare held n 9 q) (show [c1] = (([c0, c1, c2]).drop 1).take (Try.prog.cellsOf 9) by rw [show Try.prog.cellsOf 9 = 1 by kernel_rfl]; rfl)).trans z
  exact z
 have z2 : DataW.trod enc Try.prog W base spare held n 3 [c2] = some (xs[2]'(by omega)) := by
  rw [← List.getElem?_eq_getElem (h := by omega)]
  have z := hf 2 _ rfl
  replace z := (congrArg (fun q => DataW.trod enc Try.prog W base spare held n 3 q) (show [c2] = (([c0, c1, c2]).drop 2).take (Try.prog.cellsOf 3) by rw [show Try.prog.cellsOf 3 = 1 by kernel_rfl]; rfl)).trans z
  exact z
 obtain ⟨a0, e0, _, _⟩ := DataW.trod_string Try.underlying9 z0
 obtain rfl : c0 = .string a0 := by simpa using e0
 obtain ⟨a1, e1, _, _⟩ := DataW.trod_string Try.underlying9 z1
 obtain rfl : c1 = .string a1 := by simpa using e1
 obtain ⟨a2, e2, _, _⟩ := DataW.trod_int Try.underlying3 z2
 obtain rfl : c2 = .int .i64 a2 := by simpa using e2
 exact ⟨⟨a0, a1, a2⟩, k63_mk W ⟨a0, a1, a2⟩, trivial⟩
theorem laidOut : laidOutB Try.prog = true := by kernel_rfl
def IsRow (k : IntKind) (w : World) (a : Option Addr) (len cap : Nat) (zs : List Int) : Prop :=
 (a = none ∧ len = 0 ∧ cap = 0 ∧ zs = []) ∨
 ∃ x, a = some x ∧ len ≤ cap ∧ cap ≤ maxLen ∧ zs.length = cap ∧ (∀ i, i < zs.length → w.cell? (x.add i) = some (.int k (zs.getD i 0))) ∧ ∀ n ∈ zs, (Lit.int k n).wf = true
set_option maxRecDepth 100000 in
theorem lifted (os : Os) (started : os.Started) (H : Type) (enc : TypeId × Value → H) :
  ReturnsInHanded {} Try.checked os 3 .any (Rows.evalJoinsSpec.pre6 enc Try.prog Try.f3 Rows.evalJoinsRow.domain false) (Rows.evalJoinsSpec.post enc Try.prog Try.f3 false true false false) := by
 refine returnsInHanded_of_change_sized (C := Try.checked) own started (by kernel_rfl) Try.func3
  (ChangeSpec.witness6 (enc := enc) (C := Try.checked) false ⟨#[], #[.string ByteArray.empty, .string ByteArray.empty, .string ByteArray.empty, .int .u8 0, .slice none 0 0, .slice none 0 0], []⟩ 8 (by kernel_rfl) (by kernel_rfl) (by kernel_rfl) (by kernel_rfl)) ?_
 intro W base args ds gs before hval0 hW hcnd hsz0 _
 have hsz : (DataW.weightsEach Try.prog (Try.f3.params.toList ++ Rows.evalJoinsSpec.plain.varTypes Try.prog) (ds ++ gs)).all (· ≤ reachBytes) = true := hsz0
 have hval : ∀ (j : Nat) t v, Try.f3.params[j]? = some t → args[j]? = some v → Value.okWide Try.prog W .any base t v := hval0
 have hW' := hW
 obtain ⟨p, q, hA0, hV, rfl, hfz, hnd⟩ := hW
 have hA : DataW.TrodAll enc Try.prog W 0 (fun _ => true) true Try.f3.params.toList args.toList ds p := hA0
 rw [Try.params3] at hA hval hsz
 obtain ⟨v0, vs0, d0, ds0, p0, q0, hargs, rfl, rfl, h0, r0⟩ := trodAll_cons hA
 obtain ⟨v1, vs1, d1, ds1, p1, q1, rfl, rfl, rfl, h1, r1⟩ := trodAll_cons r0
 obtain ⟨v2, vs2, d2, ds2, p2, q2, rfl, rfl, rfl, h2, r2⟩ := trodAll_cons r1
 obtain ⟨v3, vs3, d3, ds3, p3, q3, rfl, rfl, rfl, h3, r3⟩ := trodAll_cons r2
 obtain ⟨v4, vs4, d4, ds4, p4, q4, rfl, rfl, rfl, h4, r4⟩ := trodAll_cons r3
 obtain ⟨v5, vs5, d5, ds5, p5, q5, rfl, rfl, rfl, h5, r5⟩ := trodAll_cons r4
 obtain ⟨rfl, rfl, rfl⟩ := trodAll_nil r5
 obtain rfl : args = #[v0, v1, v2, v3, v4, v5] := by cases args; simp_all
 obtain ⟨rfl, rfl⟩ := trodVars_none hV
 obtain ⟨a0, rfl, rfl, rfl, y0⟩ := open_string Try.underlying9 (hval 0 9 v0 rfl rfl) h0
 have w0 : a0.size ≤ 140737488351232 := by
  have z := sized_string hsz (j := 0) (t := 9) rfl rfl
  rw [Array.length_toList] at z
  exact z
 obtain ⟨a1, rfl, rfl, rfl, y1⟩ := open_string Try.underlying9 (hval 1 9 v1 rfl rfl) h1
 have w1 : a1.size ≤ 140737488351232 := by
  have z := sized_string hsz (j := 1) (t := 9) rfl rfl
  rw [Array.length_toList] at z
  exact z
 obtain ⟨a2, rfl, rfl, rfl, y2⟩ := open_string Try.underlying9 (hval 2 9 v2 rfl rfl) h2
 have w2 : a2.size ≤ 140737488351232 := by
  have z := sized_string hsz (j := 2) (t := 9) rfl rfl
  rw [Array.length_toList] at z
  exact z
 obtain ⟨a3, rfl, rfl, rfl, w3⟩ := open_int Try.underlying5 (hval 3 5 v3 rfl rfl) h3
 obtain ⟨a4, len4, cap4, rfl⟩ := okWide_slice Try.underlying22 (hval 4 22 v4 rfl rfl)
 have k4 := h4
 have lt4 : ∀ x ∈ p4, x.block < W.heap.size := by obtain ⟨m, hm⟩ := k4; exact DataW.trod_lt m _ _ _ hm
 obtain ⟨z4, e4, w4, c4, y4, q4⟩ := Opens.handed hsz (j := 4) (t := 22) rfl rfl Try.underlying22 (by kernel_rfl) (B := 40) (by kernel_rfl) (tells_63) h4
 subst e4
 obtain ⟨a5, len5, cap5, rfl⟩ := okWide_slice Try.underlying22 (hval 5 22 v5 rfl rfl)
 have k5 := h5
 have lt5 : ∀ x ∈ p5, x.block < W.heap.size := by obtain ⟨m, hm⟩ := k5; exact DataW.trod_lt m _ _ _ hm
 obtain ⟨z5, e5, w5, c5, y5, q5⟩ := Opens.handed hsz (j := 5) (t := 22) rfl rfl Try.underlying22 (by kernel_rfl) (B := 40) (by kernel_rfl) (tells_63) h5
 subst e5
 clear hA0 hval0 hsz0 hsz
 refine (QEvalJoins.rl_EvalJoins.walk Pure.EvalJoins a0 a1 a2 a3 a4 cap4 z4 a5 cap5 z5 W w0 w1 w2 w3 w4 c4 y4 w5 c5 y5).mono fun e W' ⟨he, bel⟩ => ?_
 subst he
 exact ⟨_, rfl, _, _, _, [], _, [], hW', trodAll_mk1 (shut_bool Try.underlying4 _), (trodAll_cons_mk (shut_string Try.underlying9 y0) (trodAll_cons_mk (shut_string Try.underlying9 y1) (trodAll_cons_mk (shut_string Try.underlying9 y2) (trodAll_cons_mk (shut_int Try.underlying5 w3) (trodAll_cons_mk (Below.trod laidOut (by kernel_rfl) (of_decide_eq_true (by kernel_rfl)) k4 bel lt4) (trodAll_cons_mk (Below.trod laidOut (by kernel_rfl) (of_decide_eq_true (by kernel_rfl)) k5 bel lt5) trodAll_mk0)))))), rfl, bel.frame _, fun h => by cases h⟩
theorem over : Rows.evalJoinsRow.holds Try.pinned (OpenSpec.ofChange Rows.evalJoinsSpec) :=
 OpenClaim.holds_of_wide 3 Try.f3 rfl rfl rfl rfl rfl rfl rfl ⟨rfl, rfl, rfl, rfl, rfl⟩ rfl rfl rfl rfl rfl (by kernel_rfl) Try.func3 (by kernel_rfl)
  (of_decide_eq_true (by kernel_rfl)) (by unfold Func.isWrapper; first | (rw [if_pos (by decide +kernel)]; kernel_rfl) | (rw [if_neg (by decide +kernel)]; exact ⟨rfl, rfl⟩))
  (fun os started H enc _ => lifted os started H enc)
theorem proved : Rows.EvalJoinsSaid := over
#print axioms proved
end Go.Proofs.Ytcmpmlklednhbaa.evalJoins
namespace Go.Proofs.Ytcmpmlklednhbaa
theorem evalJoins_holds : Rows.EvalJoinsSaid := evalJoins.proved
end Go.Proofs.Ytcmpmlklednhbaa
