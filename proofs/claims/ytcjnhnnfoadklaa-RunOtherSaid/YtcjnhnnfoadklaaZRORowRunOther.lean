import Derived.Test.YtcjnhnnfoadklaaRows
import Derived.Test.YtcjnhnnfoadklaaZROPureRunOther
import Derived.WalkKit
import Derived.ProofKit
import Derived.OpenShut
import Derived.ShutString
import Derived.ChangeOld
import Derived.Below
import Derived.SizedLaws
import Derived.Test.YtcjnhnnfoadklaaZROWSized
import Derived.Test.YtcjnhnnfoadklaaZROOpens
namespace Go.Proofs.Ytcjnhnnfoadklaa.runOther
open Go.ChangeShapes Go.WideShapes Go.ChangeAt Go.RowKit Go.Proofs.Ytcjnhnnfoadklaa.QRunOther
open Go.ChangeMaps (open_string shut_string)
set_option linter.unusedVariables false
theorem own : ownKnob Try.prog.godebug = none := by kernel_rfl
theorem tells_61 {H : Type} {enc : TypeId × Value → H} {W : World} {base : Nat} {spare : Nat → Bool} {held : Bool} : Opens.Tells enc Try.prog W base spare held 61 k61 (fun _ => True) := by
 intro fuel cs x h
 obtain ⟨xs, n, _, _, hl, hn, hf⟩ := DataW.trod_struct Try.underlying61 h
 replace hl := hl.trans (show Try.prog.cellsOf 61 = 3 by kernel_rfl)
 replace hn : xs.length = 3 := hn
 rcases cs with _ | ⟨c0, cs⟩
 ·
  exact absurd hl (by simp)
 rcases cs with _ | ⟨c1, cs⟩
 ·
  exact absurd hl (by simp)
 rcases cs with _ | ⟨c2, cs⟩
 ·
  exact absurd hl (by simp)
 rcases cs with _ | ⟨c3, cs⟩
 case cons => exact absurd hl (by simp)
 have z0 : DataW.trod enc Try.prog W base spare held n 9 [c0] = some (xs[0]'(by omega)) := by
  rw [← List.getElem?_eq_getElem (h := by omega)]
  have z := hf 0 _ rfl
  replace z := (congrArg (fun q => DataW.trod enc Try.prog W base spare held n 9 q) (show [c0] = (([c0, c1, c2]).drop 0).take (Try.prog.cellsOf 9) by rw [show Try.prog.cellsOf 9 = 1 by kernel_rfl]; rfl)).trans z
  exact z
 have z1 : DataW.trod enc Try.prog W base spare held n 9 [c1] = some (xs[1]'(by omega)) := by
  rw [← List.getElem?_eq_getElem (h := by omega)]
  have z := hf 1 _ rfl
  replace z := (congrArg (fun q => DataW.trod enc Try.prog W base spare held n 9 q) (show [c1] = (([c0, c1, c2]).drop 1).take (Try.prog.cellsOf 9) by rw [show Try.prog.cellsOf 9 = 1 by kernel_rfl]; rfl)).trans z
  exact z
 have z2 : DataW.trod enc Try.prog W base spare held n 3 [c2] = some (xs[2]'(by omega)) := by
  rw [← List.getElem?_eq_getElem (h := by omega)]
  have z := hf 2 _ rfl
  replace z := (congrArg (fun q => DataW.trod enc Try.prog W base spare held n 3 q) (show [c2] = (([c0, c1, c2]).drop 2).take (Try.prog.cellsOf 3) by rw [show Try.prog.cellsOf 3 = 1 by kernel_rfl]; rfl)).trans z
  exact z
 obtain ⟨a0, e0, _, _⟩ := DataW.trod_string Try.underlying9 z0
 obtain rfl : c0 = .string a0 := by simpa using e0
 obtain ⟨a1, e1, _, _⟩ := DataW.trod_string Try.underlying9 z1
 obtain rfl : c1 = .string a1 := by simpa using e1
 obtain ⟨a2, e2, _, _⟩ := DataW.trod_int Try.underlying3 z2
 obtain rfl : c2 = .int .i64 a2 := by simpa using e2
 exact ⟨⟨a0, a1, a2⟩, k61_mk W ⟨a0, a1, a2⟩, trivial⟩
theorem laidOut : laidOutB Try.prog = true := by kernel_rfl
def IsRow (k : IntKind) (w : World) (a : Option Addr) (len cap : Nat) (zs : List Int) : Prop :=
 (a = none ∧ len = 0 ∧ cap = 0 ∧ zs = []) ∨
 ∃ x, a = some x ∧ len ≤ cap ∧ cap ≤ maxLen ∧ zs.length = cap ∧ (∀ i, i < zs.length → w.cell? (x.add i) = some (.int k (zs.getD i 0))) ∧ ∀ n ∈ zs, (Lit.int k n).wf = true
set_option maxRecDepth 100000 in
theorem lifted (os : Os) (started : os.Started) (H : Type) (enc : TypeId × Value → H) :
  ReturnsInHanded {} Try.checked os 8 .any (Rows.runOtherSpec.pre6 enc Try.prog Try.f8 Rows.runOtherRow.domain false) (Rows.runOtherSpec.post enc Try.prog Try.f8 false true false false) := by
 refine returnsInHanded_of_change_sized (C := Try.checked) own started (by kernel_rfl) Try.func8
  (ChangeSpec.witness6 (enc := enc) (C := Try.checked) false ⟨#[], #[.slice none 0 0, .int .u8 0, .int .i64 0], []⟩ 8 (by kernel_rfl) (by kernel_rfl) (by kernel_rfl) (by kernel_rfl)) ?_
 intro W base args ds gs before hval0 hW hcnd hsz0 _
 have hsz : (DataW.weightsEach Try.prog (Try.f8.params.toList ++ Rows.runOtherSpec.plain.varTypes Try.prog) (ds ++ gs)).all (· ≤ reachBytes) = true := hsz0
 have hval : ∀ (j : Nat) t v, Try.f8.params[j]? = some t → args[j]? = some v → Value.okWide Try.prog W .any base t v := hval0
 have hW' := hW
 obtain ⟨p, q, hA0, hV, rfl, hfz, hnd⟩ := hW
 have hA : DataW.TrodAll enc Try.prog W 0 (fun _ => true) true Try.f8.params.toList args.toList ds p := hA0
 rw [Try.params8] at hA hval hsz
 obtain ⟨v0, vs0, d0, ds0, p0, q0, hargs, rfl, rfl, h0, r0⟩ := trodAll_cons hA
 obtain ⟨v1, vs1, d1, ds1, p1, q1, rfl, rfl, rfl, h1, r1⟩ := trodAll_cons r0
 obtain ⟨v2, vs2, d2, ds2, p2, q2, rfl, rfl, rfl, h2, r2⟩ := trodAll_cons r1
 obtain ⟨rfl, rfl, rfl⟩ := trodAll_nil r2
 obtain rfl : args = #[v0, v1, v2] := by cases args; simp_all
 obtain ⟨rfl, rfl⟩ := trodVars_none hV
 obtain ⟨a0, len0, cap0, rfl⟩ := okWide_slice Try.underlying24 (hval 0 24 v0 rfl rfl)
 have k0 := h0
 have lt0 : ∀ x ∈ p0, x.block < W.heap.size := by obtain ⟨m, hm⟩ := k0; exact DataW.trod_lt m _ _ _ hm
 obtain ⟨z0, e0, w0, c0, y0, q0⟩ := Opens.handed hsz (j := 0) (t := 24) rfl rfl Try.underlying24 (by kernel_rfl) (B := 40) (by kernel_rfl) (tells_61) h0
 subst e0
 obtain ⟨a1, rfl, rfl, rfl, w1⟩ := open_int Try.underlying5 (hval 1 5 v1 rfl rfl) h1
 obtain ⟨a2, rfl, rfl, rfl, w2⟩ := open_int Try.underlying3 (hval 2 3 v2 rfl rfl) h2
 clear hA0 hval0 hsz0 hsz
 refine (QRunOther.aquiferlaw22_RunOther.walk Pure.RunOther a0 cap0 z0 a1 a2 W w0 c0 y0 w1 w2).mono fun e W' ⟨he, bel⟩ => ?_
 subst he
 exact ⟨_, rfl, _, _, _, [], _, [], hW', trodAll_mk1 (shut_bool Try.underlying4 _), (trodAll_cons_mk (Below.trod laidOut (by kernel_rfl) (of_decide_eq_true (by kernel_rfl)) k0 bel lt0) (trodAll_cons_mk (shut_int Try.underlying5 w1) (trodAll_cons_mk (shut_int Try.underlying3 w2) trodAll_mk0))), rfl, bel.frame _, fun h => by cases h⟩
theorem over : Rows.runOtherRow.holds Try.pinned (OpenSpec.ofChange Rows.runOtherSpec) :=
 OpenClaim.holds_of_wide 8 Try.f8 rfl rfl rfl rfl rfl rfl rfl ⟨rfl, rfl, rfl, rfl, rfl⟩ rfl rfl rfl rfl rfl (by kernel_rfl) Try.func8 (by kernel_rfl)
  (of_decide_eq_true (by kernel_rfl)) (by unfold Func.isWrapper; first | (rw [if_pos (by decide +kernel)]; kernel_rfl) | (rw [if_neg (by decide +kernel)]; exact ⟨rfl, rfl⟩))
  (fun os started H enc _ => lifted os started H enc)
theorem proved : Rows.RunOtherSaid := over
#print axioms proved
end Go.Proofs.Ytcjnhnnfoadklaa.runOther
namespace Go.Proofs.Ytcjnhnnfoadklaa
theorem runOther_holds : Rows.RunOtherSaid := runOther.proved
end Go.Proofs.Ytcjnhnnfoadklaa
