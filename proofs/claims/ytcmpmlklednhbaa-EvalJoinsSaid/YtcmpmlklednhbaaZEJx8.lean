import Derived.Test.YtcmpmlklednhbaaZEJx7
namespace Go.Proofs.Ytcmpmlklednhbaa.QEvalJoins
open Go.RowKit Go.Proofs.YtcmpmlklednhbaaW.PrintWords Go.Proofs.YtcmpmlklednhbaaW.PrintLast Go.Proofs.YtcmpmlklednhbaaW.PrintMore
attribute [local go_sem] max2_int min2_int max_two min_two max_three min_three max_four min_four
set_option linter.unusedVariables false
set_option linter.unusedSimpArgs false
mutual
def rr_unary.j0 : Nat → List (S48) → Bool → List (S69) → Int → Int → Int → Int → Int → ByteArray → Int → Option ((List (S48)) × Int × Int × Int × Int)
 | 0, _, _, _, _, _, _, _, _, _, _ => none
 | k + 1, x1, x25, x1000, x1001, x1002, x1003, x1004, x244000, x244001, x244002 => if x25 = true then (if x244001.toList = ([33] : List UInt8) then ((rr_open.f k x1000 x1001 x1002 x1003 x1004 x244001).bind fun bt254 => ((rr_unary.f k x1000 bt254.1 bt254.2.1 bt254.2.2.1 bt254.2.2.2 x1).bind fun bt258 => (if bt258.1.length < 1954687338268 then (some ((bt258.1 ++ [(⟨4, 0, (⟨#[]⟩ : ByteArray), (⟨#[]⟩ : ByteArray), wrap64 ((bt258.1.length : Int) - 1), (-1), x244002⟩ : S48)]), bt258.2.1, wrap64 (bt258.2.2.1 - 1), bt258.2.2.2.1, bt258.2.2.2.2)) else (none)))) else ((rr_open.f k x1000 x1001 x1002 x1003 x1004 x244001).bind fun bt268 => ((rr_unary.f k x1000 bt268.1 bt268.2.1 bt268.2.2.1 bt268.2.2.2 x1).bind fun bt272 => (if bt272.1.length < 1954687338268 then (some ((bt272.1 ++ [(⟨3, 0, (⟨#[]⟩ : ByteArray), (⟨#[]⟩ : ByteArray), wrap64 ((bt272.1.length : Int) - 1), (-1), x244002⟩ : S48)]), bt272.2.1, wrap64 (bt272.2.2.1 - 1), bt272.2.2.2.1, bt272.2.2.2.2)) else (none))))) else ((rr_is.f x1000 x1001 x1002 x1003 x1004 (⟨#[40]⟩ : ByteArray)).bind fun bt282 => (if bt282.1 = true then ((rr_open.f k x1000 bt282.2.1 bt282.2.2.1 bt282.2.2.2.1 bt282.2.2.2.2 (⟨#[40]⟩ : ByteArray)).bind fun bt287 => ((rr_expr.f k x1000 bt287.1 bt287.2.1 bt287.2.2.1 bt287.2.2.2 x1).bind fun bt291 => ((rr_want.f x1000 bt291.2.1 bt291.2.2.1 bt291.2.2.2.1 bt291.2.2.2.2 (⟨#[41]⟩ : ByteArray)).bind fun bt298 => (some (bt291.1, bt298.1, wrap64 (bt298.2.1 - 1), bt298.2.2.1, bt298.2.2.2))))) else (if x244000 = 2 then ((ra_num.f k x244001).bind fun t302 => (if x1.length < 1954687338268 then (some ((x1 ++ [(⟨1, t302, (⟨#[]⟩ : ByteArray), (⟨#[]⟩ : ByteArray), (-1), (-1), x244002⟩ : S48)]), wrap64 (bt282.2.1 + 1), bt282.2.2.1, bt282.2.2.2.1, bt282.2.2.2.2)) else (none))) else (if x244000 = 1 then ((rr_qname.f x1000 bt282.2.1 bt282.2.2.1 bt282.2.2.2.1 bt282.2.2.2.2).bind fun bt306 => (if x1.length < 1954687338268 then (some ((x1 ++ [(⟨2, 0, bt306.1, bt306.2.1, (-1), (-1), x244002⟩ : S48)]), bt306.2.2.1, bt306.2.2.2.1, bt306.2.2.2.2.1, bt306.2.2.2.2.2)) else (none))) else ((rr_fail.f x1000 bt282.2.1 bt282.2.2.1 bt282.2.2.2.1 bt282.2.2.2.2 11).bind fun bt315 => (some (x1, bt315.1, bt315.2.1, bt315.2.2.1, bt315.2.2.2)))))))
def rr_unary.f : Nat → List (S69) → Int → Int → Int → Int → List (S48) → Option ((List (S48)) × Int × Int × Int × Int)
 | 0, _, _, _, _, _, _ => none
 | k + 1, s0_0, s0_1, s0_2, s0_3, s0_4, l1 => if s0_3 = 0 then (if 0 ≤ s0_1 then (if s0_1 < (s0_0.length : Int) then ((rr_is.f s0_0 s0_1 s0_2 s0_3 s0_4 (⟨#[45]⟩ : ByteArray)).bind fun bt244 => (if bt244.1 = true then (rr_unary.j0 k l1 true s0_0 bt244.2.1 bt244.2.2.1 bt244.2.2.2.1 bt244.2.2.2.2 ((rd_T69 s0_0 s0_1).f0) ((rd_T69 s0_0 s0_1).f1) ((rd_T69 s0_0 s0_1).f2)) else ((rr_is.f s0_0 bt244.2.1 bt244.2.2.1 bt244.2.2.2.1 bt244.2.2.2.2 (⟨#[33]⟩ : ByteArray)).bind fun bt249 => (rr_unary.j0 k l1 bt249.1 s0_0 bt249.2.1 bt249.2.2.1 bt249.2.2.2.1 bt249.2.2.2.2 ((rd_T69 s0_0 s0_1).f0) ((rd_T69 s0_0 s0_1).f1) ((rd_T69 s0_0 s0_1).f2))))) else (none)) else (none)) else (some (l1, s0_1, s0_2, s0_3, s0_4))
def rr_expr.l0 : Nat → List (S48) → List ByteArray → Int → List (S69) → Int → Int → Int → Int → Option ((List (S48)) × Int × Int × Int × Int)
 | 0, _, _, _, _, _, _, _, _ => none
 | k + 1, x1, x5, x6, x1000, x1001, x1002, x1003, x1004 => if x6 < (x5.length : Int) then ((rr_here.f x1000 x1001 x1002 x1003 x1004).bind fun bt329 => (if 0 ≤ x6 then ((rr_take.f x1000 bt329.2.1 bt329.2.2.1 bt329.2.2.2.1 bt329.2.2.2.2 (rdOf ByteArray.empty x5 x6)).bind fun bt335 => (if bt335.1 = true then ((rr_sum.f k x1000 bt335.2.1 bt335.2.2.1 bt335.2.2.2.1 bt335.2.2.2.2 x1).bind fun bt340 => ((ra_two.f bt340.1 (wrap64 ((x1.length : Int) - 1)) (wrap64 (10 + x6)) bt329.1).bind fun t347 => (some (t347, bt340.2.1, bt340.2.2.1, bt340.2.2.2.1, bt340.2.2.2.2)))) else (rr_expr.l0 k x1 x5 (wrap64 (x6 + 1)) x1000 bt335.2.1 bt335.2.2.1 bt335.2.2.2.1 bt335.2.2.2.2))) else (none))) else (some (x1, x1001, x1002, x1003, x1004))
def rr_expr.f : Nat → List (S69) → Int → Int → Int → Int → List (S48) → Option ((List (S48)) × Int × Int × Int × Int)
 | 0, _, _, _, _, _, _ => none
 | k + 1, s0_0, s0_1, s0_2, s0_3, s0_4, l1 => (rr_sum.f k s0_0 s0_1 s0_2 s0_3 s0_4 l1).bind fun bt319 => (rr_expr.l0 k bt319.1 (([(⟨#[61, 61]⟩ : ByteArray), (⟨#[60]⟩ : ByteArray), (⟨#[60, 61]⟩ : ByteArray)] : List ByteArray)) 0 s0_0 bt319.2.1 bt319.2.2.1 bt319.2.2.2.1 bt319.2.2.2.2)
def rr_sum.l0 : Nat → List (S48) → List (S69) → Int → Int → Int → Int → Option ((List (S48)) × Int × Int × Int × Int)
 | 0, _, _, _, _, _, _ => none
 | k + 1, x1, x1000, x1001, x1002, x1003, x1004 => if x1003 = 0 then ((rr_here.f x1000 x1001 x1002 x1003 x1004).bind fun bt357 => ((rr_take.f x1000 bt357.2.1 bt357.2.2.1 bt357.2.2.2.1 bt357.2.2.2.2 (⟨#[43]⟩ : ByteArray)).bind fun bt362 => (if bt362.1 = true then ((rr_term.f k x1000 bt362.2.1 bt362.2.2.1 bt362.2.2.2.1 bt362.2.2.2.2 x1).bind fun bt367 => ((ra_two.f bt367.1 (wrap64 ((x1.length : Int) - 1)) 5 bt357.1).bind fun t374 => (rr_sum.l0 k t374 x1000 bt367.2.1 bt367.2.2.1 bt367.2.2.2.1 bt367.2.2.2.2))) else ((rr_take.f x1000 bt362.2.1 bt362.2.2.1 bt362.2.2.2.1 bt362.2.2.2.2 (⟨#[45]⟩ : ByteArray)).bind fun bt377 => (if bt377.1 = true then ((rr_term.f k x1000 bt377.2.1 bt377.2.2.1 bt377.2.2.2.1 bt377.2.2.2.2 x1).bind fun bt382 => ((ra_two.f bt382.1 (wrap64 ((x1.length : Int) - 1)) 6 bt357.1).bind fun t389 => (rr_sum.l0 k t389 x1000 bt382.2.1 bt382.2.2.1 bt382.2.2.2.1 bt382.2.2.2.2))) else (some (x1, bt377.2.1, bt377.2.2.1, bt377.2.2.2.1, bt377.2.2.2.2))))))) else (some (x1, x1001, x1002, x1003, x1004))
def rr_sum.f : Nat → List (S69) → Int → Int → Int → Int → List (S48) → Option ((List (S48)) × Int × Int × Int × Int)
 | 0, _, _, _, _, _, _ => none
 | k + 1, s0_0, s0_1, s0_2, s0_3, s0_4, l1 => (rr_term.f k s0_0 s0_1 s0_2 s0_3 s0_4 l1).bind fun bt350 => (rr_sum.l0 k bt350.1 s0_0 bt350.2.1 bt350.2.2.1 bt350.2.2.2.1 bt350.2.2.2.2)
def rr_term.l0 : Nat → List (S48) → List (S69) → Int → Int → Int → Int → Option ((List (S48)) × Int × Int × Int × Int)
 | 0, _, _, _, _, _, _ => none
 | k + 1, x1, x1000, x1001, x1002, x1003, x1004 => if x1003 = 0 then ((rr_here.f x1000 x1001 x1002 x1003 x1004).bind fun bt399 => ((rr_take.f x1000 bt399.2.1 bt399.2.2.1 bt399.2.2.2.1 bt399.2.2.2.2 (⟨#[42]⟩ : ByteArray)).bind fun bt404 => (if bt404.1 = true then ((rr_unary.f k x1000 bt404.2.1 bt404.2.2.1 bt404.2.2.2.1 bt404.2.2.2.2 x1).bind fun bt409 => ((ra_two.f bt409.1 (wrap64 ((x1.length : Int) - 1)) 7 bt399.1).bind fun t416 => (rr_term.l0 k t416 x1000 bt409.2.1 bt409.2.2.1 bt409.2.2.2.1 bt409.2.2.2.2))) else ((rr_take.f x1000 bt404.2.1 bt404.2.2.1 bt404.2.2.2.1 bt404.2.2.2.2 (⟨#[47]⟩ : ByteArray)).bind fun bt419 => (if bt419.1 = true then ((rr_unary.f k x1000 bt419.2.1 bt419.2.2.1 bt419.2.2.2.1 bt419.2.2.2.2 x1).bind fun bt424 => ((ra_two.f bt424.1 (wrap64 ((x1.length : Int) - 1)) 8 bt399.1).bind fun t431 => (rr_term.l0 k t431 x1000 bt424.2.1 bt424.2.2.1 bt424.2.2.2.1 bt424.2.2.2.2))) else ((rr_take.f x1000 bt419.2.1 bt419.2.2.1 bt419.2.2.2.1 bt419.2.2.2.2 (⟨#[37]⟩ : ByteArray)).bind fun bt434 => (if bt434.1 = true then ((rr_unary.f k x1000 bt434.2.1 bt434.2.2.1 bt434.2.2.2.1 bt434.2.2.2.2 x1).bind fun bt439 => ((ra_two.f bt439.1 (wrap64 ((x1.length : Int) - 1)) 9 bt399.1).bind fun t446 => (rr_term.l0 k t446 x1000 bt439.2.1 bt439.2.2.1 bt439.2.2.2.1 bt439.2.2.2.2))) else (some (x1, bt434.2.1, bt434.2.2.1, bt434.2.2.2.1, bt434.2.2.2.2))))))))) else (some (x1, x1001, x1002, x1003, x1004))
def rr_term.f : Nat → List (S69) → Int → Int → Int → Int → List (S48) → Option ((List (S48)) × Int × Int × Int × Int)
 | 0, _, _, _, _, _, _ => none
 | k + 1, s0_0, s0_1, s0_2, s0_3, s0_4, l1 => (rr_unary.f k s0_0 s0_1 s0_2 s0_3 s0_4 l1).bind fun bt392 => (rr_term.l0 k bt392.1 s0_0 bt392.2.1 bt392.2.2.1 bt392.2.2.2.1 bt392.2.2.2.2)
end
theorem rr_unary_group.mono_l : ∀ k, (∀ y0 y1 y2 y3 y4 y5, LeO (rr_unary.f k y0 y1 y2 y3 y4 y5) (rr_unary.f (k + 1) y0 y1 y2 y3 y4 y5)) ∧ (∀ y0 y1 y2 y3 y4 y5 y6 y7 y8 y9, LeO (rr_unary.j0 k y0 y1 y2 y3 y4 y5 y6 y7 y8 y9) (rr_unary.j0 (k + 1) y0 y1 y2 y3 y4 y5 y6 y7 y8 y9)) ∧ (∀ y0 y1 y2 y3 y4 y5, LeO (rr_expr.f k y0 y1 y2 y3 y4 y5) (rr_expr.f (k + 1) y0 y1 y2 y3 y4 y5)) ∧ (∀ y0 y1 y2 y3 y4 y5 y6 y7, LeO (rr_expr.l0 k y0 y1 y2 y3 y4 y5 y6 y7) (rr_expr.l0 (k + 1) y0 y1 y2 y3 y4 y5 y6 y7)) ∧ (∀ y0 y1 y2 y3 y4 y5, LeO (rr_sum.f k y0 y1 y2 y3 y4 y5) (rr_sum.f (k + 1) y0 y1 y2 y3 y4 y5)) ∧ (∀ y0 y1 y2 y3 y4 y5, LeO (rr_sum.l0 k y0 y1 y2 y3 y4 y5) (rr_sum.l0 (k + 1) y0 y1 y2 y3 y4 y5)) ∧ (∀ y0 y1 y2 y3 y4 y5, LeO (rr_term.f k y0 y1 y2 y3 y4 y5) (rr_term.f (k + 1) y0 y1 y2 y3 y4 y5)) ∧ (∀ y0 y1 y2 y3 y4 y5, LeO (rr_term.l0 k y0 y1 y2 y3 y4 y5) (rr_term.l0 (k + 1) y0 y1 y2 y3 y4 y5))
 | 0 => ⟨fun _ _ _ _ _ _ r h => by simp [rr_unary.f] at h, fun _ _ _ _ _ _ _ _ _ _ r h => by simp [rr_unary.j0] at h, fun _ _ _ _ _ _ r h => by simp [rr_expr.f] at h, fun _ _ _ _ _ _ _ _ r h => by simp [rr_expr.l0] at h, fun _ _ _ _ _ _ r h => by simp [rr_sum.f] at h, fun _ _ _ _ _ _ r h => by simp [rr_sum.l0] at h, fun _ _ _ _ _ _ r h => by simp [rr_term.f] at h, fun _ _ _ _ _ _ r h => by simp [rr_term.l0] at h⟩
 | k + 1 => by
  obtain ⟨ih0, ih1, ih2, ih3, ih4, ih5, ih6, ih7⟩ := rr_unary_group.mono_l k
  refine ⟨?_, ?_, ?_, ?_, ?_, ?_, ?_, ?_⟩
  ·
   intro y0 y1 y2 y3 y4 y5
   unfold rr_unary.f
   repeat' with_reducible first | apply ih0 | apply ih1 | apply ih2 | apply ih3 | apply ih4 | apply ih5 | apply ih6 | apply ih7 | apply ra_num.mono | apply rr_open.mono | exact LeO.refl _ | exact LeO.none _ | refine LeO.ite ?_ ?_ | refine LeO.bind ?_ (fun _ => ?_)
  ·
   intro y0 y1 y2 y3 y4 y5 y6 y7 y8 y9
   unfold rr_unary.j0
   repeat' with_reducible first | apply ih0 | apply ih1 | apply ih2 | apply ih3 | apply ih4 | apply ih5 | apply ih6 | apply ih7 | apply ra_num.mono | apply rr_open.mono | exact LeO.refl _ | exact LeO.none _ | refine LeO.ite ?_ ?_ | refine LeO.bind ?_ (fun _ => ?_)
  ·
   intro y0 y1 y2 y3 y4 y5
   unfold rr_expr.f
   repeat' with_reducible first | apply ih0 | apply ih1 | apply ih2 | apply ih3 | apply ih4 | apply ih5 | apply ih6 | apply ih7 | apply ra_num.mono | apply rr_open.mono | exact LeO.refl _ | exact LeO.none _ | refine LeO.ite ?_ ?_ | refine LeO.bind ?_ (fun _ => ?_)
  ·
   intro y0 y1 y2 y3 y4 y5 y6 y7
   unfold rr_expr.l0
   repeat' with_reducible first | apply ih0 | apply ih1 | apply ih2 | apply ih3 | apply ih4 | apply ih5 | apply ih6 | apply ih7 | apply ra_num.mono | apply rr_open.mono | exact LeO.refl _ | exact LeO.none _ | refine LeO.ite ?_ ?_ | refine LeO.bind ?_ (fun _ => ?_)
  ·
   intro y0 y1 y2 y3 y4 y5
   unfold rr_sum.f
   repeat' with_reducible first | apply ih0 | apply ih1 | apply ih2 | apply ih3 | apply ih4 | apply ih5 | apply ih6 | apply ih7 | apply ra_num.mono | apply rr_open.mono | exact LeO.refl _ | exact LeO.none _ | refine LeO.ite ?_ ?_ | refine LeO.bind ?_ (fun _ => ?_)
  ·
   intro y0 y1 y2 y3 y4 y5
   unfold rr_sum.l0
   repeat' with_reducible first | apply ih0 | apply ih1 | apply ih2 | apply ih3 | apply ih4 | apply ih5 | apply ih6 | apply ih7 | apply ra_num.mono | apply rr_open.mono | exact LeO.refl _ | exact LeO.none _ | refine LeO.ite ?_ ?_ | refine LeO.bind ?_ (fun _ => ?_)
  ·
   intro y0 y1 y2 y3 y4 y5
   unfold rr_term.f
   repeat' with_reducible first | apply ih0 | apply ih1 | apply ih2 | apply ih3 | apply ih4 | apply ih5 | apply ih6 | apply ih7 | apply ra_num.mono | apply rr_open.mono | exact LeO.refl _ | exact LeO.none _ | refine LeO.ite ?_ ?_ | refine LeO.bind ?_ (fun _ => ?_)
  ·
   intro y0 y1 y2 y3 y4 y5
   unfold rr_term.l0
   repeat' with_reducible first | apply ih0 | apply ih1 | apply ih2 | apply ih3 | apply ih4 | apply ih5 | apply ih6 | apply ih7 | apply ra_num.mono | apply rr_open.mono | exact LeO.refl _ | exact LeO.none _ | refine LeO.ite ?_ ?_ | refine LeO.bind ?_ (fun _ => ?_)
theorem rr_unary.mono : ∀ a0 a1 a2 a3 a4 a5 k, LeO (rr_unary.f k a0 a1 a2 a3 a4 a5) (rr_unary.f (k + 1) a0 a1 a2 a3 a4 a5) := fun a0 a1 a2 a3 a4 a5 k => (rr_unary_group.mono_l k).1 a0 a1 a2 a3 a4 a5
theorem rr_expr.mono : ∀ a0 a1 a2 a3 a4 a5 k, LeO (rr_expr.f k a0 a1 a2 a3 a4 a5) (rr_expr.f (k + 1) a0 a1 a2 a3 a4 a5) := fun a0 a1 a2 a3 a4 a5 k => (rr_unary_group.mono_l k).2.2.1 a0 a1 a2 a3 a4 a5
theorem rr_sum.mono : ∀ a0 a1 a2 a3 a4 a5 k, LeO (rr_sum.f k a0 a1 a2 a3 a4 a5) (rr_sum.f (k + 1) a0 a1 a2 a3 a4 a5) := fun a0 a1 a2 a3 a4 a5 k => (rr_unary_group.mono_l k).2.2.2.2.1 a0 a1 a2 a3 a4 a5
theorem rr_term.mono : ∀ a0 a1 a2 a3 a4 a5 k, LeO (rr_term.f k a0 a1 a2 a3 a4 a5) (rr_term.f (k + 1) a0 a1 a2 a3 a4 a5) := fun a0 a1 a2 a3 a4 a5 k => (rr_unary_group.mono_l k).2.2.2.2.2.2.1 a0 a1 a2 a3 a4 a5
end Go.Proofs.Ytcmpmlklednhbaa.QEvalJoins
