-- Written by wip/myprint.py of this session's repo, out of the translation. Lean checks it.
import Derived.Test.YtkhalpeiifdfiaaQEvalNodesx0
import Derived.Test.YtkhalpeiifdfiaaQEvalNodesx4
import Derived.Test.YtkhalpeiifdfiaaQEvalNodesx5
namespace Go.Proofs.Ytkhalpeiifdfiaa.QEvalNodes
open Go.RowKit Go.Proofs.YtkhalpeiifdfiaaW.PrintWords Go.Proofs.YtkhalpeiifdfiaaW.PrintLast Go.Proofs.YtkhalpeiifdfiaaW.PrintMore
attribute [local go_sem] max2_int min2_int max_two min_two max_three min_three max_four min_four   -- for this text's walks alone
set_option linter.unusedVariables false
set_option linter.unusedSimpArgs false

/-! ### aquiferref20_Value: function 15 -/
mutual
def aquiferref20_Value.j0 : Nat → List (S73) → Int → ByteArray → List (S32) → List (S32) → Bool → Option (Int)
  | 0, _, _, _, _, _, _ => none
  | k + 1, x0, x1, x2, x3, x4, x23 => if x23 = true then (some 0) else (if 0 ≤ (x0.length : Int) then (if ((x0.length : Int) : Int).toNat ≤ 35184372088832 then (aquiferref20_Value.l0 k x0 x1 x2 x3 x4 (List.replicate ((x0.length : Int) : Int).toNat 0) 0) else (none)) else (none))
def aquiferref20_Value.l0 : Nat → List (S73) → Int → ByteArray → List (S32) → List (S32) → List Int → Int → Option (Int)
  | 0, _, _, _, _, _, _, _ => none
  | k + 1, x0, x1, x2, x3, x4, x11, x12 => if x12 ≤ x1 then (if 0 ≤ x12 then (if x12 < (x0.length : Int) then (if ((rd_T73 x0 x12).f4) ≥ 0 then (aquiferref20_Value.j2 k x0 x1 x2 x3 x4 x11 x12 0 0 (decide (((rd_T73 x0 x12).f4) < x12)) ((rd_T73 x0 x12).f0) ((rd_T73 x0 x12).f1) ((rd_T73 x0 x12).f2) ((rd_T73 x0 x12).f3) ((rd_T73 x0 x12).f4) ((rd_T73 x0 x12).f5) ((rd_T73 x0 x12).f6)) else (aquiferref20_Value.j2 k x0 x1 x2 x3 x4 x11 x12 0 0 false ((rd_T73 x0 x12).f0) ((rd_T73 x0 x12).f1) ((rd_T73 x0 x12).f2) ((rd_T73 x0 x12).f3) ((rd_T73 x0 x12).f4) ((rd_T73 x0 x12).f5) ((rd_T73 x0 x12).f6))) else (none)) else (none)) else (if 0 ≤ x1 then (if x1 < (x11.length : Int) then (some (rd x11 x1)) else (none)) else (none))
def aquiferref20_Value.j2 : Nat → List (S73) → Int → ByteArray → List (S32) → List (S32) → List Int → Int → Int → Int → Bool → Int → Int → ByteArray → ByteArray → Int → Int → Int → Option (Int)
  | 0, _, _, _, _, _, _, _, _, _, _, _, _, _, _, _, _, _ => none
  | k + 1, x0, x1, x2, x3, x4, x11, x12, x14, x15, x44, x146000, x146001, x146002, x146003, x146004, x146005, x146006 => if x44 = true then (if 0 ≤ x146004 then (if x146004 < (x11.length : Int) then (aquiferref20_Value.j3 k x0 x1 x2 x3 x4 x11 x12 (rd x11 x146004) x15 x146000 x146001 x146002 x146003 x146004 x146005 x146006) else (none)) else (none)) else (aquiferref20_Value.j3 k x0 x1 x2 x3 x4 x11 x12 x14 x15 x146000 x146001 x146002 x146003 x146004 x146005 x146006)
def aquiferref20_Value.j3 : Nat → List (S73) → Int → ByteArray → List (S32) → List (S32) → List Int → Int → Int → Int → Int → Int → ByteArray → ByteArray → Int → Int → Int → Option (Int)
  | 0, _, _, _, _, _, _, _, _, _, _, _, _, _, _, _, _ => none
  | k + 1, x0, x1, x2, x3, x4, x11, x12, x14, x15, x146000, x146001, x146002, x146003, x146004, x146005, x146006 => if x146005 ≥ 0 then (aquiferref20_Value.j4 k x0 x1 x2 x3 x4 x11 x12 x14 x15 (decide (x146005 < x12)) x146000 x146001 x146002 x146003 x146004 x146005 x146006) else (aquiferref20_Value.j4 k x0 x1 x2 x3 x4 x11 x12 x14 x15 false x146000 x146001 x146002 x146003 x146004 x146005 x146006)
def aquiferref20_Value.j4 : Nat → List (S73) → Int → ByteArray → List (S32) → List (S32) → List Int → Int → Int → Int → Bool → Int → Int → ByteArray → ByteArray → Int → Int → Int → Option (Int)
  | 0, _, _, _, _, _, _, _, _, _, _, _, _, _, _, _, _, _ => none
  | k + 1, x0, x1, x2, x3, x4, x11, x12, x14, x15, x58, x146000, x146001, x146002, x146003, x146004, x146005, x146006 => if x58 = true then (if 0 ≤ x146005 then (if x146005 < (x11.length : Int) then (aquiferref20_Value.j5 k x0 x1 x2 x3 x4 x11 x12 x14 (rd x11 x146005) x146000 x146001 x146002 x146003 x146004 x146005 x146006) else (none)) else (none)) else (aquiferref20_Value.j5 k x0 x1 x2 x3 x4 x11 x12 x14 x15 x146000 x146001 x146002 x146003 x146004 x146005 x146006)
def aquiferref20_Value.j5 : Nat → List (S73) → Int → ByteArray → List (S32) → List (S32) → List Int → Int → Int → Int → Int → Int → ByteArray → ByteArray → Int → Int → Int → Option (Int)
  | 0, _, _, _, _, _, _, _, _, _, _, _, _, _, _, _, _ => none
  | k + 1, x0, x1, x2, x3, x4, x11, x12, x14, x15, x146000, x146001, x146002, x146003, x146004, x146005, x146006 => if x146000 = 1 then (if 0 ≤ x12 then (if x12 < (x11.length : Int) then (aquiferref20_Value.l0 k x0 x1 x2 x3 x4 (x11.set (x12 : Int).toNat x146001) (wrap64 (x12 + 1))) else (none)) else (none)) else (if x146000 = 2 then ((aquiferref20_name.f k x146002 x146003 x2 x3 x4).bind fun t149 => (if 0 ≤ x12 then (if x12 < (x11.length : Int) then (aquiferref20_Value.l0 k x0 x1 x2 x3 x4 (x11.set (x12 : Int).toNat t149) (wrap64 (x12 + 1))) else (none)) else (none))) else ((aquiferref20_Op.f x146000 x14 x15).bind fun t151 => (if 0 ≤ x12 then (if x12 < (x11.length : Int) then (aquiferref20_Value.l0 k x0 x1 x2 x3 x4 (x11.set (x12 : Int).toNat t151) (wrap64 (x12 + 1))) else (none)) else (none))))
end
def aquiferref20_Value.f (k : Nat) (l0 : List (S73)) (a1 : Int) (a2 : ByteArray) (l3 : List (S32)) (l4 : List (S32)) : Option (Int) := if a1 < 0 then (aquiferref20_Value.j0 k l0 a1 a2 l3 l4 true) else (aquiferref20_Value.j0 k l0 a1 a2 l3 l4 (decide (a1 ≥ (l0.length : Int))))
theorem aquiferref20_Value.mono_l : ∀ k, (∀ y0 y1 y2 y3 y4 y5, LeO (aquiferref20_Value.j0 k y0 y1 y2 y3 y4 y5) (aquiferref20_Value.j0 (k + 1) y0 y1 y2 y3 y4 y5)) ∧ (∀ y0 y1 y2 y3 y4 y5 y6, LeO (aquiferref20_Value.l0 k y0 y1 y2 y3 y4 y5 y6) (aquiferref20_Value.l0 (k + 1) y0 y1 y2 y3 y4 y5 y6)) ∧ (∀ y0 y1 y2 y3 y4 y5 y6 y7 y8 y9 y10 y11 y12 y13 y14 y15 y16, LeO (aquiferref20_Value.j2 k y0 y1 y2 y3 y4 y5 y6 y7 y8 y9 y10 y11 y12 y13 y14 y15 y16) (aquiferref20_Value.j2 (k + 1) y0 y1 y2 y3 y4 y5 y6 y7 y8 y9 y10 y11 y12 y13 y14 y15 y16)) ∧ (∀ y0 y1 y2 y3 y4 y5 y6 y7 y8 y9 y10 y11 y12 y13 y14 y15, LeO (aquiferref20_Value.j3 k y0 y1 y2 y3 y4 y5 y6 y7 y8 y9 y10 y11 y12 y13 y14 y15) (aquiferref20_Value.j3 (k + 1) y0 y1 y2 y3 y4 y5 y6 y7 y8 y9 y10 y11 y12 y13 y14 y15)) ∧ (∀ y0 y1 y2 y3 y4 y5 y6 y7 y8 y9 y10 y11 y12 y13 y14 y15 y16, LeO (aquiferref20_Value.j4 k y0 y1 y2 y3 y4 y5 y6 y7 y8 y9 y10 y11 y12 y13 y14 y15 y16) (aquiferref20_Value.j4 (k + 1) y0 y1 y2 y3 y4 y5 y6 y7 y8 y9 y10 y11 y12 y13 y14 y15 y16)) ∧ (∀ y0 y1 y2 y3 y4 y5 y6 y7 y8 y9 y10 y11 y12 y13 y14 y15, LeO (aquiferref20_Value.j5 k y0 y1 y2 y3 y4 y5 y6 y7 y8 y9 y10 y11 y12 y13 y14 y15) (aquiferref20_Value.j5 (k + 1) y0 y1 y2 y3 y4 y5 y6 y7 y8 y9 y10 y11 y12 y13 y14 y15))
  | 0 => ⟨fun _ _ _ _ _ _ r h => by simp [aquiferref20_Value.j0] at h, fun _ _ _ _ _ _ _ r h => by simp [aquiferref20_Value.l0] at h, fun _ _ _ _ _ _ _ _ _ _ _ _ _ _ _ _ _ r h => by simp [aquiferref20_Value.j2] at h, fun _ _ _ _ _ _ _ _ _ _ _ _ _ _ _ _ r h => by simp [aquiferref20_Value.j3] at h, fun _ _ _ _ _ _ _ _ _ _ _ _ _ _ _ _ _ r h => by simp [aquiferref20_Value.j4] at h, fun _ _ _ _ _ _ _ _ _ _ _ _ _ _ _ _ r h => by simp [aquiferref20_Value.j5] at h⟩
  | k + 1 => by
    obtain ⟨ih0, ih1, ih2, ih3, ih4, ih5⟩ := aquiferref20_Value.mono_l k
    refine ⟨?_, ?_, ?_, ?_, ?_, ?_⟩
    · intro y0 y1 y2 y3 y4 y5
      unfold aquiferref20_Value.j0
      repeat' first
      | (with_reducible exact ih0 _ _ _ _ _ _)
      | (with_reducible exact ih1 _ _ _ _ _ _ _)
      | (with_reducible exact ih2 _ _ _ _ _ _ _ _ _ _ _ _ _ _ _ _ _)
      | (with_reducible exact ih3 _ _ _ _ _ _ _ _ _ _ _ _ _ _ _ _)
      | (with_reducible exact ih4 _ _ _ _ _ _ _ _ _ _ _ _ _ _ _ _ _)
      | (with_reducible exact ih5 _ _ _ _ _ _ _ _ _ _ _ _ _ _ _ _)
      | (with_reducible exact aquiferref20_name.mono _ _ _ _ _ _)
      | (with_reducible exact LeO.refl _)
      | (with_reducible exact LeO.none _)
      | (with_reducible refine LeO.ite ?_ ?_)
      | (with_reducible refine LeO.bind ?_ (fun _ => ?_))
      | exact ih0 _ _ _ _ _ _
      | exact ih1 _ _ _ _ _ _ _
      | exact ih2 _ _ _ _ _ _ _ _ _ _ _ _ _ _ _ _ _
      | exact ih3 _ _ _ _ _ _ _ _ _ _ _ _ _ _ _ _
      | exact ih4 _ _ _ _ _ _ _ _ _ _ _ _ _ _ _ _ _
      | exact ih5 _ _ _ _ _ _ _ _ _ _ _ _ _ _ _ _
      | exact aquiferref20_name.mono _ _ _ _ _ _
      | exact LeO.none _
      | refine LeO.ite ?_ ?_
      | refine LeO.bind ?_ (fun _ => ?_)
    · intro y0 y1 y2 y3 y4 y5 y6
      unfold aquiferref20_Value.l0
      repeat' first
      | (with_reducible exact ih0 _ _ _ _ _ _)
      | (with_reducible exact ih1 _ _ _ _ _ _ _)
      | (with_reducible exact ih2 _ _ _ _ _ _ _ _ _ _ _ _ _ _ _ _ _)
      | (with_reducible exact ih3 _ _ _ _ _ _ _ _ _ _ _ _ _ _ _ _)
      | (with_reducible exact ih4 _ _ _ _ _ _ _ _ _ _ _ _ _ _ _ _ _)
      | (with_reducible exact ih5 _ _ _ _ _ _ _ _ _ _ _ _ _ _ _ _)
      | (with_reducible exact aquiferref20_name.mono _ _ _ _ _ _)
      | (with_reducible exact LeO.refl _)
      | (with_reducible exact LeO.none _)
      | (with_reducible refine LeO.ite ?_ ?_)
      | (with_reducible refine LeO.bind ?_ (fun _ => ?_))
      | exact ih0 _ _ _ _ _ _
      | exact ih1 _ _ _ _ _ _ _
      | exact ih2 _ _ _ _ _ _ _ _ _ _ _ _ _ _ _ _ _
      | exact ih3 _ _ _ _ _ _ _ _ _ _ _ _ _ _ _ _
      | exact ih4 _ _ _ _ _ _ _ _ _ _ _ _ _ _ _ _ _
      | exact ih5 _ _ _ _ _ _ _ _ _ _ _ _ _ _ _ _
      | exact aquiferref20_name.mono _ _ _ _ _ _
      | exact LeO.none _
      | refine LeO.ite ?_ ?_
      | refine LeO.bind ?_ (fun _ => ?_)
    · intro y0 y1 y2 y3 y4 y5 y6 y7 y8 y9 y10 y11 y12 y13 y14 y15 y16
      unfold aquiferref20_Value.j2
      repeat' first
      | (with_reducible exact ih0 _ _ _ _ _ _)
      | (with_reducible exact ih1 _ _ _ _ _ _ _)
      | (with_reducible exact ih2 _ _ _ _ _ _ _ _ _ _ _ _ _ _ _ _ _)
      | (with_reducible exact ih3 _ _ _ _ _ _ _ _ _ _ _ _ _ _ _ _)
      | (with_reducible exact ih4 _ _ _ _ _ _ _ _ _ _ _ _ _ _ _ _ _)
      | (with_reducible exact ih5 _ _ _ _ _ _ _ _ _ _ _ _ _ _ _ _)
      | (with_reducible exact aquiferref20_name.mono _ _ _ _ _ _)
      | (with_reducible exact LeO.refl _)
      | (with_reducible exact LeO.none _)
      | (with_reducible refine LeO.ite ?_ ?_)
      | (with_reducible refine LeO.bind ?_ (fun _ => ?_))
      | exact ih0 _ _ _ _ _ _
      | exact ih1 _ _ _ _ _ _ _
      | exact ih2 _ _ _ _ _ _ _ _ _ _ _ _ _ _ _ _ _
      | exact ih3 _ _ _ _ _ _ _ _ _ _ _ _ _ _ _ _
      | exact ih4 _ _ _ _ _ _ _ _ _ _ _ _ _ _ _ _ _
      | exact ih5 _ _ _ _ _ _ _ _ _ _ _ _ _ _ _ _
      | exact aquiferref20_name.mono _ _ _ _ _ _
      | exact LeO.none _
      | refine LeO.ite ?_ ?_
      | refine LeO.bind ?_ (fun _ => ?_)
    · intro y0 y1 y2 y3 y4 y5 y6 y7 y8 y9 y10 y11 y12 y13 y14 y15
      unfold aquiferref20_Value.j3
      repeat' first
      | (with_reducible exact ih0 _ _ _ _ _ _)
      | (with_reducible exact ih1 _ _ _ _ _ _ _)
      | (with_reducible exact ih2 _ _ _ _ _ _ _ _ _ _ _ _ _ _ _ _ _)
      | (with_reducible exact ih3 _ _ _ _ _ _ _ _ _ _ _ _ _ _ _ _)
      | (with_reducible exact ih4 _ _ _ _ _ _ _ _ _ _ _ _ _ _ _ _ _)
      | (with_reducible exact ih5 _ _ _ _ _ _ _ _ _ _ _ _ _ _ _ _)
      | (with_reducible exact aquiferref20_name.mono _ _ _ _ _ _)
      | (with_reducible exact LeO.refl _)
      | (with_reducible exact LeO.none _)
      | (with_reducible refine LeO.ite ?_ ?_)
      | (with_reducible refine LeO.bind ?_ (fun _ => ?_))
      | exact ih0 _ _ _ _ _ _
      | exact ih1 _ _ _ _ _ _ _
      | exact ih2 _ _ _ _ _ _ _ _ _ _ _ _ _ _ _ _ _
      | exact ih3 _ _ _ _ _ _ _ _ _ _ _ _ _ _ _ _
      | exact ih4 _ _ _ _ _ _ _ _ _ _ _ _ _ _ _ _ _
      | exact ih5 _ _ _ _ _ _ _ _ _ _ _ _ _ _ _ _
      | exact aquiferref20_name.mono _ _ _ _ _ _
      | exact LeO.none _
      | refine LeO.ite ?_ ?_
      | refine LeO.bind ?_ (fun _ => ?_)
    · intro y0 y1 y2 y3 y4 y5 y6 y7 y8 y9 y10 y11 y12 y13 y14 y15 y16
      unfold aquiferref20_Value.j4
      repeat' first
      | (with_reducible exact ih0 _ _ _ _ _ _)
      | (with_reducible exact ih1 _ _ _ _ _ _ _)
      | (with_reducible exact ih2 _ _ _ _ _ _ _ _ _ _ _ _ _ _ _ _ _)
      | (with_reducible exact ih3 _ _ _ _ _ _ _ _ _ _ _ _ _ _ _ _)
      | (with_reducible exact ih4 _ _ _ _ _ _ _ _ _ _ _ _ _ _ _ _ _)
      | (with_reducible exact ih5 _ _ _ _ _ _ _ _ _ _ _ _ _ _ _ _)
      | (with_reducible exact aquiferref20_name.mono _ _ _ _ _ _)
      | (with_reducible exact LeO.refl _)
      | (with_reducible exact LeO.none _)
      | (with_reducible refine LeO.ite ?_ ?_)
      | (with_reducible refine LeO.bind ?_ (fun _ => ?_))
      | exact ih0 _ _ _ _ _ _
      | exact ih1 _ _ _ _ _ _ _
      | exact ih2 _ _ _ _ _ _ _ _ _ _ _ _ _ _ _ _ _
      | exact ih3 _ _ _ _ _ _ _ _ _ _ _ _ _ _ _ _
      | exact ih4 _ _ _ _ _ _ _ _ _ _ _ _ _ _ _ _ _
      | exact ih5 _ _ _ _ _ _ _ _ _ _ _ _ _ _ _ _
      | exact aquiferref20_name.mono _ _ _ _ _ _
      | exact LeO.none _
      | refine LeO.ite ?_ ?_
      | refine LeO.bind ?_ (fun _ => ?_)
    · intro y0 y1 y2 y3 y4 y5 y6 y7 y8 y9 y10 y11 y12 y13 y14 y15
      unfold aquiferref20_Value.j5
      repeat' first
      | (with_reducible exact ih0 _ _ _ _ _ _)
      | (with_reducible exact ih1 _ _ _ _ _ _ _)
      | (with_reducible exact ih2 _ _ _ _ _ _ _ _ _ _ _ _ _ _ _ _ _)
      | (with_reducible exact ih3 _ _ _ _ _ _ _ _ _ _ _ _ _ _ _ _)
      | (with_reducible exact ih4 _ _ _ _ _ _ _ _ _ _ _ _ _ _ _ _ _)
      | (with_reducible exact ih5 _ _ _ _ _ _ _ _ _ _ _ _ _ _ _ _)
      | (with_reducible exact aquiferref20_name.mono _ _ _ _ _ _)
      | (with_reducible exact LeO.refl _)
      | (with_reducible exact LeO.none _)
      | (with_reducible refine LeO.ite ?_ ?_)
      | (with_reducible refine LeO.bind ?_ (fun _ => ?_))
      | exact ih0 _ _ _ _ _ _
      | exact ih1 _ _ _ _ _ _ _
      | exact ih2 _ _ _ _ _ _ _ _ _ _ _ _ _ _ _ _ _
      | exact ih3 _ _ _ _ _ _ _ _ _ _ _ _ _ _ _ _
      | exact ih4 _ _ _ _ _ _ _ _ _ _ _ _ _ _ _ _ _
      | exact ih5 _ _ _ _ _ _ _ _ _ _ _ _ _ _ _ _
      | exact aquiferref20_name.mono _ _ _ _ _ _
      | exact LeO.none _
      | refine LeO.ite ?_ ?_
      | refine LeO.bind ?_ (fun _ => ?_)
theorem aquiferref20_Value.mono : ∀ a0 a1 a2 a3 a4 k, LeO (aquiferref20_Value.f k a0 a1 a2 a3 a4) (aquiferref20_Value.f (k + 1) a0 a1 a2 a3 a4) := by
  intro a0 a1 a2 a3 a4 k
  obtain ⟨ih0, ih1, ih2, ih3, ih4, ih5⟩ := aquiferref20_Value.mono_l k
  unfold aquiferref20_Value.f
  repeat' first
      | (with_reducible exact ih0 _ _ _ _ _ _)
      | (with_reducible exact ih1 _ _ _ _ _ _ _)
      | (with_reducible exact ih2 _ _ _ _ _ _ _ _ _ _ _ _ _ _ _ _ _)
      | (with_reducible exact ih3 _ _ _ _ _ _ _ _ _ _ _ _ _ _ _ _)
      | (with_reducible exact ih4 _ _ _ _ _ _ _ _ _ _ _ _ _ _ _ _ _)
      | (with_reducible exact ih5 _ _ _ _ _ _ _ _ _ _ _ _ _ _ _ _)
      | (with_reducible exact aquiferref20_name.mono _ _ _ _ _ _)
      | (with_reducible exact LeO.refl _)
      | (with_reducible exact LeO.none _)
      | (with_reducible refine LeO.ite ?_ ?_)
      | (with_reducible refine LeO.bind ?_ (fun _ => ?_))
      | exact ih0 _ _ _ _ _ _
      | exact ih1 _ _ _ _ _ _ _
      | exact ih2 _ _ _ _ _ _ _ _ _ _ _ _ _ _ _ _ _
      | exact ih3 _ _ _ _ _ _ _ _ _ _ _ _ _ _ _ _
      | exact ih4 _ _ _ _ _ _ _ _ _ _ _ _ _ _ _ _ _
      | exact ih5 _ _ _ _ _ _ _ _ _ _ _ _ _ _ _ _
      | exact aquiferref20_name.mono _ _ _ _ _ _
      | exact LeO.none _
      | refine LeO.ite ?_ ?_
      | refine LeO.bind ?_ (fun _ => ?_)
set_option maxHeartbeats 8000000 in
set_option maxRecDepth 100000 in
theorem aquiferref20_Value.calls (k : Nat) (A0 : Option Addr) (c0 : Nat) (l0 : List (S73)) (a1 : Int) (a2 : ByteArray) (A3 : Option Addr) (c3 : Nat) (l3 : List (S32)) (A4 : Option Addr) (c4 : Nat) (l4 : List (S32)) (r : Int) (w : World) (hr0 : Kd.C k73 w A0 l0.length l0) (hc0 : l0.length ≤ c0) (hr3 : Kd.C k32 w A3 l3.length l3) (hc3 : l3.length ≤ c3) (hr4 : Kd.C k32 w A4 l4.length l4) (hc4 : l4.length ≤ c4) (h : aquiferref20_Value.f k l0 a1 a2 l3 l4 = some r) :
    Calls Try.prog 15 #[.slice A0 l0.length c0, .int .i64 a1, .string a2, .slice A3 l3.length c3, .slice A4 l4.length c4] w fun e w' => e = .returned (.int .i64 r) ∧ Below w.heap.size w w' := by
  have hu73 := Try.underlying73
  have HR0 := Aside0.mk hr0
  have HC0 := Aside0.mk hc0
  clear hr0 hc0
  have HR3 := Aside0.mk hr3
  have HC3 := Aside0.mk hc3
  clear hr3 hc3
  have HR4 := Aside0.mk hr4
  have HC4 := Aside0.mk hc4
  clear hr4 hc4
  have HB := Aside0.mk (Below.refl w.heap.size w)
  have H : (if a1 < 0 then (aquiferref20_Value.j0 k l0 a1 a2 l3 l4 true) else (aquiferref20_Value.j0 k l0 a1 a2 l3 l4 (decide (a1 ≥ (l0.length : Int))))) = some r := h
  clear h
  have HC6 := Aside0.mk H
  clear H
  go_enter Try.func15, Try.ntmps15
  go_upto_region 1 with (fail)
  go_cut [23] (fun v23 wc => ∃ (kq : Nat) (x23_5 : Bool), v23 = .bool x23_5 ∧ Aside0 (aquiferref20_Value.j0 kq l0 a1 a2 l3 l4 x23_5 = some r) ∧ Aside0 (kq ≤ k) ∧ Aside0 (Below w.heap.size w wc))
  case first =>
    have H := HC6.out
    clear HC6
    by_cases c7 : a1 < 0
    · rw [if_pos c7] at H
      have c7b0 : decide (a1 < 0) = true := decide_eq_true c7
      clear c7
      (first | rw [c7b0] | (simp only [i64_w, i32_w]; rw [c7b0]) | skip)
      have H' := Aside0.mk H
      clear H
      go_wp2
      go_meet
      case rel => exact ⟨_, (true), (by first | rfl | (simp; done) | (simp [bne]; done) | (simp [*]; done)), H', ⟨by first | omega | exact Nat.le_refl _⟩, ⟨by repeat (first | (with_reducible first | exact HB.out | apply below_alloc | apply pw_below_drewN | apply below_drew1) | exact HB.out)⟩⟩
    · rw [if_neg c7] at H
      have c7b0 : decide (a1 < 0) = false := decide_eq_false c7
      clear c7
      (first | rw [c7b0] | (simp only [i64_w, i32_w]; rw [c7b0]) | skip)
      have H' := Aside0.mk H
      clear H
      go_wp2
      go_meet
      case rel => exact ⟨_, (decide (a1 ≥ (l0.length : Int))), (by first | rfl | (simp; done) | (simp [bne]; done) | (simp [*]; done)), H', ⟨by first | omega | exact Nat.le_refl _⟩, ⟨by repeat (first | (with_reducible first | exact HB.out | apply below_alloc | apply pw_below_drewN | apply below_drew1) | exact HB.out)⟩⟩
  case rest =>
    clear HC6
    try clear c1
    try clear p2
    try clear c3
    try clear c4
    try clear c7
    try clear c7b0
    obtain ⟨kq, x23_5, rfl, HA, HJ5, HB⟩ := hcut
    cases kq with
    | zero => exact absurd HA.out (by simp [aquiferref20_Value.j0])
    | succ kj5 =>
      have H := HA.out
      clear HA
      simp only [aquiferref20_Value.j0] at H
      by_cases c8 : x23_5 = true
      · subst c8
        have H1 : (some 0) = some r := by rw [if_pos rfl] at H; exact H
        clear H
        have H := H1
        clear H1
        obtain rfl := Option.some.inj H
        go_wp2
        go_ret
        exact ⟨by first | rfl | (simp [errW_none, errW_some] <;> rfl) | (simp [*, errW_none, errW_some] <;> rfl), by repeat (first | (with_reducible first | exact HB.out | apply below_alloc | apply pw_below_drewN | apply below_drew1) | exact HB.out)⟩
      · replace c8 := Bool.eq_false_iff.mpr c8
        subst c8
        have H1 : (if 0 ≤ (l0.length : Int) then (if ((l0.length : Int) : Int).toNat ≤ 35184372088832 then (aquiferref20_Value.l0 kj5 l0 a1 a2 l3 l4 (List.replicate ((l0.length : Int) : Int).toNat 0) 0) else (none)) else (none)) = some r := by rw [if_neg (show ¬ (false = true) by decide)] at H; exact H
        clear H
        have H := H1
        clear H1
        by_cases c9 : 0 ≤ (l0.length : Int)
        · rw [if_pos c9] at H
          have c9b0 := eq_true c9
          have c9b1 : decide (0 ≤ (l0.length : Int)) = true := decide_eq_true c9
          clear c9
          by_cases c10 : ((l0.length : Int) : Int).toNat ≤ 35184372088832
          · rw [if_pos c10] at H
            have c10b0 := eq_true c10
            have c10b1 : decide (((l0.length : Int) : Int).toNat ≤ 35184372088832) = true := decide_eq_true c10
            clear c10
            obtain ⟨y140, hy140⟩ : ∃ y_ : List Int, y_ = (List.replicate ((l0.length : Int) : Int).toNat 0) := ⟨_, rfl⟩
            replace H : (aquiferref20_Value.l0 kj5 l0 a1 a2 l3 l4 y140 0) = some r := by first | (rw [hy140]; with_reducible exact H) | (have H2_ := (Option.bind_some _ _).symm.trans H; rw [hy140]; with_reducible exact H2_) | (have H2_ := (Option.bind_some _ _).symm.trans H; with_reducible exact H2_) | with_reducible exact H | (rw [hy140]; exact H) | exact H
            have Ny140 := Aside0.mk hy140
            clear hy140
            have H' := Aside0.mk H
            clear H
            go_wp2_with (first | ((with_reducible refine gate_dst (N := 26) rfl ?_); (try (refine gate_guard (by rfl) ?_; dsimp only)); refine Kd.R_make (Kd.int .i64) _ 3 rfl (N := 26) rfl 71 _ _ rfl (l0.length : Int) rfl rfl Try.underlying71 (.int .i64 0) 8 info3 rfl (by decide) (by omega) 0 (ok := fun _ => True) (okp := fun _ => True) rfl (fun _ hk => hk) trivial (of_decide_eq_true (by first | (with_reducible assumption) | assumption)) (Nat.le_trans (Nat.mul_le_mul_right _ (of_decide_eq_true (by first | (with_reducible assumption) | assumption) : (l0.length : Int).toNat ≤ 35184372088832)) (by omega)) (Below.refl _ _) (Nat.le_refl _) ?_; intro v141 w11 ho12 hb hg_ hnew_; clear hg_ hnew_; (first | rw [← Ny140.out] at ho12 | (simp only [Int.reduceToNat] at ho12; rw [← Ny140.out] at ho12)); have n0_ := Aside0.mk (Kd.R_lower ho12 (below_size (by repeat (first | (with_reducible first | exact HB.out | apply below_alloc | apply pw_below_drewN | apply below_drew1) | exact HB.out)))); have n1_ := Aside0.mk (below_step (by repeat (first | (with_reducible first | exact HB.out | apply below_alloc | apply pw_below_drewN | apply below_drew1) | exact HB.out)) hb); clear HB; have HO142 := n0_; have HB := n1_; clear n0_ n1_; clear hb ho12))
            go_loopg [12] kj5 (fun kq v12 w' => ∃ (x11_2 : List Int) (x12_2 : Int), v12 = .int .i64 x12_2 ∧ Aside0 (aquiferref20_Value.l0 kq l0 a1 a2 l3 l4 x11_2 x12_2 = some r) ∧ Aside0 (kq ≤ kj5) ∧ Aside0 (Kd.R (Kd.int .i64) 3 w' w.heap.size (fun _ => True) v141 x11_2) ∧ Aside0 (Below w.heap.size w w'))
            case atStart => exact ⟨(y140), (0), (by first | rfl | (simp; done) | (simp [bne]; done) | (simp [*]; done)), H', ⟨Nat.le_refl _⟩, ⟨by (with_reducible repeat (first | apply Kd.R_alloc | apply Kd.R_drewN | apply Kd.R_drew)); exact HO142.out⟩, ⟨by repeat (first | (with_reducible first | exact HB.out | apply below_alloc | apply pw_below_drewN | apply below_drew1) | exact HB.out)⟩⟩
            case round =>
              clear H'
              try clear c1
              try clear p2
              try clear c3
              try clear c4
              try clear c7
              try clear c7b0
              try clear c8
              try clear c9
              try clear c9b0
              try clear c9b1
              try clear c10
              try clear c10b0
              try clear c10b1
              try clear p2
              obtain ⟨x11_2, x12_2, rfl, HA, HK2, HO_11, HB⟩ := hrel
              cases gk with
              | zero => exact absurd HA.out (by simp [aquiferref20_Value.l0])
              | succ k2 =>
                have H := HA.out
                clear HA
                simp only [aquiferref20_Value.l0] at H
                by_cases c13 : x12_2 ≤ a1
                · rw [if_pos c13] at H
                  have c13b0 : decide (x12_2 ≤ a1) = true := decide_eq_true c13
                  clear c13
                  by_cases c14 : 0 ≤ x12_2
                  · rw [if_pos c14] at H
                    have c14b0 : decide (0 ≤ x12_2) = true := decide_eq_true c14
                    clear c14
                    by_cases c15 : x12_2 < (l0.length : Int)
                    · rw [if_pos c15] at H
                      have c15b0 : decide (x12_2 < (l0.length : Int)) = true := decide_eq_true c15
                      clear c15
                      have HC16 := Aside0.mk H
                      clear H
                      have p144 : 0 ≤ (x12_2 : Int) := of_decide_eq_true (by first | (with_reducible assumption) | assumption)
                      have q144 : x12_2 < (l0.length : Int) := of_decide_eq_true (by first | (with_reducible assumption) | assumption)
                      obtain ⟨ad144, e144, hx144_0, hx144_1, hx144_2, hx144_3, hx144_4, hx144_5, hx144_6⟩ := at_T73 HR0.out x12_2 p144 q144
                      cases e144
                      replace hx144_0 := (HB.out.cell (World.block_lt_of_cell? w _ hx144_0)).trans hx144_0
                      replace hx144_1 := (HB.out.cell (World.block_lt_of_cell? w _ hx144_1)).trans hx144_1
                      replace hx144_2 := (HB.out.cell (World.block_lt_of_cell? w _ hx144_2)).trans hx144_2
                      replace hx144_3 := (HB.out.cell (World.block_lt_of_cell? w _ hx144_3)).trans hx144_3
                      replace hx144_4 := (HB.out.cell (World.block_lt_of_cell? w _ hx144_4)).trans hx144_4
                      replace hx144_5 := (HB.out.cell (World.block_lt_of_cell? w _ hx144_5)).trans hx144_5
                      replace hx144_6 := (HB.out.cell (World.block_lt_of_cell? w _ hx144_6)).trans hx144_6
                      replace p144 := eq_true p144
                      replace q144 := eq_true q144
                      go_upto_region 9 with (first | ((with_reducible refine gate_dst (N := 13) rfl ?_); (try (refine gate_guard (by rfl) ?_; dsimp only)); refine box_event ?hg (N := 13) ?hd (cs := #[.int .i64 0, .int .i64 0, .string (⟨#[]⟩ : ByteArray), .string (⟨#[]⟩ : ByteArray), .int .i64 0, .int .i64 0, .int .i64 0]) (t := 73) ?hr ?_; (case hd => rfl); (case hg => rfl); (case hr => first | (go_simp; done) | (go_simp; rfl)); intro gb145 hg w17 hbox hb; have n0_ := Aside0.mk (Kd.R_below (by (with_reducible repeat (first | apply Kd.R_alloc | apply Kd.R_drewN | apply Kd.R_drew)); exact HO_11.out) hb); have n1_ := Aside0.mk (below_step (by repeat (first | (with_reducible first | exact HB.out | apply below_alloc | apply pw_below_drewN | apply below_drew1) | exact HB.out)) hb); have n2_ := Aside0.mk (hbox); have n3_ := Aside0.mk ((by rw [hg]; exact (below_size (by repeat (first | (with_reducible first | exact HB.out | apply below_alloc | apply pw_below_drewN | apply below_drew1) | exact HB.out))) : w.heap.size ≤ gb145)); have n4_ := Aside0.mk ((by rw [hg]; exact (below_size (by repeat (first | (with_reducible first | exact HB.out | apply below_alloc | apply pw_below_drewN | apply below_drew1) | exact HB.out))) : w.heap.size ≤ gb145)); clear HO_11; clear HB; have HO_11 := n0_; have HB := n1_; have BK145 := n2_; have GW145 := n3_; have GE145 := n4_; clear n0_ n1_ n2_ n3_ n4_; clear hb hbox hg; have hcz18_0 : w17.cell? ⟨gb145, 0, none⟩ = some (.int .i64 0) := (blk_cell BK145.out 0).trans rfl; have hcz18_1 : w17.cell? ⟨gb145, 1, none⟩ = some (.int .i64 0) := (blk_cell BK145.out 1).trans rfl; have hcz18_2 : w17.cell? ⟨gb145, 2, none⟩ = some (.string (⟨#[]⟩ : ByteArray)) := (blk_cell BK145.out 2).trans rfl; have hcz18_3 : w17.cell? ⟨gb145, 3, none⟩ = some (.string (⟨#[]⟩ : ByteArray)) := (blk_cell BK145.out 3).trans rfl; have hcz18_4 : w17.cell? ⟨gb145, 4, none⟩ = some (.int .i64 0) := (blk_cell BK145.out 4).trans rfl; have hcz18_5 : w17.cell? ⟨gb145, 5, none⟩ = some (.int .i64 0) := (blk_cell BK145.out 5).trans rfl; have hcz18_6 : w17.cell? ⟨gb145, 6, none⟩ = some (.int .i64 0) := (blk_cell BK145.out 6).trans rfl; have hfz18_0 := blk_frozen BK145.out 0; have hfz18_1 := blk_frozen BK145.out 1; have hfz18_2 := blk_frozen BK145.out 2; have hfz18_3 := blk_frozen BK145.out 3; have hfz18_4 := blk_frozen BK145.out 4; have hfz18_5 := blk_frozen BK145.out 5; have hfz18_6 := blk_frozen BK145.out 6))
                      (try simp only [Act.put, List.setIfInBounds_toArray, List.set_cons_zero, List.set_cons_succ])
                      go_cut [44] (fun v44 wc => ∃ (kq : Nat) (x44_15 : Bool), v44 = .bool x44_15 ∧ Aside0 (aquiferref20_Value.j2 kq l0 a1 a2 l3 l4 x11_2 x12_2 0 0 x44_15 ((rd_T73 l0 x12_2).f0) ((rd_T73 l0 x12_2).f1) ((rd_T73 l0 x12_2).f2) ((rd_T73 l0 x12_2).f3) ((rd_T73 l0 x12_2).f4) ((rd_T73 l0 x12_2).f5) ((rd_T73 l0 x12_2).f6) = some r) ∧ Aside0 (kq ≤ k2) ∧ Aside0 (Kd.R (Kd.int .i64) 3 wc w.heap.size (fun _ => True) v141 x11_2) ∧ Aside0 (wc.heap[gb145]? = some (.cells #[.int .i64 ((rd_T73 l0 x12_2).f0), .int .i64 ((rd_T73 l0 x12_2).f1), .string ((rd_T73 l0 x12_2).f2), .string ((rd_T73 l0 x12_2).f3), .int .i64 ((rd_T73 l0 x12_2).f4), .int .i64 ((rd_T73 l0 x12_2).f5), .int .i64 ((rd_T73 l0 x12_2).f6)] 73 (0, 0))) ∧ Aside0 (Below w.heap.size w wc))
                      case first =>
                        have H := HC16.out
                        clear HC16
                        by_cases c19 : ((rd_T73 l0 x12_2).f4) ≥ 0
                        · rw [if_pos c19] at H
                          have c19b0 : decide (0 ≤ ((rd_T73 l0 x12_2).f4)) = true := decide_eq_true c19
                          clear c19
                          (first | rw [c19b0] | (simp only [i64_w, i32_w]; rw [c19b0]) | skip)
                          have H' := Aside0.mk H
                          clear H
                          have hcz20_0 : w17.cell? ⟨gb145, 0, none⟩ = some (.int .i64 0) := (blk_cell BK145.out 0).trans rfl
                          have hcz20_1 : w17.cell? ⟨gb145, 1, none⟩ = some (.int .i64 0) := (blk_cell BK145.out 1).trans rfl
                          have hcz20_2 : w17.cell? ⟨gb145, 2, none⟩ = some (.string (⟨#[]⟩ : ByteArray)) := (blk_cell BK145.out 2).trans rfl
                          have hcz20_3 : w17.cell? ⟨gb145, 3, none⟩ = some (.string (⟨#[]⟩ : ByteArray)) := (blk_cell BK145.out 3).trans rfl
                          have hcz20_4 : w17.cell? ⟨gb145, 4, none⟩ = some (.int .i64 0) := (blk_cell BK145.out 4).trans rfl
                          have hcz20_5 : w17.cell? ⟨gb145, 5, none⟩ = some (.int .i64 0) := (blk_cell BK145.out 5).trans rfl
                          have hcz20_6 : w17.cell? ⟨gb145, 6, none⟩ = some (.int .i64 0) := (blk_cell BK145.out 6).trans rfl
                          have hfz20_0 := blk_frozen BK145.out 0
                          have hfz20_1 := blk_frozen BK145.out 1
                          have hfz20_2 := blk_frozen BK145.out 2
                          have hfz20_3 := blk_frozen BK145.out 3
                          have hfz20_4 := blk_frozen BK145.out 4
                          have hfz20_5 := blk_frozen BK145.out 5
                          have hfz20_6 := blk_frozen BK145.out 6
                          go_wp2
                          go_meet
                          case rel => exact ⟨_, (decide (((rd_T73 l0 x12_2).f4) < x12_2)), (by first | rfl | (simp; done) | (simp [bne]; done) | (simp [*]; done)), H', ⟨by have := HJ5.out; have := HK2.out; first | omega | exact Nat.le_refl _⟩, ⟨by (with_reducible repeat (first | apply Kd.R_alloc | apply Kd.R_drewN | apply Kd.R_drew)); exact Kd.R_mono (Kd.R_far (p := ⟨gb145, 6, none⟩) (Kd.R_far (p := ⟨gb145, 5, none⟩) (Kd.R_far (p := ⟨gb145, 4, none⟩) (Kd.R_far (p := ⟨gb145, 3, none⟩) (Kd.R_far (p := ⟨gb145, 2, none⟩) (Kd.R_far (p := ⟨gb145, 1, none⟩) (Kd.R_far (p := ⟨gb145, 0, none⟩) (Kd.R_types HO_11.out BK145.out (by decide)) (fun _ hk => hk.2) (.int .i64 ((rd_T73 l0 x12_2).f0))) (fun _ hk => hk.2) (.int .i64 ((rd_T73 l0 x12_2).f1))) (fun _ hk => hk.2) (.string ((rd_T73 l0 x12_2).f2))) (fun _ hk => hk.2) (.string ((rd_T73 l0 x12_2).f3))) (fun _ hk => hk.2) (.int .i64 ((rd_T73 l0 x12_2).f4))) (fun _ hk => hk.2) (.int .i64 ((rd_T73 l0 x12_2).f5))) (fun _ hk => hk.2) (.int .i64 ((rd_T73 l0 x12_2).f6))) (fun _ hk => trivial)⟩, ⟨by (with_reducible repeat (first | refine blk_drewN ?_ _ | refine blk_drew ?_ | refine blk_alloc ?_ _)); refine blk_put (cs := #[.int .i64 ((rd_T73 l0 x12_2).f0), .int .i64 ((rd_T73 l0 x12_2).f1), .string ((rd_T73 l0 x12_2).f2), .string ((rd_T73 l0 x12_2).f3), .int .i64 ((rd_T73 l0 x12_2).f4), .int .i64 ((rd_T73 l0 x12_2).f5), .int .i64 0]) ?_ 6 _ rfl; (with_reducible repeat (first | refine blk_drewN ?_ _ | refine blk_drew ?_ | refine blk_alloc ?_ _)); refine blk_put (cs := #[.int .i64 ((rd_T73 l0 x12_2).f0), .int .i64 ((rd_T73 l0 x12_2).f1), .string ((rd_T73 l0 x12_2).f2), .string ((rd_T73 l0 x12_2).f3), .int .i64 ((rd_T73 l0 x12_2).f4), .int .i64 0, .int .i64 0]) ?_ 5 _ rfl; (with_reducible repeat (first | refine blk_drewN ?_ _ | refine blk_drew ?_ | refine blk_alloc ?_ _)); refine blk_put (cs := #[.int .i64 ((rd_T73 l0 x12_2).f0), .int .i64 ((rd_T73 l0 x12_2).f1), .string ((rd_T73 l0 x12_2).f2), .string ((rd_T73 l0 x12_2).f3), .int .i64 0, .int .i64 0, .int .i64 0]) ?_ 4 _ rfl; (with_reducible repeat (first | refine blk_drewN ?_ _ | refine blk_drew ?_ | refine blk_alloc ?_ _)); refine blk_put (cs := #[.int .i64 ((rd_T73 l0 x12_2).f0), .int .i64 ((rd_T73 l0 x12_2).f1), .string ((rd_T73 l0 x12_2).f2), .string (⟨#[]⟩ : ByteArray), .int .i64 0, .int .i64 0, .int .i64 0]) ?_ 3 _ rfl; (with_reducible repeat (first | refine blk_drewN ?_ _ | refine blk_drew ?_ | refine blk_alloc ?_ _)); refine blk_put (cs := #[.int .i64 ((rd_T73 l0 x12_2).f0), .int .i64 ((rd_T73 l0 x12_2).f1), .string (⟨#[]⟩ : ByteArray), .string (⟨#[]⟩ : ByteArray), .int .i64 0, .int .i64 0, .int .i64 0]) ?_ 2 _ rfl; (with_reducible repeat (first | refine blk_drewN ?_ _ | refine blk_drew ?_ | refine blk_alloc ?_ _)); refine blk_put (cs := #[.int .i64 ((rd_T73 l0 x12_2).f0), .int .i64 0, .string (⟨#[]⟩ : ByteArray), .string (⟨#[]⟩ : ByteArray), .int .i64 0, .int .i64 0, .int .i64 0]) ?_ 1 _ rfl; (with_reducible repeat (first | refine blk_drewN ?_ _ | refine blk_drew ?_ | refine blk_alloc ?_ _)); refine blk_put (cs := #[.int .i64 0, .int .i64 0, .string (⟨#[]⟩ : ByteArray), .string (⟨#[]⟩ : ByteArray), .int .i64 0, .int .i64 0, .int .i64 0]) ?_ 0 _ rfl; (with_reducible repeat (first | refine blk_drewN ?_ _ | refine blk_drew ?_ | refine blk_alloc ?_ _)); exact BK145.out⟩, ⟨by repeat (first | (with_reducible first | exact HB.out | apply below_alloc | apply pw_below_drewN | apply below_drew1 | refine below_set ?_ GE145.out) | exact HB.out)⟩⟩
                        · rw [if_neg c19] at H
                          have c19b0 : decide (0 ≤ ((rd_T73 l0 x12_2).f4)) = false := decide_eq_false c19
                          clear c19
                          (first | rw [c19b0] | (simp only [i64_w, i32_w]; rw [c19b0]) | skip)
                          have H' := Aside0.mk H
                          clear H
                          have hcz21_0 : w17.cell? ⟨gb145, 0, none⟩ = some (.int .i64 0) := (blk_cell BK145.out 0).trans rfl
                          have hcz21_1 : w17.cell? ⟨gb145, 1, none⟩ = some (.int .i64 0) := (blk_cell BK145.out 1).trans rfl
                          have hcz21_2 : w17.cell? ⟨gb145, 2, none⟩ = some (.string (⟨#[]⟩ : ByteArray)) := (blk_cell BK145.out 2).trans rfl
                          have hcz21_3 : w17.cell? ⟨gb145, 3, none⟩ = some (.string (⟨#[]⟩ : ByteArray)) := (blk_cell BK145.out 3).trans rfl
                          have hcz21_4 : w17.cell? ⟨gb145, 4, none⟩ = some (.int .i64 0) := (blk_cell BK145.out 4).trans rfl
                          have hcz21_5 : w17.cell? ⟨gb145, 5, none⟩ = some (.int .i64 0) := (blk_cell BK145.out 5).trans rfl
                          have hcz21_6 : w17.cell? ⟨gb145, 6, none⟩ = some (.int .i64 0) := (blk_cell BK145.out 6).trans rfl
                          have hfz21_0 := blk_frozen BK145.out 0
                          have hfz21_1 := blk_frozen BK145.out 1
                          have hfz21_2 := blk_frozen BK145.out 2
                          have hfz21_3 := blk_frozen BK145.out 3
                          have hfz21_4 := blk_frozen BK145.out 4
                          have hfz21_5 := blk_frozen BK145.out 5
                          have hfz21_6 := blk_frozen BK145.out 6
                          go_wp2
                          go_meet
                          case rel => exact ⟨_, (false), (by first | rfl | (simp; done) | (simp [bne]; done) | (simp [*]; done)), H', ⟨by have := HJ5.out; have := HK2.out; first | omega | exact Nat.le_refl _⟩, ⟨by (with_reducible repeat (first | apply Kd.R_alloc | apply Kd.R_drewN | apply Kd.R_drew)); exact Kd.R_mono (Kd.R_far (p := ⟨gb145, 6, none⟩) (Kd.R_far (p := ⟨gb145, 5, none⟩) (Kd.R_far (p := ⟨gb145, 4, none⟩) (Kd.R_far (p := ⟨gb145, 3, none⟩) (Kd.R_far (p := ⟨gb145, 2, none⟩) (Kd.R_far (p := ⟨gb145, 1, none⟩) (Kd.R_far (p := ⟨gb145, 0, none⟩) (Kd.R_types HO_11.out BK145.out (by decide)) (fun _ hk => hk.2) (.int .i64 ((rd_T73 l0 x12_2).f0))) (fun _ hk => hk.2) (.int .i64 ((rd_T73 l0 x12_2).f1))) (fun _ hk => hk.2) (.string ((rd_T73 l0 x12_2).f2))) (fun _ hk => hk.2) (.string ((rd_T73 l0 x12_2).f3))) (fun _ hk => hk.2) (.int .i64 ((rd_T73 l0 x12_2).f4))) (fun _ hk => hk.2) (.int .i64 ((rd_T73 l0 x12_2).f5))) (fun _ hk => hk.2) (.int .i64 ((rd_T73 l0 x12_2).f6))) (fun _ hk => trivial)⟩, ⟨by (with_reducible repeat (first | refine blk_drewN ?_ _ | refine blk_drew ?_ | refine blk_alloc ?_ _)); refine blk_put (cs := #[.int .i64 ((rd_T73 l0 x12_2).f0), .int .i64 ((rd_T73 l0 x12_2).f1), .string ((rd_T73 l0 x12_2).f2), .string ((rd_T73 l0 x12_2).f3), .int .i64 ((rd_T73 l0 x12_2).f4), .int .i64 ((rd_T73 l0 x12_2).f5), .int .i64 0]) ?_ 6 _ rfl; (with_reducible repeat (first | refine blk_drewN ?_ _ | refine blk_drew ?_ | refine blk_alloc ?_ _)); refine blk_put (cs := #[.int .i64 ((rd_T73 l0 x12_2).f0), .int .i64 ((rd_T73 l0 x12_2).f1), .string ((rd_T73 l0 x12_2).f2), .string ((rd_T73 l0 x12_2).f3), .int .i64 ((rd_T73 l0 x12_2).f4), .int .i64 0, .int .i64 0]) ?_ 5 _ rfl; (with_reducible repeat (first | refine blk_drewN ?_ _ | refine blk_drew ?_ | refine blk_alloc ?_ _)); refine blk_put (cs := #[.int .i64 ((rd_T73 l0 x12_2).f0), .int .i64 ((rd_T73 l0 x12_2).f1), .string ((rd_T73 l0 x12_2).f2), .string ((rd_T73 l0 x12_2).f3), .int .i64 0, .int .i64 0, .int .i64 0]) ?_ 4 _ rfl; (with_reducible repeat (first | refine blk_drewN ?_ _ | refine blk_drew ?_ | refine blk_alloc ?_ _)); refine blk_put (cs := #[.int .i64 ((rd_T73 l0 x12_2).f0), .int .i64 ((rd_T73 l0 x12_2).f1), .string ((rd_T73 l0 x12_2).f2), .string (⟨#[]⟩ : ByteArray), .int .i64 0, .int .i64 0, .int .i64 0]) ?_ 3 _ rfl; (with_reducible repeat (first | refine blk_drewN ?_ _ | refine blk_drew ?_ | refine blk_alloc ?_ _)); refine blk_put (cs := #[.int .i64 ((rd_T73 l0 x12_2).f0), .int .i64 ((rd_T73 l0 x12_2).f1), .string (⟨#[]⟩ : ByteArray), .string (⟨#[]⟩ : ByteArray), .int .i64 0, .int .i64 0, .int .i64 0]) ?_ 2 _ rfl; (with_reducible repeat (first | refine blk_drewN ?_ _ | refine blk_drew ?_ | refine blk_alloc ?_ _)); refine blk_put (cs := #[.int .i64 ((rd_T73 l0 x12_2).f0), .int .i64 0, .string (⟨#[]⟩ : ByteArray), .string (⟨#[]⟩ : ByteArray), .int .i64 0, .int .i64 0, .int .i64 0]) ?_ 1 _ rfl; (with_reducible repeat (first | refine blk_drewN ?_ _ | refine blk_drew ?_ | refine blk_alloc ?_ _)); refine blk_put (cs := #[.int .i64 0, .int .i64 0, .string (⟨#[]⟩ : ByteArray), .string (⟨#[]⟩ : ByteArray), .int .i64 0, .int .i64 0, .int .i64 0]) ?_ 0 _ rfl; (with_reducible repeat (first | refine blk_drewN ?_ _ | refine blk_drew ?_ | refine blk_alloc ?_ _)); exact BK145.out⟩, ⟨by repeat (first | (with_reducible first | exact HB.out | apply below_alloc | apply pw_below_drewN | apply below_drew1 | refine below_set ?_ GE145.out) | exact HB.out)⟩⟩
                      case rest =>
                        clear HC16
                        try clear c1
                        try clear p1
                        try clear q1
                        try clear hx1
                        try clear p2
                        try clear c3
                        try clear c4
                        try clear c7
                        try clear c7b0
                        try clear c8
                        try clear c9
                        try clear c9b0
                        try clear c9b1
                        try clear c10
                        try clear c10b0
                        try clear c10b1
                        try clear c13
                        try clear c13b0
                        try clear c14
                        try clear c14b0
                        try clear p14
                        try clear q14
                        try clear hx14
                        try clear c15
                        try clear c15b0
                        try clear c19
                        try clear c19b0
                        try clear hcz18_0
                        try clear hcz18_1
                        try clear hcz18_2
                        try clear hcz18_3
                        try clear hcz18_4
                        try clear hcz18_5
                        try clear hcz18_6
                        try clear hcz20_0
                        try clear hcz20_1
                        try clear hcz20_2
                        try clear hcz20_3
                        try clear hcz20_4
                        try clear hcz20_5
                        try clear hcz20_6
                        try clear hcz21_0
                        try clear hcz21_1
                        try clear hcz21_2
                        try clear hcz21_3
                        try clear hcz21_4
                        try clear hcz21_5
                        try clear hcz21_6
                        try clear hfz18_0
                        try clear hfz18_1
                        try clear hfz18_2
                        try clear hfz18_3
                        try clear hfz18_4
                        try clear hfz18_5
                        try clear hfz18_6
                        try clear hfz20_0
                        try clear hfz20_1
                        try clear hfz20_2
                        try clear hfz20_3
                        try clear hfz20_4
                        try clear hfz20_5
                        try clear hfz20_6
                        try clear hfz21_0
                        try clear hfz21_1
                        try clear hfz21_2
                        try clear hfz21_3
                        try clear hfz21_4
                        try clear hfz21_5
                        try clear hfz21_6
                        try clear hx144_0
                        try clear hx144_1
                        try clear hx144_2
                        try clear hx144_3
                        try clear hx144_4
                        try clear hx144_5
                        try clear hx144_6
                        try clear p144
                        try clear p2
                        try clear q144
                        obtain ⟨kq, x44_15, rfl, HA, HJ15, HO_11, BK145, HB⟩ := hcut
                        cases kq with
                        | zero => exact absurd HA.out (by simp [aquiferref20_Value.j2])
                        | succ kj15 =>
                          have H := HA.out
                          clear HA
                          simp only [aquiferref20_Value.j2] at H
                          have HC22 := Aside0.mk H
                          clear H
                          go_upto_if 44 with (fail)
                          go_cut [14] (fun v14 wc => ∃ (kq : Nat) (x14_21 : Int), v14 = .int .i64 x14_21 ∧ Aside0 (aquiferref20_Value.j3 kq l0 a1 a2 l3 l4 x11_2 x12_2 x14_21 0 ((rd_T73 l0 x12_2).f0) ((rd_T73 l0 x12_2).f1) ((rd_T73 l0 x12_2).f2) ((rd_T73 l0 x12_2).f3) ((rd_T73 l0 x12_2).f4) ((rd_T73 l0 x12_2).f5) ((rd_T73 l0 x12_2).f6) = some r) ∧ Aside0 (kq ≤ kj15) ∧ Aside0 (Kd.R (Kd.int .i64) 3 wc w.heap.size (fun _ => True) v141 x11_2) ∧ Aside0 (wc.heap[gb145]? = some (.cells #[.int .i64 ((rd_T73 l0 x12_2).f0), .int .i64 ((rd_T73 l0 x12_2).f1), .string ((rd_T73 l0 x12_2).f2), .string ((rd_T73 l0 x12_2).f3), .int .i64 ((rd_T73 l0 x12_2).f4), .int .i64 ((rd_T73 l0 x12_2).f5), .int .i64 ((rd_T73 l0 x12_2).f6)] 73 (0, 0))) ∧ Aside0 (Below w.heap.size w wc))
                          case first =>
                            have H := HC22.out
                            clear HC22
                            by_cases c23 : x44_15 = true
                            · subst c23
                              have H1 : (if 0 ≤ ((rd_T73 l0 x12_2).f4) then (if ((rd_T73 l0 x12_2).f4) < (x11_2.length : Int) then (aquiferref20_Value.j3 kj15 l0 a1 a2 l3 l4 x11_2 x12_2 (rd x11_2 ((rd_T73 l0 x12_2).f4)) 0 ((rd_T73 l0 x12_2).f0) ((rd_T73 l0 x12_2).f1) ((rd_T73 l0 x12_2).f2) ((rd_T73 l0 x12_2).f3) ((rd_T73 l0 x12_2).f4) ((rd_T73 l0 x12_2).f5) ((rd_T73 l0 x12_2).f6)) else (none)) else (none)) = some r := by rw [if_pos rfl] at H; exact H
                              clear H
                              have H := H1
                              clear H1
                              by_cases c24 : 0 ≤ ((rd_T73 l0 x12_2).f4)
                              · rw [if_pos c24] at H
                                have c24b0 : decide (0 ≤ ((rd_T73 l0 x12_2).f4)) = true := decide_eq_true c24
                                clear c24
                                (first | rw [c24b0] | (simp only [i64_w, i32_w]; rw [c24b0]) | skip)
                                by_cases c25 : ((rd_T73 l0 x12_2).f4) < (x11_2.length : Int)
                                · rw [if_pos c25] at H
                                  have c25b0 : decide (((rd_T73 l0 x12_2).f4) < (x11_2.length : Int)) = true := decide_eq_true c25
                                  clear c25
                                  have H' := Aside0.mk H
                                  clear H
                                  have hcz26_0 : wc.cell? ⟨gb145, 0, none⟩ = some (.int .i64 ((rd_T73 l0 x12_2).f0)) := (blk_cell BK145.out 0).trans rfl
                                  have hcz26_1 : wc.cell? ⟨gb145, 1, none⟩ = some (.int .i64 ((rd_T73 l0 x12_2).f1)) := (blk_cell BK145.out 1).trans rfl
                                  have hcz26_2 : wc.cell? ⟨gb145, 2, none⟩ = some (.string ((rd_T73 l0 x12_2).f2)) := (blk_cell BK145.out 2).trans rfl
                                  have hcz26_3 : wc.cell? ⟨gb145, 3, none⟩ = some (.string ((rd_T73 l0 x12_2).f3)) := (blk_cell BK145.out 3).trans rfl
                                  have hcz26_4 : wc.cell? ⟨gb145, 4, none⟩ = some (.int .i64 ((rd_T73 l0 x12_2).f4)) := (blk_cell BK145.out 4).trans rfl
                                  have hcz26_5 : wc.cell? ⟨gb145, 5, none⟩ = some (.int .i64 ((rd_T73 l0 x12_2).f5)) := (blk_cell BK145.out 5).trans rfl
                                  have hcz26_6 : wc.cell? ⟨gb145, 6, none⟩ = some (.int .i64 ((rd_T73 l0 x12_2).f6)) := (blk_cell BK145.out 6).trans rfl
                                  have hfz26_0 := blk_frozen BK145.out 0
                                  have hfz26_1 := blk_frozen BK145.out 1
                                  have hfz26_2 := blk_frozen BK145.out 2
                                  have hfz26_3 := blk_frozen BK145.out 3
                                  have hfz26_4 := blk_frozen BK145.out 4
                                  have hfz26_5 := blk_frozen BK145.out 5
                                  have hfz26_6 := blk_frozen BK145.out 6
                                  obtain ⟨Ao27, co27, eo27⟩ := Kd.R_slice HO_11.out
                                  subst eo27
                                  have p146 : 0 ≤ (((rd_T73 l0 x12_2).f4) : Int) := of_decide_eq_true (by first | (with_reducible assumption) | assumption)
                                  have q146 : ((rd_T73 l0 x12_2).f4) < (x11_2.length : Int) := of_decide_eq_true (by first | (with_reducible assumption) | assumption)
                                  obtain ⟨ad146, e146, hx146_0⟩ := Kd.at_int (Kd.R_reads' HO_11.out).2.2 ((rd_T73 l0 x12_2).f4) p146 q146
                                  cases e146
                                  replace p146 := eq_true p146
                                  replace q146 := eq_true q146
                                  go_wp2
                                  go_meet
                                  case rel => exact ⟨_, (rd x11_2 ((rd_T73 l0 x12_2).f4)), (by first | rfl | (simp; done) | (simp [bne]; done) | (simp [*]; done)), H', ⟨by have := HJ5.out; have := HK2.out; have := HJ15.out; first | omega | exact Nat.le_refl _⟩, ⟨by (with_reducible repeat (first | apply Kd.R_alloc | apply Kd.R_drewN | apply Kd.R_drew)); exact HO_11.out⟩, ⟨by (with_reducible repeat (first | refine blk_drewN ?_ _ | refine blk_drew ?_ | refine blk_alloc ?_ _)); exact BK145.out⟩, ⟨by repeat (first | (with_reducible first | exact HB.out | apply below_alloc | apply pw_below_drewN | apply below_drew1 | refine below_set ?_ GE145.out) | exact HB.out)⟩⟩
                                · rw [if_neg c25] at H
                                  exact absurd H (by simp)
                              · rw [if_neg c24] at H
                                exact absurd H (by simp)
                            · replace c23 := Bool.eq_false_iff.mpr c23
                              subst c23
                              have H1 : (aquiferref20_Value.j3 kj15 l0 a1 a2 l3 l4 x11_2 x12_2 0 0 ((rd_T73 l0 x12_2).f0) ((rd_T73 l0 x12_2).f1) ((rd_T73 l0 x12_2).f2) ((rd_T73 l0 x12_2).f3) ((rd_T73 l0 x12_2).f4) ((rd_T73 l0 x12_2).f5) ((rd_T73 l0 x12_2).f6)) = some r := by rw [if_neg (show ¬ (false = true) by decide)] at H; exact H
                              clear H
                              have H := H1
                              clear H1
                              have H' := Aside0.mk H
                              clear H
                              go_wp2
                              go_meet
                              case rel => exact ⟨_, (0), (by first | rfl | (simp; done) | (simp [bne]; done) | (simp [*]; done)), H', ⟨by have := HJ5.out; have := HK2.out; have := HJ15.out; first | omega | exact Nat.le_refl _⟩, ⟨by (with_reducible repeat (first | apply Kd.R_alloc | apply Kd.R_drewN | apply Kd.R_drew)); exact HO_11.out⟩, ⟨by (with_reducible repeat (first | refine blk_drewN ?_ _ | refine blk_drew ?_ | refine blk_alloc ?_ _)); exact BK145.out⟩, ⟨by repeat (first | (with_reducible first | exact HB.out | apply below_alloc | apply pw_below_drewN | apply below_drew1 | refine below_set ?_ GE145.out) | exact HB.out)⟩⟩
                          case rest =>
                            clear HC22
                            try clear c1
                            try clear p1
                            try clear q1
                            try clear hx1
                            try clear c2
                            try clear p2
                            try clear c3
                            try clear c4
                            try clear c7
                            try clear c7b0
                            try clear c8
                            try clear c9
                            try clear c9b0
                            try clear c9b1
                            try clear c10
                            try clear c10b0
                            try clear c10b1
                            try clear c13
                            try clear c13b0
                            try clear c14
                            try clear c14b0
                            try clear p14
                            try clear q14
                            try clear hx14
                            try clear c15
                            try clear c15b0
                            try clear c19
                            try clear c19b0
                            try clear c23
                            try clear c24
                            try clear c24b0
                            try clear c25
                            try clear c25b0
                            try clear hcz18_0
                            try clear hcz18_1
                            try clear hcz18_2
                            try clear hcz18_3
                            try clear hcz18_4
                            try clear hcz18_5
                            try clear hcz18_6
                            try clear hcz20_0
                            try clear hcz20_1
                            try clear hcz20_2
                            try clear hcz20_3
                            try clear hcz20_4
                            try clear hcz20_5
                            try clear hcz20_6
                            try clear hcz21_0
                            try clear hcz21_1
                            try clear hcz21_2
                            try clear hcz21_3
                            try clear hcz21_4
                            try clear hcz21_5
                            try clear hcz21_6
                            try clear hcz26_0
                            try clear hcz26_1
                            try clear hcz26_2
                            try clear hcz26_3
                            try clear hcz26_4
                            try clear hcz26_5
                            try clear hcz26_6
                            try clear hfz18_0
                            try clear hfz18_1
                            try clear hfz18_2
                            try clear hfz18_3
                            try clear hfz18_4
                            try clear hfz18_5
                            try clear hfz18_6
                            try clear hfz20_0
                            try clear hfz20_1
                            try clear hfz20_2
                            try clear hfz20_3
                            try clear hfz20_4
                            try clear hfz20_5
                            try clear hfz20_6
                            try clear hfz21_0
                            try clear hfz21_1
                            try clear hfz21_2
                            try clear hfz21_3
                            try clear hfz21_4
                            try clear hfz21_5
                            try clear hfz21_6
                            try clear hfz26_0
                            try clear hfz26_1
                            try clear hfz26_2
                            try clear hfz26_3
                            try clear hfz26_4
                            try clear hfz26_5
                            try clear hfz26_6
                            try clear hx144_0
                            try clear hx144_1
                            try clear hx144_2
                            try clear hx144_3
                            try clear hx144_4
                            try clear hx144_5
                            try clear hx144_6
                            try clear hx146_0
                            try clear p1
                            try clear p14
                            try clear p144
                            try clear p146
                            try clear p2
                            try clear q1
                            try clear q14
                            try clear q144
                            try clear q146
                            obtain ⟨kq, x14_21, rfl, HA, HJ21, HO_11, BK145, HB⟩ := hcut
                            cases kq with
                            | zero => exact absurd HA.out (by simp [aquiferref20_Value.j3])
                            | succ kj21 =>
                              have H := HA.out
                              clear HA
                              simp only [aquiferref20_Value.j3] at H
                              have HC28 := Aside0.mk H
                              clear H
                              go_upto_region 11 with (fail)
                              go_cut [58] (fun v58 wc => ∃ (kq : Nat) (x58_27 : Bool), v58 = .bool x58_27 ∧ Aside0 (aquiferref20_Value.j4 kq l0 a1 a2 l3 l4 x11_2 x12_2 x14_21 0 x58_27 ((rd_T73 l0 x12_2).f0) ((rd_T73 l0 x12_2).f1) ((rd_T73 l0 x12_2).f2) ((rd_T73 l0 x12_2).f3) ((rd_T73 l0 x12_2).f4) ((rd_T73 l0 x12_2).f5) ((rd_T73 l0 x12_2).f6) = some r) ∧ Aside0 (kq ≤ kj21) ∧ Aside0 (Kd.R (Kd.int .i64) 3 wc w.heap.size (fun _ => True) v141 x11_2) ∧ Aside0 (wc.heap[gb145]? = some (.cells #[.int .i64 ((rd_T73 l0 x12_2).f0), .int .i64 ((rd_T73 l0 x12_2).f1), .string ((rd_T73 l0 x12_2).f2), .string ((rd_T73 l0 x12_2).f3), .int .i64 ((rd_T73 l0 x12_2).f4), .int .i64 ((rd_T73 l0 x12_2).f5), .int .i64 ((rd_T73 l0 x12_2).f6)] 73 (0, 0))) ∧ Aside0 (Below w.heap.size w wc))
                              case first =>
                                have H := HC28.out
                                clear HC28
                                by_cases c29 : ((rd_T73 l0 x12_2).f5) ≥ 0
                                · rw [if_pos c29] at H
                                  have c29b0 : decide (0 ≤ ((rd_T73 l0 x12_2).f5)) = true := decide_eq_true c29
                                  clear c29
                                  (first | rw [c29b0] | (simp only [i64_w, i32_w]; rw [c29b0]) | skip)
                                  have H' := Aside0.mk H
                                  clear H
                                  have hcz30_0 : wc.cell? ⟨gb145, 0, none⟩ = some (.int .i64 ((rd_T73 l0 x12_2).f0)) := (blk_cell BK145.out 0).trans rfl
                                  have hcz30_1 : wc.cell? ⟨gb145, 1, none⟩ = some (.int .i64 ((rd_T73 l0 x12_2).f1)) := (blk_cell BK145.out 1).trans rfl
                                  have hcz30_2 : wc.cell? ⟨gb145, 2, none⟩ = some (.string ((rd_T73 l0 x12_2).f2)) := (blk_cell BK145.out 2).trans rfl
                                  have hcz30_3 : wc.cell? ⟨gb145, 3, none⟩ = some (.string ((rd_T73 l0 x12_2).f3)) := (blk_cell BK145.out 3).trans rfl
                                  have hcz30_4 : wc.cell? ⟨gb145, 4, none⟩ = some (.int .i64 ((rd_T73 l0 x12_2).f4)) := (blk_cell BK145.out 4).trans rfl
                                  have hcz30_5 : wc.cell? ⟨gb145, 5, none⟩ = some (.int .i64 ((rd_T73 l0 x12_2).f5)) := (blk_cell BK145.out 5).trans rfl
                                  have hcz30_6 : wc.cell? ⟨gb145, 6, none⟩ = some (.int .i64 ((rd_T73 l0 x12_2).f6)) := (blk_cell BK145.out 6).trans rfl
                                  have hfz30_0 := blk_frozen BK145.out 0
                                  have hfz30_1 := blk_frozen BK145.out 1
                                  have hfz30_2 := blk_frozen BK145.out 2
                                  have hfz30_3 := blk_frozen BK145.out 3
                                  have hfz30_4 := blk_frozen BK145.out 4
                                  have hfz30_5 := blk_frozen BK145.out 5
                                  have hfz30_6 := blk_frozen BK145.out 6
                                  go_wp2
                                  go_meet
                                  case rel => exact ⟨_, (decide (((rd_T73 l0 x12_2).f5) < x12_2)), (by first | rfl | (simp; done) | (simp [bne]; done) | (simp [*]; done)), H', ⟨by have := HJ5.out; have := HK2.out; have := HJ15.out; have := HJ21.out; first | omega | exact Nat.le_refl _⟩, ⟨by (with_reducible repeat (first | apply Kd.R_alloc | apply Kd.R_drewN | apply Kd.R_drew)); exact HO_11.out⟩, ⟨by (with_reducible repeat (first | refine blk_drewN ?_ _ | refine blk_drew ?_ | refine blk_alloc ?_ _)); exact BK145.out⟩, ⟨by repeat (first | (with_reducible first | exact HB.out | apply below_alloc | apply pw_below_drewN | apply below_drew1 | refine below_set ?_ GE145.out) | exact HB.out)⟩⟩
                                · rw [if_neg c29] at H
                                  have c29b0 : decide (0 ≤ ((rd_T73 l0 x12_2).f5)) = false := decide_eq_false c29
                                  clear c29
                                  (first | rw [c29b0] | (simp only [i64_w, i32_w]; rw [c29b0]) | skip)
                                  have H' := Aside0.mk H
                                  clear H
                                  have hcz31_0 : wc.cell? ⟨gb145, 0, none⟩ = some (.int .i64 ((rd_T73 l0 x12_2).f0)) := (blk_cell BK145.out 0).trans rfl
                                  have hcz31_1 : wc.cell? ⟨gb145, 1, none⟩ = some (.int .i64 ((rd_T73 l0 x12_2).f1)) := (blk_cell BK145.out 1).trans rfl
                                  have hcz31_2 : wc.cell? ⟨gb145, 2, none⟩ = some (.string ((rd_T73 l0 x12_2).f2)) := (blk_cell BK145.out 2).trans rfl
                                  have hcz31_3 : wc.cell? ⟨gb145, 3, none⟩ = some (.string ((rd_T73 l0 x12_2).f3)) := (blk_cell BK145.out 3).trans rfl
                                  have hcz31_4 : wc.cell? ⟨gb145, 4, none⟩ = some (.int .i64 ((rd_T73 l0 x12_2).f4)) := (blk_cell BK145.out 4).trans rfl
                                  have hcz31_5 : wc.cell? ⟨gb145, 5, none⟩ = some (.int .i64 ((rd_T73 l0 x12_2).f5)) := (blk_cell BK145.out 5).trans rfl
                                  have hcz31_6 : wc.cell? ⟨gb145, 6, none⟩ = some (.int .i64 ((rd_T73 l0 x12_2).f6)) := (blk_cell BK145.out 6).trans rfl
                                  have hfz31_0 := blk_frozen BK145.out 0
                                  have hfz31_1 := blk_frozen BK145.out 1
                                  have hfz31_2 := blk_frozen BK145.out 2
                                  have hfz31_3 := blk_frozen BK145.out 3
                                  have hfz31_4 := blk_frozen BK145.out 4
                                  have hfz31_5 := blk_frozen BK145.out 5
                                  have hfz31_6 := blk_frozen BK145.out 6
                                  go_wp2
                                  go_meet
                                  case rel => exact ⟨_, (false), (by first | rfl | (simp; done) | (simp [bne]; done) | (simp [*]; done)), H', ⟨by have := HJ5.out; have := HK2.out; have := HJ15.out; have := HJ21.out; first | omega | exact Nat.le_refl _⟩, ⟨by (with_reducible repeat (first | apply Kd.R_alloc | apply Kd.R_drewN | apply Kd.R_drew)); exact HO_11.out⟩, ⟨by (with_reducible repeat (first | refine blk_drewN ?_ _ | refine blk_drew ?_ | refine blk_alloc ?_ _)); exact BK145.out⟩, ⟨by repeat (first | (with_reducible first | exact HB.out | apply below_alloc | apply pw_below_drewN | apply below_drew1 | refine below_set ?_ GE145.out) | exact HB.out)⟩⟩
                              case rest =>
                                clear HC28
                                try clear c1
                                try clear p1
                                try clear q1
                                try clear hx1
                                try clear c2
                                try clear p2
                                try clear c3
                                try clear c4
                                try clear c7
                                try clear c7b0
                                try clear c8
                                try clear c9
                                try clear c9b0
                                try clear c9b1
                                try clear c10
                                try clear c10b0
                                try clear c10b1
                                try clear c13
                                try clear c13b0
                                try clear c14
                                try clear c14b0
                                try clear p14
                                try clear q14
                                try clear hx14
                                try clear c15
                                try clear c15b0
                                try clear c19
                                try clear c19b0
                                try clear c23
                                try clear c24
                                try clear c24b0
                                try clear c25
                                try clear c25b0
                                try clear c29
                                try clear c29b0
                                try clear hcz18_0
                                try clear hcz18_1
                                try clear hcz18_2
                                try clear hcz18_3
                                try clear hcz18_4
                                try clear hcz18_5
                                try clear hcz18_6
                                try clear hcz20_0
                                try clear hcz20_1
                                try clear hcz20_2
                                try clear hcz20_3
                                try clear hcz20_4
                                try clear hcz20_5
                                try clear hcz20_6
                                try clear hcz21_0
                                try clear hcz21_1
                                try clear hcz21_2
                                try clear hcz21_3
                                try clear hcz21_4
                                try clear hcz21_5
                                try clear hcz21_6
                                try clear hcz26_0
                                try clear hcz26_1
                                try clear hcz26_2
                                try clear hcz26_3
                                try clear hcz26_4
                                try clear hcz26_5
                                try clear hcz26_6
                                try clear hcz30_0
                                try clear hcz30_1
                                try clear hcz30_2
                                try clear hcz30_3
                                try clear hcz30_4
                                try clear hcz30_5
                                try clear hcz30_6
                                try clear hcz31_0
                                try clear hcz31_1
                                try clear hcz31_2
                                try clear hcz31_3
                                try clear hcz31_4
                                try clear hcz31_5
                                try clear hcz31_6
                                try clear hfz18_0
                                try clear hfz18_1
                                try clear hfz18_2
                                try clear hfz18_3
                                try clear hfz18_4
                                try clear hfz18_5
                                try clear hfz18_6
                                try clear hfz20_0
                                try clear hfz20_1
                                try clear hfz20_2
                                try clear hfz20_3
                                try clear hfz20_4
                                try clear hfz20_5
                                try clear hfz20_6
                                try clear hfz21_0
                                try clear hfz21_1
                                try clear hfz21_2
                                try clear hfz21_3
                                try clear hfz21_4
                                try clear hfz21_5
                                try clear hfz21_6
                                try clear hfz26_0
                                try clear hfz26_1
                                try clear hfz26_2
                                try clear hfz26_3
                                try clear hfz26_4
                                try clear hfz26_5
                                try clear hfz26_6
                                try clear hfz30_0
                                try clear hfz30_1
                                try clear hfz30_2
                                try clear hfz30_3
                                try clear hfz30_4
                                try clear hfz30_5
                                try clear hfz30_6
                                try clear hfz31_0
                                try clear hfz31_1
                                try clear hfz31_2
                                try clear hfz31_3
                                try clear hfz31_4
                                try clear hfz31_5
                                try clear hfz31_6
                                try clear hx144_0
                                try clear hx144_1
                                try clear hx144_2
                                try clear hx144_3
                                try clear hx144_4
                                try clear hx144_5
                                try clear hx144_6
                                try clear hx146_0
                                try clear p1
                                try clear p14
                                try clear p144
                                try clear p146
                                try clear p2
                                try clear q1
                                try clear q14
                                try clear q144
                                try clear q146
                                obtain ⟨kq, x58_27, rfl, HA, HJ27, HO_11, BK145, HB⟩ := hcut
                                cases kq with
                                | zero => exact absurd HA.out (by simp [aquiferref20_Value.j4])
                                | succ kj27 =>
                                  have H := HA.out
                                  clear HA
                                  simp only [aquiferref20_Value.j4] at H
                                  have HC32 := Aside0.mk H
                                  clear H
                                  go_upto_if 58 with (fail)
                                  go_cut [15] (fun v15 wc => ∃ (kq : Nat) (x15_31 : Int), v15 = .int .i64 x15_31 ∧ Aside0 (aquiferref20_Value.j5 kq l0 a1 a2 l3 l4 x11_2 x12_2 x14_21 x15_31 ((rd_T73 l0 x12_2).f0) ((rd_T73 l0 x12_2).f1) ((rd_T73 l0 x12_2).f2) ((rd_T73 l0 x12_2).f3) ((rd_T73 l0 x12_2).f4) ((rd_T73 l0 x12_2).f5) ((rd_T73 l0 x12_2).f6) = some r) ∧ Aside0 (kq ≤ kj27) ∧ Aside0 (Kd.R (Kd.int .i64) 3 wc w.heap.size (fun _ => True) v141 x11_2) ∧ Aside0 (wc.heap[gb145]? = some (.cells #[.int .i64 ((rd_T73 l0 x12_2).f0), .int .i64 ((rd_T73 l0 x12_2).f1), .string ((rd_T73 l0 x12_2).f2), .string ((rd_T73 l0 x12_2).f3), .int .i64 ((rd_T73 l0 x12_2).f4), .int .i64 ((rd_T73 l0 x12_2).f5), .int .i64 ((rd_T73 l0 x12_2).f6)] 73 (0, 0))) ∧ Aside0 (Below w.heap.size w wc))
                                  case first =>
                                    have H := HC32.out
                                    clear HC32
                                    by_cases c33 : x58_27 = true
                                    · subst c33
                                      have H1 : (if 0 ≤ ((rd_T73 l0 x12_2).f5) then (if ((rd_T73 l0 x12_2).f5) < (x11_2.length : Int) then (aquiferref20_Value.j5 kj27 l0 a1 a2 l3 l4 x11_2 x12_2 x14_21 (rd x11_2 ((rd_T73 l0 x12_2).f5)) ((rd_T73 l0 x12_2).f0) ((rd_T73 l0 x12_2).f1) ((rd_T73 l0 x12_2).f2) ((rd_T73 l0 x12_2).f3) ((rd_T73 l0 x12_2).f4) ((rd_T73 l0 x12_2).f5) ((rd_T73 l0 x12_2).f6)) else (none)) else (none)) = some r := by rw [if_pos rfl] at H; exact H
                                      clear H
                                      have H := H1
                                      clear H1
                                      by_cases c34 : 0 ≤ ((rd_T73 l0 x12_2).f5)
                                      · rw [if_pos c34] at H
                                        have c34b0 : decide (0 ≤ ((rd_T73 l0 x12_2).f5)) = true := decide_eq_true c34
                                        clear c34
                                        (first | rw [c34b0] | (simp only [i64_w, i32_w]; rw [c34b0]) | skip)
                                        by_cases c35 : ((rd_T73 l0 x12_2).f5) < (x11_2.length : Int)
                                        · rw [if_pos c35] at H
                                          have c35b0 : decide (((rd_T73 l0 x12_2).f5) < (x11_2.length : Int)) = true := decide_eq_true c35
                                          clear c35
                                          have H' := Aside0.mk H
                                          clear H
                                          have hcz36_0 : wc.cell? ⟨gb145, 0, none⟩ = some (.int .i64 ((rd_T73 l0 x12_2).f0)) := (blk_cell BK145.out 0).trans rfl
                                          have hcz36_1 : wc.cell? ⟨gb145, 1, none⟩ = some (.int .i64 ((rd_T73 l0 x12_2).f1)) := (blk_cell BK145.out 1).trans rfl
                                          have hcz36_2 : wc.cell? ⟨gb145, 2, none⟩ = some (.string ((rd_T73 l0 x12_2).f2)) := (blk_cell BK145.out 2).trans rfl
                                          have hcz36_3 : wc.cell? ⟨gb145, 3, none⟩ = some (.string ((rd_T73 l0 x12_2).f3)) := (blk_cell BK145.out 3).trans rfl
                                          have hcz36_4 : wc.cell? ⟨gb145, 4, none⟩ = some (.int .i64 ((rd_T73 l0 x12_2).f4)) := (blk_cell BK145.out 4).trans rfl
                                          have hcz36_5 : wc.cell? ⟨gb145, 5, none⟩ = some (.int .i64 ((rd_T73 l0 x12_2).f5)) := (blk_cell BK145.out 5).trans rfl
                                          have hcz36_6 : wc.cell? ⟨gb145, 6, none⟩ = some (.int .i64 ((rd_T73 l0 x12_2).f6)) := (blk_cell BK145.out 6).trans rfl
                                          have hfz36_0 := blk_frozen BK145.out 0
                                          have hfz36_1 := blk_frozen BK145.out 1
                                          have hfz36_2 := blk_frozen BK145.out 2
                                          have hfz36_3 := blk_frozen BK145.out 3
                                          have hfz36_4 := blk_frozen BK145.out 4
                                          have hfz36_5 := blk_frozen BK145.out 5
                                          have hfz36_6 := blk_frozen BK145.out 6
                                          obtain ⟨Ao37, co37, eo37⟩ := Kd.R_slice HO_11.out
                                          subst eo37
                                          have p147 : 0 ≤ (((rd_T73 l0 x12_2).f5) : Int) := of_decide_eq_true (by first | (with_reducible assumption) | assumption)
                                          have q147 : ((rd_T73 l0 x12_2).f5) < (x11_2.length : Int) := of_decide_eq_true (by first | (with_reducible assumption) | assumption)
                                          obtain ⟨ad147, e147, hx147_0⟩ := Kd.at_int (Kd.R_reads' HO_11.out).2.2 ((rd_T73 l0 x12_2).f5) p147 q147
                                          cases e147
                                          replace p147 := eq_true p147
                                          replace q147 := eq_true q147
                                          go_wp2
                                          go_meet
                                          case rel => exact ⟨_, (rd x11_2 ((rd_T73 l0 x12_2).f5)), (by first | rfl | (simp; done) | (simp [bne]; done) | (simp [*]; done)), H', ⟨by have := HJ5.out; have := HK2.out; have := HJ15.out; have := HJ21.out; have := HJ27.out; first | omega | exact Nat.le_refl _⟩, ⟨by (with_reducible repeat (first | apply Kd.R_alloc | apply Kd.R_drewN | apply Kd.R_drew)); exact HO_11.out⟩, ⟨by (with_reducible repeat (first | refine blk_drewN ?_ _ | refine blk_drew ?_ | refine blk_alloc ?_ _)); exact BK145.out⟩, ⟨by repeat (first | (with_reducible first | exact HB.out | apply below_alloc | apply pw_below_drewN | apply below_drew1 | refine below_set ?_ GE145.out) | exact HB.out)⟩⟩
                                        · rw [if_neg c35] at H
                                          exact absurd H (by simp)
                                      · rw [if_neg c34] at H
                                        exact absurd H (by simp)
                                    · replace c33 := Bool.eq_false_iff.mpr c33
                                      subst c33
                                      have H1 : (aquiferref20_Value.j5 kj27 l0 a1 a2 l3 l4 x11_2 x12_2 x14_21 0 ((rd_T73 l0 x12_2).f0) ((rd_T73 l0 x12_2).f1) ((rd_T73 l0 x12_2).f2) ((rd_T73 l0 x12_2).f3) ((rd_T73 l0 x12_2).f4) ((rd_T73 l0 x12_2).f5) ((rd_T73 l0 x12_2).f6)) = some r := by rw [if_neg (show ¬ (false = true) by decide)] at H; exact H
                                      clear H
                                      have H := H1
                                      clear H1
                                      have H' := Aside0.mk H
                                      clear H
                                      go_wp2
                                      go_meet
                                      case rel => exact ⟨_, (0), (by first | rfl | (simp; done) | (simp [bne]; done) | (simp [*]; done)), H', ⟨by have := HJ5.out; have := HK2.out; have := HJ15.out; have := HJ21.out; have := HJ27.out; first | omega | exact Nat.le_refl _⟩, ⟨by (with_reducible repeat (first | apply Kd.R_alloc | apply Kd.R_drewN | apply Kd.R_drew)); exact HO_11.out⟩, ⟨by (with_reducible repeat (first | refine blk_drewN ?_ _ | refine blk_drew ?_ | refine blk_alloc ?_ _)); exact BK145.out⟩, ⟨by repeat (first | (with_reducible first | exact HB.out | apply below_alloc | apply pw_below_drewN | apply below_drew1 | refine below_set ?_ GE145.out) | exact HB.out)⟩⟩
                                  case rest =>
                                    clear HC32
                                    try clear c1
                                    try clear p1
                                    try clear q1
                                    try clear hx1
                                    try clear c2
                                    try clear p2
                                    try clear c3
                                    try clear c4
                                    try clear c7
                                    try clear c7b0
                                    try clear c8
                                    try clear c9
                                    try clear c9b0
                                    try clear c9b1
                                    try clear c10
                                    try clear c10b0
                                    try clear c10b1
                                    try clear c13
                                    try clear c13b0
                                    try clear c14
                                    try clear c14b0
                                    try clear p14
                                    try clear q14
                                    try clear hx14
                                    try clear c15
                                    try clear c15b0
                                    try clear c19
                                    try clear c19b0
                                    try clear c23
                                    try clear c24
                                    try clear c24b0
                                    try clear c25
                                    try clear c25b0
                                    try clear c29
                                    try clear c29b0
                                    try clear c33
                                    try clear c34
                                    try clear c34b0
                                    try clear c35
                                    try clear c35b0
                                    try clear hcz18_0
                                    try clear hcz18_1
                                    try clear hcz18_2
                                    try clear hcz18_3
                                    try clear hcz18_4
                                    try clear hcz18_5
                                    try clear hcz18_6
                                    try clear hcz20_0
                                    try clear hcz20_1
                                    try clear hcz20_2
                                    try clear hcz20_3
                                    try clear hcz20_4
                                    try clear hcz20_5
                                    try clear hcz20_6
                                    try clear hcz21_0
                                    try clear hcz21_1
                                    try clear hcz21_2
                                    try clear hcz21_3
                                    try clear hcz21_4
                                    try clear hcz21_5
                                    try clear hcz21_6
                                    try clear hcz26_0
                                    try clear hcz26_1
                                    try clear hcz26_2
                                    try clear hcz26_3
                                    try clear hcz26_4
                                    try clear hcz26_5
                                    try clear hcz26_6
                                    try clear hcz30_0
                                    try clear hcz30_1
                                    try clear hcz30_2
                                    try clear hcz30_3
                                    try clear hcz30_4
                                    try clear hcz30_5
                                    try clear hcz30_6
                                    try clear hcz31_0
                                    try clear hcz31_1
                                    try clear hcz31_2
                                    try clear hcz31_3
                                    try clear hcz31_4
                                    try clear hcz31_5
                                    try clear hcz31_6
                                    try clear hcz36_0
                                    try clear hcz36_1
                                    try clear hcz36_2
                                    try clear hcz36_3
                                    try clear hcz36_4
                                    try clear hcz36_5
                                    try clear hcz36_6
                                    try clear hfz18_0
                                    try clear hfz18_1
                                    try clear hfz18_2
                                    try clear hfz18_3
                                    try clear hfz18_4
                                    try clear hfz18_5
                                    try clear hfz18_6
                                    try clear hfz20_0
                                    try clear hfz20_1
                                    try clear hfz20_2
                                    try clear hfz20_3
                                    try clear hfz20_4
                                    try clear hfz20_5
                                    try clear hfz20_6
                                    try clear hfz21_0
                                    try clear hfz21_1
                                    try clear hfz21_2
                                    try clear hfz21_3
                                    try clear hfz21_4
                                    try clear hfz21_5
                                    try clear hfz21_6
                                    try clear hfz26_0
                                    try clear hfz26_1
                                    try clear hfz26_2
                                    try clear hfz26_3
                                    try clear hfz26_4
                                    try clear hfz26_5
                                    try clear hfz26_6
                                    try clear hfz30_0
                                    try clear hfz30_1
                                    try clear hfz30_2
                                    try clear hfz30_3
                                    try clear hfz30_4
                                    try clear hfz30_5
                                    try clear hfz30_6
                                    try clear hfz31_0
                                    try clear hfz31_1
                                    try clear hfz31_2
                                    try clear hfz31_3
                                    try clear hfz31_4
                                    try clear hfz31_5
                                    try clear hfz31_6
                                    try clear hfz36_0
                                    try clear hfz36_1
                                    try clear hfz36_2
                                    try clear hfz36_3
                                    try clear hfz36_4
                                    try clear hfz36_5
                                    try clear hfz36_6
                                    try clear hx144_0
                                    try clear hx144_1
                                    try clear hx144_2
                                    try clear hx144_3
                                    try clear hx144_4
                                    try clear hx144_5
                                    try clear hx144_6
                                    try clear hx146_0
                                    try clear hx147_0
                                    try clear p1
                                    try clear p14
                                    try clear p144
                                    try clear p146
                                    try clear p147
                                    try clear p2
                                    try clear q1
                                    try clear q14
                                    try clear q144
                                    try clear q146
                                    try clear q147
                                    obtain ⟨kq, x15_31, rfl, HA, HJ31, HO_11, BK145, HB⟩ := hcut
                                    cases kq with
                                    | zero => exact absurd HA.out (by simp [aquiferref20_Value.j5])
                                    | succ kj31 =>
                                      have H := HA.out
                                      clear HA
                                      simp only [aquiferref20_Value.j5] at H
                                      by_cases c38 : ((rd_T73 l0 x12_2).f0) = 1
                                      · rw [if_pos c38] at H
                                        have c38b0 : (((rd_T73 l0 x12_2).f0) == 1) = true := beq_iff_eq.mpr c38
                                        have c38b1 : (((rd_T73 l0 x12_2).f0) != 1) = false := bne_eq_false_iff_eq.mpr c38
                                        clear c38
                                        by_cases c39 : 0 ≤ x12_2
                                        · rw [if_pos c39] at H
                                          have c39b0 : decide (0 ≤ x12_2) = true := decide_eq_true c39
                                          clear c39
                                          by_cases c40 : x12_2 < (x11_2.length : Int)
                                          · rw [if_pos c40] at H
                                            have c40b0 : decide (x12_2 < (x11_2.length : Int)) = true := decide_eq_true c40
                                            clear c40
                                            obtain ⟨y148, hy148⟩ : ∃ y_ : List Int, y_ = (x11_2.set (x12_2 : Int).toNat ((rd_T73 l0 x12_2).f1)) := ⟨_, rfl⟩
                                            replace H : (aquiferref20_Value.l0 kj31 l0 a1 a2 l3 l4 y148 (wrap64 (x12_2 + 1))) = some r := by first | (rw [hy148]; with_reducible exact H) | (have H2_ := (Option.bind_some _ _).symm.trans H; rw [hy148]; with_reducible exact H2_) | (have H2_ := (Option.bind_some _ _).symm.trans H; with_reducible exact H2_) | with_reducible exact H | (rw [hy148]; exact H) | exact H
                                            have Ny148 := Aside0.mk hy148
                                            clear hy148
                                            have H' := Aside0.mk H
                                            clear H
                                            have hcz42_0 : wc.cell? ⟨gb145, 0, none⟩ = some (.int .i64 ((rd_T73 l0 x12_2).f0)) := (blk_cell BK145.out 0).trans rfl
                                            have hcz42_1 : wc.cell? ⟨gb145, 1, none⟩ = some (.int .i64 ((rd_T73 l0 x12_2).f1)) := (blk_cell BK145.out 1).trans rfl
                                            have hcz42_2 : wc.cell? ⟨gb145, 2, none⟩ = some (.string ((rd_T73 l0 x12_2).f2)) := (blk_cell BK145.out 2).trans rfl
                                            have hcz42_3 : wc.cell? ⟨gb145, 3, none⟩ = some (.string ((rd_T73 l0 x12_2).f3)) := (blk_cell BK145.out 3).trans rfl
                                            have hcz42_4 : wc.cell? ⟨gb145, 4, none⟩ = some (.int .i64 ((rd_T73 l0 x12_2).f4)) := (blk_cell BK145.out 4).trans rfl
                                            have hcz42_5 : wc.cell? ⟨gb145, 5, none⟩ = some (.int .i64 ((rd_T73 l0 x12_2).f5)) := (blk_cell BK145.out 5).trans rfl
                                            have hcz42_6 : wc.cell? ⟨gb145, 6, none⟩ = some (.int .i64 ((rd_T73 l0 x12_2).f6)) := (blk_cell BK145.out 6).trans rfl
                                            have hfz42_0 := blk_frozen BK145.out 0
                                            have hfz42_1 := blk_frozen BK145.out 1
                                            have hfz42_2 := blk_frozen BK145.out 2
                                            have hfz42_3 := blk_frozen BK145.out 3
                                            have hfz42_4 := blk_frozen BK145.out 4
                                            have hfz42_5 := blk_frozen BK145.out 5
                                            have hfz42_6 := blk_frozen BK145.out 6
                                            have p41 : 0 ≤ (x12_2 : Int) := of_decide_eq_true (by first | (with_reducible assumption) | assumption)
                                            have q41 : (x12_2 : Int) < ((x11_2.length : Int) : Int) := of_decide_eq_true (by first | (with_reducible assumption) | assumption)
                                            obtain ⟨go41, co41, eo41, gb41, gl41, cl41, HG41⟩ := Kd.R_form HO_11.out (by omega)
                                            (first | cases eo41 | (injection eo41 with ea_ en_ ec_; (first | subst ea_ | (injection ea_ with ea_; subst ea_)); subst ec_; clear en_))
                                            have GB41 := Aside0.mk gb41
                                            have GG41 := Aside0.mk HG41
                                            clear gb41 gl41 HG41
                                            obtain ⟨hx41_0, hf41_0⟩ := Kd.R_celln 0 HO_11.out (x12_2 : Int) p41 q41
                                            replace p41 := eq_true p41
                                            replace q41 := eq_true q41
                                            have HP43 := Kd.R_putg HO_11.out (x12_2 : Int) ((rd_T73 l0 x12_2).f1)
                                            go_wp2_with (first | ((with_reducible refine gate_store (t := 3) (p := 80) rfl ?_); refine store_event (t := 3) (p := 80) (v := ?vo_w44) (w1 := (wc.setCell ⟨go41, (x12_2 : Int).toNat, none⟩ (.int .i64 ((rd_T73 l0 x12_2).f1)))) ?hg ?ho ?hn ?hr ?_; (case ho => rfl); (case hg => rfl); (case hn => rfl); (case hr => first | (go_simp; done) | (go_simp; rfl)); intro w44 hw; have hg : wc.grownBy w44 (some go41) := (by rw [hw]; exact HP43.2); have hp_ : Kd.R (Kd.int .i64) 3 w44 w.heap.size (fun _ => True) (.slice (some ⟨go41, 0, none⟩) x11_2.length co41) y148 := (by rw [hw, Ny148.out]; exact HP43.1); clear HP43; have n0_ := Aside0.mk (hp_); have n1_ := Aside0.mk (blk_grown (g := gb145) (o := .cells #[.int .i64 ((rd_T73 l0 x12_2).f0), .int .i64 ((rd_T73 l0 x12_2).f1), .string ((rd_T73 l0 x12_2).f2), .string ((rd_T73 l0 x12_2).f3), .int .i64 ((rd_T73 l0 x12_2).f4), .int .i64 ((rd_T73 l0 x12_2).f5), .int .i64 ((rd_T73 l0 x12_2).f6)] 73 (0, 0)) (by (with_reducible repeat (first | refine blk_drewN ?_ _ | refine blk_drew ?_ | refine blk_alloc ?_ _)); exact BK145.out) hg (Kd.R_ne HO_11.out BK145.out (by decide))); have n2_ := Aside0.mk ((by rw [hw]; exact below_set (HB.out) GB41.out : Below w.heap.size w w44)); clear HO_11; clear BK145; clear HB; have HO_11 := n0_; have BK145 := n1_; have HB := n2_; clear n0_ n1_ n2_; clear hg hw hp_))
                                            go_roundg kj31
                                            case measure => have := HJ5.out; have := HK2.out; have := HJ15.out; have := HJ21.out; have := HJ27.out; have := HJ31.out; omega
                                            case rel => exact ⟨(y148), (wrap64 (x12_2 + 1)), (by first | rfl | (simp; done) | (simp [bne]; done) | (simp [*]; done)), H', ⟨by have := HJ5.out; have := HK2.out; have := HJ15.out; have := HJ21.out; have := HJ27.out; have := HJ31.out; omega⟩, ⟨by (with_reducible repeat (first | apply Kd.R_alloc | apply Kd.R_drewN | apply Kd.R_drew)); exact HO_11.out⟩, ⟨by repeat (first | (with_reducible first | exact HB.out | apply below_alloc | apply pw_below_drewN | apply below_drew1 | refine below_set ?_ GE145.out) | exact HB.out)⟩⟩
                                          · rw [if_neg c40] at H
                                            exact absurd H (by simp)
                                        · rw [if_neg c39] at H
                                          exact absurd H (by simp)
                                      · rw [if_neg c38] at H
                                        have c38b0 : (((rd_T73 l0 x12_2).f0) == 1) = false := beq_eq_false_iff_ne.mpr c38
                                        have c38b1 : (((rd_T73 l0 x12_2).f0) != 1) = true := bne_iff_ne.mpr c38
                                        by_cases c45 : ((rd_T73 l0 x12_2).f0) = 2
                                        · rw [if_pos c45] at H
                                          have c45b0 : (((rd_T73 l0 x12_2).f0) == 2) = true := beq_iff_eq.mpr c45
                                          have c45b1 : (((rd_T73 l0 x12_2).f0) != 2) = false := bne_eq_false_iff_eq.mpr c45
                                          clear c45
                                          replace H := Option.bind_eq_some_iff.mp H
                                          obtain ⟨t149, A460, H⟩ := H
                                          replace H : (if 0 ≤ x12_2 then (if x12_2 < (x11_2.length : Int) then (aquiferref20_Value.l0 kj31 l0 a1 a2 l3 l4 (x11_2.set (x12_2 : Int).toNat t149) (wrap64 (x12_2 + 1))) else (none)) else (none)) = some r := H
                                          have A46 := Aside0.mk A460
                                          clear A460
                                          by_cases c47 : 0 ≤ x12_2
                                          · rw [if_pos c47] at H
                                            have c47b0 : decide (0 ≤ x12_2) = true := decide_eq_true c47
                                            clear c47
                                            by_cases c48 : x12_2 < (x11_2.length : Int)
                                            · rw [if_pos c48] at H
                                              have c48b0 : decide (x12_2 < (x11_2.length : Int)) = true := decide_eq_true c48
                                              clear c48
                                              obtain ⟨y150, hy150⟩ : ∃ y_ : List Int, y_ = (x11_2.set (x12_2 : Int).toNat t149) := ⟨_, rfl⟩
                                              replace H : (aquiferref20_Value.l0 kj31 l0 a1 a2 l3 l4 y150 (wrap64 (x12_2 + 1))) = some r := by first | (rw [hy150]; with_reducible exact H) | (have H2_ := (Option.bind_some _ _).symm.trans H; rw [hy150]; with_reducible exact H2_) | (have H2_ := (Option.bind_some _ _).symm.trans H; with_reducible exact H2_) | with_reducible exact H | (rw [hy150]; exact H) | exact H
                                              have Ny150 := Aside0.mk hy150
                                              clear hy150
                                              have H' := Aside0.mk H
                                              clear H
                                              have hcz50_0 : wc.cell? ⟨gb145, 0, none⟩ = some (.int .i64 ((rd_T73 l0 x12_2).f0)) := (blk_cell BK145.out 0).trans rfl
                                              have hcz50_1 : wc.cell? ⟨gb145, 1, none⟩ = some (.int .i64 ((rd_T73 l0 x12_2).f1)) := (blk_cell BK145.out 1).trans rfl
                                              have hcz50_2 : wc.cell? ⟨gb145, 2, none⟩ = some (.string ((rd_T73 l0 x12_2).f2)) := (blk_cell BK145.out 2).trans rfl
                                              have hcz50_3 : wc.cell? ⟨gb145, 3, none⟩ = some (.string ((rd_T73 l0 x12_2).f3)) := (blk_cell BK145.out 3).trans rfl
                                              have hcz50_4 : wc.cell? ⟨gb145, 4, none⟩ = some (.int .i64 ((rd_T73 l0 x12_2).f4)) := (blk_cell BK145.out 4).trans rfl
                                              have hcz50_5 : wc.cell? ⟨gb145, 5, none⟩ = some (.int .i64 ((rd_T73 l0 x12_2).f5)) := (blk_cell BK145.out 5).trans rfl
                                              have hcz50_6 : wc.cell? ⟨gb145, 6, none⟩ = some (.int .i64 ((rd_T73 l0 x12_2).f6)) := (blk_cell BK145.out 6).trans rfl
                                              have hfz50_0 := blk_frozen BK145.out 0
                                              have hfz50_1 := blk_frozen BK145.out 1
                                              have hfz50_2 := blk_frozen BK145.out 2
                                              have hfz50_3 := blk_frozen BK145.out 3
                                              have hfz50_4 := blk_frozen BK145.out 4
                                              have hfz50_5 := blk_frozen BK145.out 5
                                              have hfz50_6 := blk_frozen BK145.out 6
                                              go_wp2_with (first | ((with_reducible refine gate_callee (f := 34) rfl ?_); refine goesL_ (some 92) rfl rfl Try.func34 (by kernel_rfl) rfl #[.string ((rd_T73 l0 x12_2).f2), .string ((rd_T73 l0 x12_2).f3), .string a2, .slice A3 l3.length c3, .slice A4 l4.length c4] rfl (by (try simp only [List.map_toArray, List.map_cons, List.map_nil]); first | done | rfl | (simp only [List.length_drop, List.length_take]; rfl)) ?_; (with_reducible refine (aquiferref20_name.calls kj31 ((rd_T73 l0 x12_2).f2) ((rd_T73 l0 x12_2).f3) a2 _ _ l3 _ _ l4 t149 _ ?side1 ?side2 ?side3 ?side4 A46.out).mono ?_); (case side1 => repeat (first | exact (Kd.C_below HR3.out HB.out) | (with_reducible refine Kd.C_alloc ?_ _) | (with_reducible refine Kd.C_drewN ?_ _) | (with_reducible refine Kd.C_drew ?_))); (case side2 => exact HC3.out); (case side3 => repeat (first | exact (Kd.C_below HR4.out HB.out) | (with_reducible refine Kd.C_alloc ?_ _) | (with_reducible refine Kd.C_drewN ?_ _) | (with_reducible refine Kd.C_drew ?_))); (case side4 => exact HC4.out); rintro e w' ⟨rfl, ⟨nd, rfl⟩⟩; refine ⟨_, rfl, ?_⟩; (try (rw [drewN_self wc]; generalize hq_ : World.drewN wc _ = wc; have n0_ : Aside0 (Kd.R (Kd.int .i64) 3 wc w.heap.size (fun _ => True) v141 x11_2) := ⟨by rw [← hq_]; exact (by (with_reducible repeat (first | apply Kd.R_alloc | apply Kd.R_drewN | apply Kd.R_drew)); exact HO_11.out)⟩; have n1_ : Aside0 (wc.heap[gb145]? = some (.cells #[.int .i64 ((rd_T73 l0 x12_2).f0), .int .i64 ((rd_T73 l0 x12_2).f1), .string ((rd_T73 l0 x12_2).f2), .string ((rd_T73 l0 x12_2).f3), .int .i64 ((rd_T73 l0 x12_2).f4), .int .i64 ((rd_T73 l0 x12_2).f5), .int .i64 ((rd_T73 l0 x12_2).f6)] 73 (0, 0))) := ⟨by rw [← hq_]; exact (by (with_reducible repeat (first | refine blk_drewN ?_ _ | refine blk_drew ?_ | refine blk_alloc ?_ _)); exact BK145.out)⟩; have n2_ : Aside0 (Below w.heap.size w wc) := ⟨by rw [← hq_]; exact (by repeat (first | (with_reducible first | exact HB.out | apply below_alloc | apply pw_below_drewN | apply below_drew1 | refine below_set ?_ GE145.out) | exact HB.out))⟩; clear HO_11 BK145 HB hq_; have HO_11 := n0_; have BK145 := n1_; have HB := n2_; clear n0_ n1_ n2_)); have p49 : 0 ≤ (x12_2 : Int) := of_decide_eq_true (by first | (with_reducible assumption) | assumption); have q49 : (x12_2 : Int) < ((x11_2.length : Int) : Int) := of_decide_eq_true (by first | (with_reducible assumption) | assumption); obtain ⟨go49, co49, eo49, gb49, gl49, cl49, HG49⟩ := Kd.R_form HO_11.out (by omega); (first | cases eo49 | (injection eo49 with ea_ en_ ec_; (first | subst ea_ | (injection ea_ with ea_; subst ea_)); subst ec_; clear en_)); have GB49 := Aside0.mk gb49; have GG49 := Aside0.mk HG49; clear gb49 gl49 HG49; obtain ⟨hx49_0, hf49_0⟩ := Kd.R_celln 0 HO_11.out (x12_2 : Int) p49 q49; replace p49 := eq_true p49; replace q49 := eq_true q49; obtain ⟨hy51_, hz51_⟩ := Kd.R_celln 0 HO_11.out (x12_2 : Int) (of_decide_eq_true (by first | (with_reducible assumption) | assumption)) (of_decide_eq_true (by first | (with_reducible assumption) | assumption)); have HP51 := Kd.R_putg HO_11.out (x12_2 : Int) t149) | ((with_reducible refine gate_store (t := 3) (p := 93) rfl ?_); refine store_event (t := 3) (p := 93) (v := ?vo_w52) (w1 := (wc.setCell ⟨go49, (x12_2 : Int).toNat, none⟩ (.int .i64 t149))) ?hg ?ho ?hn ?hr ?_; (case ho => rfl); (case hg => rfl); (case hn => rfl); (case hr => first | (go_simp; done) | (go_simp; rfl)); intro w52 hw; have hg : wc.grownBy w52 (some go49) := (by rw [hw]; exact HP51.2); have hp_ : Kd.R (Kd.int .i64) 3 w52 w.heap.size (fun _ => True) (.slice (some ⟨go49, 0, none⟩) x11_2.length co49) y150 := (by rw [hw, Ny150.out]; exact HP51.1); clear HP51; have n0_ := Aside0.mk (hp_); have n1_ := Aside0.mk (blk_grown (g := gb145) (o := .cells #[.int .i64 ((rd_T73 l0 x12_2).f0), .int .i64 ((rd_T73 l0 x12_2).f1), .string ((rd_T73 l0 x12_2).f2), .string ((rd_T73 l0 x12_2).f3), .int .i64 ((rd_T73 l0 x12_2).f4), .int .i64 ((rd_T73 l0 x12_2).f5), .int .i64 ((rd_T73 l0 x12_2).f6)] 73 (0, 0)) (by (with_reducible repeat (first | refine blk_drewN ?_ _ | refine blk_drew ?_ | refine blk_alloc ?_ _)); exact BK145.out) hg (Kd.R_ne HO_11.out BK145.out (by decide))); have n2_ := Aside0.mk ((by rw [hw]; exact below_set (HB.out) GB49.out : Below w.heap.size w w52)); clear HO_11; clear BK145; clear HB; have HO_11 := n0_; have BK145 := n1_; have HB := n2_; clear n0_ n1_ n2_; clear hg hw hp_))
                                              go_roundg kj31
                                              case measure => have := HJ5.out; have := HK2.out; have := HJ15.out; have := HJ21.out; have := HJ27.out; have := HJ31.out; omega
                                              case rel => exact ⟨(y150), (wrap64 (x12_2 + 1)), (by first | rfl | (simp; done) | (simp [bne]; done) | (simp [*]; done)), H', ⟨by have := HJ5.out; have := HK2.out; have := HJ15.out; have := HJ21.out; have := HJ27.out; have := HJ31.out; omega⟩, ⟨by (with_reducible repeat (first | apply Kd.R_alloc | apply Kd.R_drewN | apply Kd.R_drew)); exact HO_11.out⟩, ⟨by repeat (first | (with_reducible first | exact HB.out | apply below_alloc | apply pw_below_drewN | apply below_drew1 | refine below_set ?_ GE145.out) | exact HB.out)⟩⟩
                                            · rw [if_neg c48] at H
                                              exact absurd H (by simp)
                                          · rw [if_neg c47] at H
                                            exact absurd H (by simp)
                                        · rw [if_neg c45] at H
                                          have c45b0 : (((rd_T73 l0 x12_2).f0) == 2) = false := beq_eq_false_iff_ne.mpr c45
                                          have c45b1 : (((rd_T73 l0 x12_2).f0) != 2) = true := bne_iff_ne.mpr c45
                                          replace H := Option.bind_eq_some_iff.mp H
                                          obtain ⟨t151, A530, H⟩ := H
                                          replace H : (if 0 ≤ x12_2 then (if x12_2 < (x11_2.length : Int) then (aquiferref20_Value.l0 kj31 l0 a1 a2 l3 l4 (x11_2.set (x12_2 : Int).toNat t151) (wrap64 (x12_2 + 1))) else (none)) else (none)) = some r := H
                                          have A53 := Aside0.mk A530
                                          clear A530
                                          by_cases c54 : 0 ≤ x12_2
                                          · rw [if_pos c54] at H
                                            have c54b0 : decide (0 ≤ x12_2) = true := decide_eq_true c54
                                            clear c54
                                            by_cases c55 : x12_2 < (x11_2.length : Int)
                                            · rw [if_pos c55] at H
                                              have c55b0 : decide (x12_2 < (x11_2.length : Int)) = true := decide_eq_true c55
                                              clear c55
                                              obtain ⟨y152, hy152⟩ : ∃ y_ : List Int, y_ = (x11_2.set (x12_2 : Int).toNat t151) := ⟨_, rfl⟩
                                              replace H : (aquiferref20_Value.l0 kj31 l0 a1 a2 l3 l4 y152 (wrap64 (x12_2 + 1))) = some r := by first | (rw [hy152]; with_reducible exact H) | (have H2_ := (Option.bind_some _ _).symm.trans H; rw [hy152]; with_reducible exact H2_) | (have H2_ := (Option.bind_some _ _).symm.trans H; with_reducible exact H2_) | with_reducible exact H | (rw [hy152]; exact H) | exact H
                                              have Ny152 := Aside0.mk hy152
                                              clear hy152
                                              have H' := Aside0.mk H
                                              clear H
                                              have hcz57_0 : wc.cell? ⟨gb145, 0, none⟩ = some (.int .i64 ((rd_T73 l0 x12_2).f0)) := (blk_cell BK145.out 0).trans rfl
                                              have hcz57_1 : wc.cell? ⟨gb145, 1, none⟩ = some (.int .i64 ((rd_T73 l0 x12_2).f1)) := (blk_cell BK145.out 1).trans rfl
                                              have hcz57_2 : wc.cell? ⟨gb145, 2, none⟩ = some (.string ((rd_T73 l0 x12_2).f2)) := (blk_cell BK145.out 2).trans rfl
                                              have hcz57_3 : wc.cell? ⟨gb145, 3, none⟩ = some (.string ((rd_T73 l0 x12_2).f3)) := (blk_cell BK145.out 3).trans rfl
                                              have hcz57_4 : wc.cell? ⟨gb145, 4, none⟩ = some (.int .i64 ((rd_T73 l0 x12_2).f4)) := (blk_cell BK145.out 4).trans rfl
                                              have hcz57_5 : wc.cell? ⟨gb145, 5, none⟩ = some (.int .i64 ((rd_T73 l0 x12_2).f5)) := (blk_cell BK145.out 5).trans rfl
                                              have hcz57_6 : wc.cell? ⟨gb145, 6, none⟩ = some (.int .i64 ((rd_T73 l0 x12_2).f6)) := (blk_cell BK145.out 6).trans rfl
                                              have hfz57_0 := blk_frozen BK145.out 0
                                              have hfz57_1 := blk_frozen BK145.out 1
                                              have hfz57_2 := blk_frozen BK145.out 2
                                              have hfz57_3 := blk_frozen BK145.out 3
                                              have hfz57_4 := blk_frozen BK145.out 4
                                              have hfz57_5 := blk_frozen BK145.out 5
                                              have hfz57_6 := blk_frozen BK145.out 6
                                              go_wp2_with (first | ((with_reducible refine gate_callee (f := 35) rfl ?_); refine goesL_ (some 72) rfl rfl Try.func35 (by kernel_rfl) rfl #[.int .i64 ((rd_T73 l0 x12_2).f0), .int .i64 x14_21, .int .i64 x15_31] rfl (by (try simp only [List.map_toArray, List.map_cons, List.map_nil]); first | done | rfl | (simp only [List.length_drop, List.length_take]; rfl)) ?_; (with_reducible refine (aquiferref20_Op.calls ((rd_T73 l0 x12_2).f0) x14_21 x15_31 t151 _ A53.out).mono ?_); rintro e w' ⟨rfl, ⟨nd, rfl⟩⟩; refine ⟨_, rfl, ?_⟩; (try (rw [drewN_self wc]; generalize hq_ : World.drewN wc _ = wc; have n0_ : Aside0 (Kd.R (Kd.int .i64) 3 wc w.heap.size (fun _ => True) v141 x11_2) := ⟨by rw [← hq_]; exact (by (with_reducible repeat (first | apply Kd.R_alloc | apply Kd.R_drewN | apply Kd.R_drew)); exact HO_11.out)⟩; have n1_ : Aside0 (wc.heap[gb145]? = some (.cells #[.int .i64 ((rd_T73 l0 x12_2).f0), .int .i64 ((rd_T73 l0 x12_2).f1), .string ((rd_T73 l0 x12_2).f2), .string ((rd_T73 l0 x12_2).f3), .int .i64 ((rd_T73 l0 x12_2).f4), .int .i64 ((rd_T73 l0 x12_2).f5), .int .i64 ((rd_T73 l0 x12_2).f6)] 73 (0, 0))) := ⟨by rw [← hq_]; exact (by (with_reducible repeat (first | refine blk_drewN ?_ _ | refine blk_drew ?_ | refine blk_alloc ?_ _)); exact BK145.out)⟩; have n2_ : Aside0 (Below w.heap.size w wc) := ⟨by rw [← hq_]; exact (by repeat (first | (with_reducible first | exact HB.out | apply below_alloc | apply pw_below_drewN | apply below_drew1 | refine below_set ?_ GE145.out) | exact HB.out))⟩; clear HO_11 BK145 HB hq_; have HO_11 := n0_; have BK145 := n1_; have HB := n2_; clear n0_ n1_ n2_)); have p56 : 0 ≤ (x12_2 : Int) := of_decide_eq_true (by first | (with_reducible assumption) | assumption); have q56 : (x12_2 : Int) < ((x11_2.length : Int) : Int) := of_decide_eq_true (by first | (with_reducible assumption) | assumption); obtain ⟨go56, co56, eo56, gb56, gl56, cl56, HG56⟩ := Kd.R_form HO_11.out (by omega); (first | cases eo56 | (injection eo56 with ea_ en_ ec_; (first | subst ea_ | (injection ea_ with ea_; subst ea_)); subst ec_; clear en_)); have GB56 := Aside0.mk gb56; have GG56 := Aside0.mk HG56; clear gb56 gl56 HG56; obtain ⟨hx56_0, hf56_0⟩ := Kd.R_celln 0 HO_11.out (x12_2 : Int) p56 q56; replace p56 := eq_true p56; replace q56 := eq_true q56; obtain ⟨hy58_, hz58_⟩ := Kd.R_celln 0 HO_11.out (x12_2 : Int) (of_decide_eq_true (by first | (with_reducible assumption) | assumption)) (of_decide_eq_true (by first | (with_reducible assumption) | assumption)); have HP58 := Kd.R_putg HO_11.out (x12_2 : Int) t151) | ((with_reducible refine gate_store (t := 3) (p := 73) rfl ?_); refine store_event (t := 3) (p := 73) (v := ?vo_w59) (w1 := (wc.setCell ⟨go56, (x12_2 : Int).toNat, none⟩ (.int .i64 t151))) ?hg ?ho ?hn ?hr ?_; (case ho => rfl); (case hg => rfl); (case hn => rfl); (case hr => first | (go_simp; done) | (go_simp; rfl)); intro w59 hw; have hg : wc.grownBy w59 (some go56) := (by rw [hw]; exact HP58.2); have hp_ : Kd.R (Kd.int .i64) 3 w59 w.heap.size (fun _ => True) (.slice (some ⟨go56, 0, none⟩) x11_2.length co56) y152 := (by rw [hw, Ny152.out]; exact HP58.1); clear HP58; have n0_ := Aside0.mk (hp_); have n1_ := Aside0.mk (blk_grown (g := gb145) (o := .cells #[.int .i64 ((rd_T73 l0 x12_2).f0), .int .i64 ((rd_T73 l0 x12_2).f1), .string ((rd_T73 l0 x12_2).f2), .string ((rd_T73 l0 x12_2).f3), .int .i64 ((rd_T73 l0 x12_2).f4), .int .i64 ((rd_T73 l0 x12_2).f5), .int .i64 ((rd_T73 l0 x12_2).f6)] 73 (0, 0)) (by (with_reducible repeat (first | refine blk_drewN ?_ _ | refine blk_drew ?_ | refine blk_alloc ?_ _)); exact BK145.out) hg (Kd.R_ne HO_11.out BK145.out (by decide))); have n2_ := Aside0.mk ((by rw [hw]; exact below_set (HB.out) GB56.out : Below w.heap.size w w59)); clear HO_11; clear BK145; clear HB; have HO_11 := n0_; have BK145 := n1_; have HB := n2_; clear n0_ n1_ n2_; clear hg hw hp_))
                                              go_roundg kj31
                                              case measure => have := HJ5.out; have := HK2.out; have := HJ15.out; have := HJ21.out; have := HJ27.out; have := HJ31.out; omega
                                              case rel => exact ⟨(y152), (wrap64 (x12_2 + 1)), (by first | rfl | (simp; done) | (simp [bne]; done) | (simp [*]; done)), H', ⟨by have := HJ5.out; have := HK2.out; have := HJ15.out; have := HJ21.out; have := HJ27.out; have := HJ31.out; omega⟩, ⟨by (with_reducible repeat (first | apply Kd.R_alloc | apply Kd.R_drewN | apply Kd.R_drew)); exact HO_11.out⟩, ⟨by repeat (first | (with_reducible first | exact HB.out | apply below_alloc | apply pw_below_drewN | apply below_drew1 | refine below_set ?_ GE145.out) | exact HB.out)⟩⟩
                                            · rw [if_neg c55] at H
                                              exact absurd H (by simp)
                                          · rw [if_neg c54] at H
                                            exact absurd H (by simp)
                    · rw [if_neg c15] at H
                      exact absurd H (by simp)
                  · rw [if_neg c14] at H
                    exact absurd H (by simp)
                · rw [if_neg c13] at H
                  have c13b0 : decide (x12_2 ≤ a1) = false := decide_eq_false c13
                  clear c13
                  by_cases c60 : 0 ≤ a1
                  · rw [if_pos c60] at H
                    have c60b0 : decide (0 ≤ a1) = true := decide_eq_true c60
                    clear c60
                    by_cases c61 : a1 < (x11_2.length : Int)
                    · rw [if_pos c61] at H
                      have c61b0 : decide (a1 < (x11_2.length : Int)) = true := decide_eq_true c61
                      clear c61
                      obtain rfl := Option.some.inj H
                      obtain ⟨Ao62, co62, eo62⟩ := Kd.R_slice HO_11.out
                      subst eo62
                      have p143 : 0 ≤ (a1 : Int) := of_decide_eq_true (by first | (with_reducible assumption) | assumption)
                      have q143 : a1 < (x11_2.length : Int) := of_decide_eq_true (by first | (with_reducible assumption) | assumption)
                      obtain ⟨ad143, e143, hx143_0⟩ := Kd.at_int (Kd.R_reads' HO_11.out).2.2 a1 p143 q143
                      cases e143
                      replace p143 := eq_true p143
                      replace q143 := eq_true q143
                      go_wp2
                      go_ret
                      exact ⟨by first | rfl | (simp [errW_none, errW_some] <;> rfl) | (simp [*, errW_none, errW_some] <;> rfl), by repeat (first | (with_reducible first | exact HB.out | apply below_alloc | apply pw_below_drewN | apply below_drew1) | exact HB.out)⟩
                    · rw [if_neg c61] at H
                      exact absurd H (by simp)
                  · rw [if_neg c60] at H
                    exact absurd H (by simp)
          · rw [if_neg c10] at H
            exact absurd H (by simp)
        · rw [if_neg c9] at H
          exact absurd H (by simp)

end Go.Proofs.Ytkhalpeiifdfiaa.QEvalNodes
