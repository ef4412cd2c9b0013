import Derived.Test.YtkhalpeiifdfiaaZETx19
import Derived.Test.YtkhalpeiifdfiaaZETx20
namespace Go.Proofs.Ytkhalpeiifdfiaa.QEvalTexts
open Go.RowKit Go.Proofs.YtkhalpeiifdfiaaW.PrintWords Go.Proofs.YtkhalpeiifdfiaaW.PrintLast Go.Proofs.YtkhalpeiifdfiaaW.PrintMore
set_option maxHeartbeats 8000000
set_option maxRecDepth 100000
attribute [local go_sem] max2_int min2_int max_two min_two max_three min_three max_four min_four
set_option linter.unusedVariables false
set_option linter.unusedSimpArgs false
mutual
def rb_Value.j0 : Nat → List (S73) → Int → ByteArray → List (S32) → List (S32) → Bool → Option (Int)
 | 0, _, _, _, _, _, _ => none
 | k + 1, x0, x1, x2, x3, x4, x23 => if x23 = true then (some 0) else (if 0 ≤ (x0.length : Int) then (if ((x0.length : Int) : Int).toNat ≤ 35184372088832 then (rb_Value.l0 k x0 x1 x2 x3 x4 (List.replicate ((x0.length : Int) : Int).toNat 0) 0) else (none)) else (none))
def rb_Value.l0 : Nat → List (S73) → Int → ByteArray → List (S32) → List (S32) → List Int → Int → Option (Int)
 | 0, _, _, _, _, _, _, _ => none
 | k + 1, x0, x1, x2, x3, x4, x11, x12 => if x12 ≤ x1 then (if 0 ≤ x12 then (if x12 < (x0.length : Int) then (if ((rd_T73 x0 x12).f4) ≥ 0 then (rb_Value.j2 k x0 x1 x2 x3 x4 x11 x12 0 0 (decide (((rd_T73 x0 x12).f4) < x12)) ((rd_T73 x0 x12).f0) ((rd_T73 x0 x12).f1) ((rd_T73 x0 x12).f2) ((rd_T73 x0 x12).f3) ((rd_T73 x0 x12).f4) ((rd_T73 x0 x12).f5) ((rd_T73 x0 x12).f6)) else (rb_Value.j2 k x0 x1 x2 x3 x4 x11 x12 0 0 false ((rd_T73 x0 x12).f0) ((rd_T73 x0 x12).f1) ((rd_T73 x0 x12).f2) ((rd_T73 x0 x12).f3) ((rd_T73 x0 x12).f4) ((rd_T73 x0 x12).f5) ((rd_T73 x0 x12).f6))) else (none)) else (none)) else (if 0 ≤ x1 then (if x1 < (x11.length : Int) then (some (rd x11 x1)) else (none)) else (none))
def rb_Value.j2 : Nat → List (S73) → Int → ByteArray → List (S32) → List (S32) → List Int → Int → Int → Int → Bool → Int → Int → ByteArray → ByteArray → Int → Int → Int → Option (Int)
 | 0, _, _, _, _, _, _, _, _, _, _, _, _, _, _, _, _, _ => none
 | k + 1, x0, x1, x2, x3, x4, x11, x12, x14, x15, x44, x1023000, x1023001, x1023002, x1023003, x1023004, x1023005, x1023006 => if x44 = true then (if 0 ≤ x1023004 then (if x1023004 < (x11.length : Int) then (rb_Value.j3 k x0 x1 x2 x3 x4 x11 x12 (rd x11 x1023004) x15 x1023000 x1023001 x1023002 x1023003 x1023004 x1023005 x1023006) else (none)) else (none)) else (rb_Value.j3 k x0 x1 x2 x3 x4 x11 x12 x14 x15 x1023000 x1023001 x1023002 x1023003 x1023004 x1023005 x1023006)
def rb_Value.j3 : Nat → List (S73) → Int → ByteArray → List (S32) → List (S32) → List Int → Int → Int → Int → Int → Int → ByteArray → ByteArray → Int → Int → Int → Option (Int)
 | 0, _, _, _, _, _, _, _, _, _, _, _, _, _, _, _, _ => none
 | k + 1, x0, x1, x2, x3, x4, x11, x12, x14, x15, x1023000, x1023001, x1023002, x1023003, x1023004, x1023005, x1023006 => if x1023005 ≥ 0 then (rb_Value.j4 k x0 x1 x2 x3 x4 x11 x12 x14 x15 (decide (x1023005 < x12)) x1023000 x1023001 x1023002 x1023003 x1023004 x1023005 x1023006) else (rb_Value.j4 k x0 x1 x2 x3 x4 x11 x12 x14 x15 false x1023000 x1023001 x1023002 x1023003 x1023004 x1023005 x1023006)
def rb_Value.j4 : Nat → List (S73) → Int → ByteArray → List (S32) → List (S32) → List Int → Int → Int → Int → Bool → Int → Int → ByteArray → ByteArray → Int → Int → Int → Option (Int)
 | 0, _, _, _, _, _, _, _, _, _, _, _, _, _, _, _, _, _ => none
 | k + 1, x0, x1, x2, x3, x4, x11, x12, x14, x15, x58, x1023000, x1023001, x1023002, x1023003, x1023004, x1023005, x1023006 => if x58 = true then (if 0 ≤ x1023005 then (if x1023005 < (x11.length : Int) then (rb_Value.j5 k x0 x1 x2 x3 x4 x11 x12 x14 (rd x11 x1023005) x1023000 x1023001 x1023002 x1023003 x1023004 x1023005 x1023006) else (none)) else (none)) else (rb_Value.j5 k x0 x1 x2 x3 x4 x11 x12 x14 x15 x1023000 x1023001 x1023002 x1023003 x1023004 x1023005 x1023006)
def rb_Value.j5 : Nat → List (S73) → Int → ByteArray → List (S32) → List (S32) → List Int → Int → Int → Int → Int → Int → ByteArray → ByteArray → Int → Int → Int → Option (Int)
 | 0, _, _, _, _, _, _, _, _, _, _, _, _, _, _, _, _ => none
 | k + 1, x0, x1, x2, x3, x4, x11, x12, x14, x15, x1023000, x1023001, x1023002, x1023003, x1023004, x1023005, x1023006 => if x1023000 = 1 then (if 0 ≤ x12 then (if x12 < (x11.length : Int) then (rb_Value.l0 k x0 x1 x2 x3 x4 (x11.set (x12 : Int).toNat x1023001) (wrap64 (x12 + 1))) else (none)) else (none)) else (if x1023000 = 2 then ((rb_name.f k x1023002 x1023003 x2 x3 x4).bind fun t1026 => (if 0 ≤ x12 then (if x12 < (x11.length : Int) then (rb_Value.l0 k x0 x1 x2 x3 x4 (x11.set (x12 : Int).toNat t1026) (wrap64 (x12 + 1))) else (none)) else (none))) else ((rb_Op.f x1023000 x14 x15).bind fun t1028 => (if 0 ≤ x12 then (if x12 < (x11.length : Int) then (rb_Value.l0 k x0 x1 x2 x3 x4 (x11.set (x12 : Int).toNat t1028) (wrap64 (x12 + 1))) else (none)) else (none))))
end
def rb_Value.f (k : Nat) (l0 : List (S73)) (a1 : Int) (a2 : ByteArray) (l3 : List (S32)) (l4 : List (S32)) : Option (Int) := if a1 < 0 then (rb_Value.j0 k l0 a1 a2 l3 l4 true) else (rb_Value.j0 k l0 a1 a2 l3 l4 (decide (a1 ≥ (l0.length : Int))))
theorem rb_Value.mono_l : ∀ k, (∀ y0 y1 y2 y3 y4 y5, LeO (rb_Value.j0 k y0 y1 y2 y3 y4 y5) (rb_Value.j0 (k + 1) y0 y1 y2 y3 y4 y5)) ∧ (∀ y0 y1 y2 y3 y4 y5 y6, LeO (rb_Value.l0 k y0 y1 y2 y3 y4 y5 y6) (rb_Value.l0 (k + 1) y0 y1 y2 y3 y4 y5 y6)) ∧ (∀ y0 y1 y2 y3 y4 y5 y6 y7 y8 y9 y10 y11 y12 y13 y14 y15 y16, LeO (rb_Value.j2 k y0 y1 y2 y3 y4 y5 y6 y7 y8 y9 y10 y11 y12 y13 y14 y15 y16) (rb_Value.j2 (k + 1) y0 y1 y2 y3 y4 y5 y6 y7 y8 y9 y10 y11 y12 y13 y14 y15 y16)) ∧ (∀ y0 y1 y2 y3 y4 y5 y6 y7 y8 y9 y10 y11 y12 y13 y14 y15, LeO (rb_Value.j3 k y0 y1 y2 y3 y4 y5 y6 y7 y8 y9 y10 y11 y12 y13 y14 y15) (rb_Value.j3 (k + 1) y0 y1 y2 y3 y4 y5 y6 y7 y8 y9 y10 y11 y12 y13 y14 y15)) ∧ (∀ y0 y1 y2 y3 y4 y5 y6 y7 y8 y9 y10 y11 y12 y13 y14 y15 y16, LeO (rb_Value.j4 k y0 y1 y2 y3 y4 y5 y6 y7 y8 y9 y10 y11 y12 y13 y14 y15 y16) (rb_Value.j4 (k + 1) y0 y1 y2 y3 y4 y5 y6 y7 y8 y9 y10 y11 y12 y13 y14 y15 y16)) ∧ (∀ y0 y1 y2 y3 y4 y5 y6 y7 y8 y9 y10 y11 y12 y13 y14 y15, LeO (rb_Value.j5 k y0 y1 y2 y3 y4 y5 y6 y7 y8 y9 y10 y11 y12 y13 y14 y15) (rb_Value.j5 (k + 1) y0 y1 y2 y3 y4 y5 y6 y7 y8 y9 y10 y11 y12 y13 y14 y15))
 | 0 => ⟨fun _ _ _ _ _ _ r h => by simp [rb_Value.j0] at h, fun _ _ _ _ _ _ _ r h => by simp [rb_Value.l0] at h, fun _ _ _ _ _ _ _ _ _ _ _ _ _ _ _ _ _ r h => by simp [rb_Value.j2] at h, fun _ _ _ _ _ _ _ _ _ _ _ _ _ _ _ _ r h => by simp [rb_Value.j3] at h, fun _ _ _ _ _ _ _ _ _ _ _ _ _ _ _ _ _ r h => by simp [rb_Value.j4] at h, fun _ _ _ _ _ _ _ _ _ _ _ _ _ _ _ _ r h => by simp [rb_Value.j5] at h⟩
 | k + 1 => by
  obtain ⟨ih0, ih1, ih2, ih3, ih4, ih5⟩ := rb_Value.mono_l k
  refine ⟨?_, ?_, ?_, ?_, ?_, ?_⟩
  ·
   intro y0 y1 y2 y3 y4 y5
   unfold rb_Value.j0
   repeat' with_reducible first | apply ih0 | apply ih1 | apply ih2 | apply ih3 | apply ih4 | apply ih5 | apply rb_name.mono | exact LeO.refl _ | exact LeO.none _ | refine LeO.ite ?_ ?_ | refine LeO.bind ?_ (fun _ => ?_)
  ·
   intro y0 y1 y2 y3 y4 y5 y6
   unfold rb_Value.l0
   repeat' with_reducible first | apply ih0 | apply ih1 | apply ih2 | apply ih3 | apply ih4 | apply ih5 | apply rb_name.mono | exact LeO.refl _ | exact LeO.none _ | refine LeO.ite ?_ ?_ | refine LeO.bind ?_ (fun _ => ?_)
  ·
   intro y0 y1 y2 y3 y4 y5 y6 y7 y8 y9 y10 y11 y12 y13 y14 y15 y16
   unfold rb_Value.j2
   repeat' with_reducible first | apply ih0 | apply ih1 | apply ih2 | apply ih3 | apply ih4 | apply ih5 | apply rb_name.mono | exact LeO.refl _ | exact LeO.none _ | refine LeO.ite ?_ ?_ | refine LeO.bind ?_ (fun _ => ?_)
  ·
   intro y0 y1 y2 y3 y4 y5 y6 y7 y8 y9 y10 y11 y12 y13 y14 y15
   unfold rb_Value.j3
   repeat' with_reducible first | apply ih0 | apply ih1 | apply ih2 | apply ih3 | apply ih4 | apply ih5 | apply rb_name.mono | exact LeO.refl _ | exact LeO.none _ | refine LeO.ite ?_ ?_ | refine LeO.bind ?_ (fun _ => ?_)
  ·
   intro y0 y1 y2 y3 y4 y5 y6 y7 y8 y9 y10 y11 y12 y13 y14 y15 y16
   unfold rb_Value.j4
   repeat' with_reducible first | apply ih0 | apply ih1 | apply ih2 | apply ih3 | apply ih4 | apply ih5 | apply rb_name.mono | exact LeO.refl _ | exact LeO.none _ | refine LeO.ite ?_ ?_ | refine LeO.bind ?_ (fun _ => ?_)
  ·
   intro y0 y1 y2 y3 y4 y5 y6 y7 y8 y9 y10 y11 y12 y13 y14 y15
   unfold rb_Value.j5
   repeat' with_reducible first | apply ih0 | apply ih1 | apply ih2 | apply ih3 | apply ih4 | apply ih5 | apply rb_name.mono | exact LeO.refl _ | exact LeO.none _ | refine LeO.ite ?_ ?_ | refine LeO.bind ?_ (fun _ => ?_)
theorem rb_Value.mono : ∀ a0 a1 a2 a3 a4 k, LeO (rb_Value.f k a0 a1 a2 a3 a4) (rb_Value.f (k + 1) a0 a1 a2 a3 a4) := by
 intro a0 a1 a2 a3 a4 k
 obtain ⟨ih0, ih1, ih2, ih3, ih4, ih5⟩ := rb_Value.mono_l k
 unfold rb_Value.f
 repeat' with_reducible first | apply ih0 | apply ih1 | apply ih2 | apply ih3 | apply ih4 | apply ih5 | apply rb_name.mono | exact LeO.refl _ | exact LeO.none _ | refine LeO.ite ?_ ?_ | refine LeO.bind ?_ (fun _ => ?_)
theorem rb_Value.calls (k : Nat) (A0 : Option Addr) (c0 : Nat) (l0 : List (S73)) (a1 : Int) (a2 : ByteArray) (A3 : Option Addr) (c3 : Nat) (l3 : List (S32)) (A4 : Option Addr) (c4 : Nat) (l4 : List (S32)) (r : Int) (w : World) (hr0 : Kd.C k73 w A0 l0.length l0) (hc0 : l0.length ≤ c0) (hr3 : Kd.C k32 w A3 l3.length l3) (hc3 : l3.length ≤ c3) (hr4 : Kd.C k32 w A4 l4.length l4) (hc4 : l4.length ≤ c4) (h : rb_Value.f k l0 a1 a2 l3 l4 = some r) :
  Calls Try.prog 15 #[.slice A0 l0.length c0, .int .i64 a1, .string a2, .slice A3 l3.length c3, .slice A4 l4.length c4] w fun e w' => e = .returned (.int .i64 r) ∧ Below w.heap.size w w' := by
 have hu73 := Try.underlying73
 have HR0 := za hr0
 have HC0 := za hc0
 clear hr0 hc0
 have HR3 := za hr3
 have HC3 := za hc3
 clear hr3 hc3
 have HR4 := za hr4
 have HC4 := za hc4
 clear hr4 hc4
 have HB := za (Below.refl w.heap.size w)
 have H : (if a1 < 0 then (rb_Value.j0 k l0 a1 a2 l3 l4 true) else (rb_Value.j0 k l0 a1 a2 l3 l4 (decide (a1 ≥ (l0.length : Int))))) = some r := h
 clear h
 have HC6 := za H
 clear H
 go_enter Try.func15, Try.ntmps15
 go_upto_region 1 with (fail)
 go_cut [23] (fun v23 wc => ∃ (kq : Nat) (x23_5 : Bool), v23 = .bool x23_5 ∧ Aside0 (rb_Value.j0 kq l0 a1 a2 l3 l4 x23_5 = some r) ∧ Aside0 (kq ≤ k) ∧ Aside0 (Below w.heap.size w wc))
 case first =>
  have H := HC6.out
  clear HC6
  by_cases c7 : a1 < 0
  ·
   rw [if_pos c7] at H
   have c7b0 := decide_eq_true c7
   clear c7
   (first | rw [c7b0] | (simp only [i64_w, i32_w]; rw [c7b0]) | skip)
   have H' := za H
   clear H
   go_wp2
   go_meet
   case rel => exact ⟨_, (true), zq23, H', ⟨zq78⟩, ⟨zq4⟩⟩
  ·
   rw [if_neg c7] at H
   have c7b0 := decide_eq_false c7
   clear c7
   (first | rw [c7b0] | (simp only [i64_w, i32_w]; rw [c7b0]) | skip)
   have H' := za H
   clear H
   go_wp2
   go_meet
   case rel => exact ⟨_, (decide (a1 ≥ (l0.length : Int))), zq23, H', ⟨zq78⟩, ⟨zq4⟩⟩
 case rest =>
  clear HC6
  obtain ⟨kq, x23_5, rfl, HA, HJ5, HB⟩ := hcut
  cases kq with
  | zero => exact absurd HA.out (by simp [rb_Value.j0])
  | succ kj5 =>
   have H := HA.out
   clear HA
   simp only [rb_Value.j0] at H
   by_cases c8 : x23_5 = true
   ·
    subst c8
    rw [if_pos rfl] at H
    obtain rfl := Option.some.inj H
    go_wp2
    go_ret
    exact ⟨zq16, zq4⟩
   ·
    replace c8 := Bool.eq_false_iff.mpr c8
    subst c8
    rw [if_neg (show ¬ (false = true) by decide)] at H
    by_cases c9 : 0 ≤ (l0.length : Int)
    ·
     rw [if_pos c9] at H
     have c9b0 := eq_true c9
     have c9b1 := decide_eq_true c9
     clear c9
     by_cases c10 : ((l0.length : Int) : Int).toNat ≤ 35184372088832
     ·
      rw [if_pos c10] at H
      have c10b0 := eq_true c10
      have c10b1 := decide_eq_true c10
      clear c10
      obtain ⟨y1017, hy1017⟩ : ∃ y_ : List Int, y_ = (List.replicate ((l0.length : Int) : Int).toNat 0) := ⟨_, rfl⟩
      replace H : (rb_Value.l0 kj5 l0 a1 a2 l3 l4 y1017 0) = some r := by first | (rw [hy1017]; with_reducible exact H) | (have H2_ := (Option.bind_some _ _).symm.trans H; rw [hy1017]; with_reducible exact H2_) | (have H2_ := (Option.bind_some _ _).symm.trans H; with_reducible exact H2_) | with_reducible exact H | (rw [hy1017]; exact H) | exact H
      have Ny1017 := za hy1017
      clear hy1017
      have H' := za H
      clear H
      go_wp2_with (first | ((with_reducible refine gate_dst (N := 26) rfl ?_); (try (refine gate_guard (by rfl) ?_; dsimp only)); refine Kd.R_make (Kd.int .i64) _ 3 rfl (N := 26) rfl 71 _ _ rfl (l0.length : Int) rfl rfl Try.underlying71 (.int .i64 0) 8 info3 rfl (by decide) (by omega) 0 (ok := fun _ => True) (okp := fun _ => True) rfl (fun _ hk => hk) trivial (of_decide_eq_true zq11) (Nat.le_trans (Nat.mul_le_mul_right _ (of_decide_eq_true zq11 : (l0.length : Int).toNat ≤ 35184372088832)) (by omega)) (Below.refl _ _) (Nat.le_refl _) ?_; intro v1018 w11 ho12 hb hg_ hnew_; clear hg_ hnew_; (first | rw [← Ny1017.out] at ho12 | (simp only [Int.reduceToNat] at ho12; rw [← Ny1017.out] at ho12)); have HO1019 := za (Kd.R_lower ho12 (below_size zq4)); replace HB := za (below_step zq4 hb); clear hb ho12))
      go_loopg [12] kj5 (fun kq v12 w' => ∃ (x11_2 : List Int) (x12_2 : Int), v12 = .int .i64 x12_2 ∧ Aside0 (rb_Value.l0 kq l0 a1 a2 l3 l4 x11_2 x12_2 = some r) ∧ Aside0 (kq ≤ kj5) ∧ Aside0 (Kd.R (Kd.int .i64) 3 w' w.heap.size (fun _ => True) v1018 x11_2) ∧ Aside0 (Below w.heap.size w w'))
      case atStart => exact ⟨(y1017), (0), zq23, H', ⟨Nat.le_refl _⟩, ⟨by (with_reducible repeat (first | apply Kd.R_alloc | apply Kd.R_drewN | apply Kd.R_drew)); exact HO1019.out⟩, ⟨zq4⟩⟩
      case round =>
       clear H'
       obtain ⟨x11_2, x12_2, rfl, HA, HK2, HO_11, HB⟩ := hrel
       cases gk with
       | zero => exact absurd HA.out (by simp [rb_Value.l0])
       | succ k2 =>
        have H := HA.out
        clear HA
        simp only [rb_Value.l0] at H
        by_cases c13 : x12_2 ≤ a1
        ·
         rw [if_pos c13] at H
         have c13b0 := decide_eq_true c13
         clear c13
         by_cases c14 : 0 ≤ x12_2
         ·
          rw [if_pos c14] at H
          have c14b0 := decide_eq_true c14
          clear c14
          by_cases c15 : x12_2 < (l0.length : Int)
          ·
           rw [if_pos c15] at H
           have c15b0 := decide_eq_true c15
           clear c15
           have HC16 := za H
           clear H
           have p1021 : 0 ≤ (x12_2 : Int) := of_decide_eq_true zq11
           have q1021 : x12_2 < (l0.length : Int) := of_decide_eq_true zq11
           obtain ⟨ad1021, e1021, hx1021_0, hx1021_1, hx1021_2, hx1021_3, hx1021_4, hx1021_5, hx1021_6⟩ := at_T73 HR0.out x12_2 p1021 q1021
           cases e1021
           replace hx1021_0 := (HB.out.cell (World.block_lt_of_cell? w _ hx1021_0)).trans hx1021_0
           replace hx1021_1 := (HB.out.cell (World.block_lt_of_cell? w _ hx1021_1)).trans hx1021_1
           replace hx1021_2 := (HB.out.cell (World.block_lt_of_cell? w _ hx1021_2)).trans hx1021_2
           replace hx1021_3 := (HB.out.cell (World.block_lt_of_cell? w _ hx1021_3)).trans hx1021_3
           replace hx1021_4 := (HB.out.cell (World.block_lt_of_cell? w _ hx1021_4)).trans hx1021_4
           replace hx1021_5 := (HB.out.cell (World.block_lt_of_cell? w _ hx1021_5)).trans hx1021_5
           replace hx1021_6 := (HB.out.cell (World.block_lt_of_cell? w _ hx1021_6)).trans hx1021_6
           replace p1021 := eq_true p1021
           replace q1021 := eq_true q1021
           go_upto_region 9 with (first | ((with_reducible refine gate_dst (N := 13) rfl ?_); (try (refine gate_guard (by rfl) ?_; dsimp only)); refine box_event ?hg (N := 13) ?hd (cs := #[.int .i64 0, .int .i64 0, .string (⟨#[]⟩ : ByteArray), .string (⟨#[]⟩ : ByteArray), .int .i64 0, .int .i64 0, .int .i64 0]) (t := 73) ?hr ?_; (case hd => rfl); (case hg => rfl); (case hr => exact zq33); intro gb1022 hg w17 hbox hb; replace HO_11 := za (Kd.R_below (zr HO_11.out) hb); have BK1022 := za (hbox); have GW1022 := za ((by rw [hg]; exact (below_size zq4) : w.heap.size ≤ gb1022)); have GE1022 := za ((by rw [hg]; exact (below_size zq4) : w.heap.size ≤ gb1022)); replace HB := za (below_step zq4 hb); clear hb hbox hg; obtain ⟨hcz18_0, hcz18_1, hcz18_2, hcz18_3, hcz18_4, hcz18_5, hcz18_6⟩ := zc7 BK1022.out; obtain ⟨hfz18_0, hfz18_1, hfz18_2, hfz18_3, hfz18_4, hfz18_5⟩ := zf6 BK1022.out; have hfz18_6 := blk_frozen BK1022.out 6))
           (try simp only [Act.put, List.setIfInBounds_toArray, List.set_cons_zero, List.set_cons_succ])
           go_cut [44] (fun v44 wc => ∃ (kq : Nat) (x44_15 : Bool), v44 = .bool x44_15 ∧ Aside0 (rb_Value.j2 kq l0 a1 a2 l3 l4 x11_2 x12_2 0 0 x44_15 ((rd_T73 l0 x12_2).f0) ((rd_T73 l0 x12_2).f1) ((rd_T73 l0 x12_2).f2) ((rd_T73 l0 x12_2).f3) ((rd_T73 l0 x12_2).f4) ((rd_T73 l0 x12_2).f5) ((rd_T73 l0 x12_2).f6) = some r) ∧ Aside0 (kq ≤ k2) ∧ Aside0 (Kd.R (Kd.int .i64) 3 wc w.heap.size (fun _ => True) v1018 x11_2) ∧ Aside0 (wc.heap[gb1022]? = some (.cells #[.int .i64 ((rd_T73 l0 x12_2).f0), .int .i64 ((rd_T73 l0 x12_2).f1), .string ((rd_T73 l0 x12_2).f2), .string ((rd_T73 l0 x12_2).f3), .int .i64 ((rd_T73 l0 x12_2).f4), .int .i64 ((rd_T73 l0 x12_2).f5), .int .i64 ((rd_T73 l0 x12_2).f6)] 73 (0, 0))) ∧ Aside0 (Below w.heap.size w wc))
           case first =>
            have H := HC16.out
            clear HC16
            by_cases c19 : ((rd_T73 l0 x12_2).f4) ≥ 0
            ·
             rw [if_pos c19] at H
             have c19b0 : decide (0 ≤ ((rd_T73 l0 x12_2).f4)) = true := decide_eq_true c19
             clear c19
             (first | rw [c19b0] | (simp only [i64_w, i32_w]; rw [c19b0]) | skip)
             have H' := za H
             clear H
             obtain ⟨hcz20_0, hcz20_1, hcz20_2, hcz20_3, hcz20_4, hcz20_5, hcz20_6⟩ := zc7 BK1022.out
             obtain ⟨hfz20_0, hfz20_1, hfz20_2, hfz20_3, hfz20_4, hfz20_5, hfz20_6⟩ := zf7 BK1022.out
             go_wp2
             go_meet
             case rel => exact ⟨_, (decide (((rd_T73 l0 x12_2).f4) < x12_2)), zq23, H', ⟨by have := HJ5.out; have := HK2.out; first | omega | exact Nat.le_refl _⟩, ⟨by (with_reducible repeat (first | apply Kd.R_alloc | apply Kd.R_drewN | apply Kd.R_drew)); exact Kd.R_mono (Kd.R_far (p := ⟨gb1022, 6, none⟩) (Kd.R_far (p := ⟨gb1022, 5, none⟩) (Kd.R_far (p := ⟨gb1022, 4, none⟩) (Kd.R_far (p := ⟨gb1022, 3, none⟩) (Kd.R_far (p := ⟨gb1022, 2, none⟩) (Kd.R_far (p := ⟨gb1022, 1, none⟩) (Kd.R_far (p := ⟨gb1022, 0, none⟩) (Kd.R_types HO_11.out BK1022.out (by decide)) (fun _ hk => hk.2) (.int .i64 ((rd_T73 l0 x12_2).f0))) (fun _ hk => hk.2) (.int .i64 ((rd_T73 l0 x12_2).f1))) (fun _ hk => hk.2) (.string ((rd_T73 l0 x12_2).f2))) (fun _ hk => hk.2) (.string ((rd_T73 l0 x12_2).f3))) (fun _ hk => hk.2) (.int .i64 ((rd_T73 l0 x12_2).f4))) (fun _ hk => hk.2) (.int .i64 ((rd_T73 l0 x12_2).f5))) (fun _ hk => hk.2) (.int .i64 ((rd_T73 l0 x12_2).f6))) (fun _ hk => trivial)⟩, ⟨by (with_reducible repeat (first | refine blk_drewN ?_ _ | refine blk_drew ?_ | refine blk_alloc ?_ _)); refine blk_put (cs := #[.int .i64 ((rd_T73 l0 x12_2).f0), .int .i64 ((rd_T73 l0 x12_2).f1), .string ((rd_T73 l0 x12_2).f2), .string ((rd_T73 l0 x12_2).f3), .int .i64 ((rd_T73 l0 x12_2).f4), .int .i64 ((rd_T73 l0 x12_2).f5), .int .i64 0]) ?_ 6 _ rfl; (with_reducible repeat (first | refine blk_drewN ?_ _ | refine blk_drew ?_ | refine blk_alloc ?_ _)); refine blk_put (cs := #[.int .i64 ((rd_T73 l0 x12_2).f0), .int .i64 ((rd_T73 l0 x12_2).f1), .string ((rd_T73 l0 x12_2).f2), .string ((rd_T73 l0 x12_2).f3), .int .i64 ((rd_T73 l0 x12_2).f4), .int .i64 0, .int .i64 0]) ?_ 5 _ rfl; (with_reducible repeat (first | refine blk_drewN ?_ _ | refine blk_drew ?_ | refine blk_alloc ?_ _)); refine blk_put (cs := #[.int .i64 ((rd_T73 l0 x12_2).f0), .int .i64 ((rd_T73 l0 x12_2).f1), .string ((rd_T73 l0 x12_2).f2), .string ((rd_T73 l0 x12_2).f3), .int .i64 0, .int .i64 0, .int .i64 0]) ?_ 4 _ rfl; (with_reducible repeat (first | refine blk_drewN ?_ _ | refine blk_drew ?_ | refine blk_alloc ?_ _)); refine blk_put (cs := #[.int .i64 ((rd_T73 l0 x12_2).f0), .int .i64 ((rd_T73 l0 x12_2).f1), .string ((rd_T73 l0 x12_2).f2), .string (⟨#[]⟩ : ByteArray), .int .i64 0, .int .i64 0, .int .i64 0]) ?_ 3 _ rfl; (with_reducible repeat (first | refine blk_drewN ?_ _ | refine blk_drew ?_ | refine blk_alloc ?_ _)); refine blk_put (cs := #[.int .i64 ((rd_T73 l0 x12_2).f0), .int .i64 ((rd_T73 l0 x12_2).f1), .string (⟨#[]⟩ : ByteArray), .string (⟨#[]⟩ : ByteArray), .int .i64 0, .int .i64 0, .int .i64 0]) ?_ 2 _ rfl; (with_reducible repeat (first | refine blk_drewN ?_ _ | refine blk_drew ?_ | refine blk_alloc ?_ _)); refine blk_put (cs := #[.int .i64 ((rd_T73 l0 x12_2).f0), .int .i64 0, .string (⟨#[]⟩ : ByteArray), .string (⟨#[]⟩ : ByteArray), .int .i64 0, .int .i64 0, .int .i64 0]) ?_ 1 _ rfl; (with_reducible repeat (first | refine blk_drewN ?_ _ | refine blk_drew ?_ | refine blk_alloc ?_ _)); refine blk_put (cs := #[.int .i64 0, .int .i64 0, .string (⟨#[]⟩ : ByteArray), .string (⟨#[]⟩ : ByteArray), .int .i64 0, .int .i64 0, .int .i64 0]) ?_ 0 _ rfl; (with_reducible repeat (first | refine blk_drewN ?_ _ | refine blk_drew ?_ | refine blk_alloc ?_ _)); exact BK1022.out⟩, ⟨zq31⟩⟩
            ·
             rw [if_neg c19] at H
             have c19b0 : decide (0 ≤ ((rd_T73 l0 x12_2).f4)) = false := decide_eq_false c19
             clear c19
             (first | rw [c19b0] | (simp only [i64_w, i32_w]; rw [c19b0]) | skip)
             have H' := za H
             clear H
             obtain ⟨hcz21_0, hcz21_1, hcz21_2, hcz21_3, hcz21_4, hcz21_5, hcz21_6⟩ := zc7 BK1022.out
             obtain ⟨hfz21_0, hfz21_1, hfz21_2, hfz21_3, hfz21_4, hfz21_5, hfz21_6⟩ := zf7 BK1022.out
             go_wp2
             go_meet
             case rel => exact ⟨_, (false), zq23, H', ⟨by have := HJ5.out; have := HK2.out; first | omega | exact Nat.le_refl _⟩, ⟨by (with_reducible repeat (first | apply Kd.R_alloc | apply Kd.R_drewN | apply Kd.R_drew)); exact Kd.R_mono (Kd.R_far (p := ⟨gb1022, 6, none⟩) (Kd.R_far (p := ⟨gb1022, 5, none⟩) (Kd.R_far (p := ⟨gb1022, 4, none⟩) (Kd.R_far (p := ⟨gb1022, 3, none⟩) (Kd.R_far (p := ⟨gb1022, 2, none⟩) (Kd.R_far (p := ⟨gb1022, 1, none⟩) (Kd.R_far (p := ⟨gb1022, 0, none⟩) (Kd.R_types HO_11.out BK1022.out (by decide)) (fun _ hk => hk.2) (.int .i64 ((rd_T73 l0 x12_2).f0))) (fun _ hk => hk.2) (.int .i64 ((rd_T73 l0 x12_2).f1))) (fun _ hk => hk.2) (.string ((rd_T73 l0 x12_2).f2))) (fun _ hk => hk.2) (.string ((rd_T73 l0 x12_2).f3))) (fun _ hk => hk.2) (.int .i64 ((rd_T73 l0 x12_2).f4))) (fun _ hk => hk.2) (.int .i64 ((rd_T73 l0 x12_2).f5))) (fun _ hk => hk.2) (.int .i64 ((rd_T73 l0 x12_2).f6))) (fun _ hk => trivial)⟩, ⟨by (with_reducible repeat (first | refine blk_drewN ?_ _ | refine blk_drew ?_ | refine blk_alloc ?_ _)); refine blk_put (cs := #[.int .i64 ((rd_T73 l0 x12_2).f0), .int .i64 ((rd_T73 l0 x12_2).f1), .string ((rd_T73 l0 x12_2).f2), .string ((rd_T73 l0 x12_2).f3), .int .i64 ((rd_T73 l0 x12_2).f4), .int .i64 ((rd_T73 l0 x12_2).f5), .int .i64 0]) ?_ 6 _ rfl; (with_reducible repeat (first | refine blk_drewN ?_ _ | refine blk_drew ?_ | refine blk_alloc ?_ _)); refine blk_put (cs := #[.int .i64 ((rd_T73 l0 x12_2).f0), .int .i64 ((rd_T73 l0 x12_2).f1), .string ((rd_T73 l0 x12_2).f2), .string ((rd_T73 l0 x12_2).f3), .int .i64 ((rd_T73 l0 x12_2).f4), .int .i64 0, .int .i64 0]) ?_ 5 _ rfl; (with_reducible repeat (first | refine blk_drewN ?_ _ | refine blk_drew ?_ | refine blk_alloc ?_ _)); refine blk_put (cs := #[.int .i64 ((rd_T73 l0 x12_2).f0), .int .i64 ((rd_T73 l0 x12_2).f1), .string ((rd_T73 l0 x12_2).f2), .string ((rd_T73 l0 x12_2).f3), .int .i64 0, .int .i64 0, .int .i64 0]) ?_ 4 _ rfl; (with_reducible repeat (first | refine blk_drewN ?_ _ | refine blk_drew ?_ | refine blk_alloc ?_ _)); refine blk_put (cs := #[.int .i64 ((rd_T73 l0 x12_2).f0), .int .i64 ((rd_T73 l0 x12_2).f1), .string ((rd_T73 l0 x12_2).f2), .string (⟨#[]⟩ : ByteArray), .int .i64 0, .int .i64 0, .int .i64 0]) ?_ 3 _ rfl; (with_reducible repeat (first | refine blk_drewN ?_ _ | refine blk_drew ?_ | refine blk_alloc ?_ _)); refine blk_put (cs := #[.int .i64 ((rd_T73 l0 x12_2).f0), .int .i64 ((rd_T73 l0 x12_2).f1), .string (⟨#[]⟩ : ByteArray), .string (⟨#[]⟩ : ByteArray), .int .i64 0, .int .i64 0, .int .i64 0]) ?_ 2 _ rfl; (with_reducible repeat (first | refine blk_drewN ?_ _ | refine blk_drew ?_ | refine blk_alloc ?_ _)); refine blk_put (cs := #[.int .i64 ((rd_T73 l0 x12_2).f0), .int .i64 0, .string (⟨#[]⟩ : ByteArray), .string (⟨#[]⟩ : ByteArray), .int .i64 0, .int .i64 0, .int .i64 0]) ?_ 1 _ rfl; (with_reducible repeat (first | refine blk_drewN ?_ _ | refine blk_drew ?_ | refine blk_alloc ?_ _)); refine blk_put (cs := #[.int .i64 0, .int .i64 0, .string (⟨#[]⟩ : ByteArray), .string (⟨#[]⟩ : ByteArray), .int .i64 0, .int .i64 0, .int .i64 0]) ?_ 0 _ rfl; (with_reducible repeat (first | refine blk_drewN ?_ _ | refine blk_drew ?_ | refine blk_alloc ?_ _)); exact BK1022.out⟩, ⟨zq31⟩⟩
           case rest =>
            clear HC16
            obtain ⟨kq, x44_15, rfl, HA, HJ15, HO_11, BK1022, HB⟩ := hcut
            cases kq with
            | zero => exact absurd HA.out (by simp [rb_Value.j2])
            | succ kj15 =>
             have H := HA.out
             clear HA
             simp only [rb_Value.j2] at H
             have HC22 := za H
             clear H
             go_upto_if 44 with (fail)
             go_cut [14] (fun v14 wc => ∃ (kq : Nat) (x14_21 : Int), v14 = .int .i64 x14_21 ∧ Aside0 (rb_Value.j3 kq l0 a1 a2 l3 l4 x11_2 x12_2 x14_21 0 ((rd_T73 l0 x12_2).f0) ((rd_T73 l0 x12_2).f1) ((rd_T73 l0 x12_2).f2) ((rd_T73 l0 x12_2).f3) ((rd_T73 l0 x12_2).f4) ((rd_T73 l0 x12_2).f5) ((rd_T73 l0 x12_2).f6) = some r) ∧ Aside0 (kq ≤ kj15) ∧ Aside0 (Kd.R (Kd.int .i64) 3 wc w.heap.size (fun _ => True) v1018 x11_2) ∧ Aside0 (wc.heap[gb1022]? = some (.cells #[.int .i64 ((rd_T73 l0 x12_2).f0), .int .i64 ((rd_T73 l0 x12_2).f1), .string ((rd_T73 l0 x12_2).f2), .string ((rd_T73 l0 x12_2).f3), .int .i64 ((rd_T73 l0 x12_2).f4), .int .i64 ((rd_T73 l0 x12_2).f5), .int .i64 ((rd_T73 l0 x12_2).f6)] 73 (0, 0))) ∧ Aside0 (Below w.heap.size w wc))
             case first =>
              have H := HC22.out
              clear HC22
              by_cases c23 : x44_15 = true
              ·
               subst c23
               rw [if_pos rfl] at H
               by_cases c24 : 0 ≤ ((rd_T73 l0 x12_2).f4)
               ·
                rw [if_pos c24] at H
                have c24b0 := decide_eq_true c24
                clear c24
                (first | rw [c24b0] | (simp only [i64_w, i32_w]; rw [c24b0]) | skip)
                by_cases c25 : ((rd_T73 l0 x12_2).f4) < (x11_2.length : Int)
                ·
                 rw [if_pos c25] at H
                 have c25b0 := decide_eq_true c25
                 clear c25
                 have H' := za H
                 clear H
                 obtain ⟨hcz26_0, hcz26_1, hcz26_2, hcz26_3, hcz26_4, hcz26_5, hcz26_6⟩ := zc7 BK1022.out
                 obtain ⟨hfz26_0, hfz26_1, hfz26_2, hfz26_3, hfz26_4, hfz26_5, hfz26_6⟩ := zf7 BK1022.out
                 obtain ⟨Ao27, co27, eo27⟩ := Kd.R_slice HO_11.out
                 subst eo27
                 have p1023 : 0 ≤ (((rd_T73 l0 x12_2).f4) : Int) := of_decide_eq_true zq11
                 have q1023 : ((rd_T73 l0 x12_2).f4) < (x11_2.length : Int) := of_decide_eq_true zq11
                 obtain ⟨ad1023, e1023, hx1023_0⟩ := Kd.at_int (Kd.R_reads' HO_11.out).2.2 ((rd_T73 l0 x12_2).f4) p1023 q1023
                 cases e1023
                 replace p1023 := eq_true p1023
                 replace q1023 := eq_true q1023
                 go_wp2
                 go_meet
                 case rel => exact ⟨_, (rd x11_2 ((rd_T73 l0 x12_2).f4)), zq23, H', ⟨by have := HJ5.out; have := HK2.out; have := HJ15.out; first | omega | exact Nat.le_refl _⟩, ⟨zq55⟩, ⟨zq68⟩, ⟨zq31⟩⟩
                ·
                 rw [if_neg c25] at H
                 exact absurd H (by simp)
               ·
                rw [if_neg c24] at H
                exact absurd H (by simp)
              ·
               replace c23 := Bool.eq_false_iff.mpr c23
               subst c23
               rw [if_neg (show ¬ (false = true) by decide)] at H
               have H' := za H
               clear H
               go_wp2
               go_meet
               case rel => exact ⟨_, (0), zq23, H', ⟨by have := HJ5.out; have := HK2.out; have := HJ15.out; first | omega | exact Nat.le_refl _⟩, ⟨zq55⟩, ⟨zq68⟩, ⟨zq31⟩⟩
             case rest =>
              clear HC22
              obtain ⟨kq, x14_21, rfl, HA, HJ21, HO_11, BK1022, HB⟩ := hcut
              cases kq with
              | zero => exact absurd HA.out (by simp [rb_Value.j3])
              | succ kj21 =>
               have H := HA.out
               clear HA
               simp only [rb_Value.j3] at H
               have HC28 := za H
               clear H
               go_upto_region 11 with (fail)
               go_cut [58] (fun v58 wc => ∃ (kq : Nat) (x58_27 : Bool), v58 = .bool x58_27 ∧ Aside0 (rb_Value.j4 kq l0 a1 a2 l3 l4 x11_2 x12_2 x14_21 0 x58_27 ((rd_T73 l0 x12_2).f0) ((rd_T73 l0 x12_2).f1) ((rd_T73 l0 x12_2).f2) ((rd_T73 l0 x12_2).f3) ((rd_T73 l0 x12_2).f4) ((rd_T73 l0 x12_2).f5) ((rd_T73 l0 x12_2).f6) = some r) ∧ Aside0 (kq ≤ kj21) ∧ Aside0 (Kd.R (Kd.int .i64) 3 wc w.heap.size (fun _ => True) v1018 x11_2) ∧ Aside0 (wc.heap[gb1022]? = some (.cells #[.int .i64 ((rd_T73 l0 x12_2).f0), .int .i64 ((rd_T73 l0 x12_2).f1), .string ((rd_T73 l0 x12_2).f2), .string ((rd_T73 l0 x12_2).f3), .int .i64 ((rd_T73 l0 x12_2).f4), .int .i64 ((rd_T73 l0 x12_2).f5), .int .i64 ((rd_T73 l0 x12_2).f6)] 73 (0, 0))) ∧ Aside0 (Below w.heap.size w wc))
               case first =>
                have H := HC28.out
                clear HC28
                by_cases c29 : ((rd_T73 l0 x12_2).f5) ≥ 0
                ·
                 rw [if_pos c29] at H
                 have c29b0 : decide (0 ≤ ((rd_T73 l0 x12_2).f5)) = true := decide_eq_true c29
                 clear c29
                 (first | rw [c29b0] | (simp only [i64_w, i32_w]; rw [c29b0]) | skip)
                 have H' := za H
                 clear H
                 obtain ⟨hcz30_0, hcz30_1, hcz30_2, hcz30_3, hcz30_4, hcz30_5, hcz30_6⟩ := zc7 BK1022.out
                 obtain ⟨hfz30_0, hfz30_1, hfz30_2, hfz30_3, hfz30_4, hfz30_5, hfz30_6⟩ := zf7 BK1022.out
                 go_wp2
                 go_meet
                 case rel => exact ⟨_, (decide (((rd_T73 l0 x12_2).f5) < x12_2)), zq23, H', ⟨by have := HJ5.out; have := HK2.out; have := HJ15.out; have := HJ21.out; first | omega | exact Nat.le_refl _⟩, ⟨zq55⟩, ⟨zq68⟩, ⟨zq31⟩⟩
                ·
                 rw [if_neg c29] at H
                 have c29b0 : decide (0 ≤ ((rd_T73 l0 x12_2).f5)) = false := decide_eq_false c29
                 clear c29
                 (first | rw [c29b0] | (simp only [i64_w, i32_w]; rw [c29b0]) | skip)
                 have H' := za H
                 clear H
                 obtain ⟨hcz31_0, hcz31_1, hcz31_2, hcz31_3, hcz31_4, hcz31_5, hcz31_6⟩ := zc7 BK1022.out
                 obtain ⟨hfz31_0, hfz31_1, hfz31_2, hfz31_3, hfz31_4, hfz31_5, hfz31_6⟩ := zf7 BK1022.out
                 go_wp2
                 go_meet
                 case rel => exact ⟨_, (false), zq23, H', ⟨by have := HJ5.out; have := HK2.out; have := HJ15.out; have := HJ21.out; first | omega | exact Nat.le_refl _⟩, ⟨zq55⟩, ⟨zq68⟩, ⟨zq31⟩⟩
               case rest =>
                clear HC28
                obtain ⟨kq, x58_27, rfl, HA, HJ27, HO_11, BK1022, HB⟩ := hcut
                cases kq with
                | zero => exact absurd HA.out (by simp [rb_Value.j4])
                | succ kj27 =>
                 have H := HA.out
                 clear HA
                 simp only [rb_Value.j4] at H
                 have HC32 := za H
                 clear H
                 go_upto_if 58 with (fail)
                 go_cut [15] (fun v15 wc => ∃ (kq : Nat) (x15_31 : Int), v15 = .int .i64 x15_31 ∧ Aside0 (rb_Value.j5 kq l0 a1 a2 l3 l4 x11_2 x12_2 x14_21 x15_31 ((rd_T73 l0 x12_2).f0) ((rd_T73 l0 x12_2).f1) ((rd_T73 l0 x12_2).f2) ((rd_T73 l0 x12_2).f3) ((rd_T73 l0 x12_2).f4) ((rd_T73 l0 x12_2).f5) ((rd_T73 l0 x12_2).f6) = some r) ∧ Aside0 (kq ≤ kj27) ∧ Aside0 (Kd.R (Kd.int .i64) 3 wc w.heap.size (fun _ => True) v1018 x11_2) ∧ Aside0 (wc.heap[gb1022]? = some (.cells #[.int .i64 ((rd_T73 l0 x12_2).f0), .int .i64 ((rd_T73 l0 x12_2).f1), .string ((rd_T73 l0 x12_2).f2), .string ((rd_T73 l0 x12_2).f3), .int .i64 ((rd_T73 l0 x12_2).f4), .int .i64 ((rd_T73 l0 x12_2).f5), .int .i64 ((rd_T73 l0 x12_2).f6)] 73 (0, 0))) ∧ Aside0 (Below w.heap.size w wc))
                 case first =>
                  have H := HC32.out
                  clear HC32
                  by_cases c33 : x58_27 = true
                  ·
                   subst c33
                   rw [if_pos rfl] at H
                   by_cases c34 : 0 ≤ ((rd_T73 l0 x12_2).f5)
                   ·
                    rw [if_pos c34] at H
                    have c34b0 := decide_eq_true c34
                    clear c34
                    (first | rw [c34b0] | (simp only [i64_w, i32_w]; rw [c34b0]) | skip)
                    by_cases c35 : ((rd_T73 l0 x12_2).f5) < (x11_2.length : Int)
                    ·
                     rw [if_pos c35] at H
                     have c35b0 := decide_eq_true c35
                     clear c35
                     have H' := za H
                     clear H
                     obtain ⟨hcz36_0, hcz36_1, hcz36_2, hcz36_3, hcz36_4, hcz36_5, hcz36_6⟩ := zc7 BK1022.out
                     obtain ⟨hfz36_0, hfz36_1, hfz36_2, hfz36_3, hfz36_4, hfz36_5, hfz36_6⟩ := zf7 BK1022.out
                     obtain ⟨Ao37, co37, eo37⟩ := Kd.R_slice HO_11.out
                     subst eo37
                     have p1024 : 0 ≤ (((rd_T73 l0 x12_2).f5) : Int) := of_decide_eq_true zq11
                     have q1024 : ((rd_T73 l0 x12_2).f5) < (x11_2.length : Int) := of_decide_eq_true zq11
                     obtain ⟨ad1024, e1024, hx1024_0⟩ := Kd.at_int (Kd.R_reads' HO_11.out).2.2 ((rd_T73 l0 x12_2).f5) p1024 q1024
                     cases e1024
                     replace p1024 := eq_true p1024
                     replace q1024 := eq_true q1024
                     go_wp2
                     go_meet
                     case rel => exact ⟨_, (rd x11_2 ((rd_T73 l0 x12_2).f5)), zq23, H', ⟨by have := HJ5.out; have := HK2.out; have := HJ15.out; have := HJ21.out; have := HJ27.out; first | omega | exact Nat.le_refl _⟩, ⟨zq55⟩, ⟨zq68⟩, ⟨zq31⟩⟩
                    ·
                     rw [if_neg c35] at H
                     exact absurd H (by simp)
                   ·
                    rw [if_neg c34] at H
                    exact absurd H (by simp)
                  ·
                   replace c33 := Bool.eq_false_iff.mpr c33
                   subst c33
                   rw [if_neg (show ¬ (false = true) by decide)] at H
                   have H' := za H
                   clear H
                   go_wp2
                   go_meet
                   case rel => exact ⟨_, (0), zq23, H', ⟨by have := HJ5.out; have := HK2.out; have := HJ15.out; have := HJ21.out; have := HJ27.out; first | omega | exact Nat.le_refl _⟩, ⟨zq55⟩, ⟨zq68⟩, ⟨zq31⟩⟩
                 case rest =>
                  clear HC32
                  obtain ⟨kq, x15_31, rfl, HA, HJ31, HO_11, BK1022, HB⟩ := hcut
                  cases kq with
                  | zero => exact absurd HA.out (by simp [rb_Value.j5])
                  | succ kj31 =>
                   have H := HA.out
                   clear HA
                   simp only [rb_Value.j5] at H
                   by_cases c38 : ((rd_T73 l0 x12_2).f0) = 1
                   ·
                    rw [if_pos c38] at H
                    have c38b0 := beq_iff_eq.mpr c38
                    have c38b1 := bne_eq_false_iff_eq.mpr c38
                    clear c38
                    by_cases c39 : 0 ≤ x12_2
                    ·
                     rw [if_pos c39] at H
                     have c39b0 := decide_eq_true c39
                     clear c39
                     by_cases c40 : x12_2 < (x11_2.length : Int)
                     ·
                      rw [if_pos c40] at H
                      have c40b0 := decide_eq_true c40
                      clear c40
                      obtain ⟨y1025, hy1025⟩ : ∃ y_ : List Int, y_ = (x11_2.set (x12_2 : Int).toNat ((rd_T73 l0 x12_2).f1)) := ⟨_, rfl⟩
                      replace H : (rb_Value.l0 kj31 l0 a1 a2 l3 l4 y1025 (wrap64 (x12_2 + 1))) = some r := by first | (rw [hy1025]; with_reducible exact H) | (have H2_ := (Option.bind_some _ _).symm.trans H; rw [hy1025]; with_reducible exact H2_) | (have H2_ := (Option.bind_some _ _).symm.trans H; with_reducible exact H2_) | with_reducible exact H | (rw [hy1025]; exact H) | exact H
                      have Ny1025 := za hy1025
                      clear hy1025
                      have H' := za H
                      clear H
                      obtain ⟨hcz42_0, hcz42_1, hcz42_2, hcz42_3, hcz42_4, hcz42_5, hcz42_6⟩ := zc7 BK1022.out
                      obtain ⟨hfz42_0, hfz42_1, hfz42_2, hfz42_3, hfz42_4, hfz42_5, hfz42_6⟩ := zf7 BK1022.out
                      have p41 : 0 ≤ (x12_2 : Int) := of_decide_eq_true zq11
                      have q41 : (x12_2 : Int) < ((x11_2.length : Int) : Int) := of_decide_eq_true zq11
                      obtain ⟨go41, co41, eo41, gb41, gl41, cl41, HG41⟩ := Kd.R_form HO_11.out (by omega)
                      (first | cases eo41 | (injection eo41 with ea_ en_ ec_; (first | subst ea_ | (injection ea_ with ea_; subst ea_)); subst ec_; clear en_))
                      have GB41 := za gb41
                      have GG41 := za HG41
                      clear gb41 gl41 HG41
                      obtain ⟨hx41_0, hf41_0⟩ := Kd.R_celln 0 HO_11.out (x12_2 : Int) p41 q41
                      replace p41 := eq_true p41
                      replace q41 := eq_true q41
                      have HP43 := Kd.R_putg HO_11.out (x12_2 : Int) ((rd_T73 l0 x12_2).f1)
                      go_wp2_with (first | ((with_reducible refine gate_store (t := 3) (p := 80) rfl ?_); refine store_event (t := 3) (p := 80) (v := ?vo_w44) (w1 := (wc.setCell ⟨go41, (x12_2 : Int).toNat, none⟩ (.int .i64 ((rd_T73 l0 x12_2).f1)))) ?hg ?ho ?hn ?hr ?_; (case ho => rfl); (case hg => rfl); (case hn => rfl); (case hr => exact zq33); intro w44 hw; have hg : wc.grownBy w44 (some go41) := (by rw [hw]; exact HP43.2); have hp_ : Kd.R (Kd.int .i64) 3 w44 w.heap.size (fun _ => True) (.slice (some ⟨go41, 0, none⟩) x11_2.length co41) y1025 := (by rw [hw, Ny1025.out]; exact HP43.1); clear HP43; replace BK1022 := za (blk_grown (g := gb1022) (zb BK1022.out) hg (Kd.R_ne HO_11.out BK1022.out (by decide))); replace HO_11 := za (hp_); replace HB := za ((by rw [hw]; exact below_set (HB.out) GB41.out : Below w.heap.size w w44)); clear hg hw hp_))
                      go_roundg kj31
                      case measure => have := HJ5.out; have := HK2.out; have := HJ15.out; have := HJ21.out; have := HJ27.out; have := HJ31.out; omega
                      case rel => exact ⟨(y1025), (wrap64 (x12_2 + 1)), zq23, H', ⟨by have := HJ5.out; have := HK2.out; have := HJ15.out; have := HJ21.out; have := HJ27.out; have := HJ31.out; omega⟩, ⟨zq55⟩, ⟨zq31⟩⟩
                     ·
                      rw [if_neg c40] at H
                      exact absurd H (by simp)
                    ·
                     rw [if_neg c39] at H
                     exact absurd H (by simp)
                   ·
                    rw [if_neg c38] at H
                    have c38b0 := beq_eq_false_iff_ne.mpr c38
                    have c38b1 := bne_iff_ne.mpr c38
                    by_cases c45 : ((rd_T73 l0 x12_2).f0) = 2
                    ·
                     rw [if_pos c45] at H
                     have c45b0 := beq_iff_eq.mpr c45
                     have c45b1 := bne_eq_false_iff_eq.mpr c45
                     clear c45
                     replace H := Option.bind_eq_some_iff.mp H
                     obtain ⟨t1026, A460, H⟩ := H
                     (try dsimp only at H)
                     have A46 := za A460
                     clear A460
                     by_cases c47 : 0 ≤ x12_2
                     ·
                      rw [if_pos c47] at H
                      have c47b0 := decide_eq_true c47
                      clear c47
                      by_cases c48 : x12_2 < (x11_2.length : Int)
                      ·
                       rw [if_pos c48] at H
                       have c48b0 := decide_eq_true c48
                       clear c48
                       obtain ⟨y1027, hy1027⟩ : ∃ y_ : List Int, y_ = (x11_2.set (x12_2 : Int).toNat t1026) := ⟨_, rfl⟩
                       replace H : (rb_Value.l0 kj31 l0 a1 a2 l3 l4 y1027 (wrap64 (x12_2 + 1))) = some r := by first | (rw [hy1027]; with_reducible exact H) | (have H2_ := (Option.bind_some _ _).symm.trans H; rw [hy1027]; with_reducible exact H2_) | (have H2_ := (Option.bind_some _ _).symm.trans H; with_reducible exact H2_) | with_reducible exact H | (rw [hy1027]; exact H) | exact H
                       have Ny1027 := za hy1027
                       clear hy1027
                       have H' := za H
                       clear H
                       obtain ⟨hcz50_0, hcz50_1, hcz50_2, hcz50_3, hcz50_4, hcz50_5, hcz50_6⟩ := zc7 BK1022.out
                       obtain ⟨hfz50_0, hfz50_1, hfz50_2, hfz50_3, hfz50_4, hfz50_5, hfz50_6⟩ := zf7 BK1022.out
                       go_wp2_with (first | ((with_reducible refine gate_callee (f := 34) rfl ?_); refine goesL_ (some 92) rfl rfl Try.func34 zq17 rfl #[.string ((rd_T73 l0 x12_2).f2), .string ((rd_T73 l0 x12_2).f3), .string a2, .slice A3 l3.length c3, .slice A4 l4.length c4] rfl zq1 ?_; (with_reducible refine (rb_name.calls kj31 ((rd_T73 l0 x12_2).f2) ((rd_T73 l0 x12_2).f3) a2 _ _ l3 _ _ l4 t1026 _ ?side1 ?side2 ?side3 ?side4 A46.out).mono ?_); (case side1 => exact zq71); (case side2 => exact HC3.out); (case side3 => repeat (first | exact (Kd.C_below HR4.out HB.out) | (with_reducible refine Kd.C_alloc ?_ _) | (with_reducible refine Kd.C_drewN ?_ _) | (with_reducible refine Kd.C_drew ?_))); (case side4 => exact HC4.out); rintro e w' ⟨rfl, ⟨nd, rfl⟩⟩; refine ⟨_, rfl, ?_⟩; (try (rw [drewN_self wc]; generalize hq_ : World.drewN wc _ = wc; have n0_ : Aside0 (Kd.R (Kd.int .i64) 3 wc w.heap.size (fun _ => True) v1018 x11_2) := ⟨by rw [← hq_]; exact (zr HO_11.out)⟩; have n1_ : Aside0 (wc.heap[gb1022]? = some (.cells #[.int .i64 ((rd_T73 l0 x12_2).f0), .int .i64 ((rd_T73 l0 x12_2).f1), .string ((rd_T73 l0 x12_2).f2), .string ((rd_T73 l0 x12_2).f3), .int .i64 ((rd_T73 l0 x12_2).f4), .int .i64 ((rd_T73 l0 x12_2).f5), .int .i64 ((rd_T73 l0 x12_2).f6)] 73 (0, 0))) := ⟨by rw [← hq_]; exact (zb BK1022.out)⟩; have n2_ : Aside0 (Below w.heap.size w wc) := ⟨by rw [← hq_]; exact zq31⟩; clear HO_11 BK1022 HB hq_; have HO_11 := n0_; have BK1022 := n1_; have HB := n2_; clear n0_ n1_ n2_)); have p49 : 0 ≤ (x12_2 : Int) := of_decide_eq_true zq11; have q49 : (x12_2 : Int) < ((x11_2.length : Int) : Int) := of_decide_eq_true zq11; obtain ⟨go49, co49, eo49, gb49, gl49, cl49, HG49⟩ := Kd.R_form HO_11.out (by omega); (first | cases eo49 | (injection eo49 with ea_ en_ ec_; (first | subst ea_ | (injection ea_ with ea_; subst ea_)); subst ec_; clear en_)); have GB49 := za gb49; have GG49 := za HG49; clear gb49 gl49 HG49; obtain ⟨hx49_0, hf49_0⟩ := Kd.R_celln 0 HO_11.out (x12_2 : Int) p49 q49; replace p49 := eq_true p49; replace q49 := eq_true q49; obtain ⟨hy51_, hz51_⟩ := Kd.R_celln 0 HO_11.out (x12_2 : Int) (of_decide_eq_true zq11) (of_decide_eq_true zq11); have HP51 := Kd.R_putg HO_11.out (x12_2 : Int) t1026) | ((with_reducible refine gate_store (t := 3) (p := 93) rfl ?_); refine store_event (t := 3) (p := 93) (v := ?vo_w52) (w1 := (wc.setCell ⟨go49, (x12_2 : Int).toNat, none⟩ (.int .i64 t1026))) ?hg ?ho ?hn ?hr ?_; (case ho => rfl); (case hg => rfl); (case hn => rfl); (case hr => exact zq33); intro w52 hw; have hg : wc.grownBy w52 (some go49) := (by rw [hw]; exact HP51.2); have hp_ : Kd.R (Kd.int .i64) 3 w52 w.heap.size (fun _ => True) (.slice (some ⟨go49, 0, none⟩) x11_2.length co49) y1027 := (by rw [hw, Ny1027.out]; exact HP51.1); clear HP51; replace BK1022 := za (blk_grown (g := gb1022) (zb BK1022.out) hg (Kd.R_ne HO_11.out BK1022.out (by decide))); replace HO_11 := za (hp_); replace HB := za ((by rw [hw]; exact below_set (HB.out) GB49.out : Below w.heap.size w w52)); clear hg hw hp_))
                       go_roundg kj31
                       case measure => have := HJ5.out; have := HK2.out; have := HJ15.out; have := HJ21.out; have := HJ27.out; have := HJ31.out; omega
                       case rel => exact ⟨(y1027), (wrap64 (x12_2 + 1)), zq23, H', ⟨by have := HJ5.out; have := HK2.out; have := HJ15.out; have := HJ21.out; have := HJ27.out; have := HJ31.out; omega⟩, ⟨zq55⟩, ⟨zq31⟩⟩
                      ·
                       rw [if_neg c48] at H
                       exact absurd H (by simp)
                     ·
                      rw [if_neg c47] at H
                      exact absurd H (by simp)
                    ·
                     rw [if_neg c45] at H
                     have c45b0 := beq_eq_false_iff_ne.mpr c45
                     have c45b1 := bne_iff_ne.mpr c45
                     replace H := Option.bind_eq_some_iff.mp H
                     obtain ⟨t1028, A530, H⟩ := H
                     (try dsimp only at H)
                     have A53 := za A530
                     clear A530
                     by_cases c54 : 0 ≤ x12_2
                     ·
                      rw [if_pos c54] at H
                      have c54b0 := decide_eq_true c54
                      clear c54
                      by_cases c55 : x12_2 < (x11_2.length : Int)
                      ·
                       rw [if_pos c55] at H
                       have c55b0 := decide_eq_true c55
                       clear c55
                       obtain ⟨y1029, hy1029⟩ : ∃ y_ : List Int, y_ = (x11_2.set (x12_2 : Int).toNat t1028) := ⟨_, rfl⟩
                       replace H : (rb_Value.l0 kj31 l0 a1 a2 l3 l4 y1029 (wrap64 (x12_2 + 1))) = some r := by first | (rw [hy1029]; with_reducible exact H) | (have H2_ := (Option.bind_some _ _).symm.trans H; rw [hy1029]; with_reducible exact H2_) | (have H2_ := (Option.bind_some _ _).symm.trans H; with_reducible exact H2_) | with_reducible exact H | (rw [hy1029]; exact H) | exact H
                       have Ny1029 := za hy1029
                       clear hy1029
                       have H' := za H
                       clear H
                       obtain ⟨hcz57_0, hcz57_1, hcz57_2, hcz57_3, hcz57_4, hcz57_5, hcz57_6⟩ := zc7 BK1022.out
                       obtain ⟨hfz57_0, hfz57_1, hfz57_2, hfz57_3, hfz57_4, hfz57_5, hfz57_6⟩ := zf7 BK1022.out
                       go_wp2_with (first | ((with_reducible refine gate_callee (f := 35) rfl ?_); refine goesL_ (some 72) rfl rfl Try.func35 zq17 rfl #[.int .i64 ((rd_T73 l0 x12_2).f0), .int .i64 x14_21, .int .i64 x15_31] rfl zq1 ?_; (with_reducible refine (rb_Op.calls ((rd_T73 l0 x12_2).f0) x14_21 x15_31 t1028 _ A53.out).mono ?_); rintro e w' ⟨rfl, ⟨nd, rfl⟩⟩; refine ⟨_, rfl, ?_⟩; (try (rw [drewN_self wc]; generalize hq_ : World.drewN wc _ = wc; have n0_ : Aside0 (Kd.R (Kd.int .i64) 3 wc w.heap.size (fun _ => True) v1018 x11_2) := ⟨by rw [← hq_]; exact (zr HO_11.out)⟩; have n1_ : Aside0 (wc.heap[gb1022]? = some (.cells #[.int .i64 ((rd_T73 l0 x12_2).f0), .int .i64 ((rd_T73 l0 x12_2).f1), .string ((rd_T73 l0 x12_2).f2), .string ((rd_T73 l0 x12_2).f3), .int .i64 ((rd_T73 l0 x12_2).f4), .int .i64 ((rd_T73 l0 x12_2).f5), .int .i64 ((rd_T73 l0 x12_2).f6)] 73 (0, 0))) := ⟨by rw [← hq_]; exact (zb BK1022.out)⟩; have n2_ : Aside0 (Below w.heap.size w wc) := ⟨by rw [← hq_]; exact zq31⟩; clear HO_11 BK1022 HB hq_; have HO_11 := n0_; have BK1022 := n1_; have HB := n2_; clear n0_ n1_ n2_)); have p56 : 0 ≤ (x12_2 : Int) := of_decide_eq_true zq11; have q56 : (x12_2 : Int) < ((x11_2.length : Int) : Int) := of_decide_eq_true zq11; obtain ⟨go56, co56, eo56, gb56, gl56, cl56, HG56⟩ := Kd.R_form HO_11.out (by omega); (first | cases eo56 | (injection eo56 with ea_ en_ ec_; (first | subst ea_ | (injection ea_ with ea_; subst ea_)); subst ec_; clear en_)); have GB56 := za gb56; have GG56 := za HG56; clear gb56 gl56 HG56; obtain ⟨hx56_0, hf56_0⟩ := Kd.R_celln 0 HO_11.out (x12_2 : Int) p56 q56; replace p56 := eq_true p56; replace q56 := eq_true q56; obtain ⟨hy58_, hz58_⟩ := Kd.R_celln 0 HO_11.out (x12_2 : Int) (of_decide_eq_true zq11) (of_decide_eq_true zq11); have HP58 := Kd.R_putg HO_11.out (x12_2 : Int) t1028) | ((with_reducible refine gate_store (t := 3) (p := 73) rfl ?_); refine store_event (t := 3) (p := 73) (v := ?vo_w59) (w1 := (wc.setCell ⟨go56, (x12_2 : Int).toNat, none⟩ (.int .i64 t1028))) ?hg ?ho ?hn ?hr ?_; (case ho => rfl); (case hg => rfl); (case hn => rfl); (case hr => exact zq33); intro w59 hw; have hg : wc.grownBy w59 (some go56) := (by rw [hw]; exact HP58.2); have hp_ : Kd.R (Kd.int .i64) 3 w59 w.heap.size (fun _ => True) (.slice (some ⟨go56, 0, none⟩) x11_2.length co56) y1029 := (by rw [hw, Ny1029.out]; exact HP58.1); clear HP58; replace BK1022 := za (blk_grown (g := gb1022) (zb BK1022.out) hg (Kd.R_ne HO_11.out BK1022.out (by decide))); replace HO_11 := za (hp_); replace HB := za ((by rw [hw]; exact below_set (HB.out) GB56.out : Below w.heap.size w w59)); clear hg hw hp_))
                       go_roundg kj31
                       case measure => have := HJ5.out; have := HK2.out; have := HJ15.out; have := HJ21.out; have := HJ27.out; have := HJ31.out; omega
                       case rel => exact ⟨(y1029), (wrap64 (x12_2 + 1)), zq23, H', ⟨by have := HJ5.out; have := HK2.out; have := HJ15.out; have := HJ21.out; have := HJ27.out; have := HJ31.out; omega⟩, ⟨zq55⟩, ⟨zq31⟩⟩
                      ·
                       rw [if_neg c55] at H
                       exact absurd H (by simp)
                     ·
                      rw [if_neg c54] at H
                      exact absurd H (by simp)
          ·
           rw [if_neg c15] at H
           exact absurd H (by simp)
         ·
          rw [if_neg c14] at H
          exact absurd H (by simp)
        ·
         rw [if_neg c13] at H
         have c13b0 := decide_eq_false c13
         clear c13
         by_cases c60 : 0 ≤ a1
         ·
          rw [if_pos c60] at H
          have c60b0 := decide_eq_true c60
          clear c60
          by_cases c61 : a1 < (x11_2.length : Int)
          ·
           rw [if_pos c61] at H
           have c61b0 := decide_eq_true c61
           clear c61
           obtain rfl := Option.some.inj H
           obtain ⟨Ao62, co62, eo62⟩ := Kd.R_slice HO_11.out
           subst eo62
           have p1020 : 0 ≤ (a1 : Int) := of_decide_eq_true zq11
           have q1020 : a1 < (x11_2.length : Int) := of_decide_eq_true zq11
           obtain ⟨ad1020, e1020, hx1020_0⟩ := Kd.at_int (Kd.R_reads' HO_11.out).2.2 a1 p1020 q1020
           cases e1020
           replace p1020 := eq_true p1020
           replace q1020 := eq_true q1020
           go_wp2
           go_ret
           exact ⟨zq16, zq4⟩
          ·
           rw [if_neg c61] at H
           exact absurd H (by simp)
         ·
          rw [if_neg c60] at H
          exact absurd H (by simp)
     ·
      rw [if_neg c10] at H
      exact absurd H (by simp)
    ·
     rw [if_neg c9] at H
     exact absurd H (by simp)
end Go.Proofs.Ytkhalpeiifdfiaa.QEvalTexts
