import Derived.Test.YtcjnhnnfoadklaaZRBx15
namespace Go.Proofs.Ytcjnhnnfoadklaa.QRunBranches
open Go.RowKit Go.Proofs.YtcjnhnnfoadklaaW.PrintWords Go.Proofs.YtcjnhnnfoadklaaW.PrintLast Go.Proofs.YtcjnhnnfoadklaaW.PrintMore
attribute [local go_sem] max2_int min2_int max_two min_two max_three min_three max_four min_four
set_option linter.unusedVariables false
set_option linter.unusedSimpArgs false
mutual
def rb_Begin.l0 : Nat → List (S39) → List (S61) → Int → Option ((List (S61)))
 | 0, _, _, _ => none
 | k + 1, x0, x3, x4 => if x4 < (x0.length : Int) then (rb_Begin.l1 k x0 x3 x4 0) else (some x3)
def rb_Begin.l1 : Nat → List (S39) → List (S61) → Int → Int → Option ((List (S61)))
 | 0, _, _, _, _ => none
 | k + 1, x0, x3, x4, x5 => if 0 ≤ x4 then (if x4 < (x0.length : Int) then (if x5 < (((rd_T39 x0 x4).f3).length : Int) then (if 0 ≤ x5 then (rb_Begin.l2 k x0 x3 x4 x5 0 ((rd_T39 x0 x4).f0) ((rd_T64 ((rd_T39 x0 x4).f3) x5).f0) ((rd_T64 ((rd_T39 x0 x4).f3) x5).f2)) else (none)) else (rb_Begin.l0 k x0 x3 (wrap64 (x4 + 1)))) else (none)) else (none)
def rb_Begin.j3 : Nat → List (S39) → List (S61) → Int → Int → Int → ByteArray → ByteArray → Int → Option ((List (S61)))
 | 0, _, _, _, _, _, _, _, _ => none
 | k + 1, x0, x3, x4, x5, x8, x854000, x854001, x854002 => if x8 < (x3.length : Int) then (if 0 ≤ x8 then ((rb_before.f x854000 x854001 x854002 ((rd_T61 x3 x8).f0) ((rd_T61 x3 x8).f1) ((rd_T61 x3 x8).f2)).bind fun t857 => (rb_Begin.j4 k x0 x3 x4 x5 x8 (!t857) x854000 x854001 x854002)) else (none)) else (rb_Begin.j4 k x0 x3 x4 x5 x8 false x854000 x854001 x854002)
def rb_Begin.j4 : Nat → List (S39) → List (S61) → Int → Int → Int → Bool → ByteArray → ByteArray → Int → Option ((List (S61)))
 | 0, _, _, _, _, _, _, _, _, _ => none
 | k + 1, x0, x3, x4, x5, x8, x70, x854000, x854001, x854002 => if x70 = true then (none) else (if x3.length < 3518437208883 then ((some (x3 ++ [(⟨(⟨#[]⟩ : ByteArray), (⟨#[]⟩ : ByteArray), 0⟩ : S61)] : List (S61))).bind fun y858 => (rb_Begin.l3 k x0 y858 x4 x5 x8 (wrap64 ((y858.length : Int) - 1)) x854000 x854001 x854002)) else (none))
def rb_Begin.l3 : Nat → List (S39) → List (S61) → Int → Int → Int → Int → ByteArray → ByteArray → Int → Option ((List (S61)))
 | 0, _, _, _, _, _, _, _, _, _ => none
 | k + 1, x0, x3, x4, x5, x8, x9, x854000, x854001, x854002 => if x9 > x8 then (none) else (if 0 ≤ x8 then (if x8 < (x3.length : Int) then (rb_Begin.l1 k x0 (x3.set (x8 : Int).toNat (⟨x854000, x854001, x854002⟩ : S61)) x4 (wrap64 (x5 + 1))) else (none)) else (none))
def rb_Begin.l2 : Nat → List (S39) → List (S61) → Int → Int → Int → ByteArray → ByteArray → Int → Option ((List (S61)))
 | 0, _, _, _, _, _, _, _, _ => none
 | k + 1, x0, x3, x4, x5, x8, x854000, x854001, x854002 => if x8 < (x3.length : Int) then (if 0 ≤ x8 then ((rb_before.f ((rd_T61 x3 x8).f0) ((rd_T61 x3 x8).f1) ((rd_T61 x3 x8).f2) x854000 x854001 x854002).bind fun t855 => (if t855 = true then (rb_Begin.l2 k x0 x3 x4 x5 (wrap64 (x8 + 1)) x854000 x854001 x854002) else (rb_Begin.j3 k x0 x3 x4 x5 x8 x854000 x854001 x854002))) else (none)) else (rb_Begin.j3 k x0 x3 x4 x5 x8 x854000 x854001 x854002)
end
def rb_Begin.f (k : Nat) (l0 : List (S39)) : Option ((List (S61))) := rb_Begin.l0 k l0 ([] : List (S61)) 0
theorem rb_Begin.mono_l : ∀ k, (∀ y0 y1 y2, LeO (rb_Begin.l0 k y0 y1 y2) (rb_Begin.l0 (k + 1) y0 y1 y2)) ∧ (∀ y0 y1 y2 y3, LeO (rb_Begin.l1 k y0 y1 y2 y3) (rb_Begin.l1 (k + 1) y0 y1 y2 y3)) ∧ (∀ y0 y1 y2 y3 y4 y5 y6 y7, LeO (rb_Begin.j3 k y0 y1 y2 y3 y4 y5 y6 y7) (rb_Begin.j3 (k + 1) y0 y1 y2 y3 y4 y5 y6 y7)) ∧ (∀ y0 y1 y2 y3 y4 y5 y6 y7 y8, LeO (rb_Begin.j4 k y0 y1 y2 y3 y4 y5 y6 y7 y8) (rb_Begin.j4 (k + 1) y0 y1 y2 y3 y4 y5 y6 y7 y8)) ∧ (∀ y0 y1 y2 y3 y4 y5 y6 y7 y8, LeO (rb_Begin.l3 k y0 y1 y2 y3 y4 y5 y6 y7 y8) (rb_Begin.l3 (k + 1) y0 y1 y2 y3 y4 y5 y6 y7 y8)) ∧ (∀ y0 y1 y2 y3 y4 y5 y6 y7, LeO (rb_Begin.l2 k y0 y1 y2 y3 y4 y5 y6 y7) (rb_Begin.l2 (k + 1) y0 y1 y2 y3 y4 y5 y6 y7))
 | 0 => ⟨fun _ _ _ r h => by simp [rb_Begin.l0] at h, fun _ _ _ _ r h => by simp [rb_Begin.l1] at h, fun _ _ _ _ _ _ _ _ r h => by simp [rb_Begin.j3] at h, fun _ _ _ _ _ _ _ _ _ r h => by simp [rb_Begin.j4] at h, fun _ _ _ _ _ _ _ _ _ r h => by simp [rb_Begin.l3] at h, fun _ _ _ _ _ _ _ _ r h => by simp [rb_Begin.l2] at h⟩
 | k + 1 => by
  obtain ⟨ih0, ih1, ih2, ih3, ih4, ih5⟩ := rb_Begin.mono_l k
  refine ⟨?_, ?_, ?_, ?_, ?_, ?_⟩
  ·
   intro y0 y1 y2
   unfold rb_Begin.l0
   repeat' with_reducible first | apply ih0 | apply ih1 | apply ih2 | apply ih3 | apply ih4 | apply ih5 | exact LeO.refl _ | exact LeO.none _ | refine LeO.ite ?_ ?_ | refine LeO.bind ?_ (fun _ => ?_)
  ·
   intro y0 y1 y2 y3
   unfold rb_Begin.l1
   repeat' with_reducible first | apply ih0 | apply ih1 | apply ih2 | apply ih3 | apply ih4 | apply ih5 | exact LeO.refl _ | exact LeO.none _ | refine LeO.ite ?_ ?_ | refine LeO.bind ?_ (fun _ => ?_)
  ·
   intro y0 y1 y2 y3 y4 y5 y6 y7
   unfold rb_Begin.j3
   repeat' with_reducible first | apply ih0 | apply ih1 | apply ih2 | apply ih3 | apply ih4 | apply ih5 | exact LeO.refl _ | exact LeO.none _ | refine LeO.ite ?_ ?_ | refine LeO.bind ?_ (fun _ => ?_)
  ·
   intro y0 y1 y2 y3 y4 y5 y6 y7 y8
   unfold rb_Begin.j4
   repeat' with_reducible first | apply ih0 | apply ih1 | apply ih2 | apply ih3 | apply ih4 | apply ih5 | exact LeO.refl _ | exact LeO.none _ | refine LeO.ite ?_ ?_ | refine LeO.bind ?_ (fun _ => ?_)
  ·
   intro y0 y1 y2 y3 y4 y5 y6 y7 y8
   unfold rb_Begin.l3
   repeat' with_reducible first | apply ih0 | apply ih1 | apply ih2 | apply ih3 | apply ih4 | apply ih5 | exact LeO.refl _ | exact LeO.none _ | refine LeO.ite ?_ ?_ | refine LeO.bind ?_ (fun _ => ?_)
  ·
   intro y0 y1 y2 y3 y4 y5 y6 y7
   unfold rb_Begin.l2
   repeat' with_reducible first | apply ih0 | apply ih1 | apply ih2 | apply ih3 | apply ih4 | apply ih5 | exact LeO.refl _ | exact LeO.none _ | refine LeO.ite ?_ ?_ | refine LeO.bind ?_ (fun _ => ?_)
theorem rb_Begin.mono : ∀ a0 k, LeO (rb_Begin.f k a0) (rb_Begin.f (k + 1) a0) := by
 intro a0 k
 obtain ⟨ih0, ih1, ih2, ih3, ih4, ih5⟩ := rb_Begin.mono_l k
 unfold rb_Begin.f
 repeat' with_reducible first | apply ih0 | apply ih1 | apply ih2 | apply ih3 | apply ih4 | apply ih5 | exact LeO.refl _ | exact LeO.none _ | refine LeO.ite ?_ ?_ | refine LeO.bind ?_ (fun _ => ?_)
def rb_Begin.T9 : Bool × List (List Nat × List Nat) := (true, [([], []), ([], []), ([0, 1], [0, 1]), ([2], [2]), ([3], [3]), ([], []), ([5], [5]), ([], []), ([7], [7]), ([4, 6, 8], [4, 6, 8]), ([], []), ([10, 9, 0, 1, 2, 3, 4, 5, 6, 7, 8, 9, 10], [9, 10])])
def rb_Begin.B9 : List Nat := [0, 0, 3, 7, 15, 0, 32, 0, 128, 511, 0, 2047]
theorem rb_Begin.tab9 : rtab .any (opsOf Try.f13 9) = rb_Begin.T9 := by kernel_rfl
theorem rb_Begin.bits9 : waitsOk rb_Begin.T9.2 rb_Begin.B9 = true := by kernel_rfl
def rb_Begin.T11 : Bool × List (List Nat × List Nat) := (true, [([], []), ([], []), ([1], [1]), ([0, 2], [0, 2]), ([3], [3]), ([4], [4]), ([4], [4]), ([5, 6, 4], [4, 5, 6]), ([7, 4], [4, 7]), ([4], [4]), ([8, 9, 4, 4], [4, 8, 9]), ([4, 10], [4, 10])])
def rb_Begin.B11 : List Nat := [0, 0, 2, 7, 15, 31, 31, 127, 255, 31, 1023, 2047]
theorem rb_Begin.tab11 : rtab .any (opsOf Try.f13 11) = rb_Begin.T11 := by kernel_rfl
theorem rb_Begin.bits11 : waitsOk rb_Begin.T11.2 rb_Begin.B11 = true := by kernel_rfl
def rb_Begin.T13 : Bool × List (List Nat × List Nat) := (true, [([], []), ([], []), ([1], [1]), ([0, 2], [0, 2]), ([3], [3]), ([4], [4]), ([4], [4]), ([4], [4]), ([6, 7, 4], [4, 6, 7]), ([8, 4], [4, 8]), ([5, 9, 4, 4], [4, 5, 9]), ([10, 4], [4, 10]), ([4, 11], [4, 11])])
def rb_Begin.B13 : List Nat := [0, 0, 2, 7, 15, 31, 31, 31, 223, 479, 1023, 2047, 4095]
theorem rb_Begin.tab13 : rtab .any (opsOf Try.f13 13) = rb_Begin.T13 := by kernel_rfl
theorem rb_Begin.bits13 : waitsOk rb_Begin.T13.2 rb_Begin.B13 = true := by kernel_rfl
set_option maxHeartbeats 8000000 in
set_option maxRecDepth 100000 in
theorem rb_Begin.calls (k : Nat) (A0 : Option Addr) (c0 : Nat) (l0 : List (S39)) (r : List (S61)) (w : World) (hr0 : Kd.C k39 w A0 l0.length l0) (hc0 : l0.length ≤ c0) (h : rb_Begin.f k l0 = some r) :
  Calls Try.prog 13 #[.slice A0 l0.length c0] w fun e w' => ∃ v0_ : Value, e = .returned (v0_) ∧ Kd.R k61 61 w' w.heap.size (fun _ => True) v0_ r ∧ Below w.heap.size w w' := by
 have hu64 := Try.underlying64
 have hu61 := Try.underlying61
 have HR0 := za hr0
 have HC0 := za hc0
 clear hr0 hc0
 have HB := za (Below.refl w.heap.size w)
 have H : (rb_Begin.l0 k l0 ([] : List (S61)) 0) = some r := h
 clear h
 have H' := za H
 clear H
 go_enter Try.func13, Try.ntmps13
 go_wp2
 go_loopg [3, 4] k (fun kq v3 v4 w' => ∃ (x3_1 : List (S61)) (x4_1 : Int), v4 = .int .i64 x4_1 ∧ Aside0 (rb_Begin.l0 kq l0 x3_1 x4_1 = some r) ∧ Aside0 (kq ≤ k) ∧ Aside0 (Kd.R k61 61 w' w.heap.size (fun _ => True) v3 x3_1) ∧ Aside0 (Below w.heap.size w w'))
 case atStart => exact ⟨(([] : List (S61))), (0), zq22, H', ⟨Nat.le_refl _⟩, ⟨zq33⟩, ⟨zq3⟩⟩
 case round =>
  clear H'
  obtain ⟨x3_1, x4_1, rfl, HA, HK1, HO_3, HB⟩ := hrel
  cases gk with
  | zero => exact absurd HA.out (by simp [rb_Begin.l0])
  | succ k1 =>
   have H := HA.out
   clear HA
   simp only [rb_Begin.l0] at H
   by_cases c2 : x4_1 < (l0.length : Int)
   ·
    rw [if_pos c2] at H
    have c2b0 := decide_eq_true c2
    clear c2
    have H' := za H
    clear H
    go_wp2
    go_loopg [3, 5] k1 (fun kq v3 v5 w' => ∃ (x3_2 : List (S61)) (x5_2 : Int), v5 = .int .i64 x5_2 ∧ Aside0 (rb_Begin.l1 kq l0 x3_2 x4_1 x5_2 = some r) ∧ Aside0 (kq ≤ k1) ∧ Aside0 (Kd.R k61 61 w' w.heap.size (fun _ => True) v3 x3_2) ∧ Aside0 (Below w.heap.size w w'))
    case atStart => exact ⟨(x3_1), (0), zq22, H', ⟨Nat.le_refl _⟩, ⟨zq67⟩, ⟨zq3⟩⟩
    case round =>
     clear H'
     obtain ⟨x3_2, x5_2, rfl, HA, HK2, HO_3, HB⟩ := hrel
     cases gk with
     | zero => exact absurd HA.out (by simp [rb_Begin.l1])
     | succ k2 =>
      have H := HA.out
      clear HA
      simp only [rb_Begin.l1] at H
      by_cases c3 : 0 ≤ x4_1
      ·
       rw [if_pos c3] at H
       have c3b0 := decide_eq_true c3
       clear c3
       by_cases c4 : x4_1 < (l0.length : Int)
       ·
        rw [if_pos c4] at H
        have c4b0 := decide_eq_true c4
        clear c4
        by_cases c5 : x5_2 < (((rd_T39 l0 x4_1).f3).length : Int)
        ·
         rw [if_pos c5] at H
         have c5b0 := decide_eq_true c5
         clear c5
         by_cases c6 : 0 ≤ x5_2
         ·
          rw [if_pos c6] at H
          have c6b0 := decide_eq_true c6
          clear c6
          have HC7 := za H
          clear H
          have p848 : 0 ≤ (x4_1 : Int) := of_decide_eq_true zq10
          have q848 : x4_1 < (l0.length : Int) := of_decide_eq_true zq10
          obtain ⟨ad848, A848_2, c848_2, A848_3, c848_3, A848_4, c848_4, e848, hx848_0, hx848_1, hx848_2, hx848_3, hx848_4, hl848_2, hi848_2, hl848_3, hi848_3, hl848_4, hi848_4⟩ := at_T39 HR0.out x4_1 p848 q848
          cases e848
          replace hx848_0 := (HB.out.cell (World.block_lt_of_cell? w _ hx848_0)).trans hx848_0
          replace hx848_1 := (HB.out.cell (World.block_lt_of_cell? w _ hx848_1)).trans hx848_1
          replace hx848_2 := (HB.out.cell (World.block_lt_of_cell? w _ hx848_2)).trans hx848_2
          replace hx848_3 := (HB.out.cell (World.block_lt_of_cell? w _ hx848_3)).trans hx848_3
          replace hx848_4 := (HB.out.cell (World.block_lt_of_cell? w _ hx848_4)).trans hx848_4
          have HR848_2 := za hi848_2
          have HC848_2 := za hl848_2
          clear hi848_2 hl848_2
          have HR848_3 := za hi848_3
          have HC848_3 := za hl848_3
          clear hi848_3 hl848_3
          have HR848_4 := za hi848_4
          have HC848_4 := za hl848_4
          clear hi848_4 hl848_4
          replace p848 := eq_true p848
          replace q848 := eq_true q848
          have p849 : 0 ≤ (x4_1 : Int) := of_decide_eq_true zq10
          have q849 : x4_1 < (l0.length : Int) := of_decide_eq_true zq10
          obtain ⟨ad849, A849_2, c849_2, A849_3, c849_3, A849_4, c849_4, e849, hx849_0, hx849_1, hx849_2, hx849_3, hx849_4, hl849_2, hi849_2, hl849_3, hi849_3, hl849_4, hi849_4⟩ := at_T39 HR0.out x4_1 p849 q849
          obtain rfl : ad848 = ad849 := (by injection e849)
          replace hx849_0 := (HB.out.cell (World.block_lt_of_cell? w _ hx849_0)).trans hx849_0
          replace hx849_1 := (HB.out.cell (World.block_lt_of_cell? w _ hx849_1)).trans hx849_1
          replace hx849_2 := (HB.out.cell (World.block_lt_of_cell? w _ hx849_2)).trans hx849_2
          replace hx849_3 := (HB.out.cell (World.block_lt_of_cell? w _ hx849_3)).trans hx849_3
          replace hx849_4 := (HB.out.cell (World.block_lt_of_cell? w _ hx849_4)).trans hx849_4
          have HR849_2 := za hi849_2
          have HC849_2 := za hl849_2
          clear hi849_2 hl849_2
          have HR849_3 := za hi849_3
          have HC849_3 := za hl849_3
          clear hi849_3 hl849_3
          have HR849_4 := za hi849_4
          have HC849_4 := za hl849_4
          clear hi849_4 hl849_4
          replace p849 := eq_true p849
          replace q849 := eq_true q849
          have ea_ := Option.some.inj (hx848_2.symm.trans hx849_2)
          injection ea_ with ea_ en_ ec_
          subst ea_
          subst ec_
          clear en_
          have ea_ := Option.some.inj (hx848_3.symm.trans hx849_3)
          injection ea_ with ea_ en_ ec_
          subst ea_
          subst ec_
          clear en_
          have ea_ := Option.some.inj (hx848_4.symm.trans hx849_4)
          injection ea_ with ea_ en_ ec_
          subst ea_
          subst ec_
          clear en_
          have p850 : 0 ≤ (x5_2 : Int) := of_decide_eq_true zq10
          have q850 : x5_2 < (((rd_T39 l0 x4_1).f3).length : Int) := of_decide_eq_true zq10
          obtain ⟨ad850, e850, hx850_0, hx850_1, hx850_2, hx850_3⟩ := at_T64 HR849_3.out x5_2 p850 q850
          cases e850
          replace hx850_0 := (HB.out.cell (World.block_lt_of_cell? w _ hx850_0)).trans hx850_0
          replace hx850_1 := (HB.out.cell (World.block_lt_of_cell? w _ hx850_1)).trans hx850_1
          replace hx850_2 := (HB.out.cell (World.block_lt_of_cell? w _ hx850_2)).trans hx850_2
          replace hx850_3 := (HB.out.cell (World.block_lt_of_cell? w _ hx850_3)).trans hx850_3
          replace p850 := eq_true p850
          replace q850 := eq_true q850
          try go_wp2_with (first | ((with_reducible refine gate_dst (N := 6) rfl ?_); refine box_event ?hg (N := 6) ?hd (cs := #[.string (⟨#[]⟩ : ByteArray), .string (⟨#[]⟩ : ByteArray), .int .i64 0, .int .i64 0]) (t := 64) ?hr ?_; (case hd => rfl); (case hg => rfl); (case hr => exact zq19); intro gb851 hg w8 hbox hb; replace HO_3 := za (Kd.R_below (zr HO_3.out) hb); have BK851 := za (hbox); have GW851 := za ((by rw [hg]; exact (below_size zq3) : w.heap.size ≤ gb851)); have GE851 := za ((by rw [hg]; exact (below_size zq3) : w.heap.size ≤ gb851)); replace HB := za (below_step zq3 hb); clear hb hbox hg; obtain ⟨hcz9_0, hcz9_1, hcz9_2, hcz9_3⟩ := zc4 BK851.out; obtain ⟨hfz9_0, hfz9_1, hfz9_2⟩ := zf3 BK851.out; have hfz9_3 := blk_frozen BK851.out 3))
          have n0_ : Aside0 (Kd.R k61 61 ((((w8.setCell ⟨gb851, 0, none⟩ (.string ((rd_T64 ((rd_T39 l0 x4_1).f3) x5_2).f0))).setCell ⟨gb851, 1, none⟩ (.string ((rd_T64 ((rd_T39 l0 x4_1).f3) x5_2).f1))).setCell ⟨gb851, 2, none⟩ (.int .i64 ((rd_T64 ((rd_T39 l0 x4_1).f3) x5_2).f2))).setCell ⟨gb851, 3, none⟩ (.int .i64 ((rd_T64 ((rd_T39 l0 x4_1).f3) x5_2).f3))) w.heap.size (fun _ => True) u3 x3_2) := ⟨by (with_reducible repeat (first | apply Kd.R_alloc | apply Kd.R_drewN | apply Kd.R_drew)); exact Kd.R_mono (Kd.R_far (p := ⟨gb851, 3, none⟩) (Kd.R_far (p := ⟨gb851, 2, none⟩) (Kd.R_far (p := ⟨gb851, 1, none⟩) (Kd.R_far (p := ⟨gb851, 0, none⟩) (Kd.R_types HO_3.out BK851.out (by decide)) (fun _ hk => hk.2) (.string ((rd_T64 ((rd_T39 l0 x4_1).f3) x5_2).f0))) (fun _ hk => hk.2) (.string ((rd_T64 ((rd_T39 l0 x4_1).f3) x5_2).f1))) (fun _ hk => hk.2) (.int .i64 ((rd_T64 ((rd_T39 l0 x4_1).f3) x5_2).f2))) (fun _ hk => hk.2) (.int .i64 ((rd_T64 ((rd_T39 l0 x4_1).f3) x5_2).f3))) (fun _ hk => trivial)⟩
          have n1_ : Aside0 (((((w8.setCell ⟨gb851, 0, none⟩ (.string ((rd_T64 ((rd_T39 l0 x4_1).f3) x5_2).f0))).setCell ⟨gb851, 1, none⟩ (.string ((rd_T64 ((rd_T39 l0 x4_1).f3) x5_2).f1))).setCell ⟨gb851, 2, none⟩ (.int .i64 ((rd_T64 ((rd_T39 l0 x4_1).f3) x5_2).f2))).setCell ⟨gb851, 3, none⟩ (.int .i64 ((rd_T64 ((rd_T39 l0 x4_1).f3) x5_2).f3))).heap[gb851]? = some (.cells #[.string ((rd_T64 ((rd_T39 l0 x4_1).f3) x5_2).f0), .string ((rd_T64 ((rd_T39 l0 x4_1).f3) x5_2).f1), .int .i64 ((rd_T64 ((rd_T39 l0 x4_1).f3) x5_2).f2), .int .i64 ((rd_T64 ((rd_T39 l0 x4_1).f3) x5_2).f3)] 64 (0, 0))) := ⟨by (with_reducible repeat (first | refine blk_drewN ?_ _ | refine blk_drew ?_ | refine blk_alloc ?_ _)); refine blk_put (cs := #[.string ((rd_T64 ((rd_T39 l0 x4_1).f3) x5_2).f0), .string ((rd_T64 ((rd_T39 l0 x4_1).f3) x5_2).f1), .int .i64 ((rd_T64 ((rd_T39 l0 x4_1).f3) x5_2).f2), .int .i64 0]) ?_ 3 _ rfl; (with_reducible repeat (first | refine blk_drewN ?_ _ | refine blk_drew ?_ | refine blk_alloc ?_ _)); refine blk_put (cs := #[.string ((rd_T64 ((rd_T39 l0 x4_1).f3) x5_2).f0), .string ((rd_T64 ((rd_T39 l0 x4_1).f3) x5_2).f1), .int .i64 0, .int .i64 0]) ?_ 2 _ rfl; (with_reducible repeat (first | refine blk_drewN ?_ _ | refine blk_drew ?_ | refine blk_alloc ?_ _)); refine blk_put (cs := #[.string ((rd_T64 ((rd_T39 l0 x4_1).f3) x5_2).f0), .string (⟨#[]⟩ : ByteArray), .int .i64 0, .int .i64 0]) ?_ 1 _ rfl; (with_reducible repeat (first | refine blk_drewN ?_ _ | refine blk_drew ?_ | refine blk_alloc ?_ _)); refine blk_put (cs := #[.string (⟨#[]⟩ : ByteArray), .string (⟨#[]⟩ : ByteArray), .int .i64 0, .int .i64 0]) ?_ 0 _ rfl; (with_reducible repeat (first | refine blk_drewN ?_ _ | refine blk_drew ?_ | refine blk_alloc ?_ _)); exact BK851.out⟩
          have n2_ : Aside0 (Below w.heap.size w ((((w8.setCell ⟨gb851, 0, none⟩ (.string ((rd_T64 ((rd_T39 l0 x4_1).f3) x5_2).f0))).setCell ⟨gb851, 1, none⟩ (.string ((rd_T64 ((rd_T39 l0 x4_1).f3) x5_2).f1))).setCell ⟨gb851, 2, none⟩ (.int .i64 ((rd_T64 ((rd_T39 l0 x4_1).f3) x5_2).f2))).setCell ⟨gb851, 3, none⟩ (.int .i64 ((rd_T64 ((rd_T39 l0 x4_1).f3) x5_2).f3)))) := ⟨zq75⟩
          generalize ((((w8.setCell ⟨gb851, 0, none⟩ (.string ((rd_T64 ((rd_T39 l0 x4_1).f3) x5_2).f0))).setCell ⟨gb851, 1, none⟩ (.string ((rd_T64 ((rd_T39 l0 x4_1).f3) x5_2).f1))).setCell ⟨gb851, 2, none⟩ (.int .i64 ((rd_T64 ((rd_T39 l0 x4_1).f3) x5_2).f2))).setCell ⟨gb851, 3, none⟩ (.int .i64 ((rd_T64 ((rd_T39 l0 x4_1).f3) x5_2).f3))) = w10 at n0_ n1_ n2_ ⊢
          have HO_3 := n0_
          have BK851 := n1_
          have HB := n2_
          clear n0_ n1_ n2_
          replace HO_3 := za (Kd.R_drew HO_3.out)
          replace BK851 := za (blk_drew BK851.out)
          replace HB := za (below_drew1 HB.out)
          have p852 : 0 ≤ (x4_1 : Int) := of_decide_eq_true zq10
          have q852 : x4_1 < (l0.length : Int) := of_decide_eq_true zq10
          obtain ⟨ad852, A852_2, c852_2, A852_3, c852_3, A852_4, c852_4, e852, hx852_0, hx852_1, hx852_2, hx852_3, hx852_4, hl852_2, hi852_2, hl852_3, hi852_3, hl852_4, hi852_4⟩ := at_T39 HR0.out x4_1 p852 q852
          have hw852_4 := hx852_4
          have hw852_3 := hx852_3
          have hw852_2 := hx852_2
          have hw852_1 := hx852_1
          have hw852_0 := hx852_0
          obtain rfl : ad848 = ad852 := (by injection e852)
          replace hx852_0 := (HB.out.cell (World.block_lt_of_cell? w _ hx852_0)).trans hx852_0
          replace hx852_1 := (HB.out.cell (World.block_lt_of_cell? w _ hx852_1)).trans hx852_1
          replace hx852_2 := (HB.out.cell (World.block_lt_of_cell? w _ hx852_2)).trans hx852_2
          replace hx852_3 := (HB.out.cell (World.block_lt_of_cell? w _ hx852_3)).trans hx852_3
          replace hx852_4 := (HB.out.cell (World.block_lt_of_cell? w _ hx852_4)).trans hx852_4
          have HR852_2 := za hi852_2
          have HC852_2 := za hl852_2
          clear hi852_2 hl852_2
          have HR852_3 := za hi852_3
          have HC852_3 := za hl852_3
          clear hi852_3 hl852_3
          have HR852_4 := za hi852_4
          have HC852_4 := za hl852_4
          clear hi852_4 hl852_4
          replace p852 := eq_true p852
          replace q852 := eq_true q852
          refine start_ (n := 12) (S := fun w' => w'.cell? ⟨gb851, 0, none⟩ = some (.string ((rd_T64 ((rd_T39 l0 x4_1).f3) x5_2).f0)) ∧ w'.cell? ⟨gb851, 1, none⟩ = some (.string ((rd_T64 ((rd_T39 l0 x4_1).f3) x5_2).f1)) ∧ w'.cell? ⟨gb851, 2, none⟩ = some (.int .i64 ((rd_T64 ((rd_T39 l0 x4_1).f3) x5_2).f2)) ∧ w'.cell? ⟨gb851, 3, none⟩ = some (.int .i64 ((rd_T64 ((rd_T39 l0 x4_1).f3) x5_2).f3)) ∧ w'.cell? (ad848.add ((x4_1).toNat * 5)) = some (.string ((rd_T39 l0 x4_1).f0)) ∧ w'.cell? ⟨(ad848.add ((x4_1).toNat * 5)).block, (ad848.add ((x4_1).toNat * 5)).off + 1, none⟩ = some (.int .i64 ((rd_T39 l0 x4_1).f1)) ∧ w'.cell? ⟨(ad848.add ((x4_1).toNat * 5)).block, (ad848.add ((x4_1).toNat * 5)).off + 2, none⟩ = some (.slice A852_2 ((rd_T39 l0 x4_1).f2).length c852_2) ∧ w'.cell? ⟨(ad848.add ((x4_1).toNat * 5)).block, (ad848.add ((x4_1).toNat * 5)).off + 3, none⟩ = some (.slice A852_3 ((rd_T39 l0 x4_1).f3).length c852_3) ∧ w'.cell? ⟨(ad848.add ((x4_1).toNat * 5)).block, (ad848.add ((x4_1).toNat * 5)).off + 4, none⟩ = some (.slice A852_4 ((rd_T39 l0 x4_1).f4).length c852_4)) (ds := []) #[false, false, false, false, false, false, false, false, false, false, false, false] zq13 rfl rfl ⟨(blk_cell BK851.out 0).trans rfl, (blk_cell BK851.out 1).trans rfl, (blk_cell BK851.out 2).trans rfl, (blk_cell BK851.out 3).trans rfl, ((HB.out.cell (World.block_lt_of_cell? w _ hw852_0)).trans hw852_0), ((HB.out.cell (World.block_lt_of_cell? w _ hw852_1)).trans hw852_1), ((HB.out.cell (World.block_lt_of_cell? w _ hw852_2)).trans hw852_2), ((HB.out.cell (World.block_lt_of_cell? w _ hw852_3)).trans hw852_3), ((HB.out.cell (World.block_lt_of_cell? w _ hw852_4)).trans hw852_4)⟩ (fun hHeld => ?_); refine with_tabW rb_Begin.tab9 rb_Begin.bits9 (fun HT_ HW_ => ?_)
          generalize w10.drew = w11 at HO_3 BK851 HB HR852_2 HR852_3 HR852_4 hx852_0 hx852_1 hx852_2 hx852_3 hx852_4 hHeld ⊢
          refine pure_ (i := 0) (N := some 34) #[true, false, false, false, false, false, false, false, false, false, false, false] rfl rfl (any_of HT_.out zq13) (fun _ _ _ h => h) (Or.inl ⟨by rfl, zpv⟩) zpw ?_
          refine pure_ (i := 1) (N := some 35) #[true, true, false, false, false, false, false, false, false, false, false, false] rfl rfl (any_of HT_.out zq13) (fun _ _ _ h => h) (Or.inl ⟨by rfl, zpv⟩) zpw ?_
          refine pure_ (i := 2) (N := some 36) #[true, true, true, false, false, false, false, false, false, false, false, false] rfl rfl (any_of HT_.out zq13) (fun _ _ _ h => h) (Or.inl ⟨by rfl, zpv⟩) zpw ?_
          refine pure_ (i := 3) (N := some 37) #[true, true, true, true, false, false, false, false, false, false, false, false] rfl rfl (any_of HT_.out zq13) (fun _ _ _ h => h) (Or.inl ⟨by rfl, zpv⟩) zpw ?_
          refine pure_ (i := 5) (N := some 39) #[true, true, true, true, false, true, false, false, false, false, false, false] rfl rfl (any_of HT_.out zq13) (fun _ _ _ h => h) (Or.inl ⟨by rfl, zpv⟩) zpw ?_
          refine pure_ (i := 7) (N := some 41) #[true, true, true, true, false, true, false, true, false, false, false, false] rfl rfl (any_of HT_.out zq13) (fun _ _ _ h => h) (Or.inl ⟨by rfl, zpv⟩) zpw ?_
          refine take_ (i := 4) (N := some 38) (v := ?_) (a' := ?_) #[true, true, true, true, true, true, false, true, false, false, false, false] rfl rfl (take_ofW HT_.out HW_.out zq13) (fun _ _ _ h => h) (Or.inl ⟨by rfl, ?_⟩) hHeld ?_ ?_
          rotate_left
          ·
           rintro w' ⟨s0, s1, s2, s3, s4, s5, s6, s7, s8⟩
           go_simp
           with_reducible rfl
          rotate_left
          ·
           simp only [Act.put, List.setIfInBounds_toArray, List.set_cons_zero, List.set_cons_succ, i64_w, i32_w]
           rfl
          refine take_ (i := 6) (N := some 40) (v := ?_) (a' := ?_) #[true, true, true, true, true, true, true, true, false, false, false, false] rfl rfl (take_ofW HT_.out HW_.out zq13) (fun _ _ _ h => h) (Or.inl ⟨by rfl, ?_⟩) hHeld ?_ ?_
          rotate_left
          ·
           rintro w' ⟨s0, s1, s2, s3, s4, s5, s6, s7, s8⟩
           go_simp
           with_reducible rfl
          rotate_left
          ·
           simp only [Act.put, List.setIfInBounds_toArray, List.set_cons_zero, List.set_cons_succ, i64_w, i32_w]
           rfl
          refine take_ (i := 8) (N := some 42) (v := ?_) (a' := ?_) #[true, true, true, true, true, true, true, true, true, false, false, false] rfl rfl (take_ofW HT_.out HW_.out zq13) (fun _ _ _ h => h) (Or.inl ⟨by rfl, ?_⟩) hHeld ?_ ?_
          rotate_left
          ·
           rintro w' ⟨s0, s1, s2, s3, s4, s5, s6, s7, s8⟩
           go_simp
           with_reducible rfl
          rotate_left
          ·
           simp only [Act.put, List.setIfInBounds_toArray, List.set_cons_zero, List.set_cons_succ, i64_w, i32_w]
           rfl
          refine pure_ (i := 9) (N := some 43) #[true, true, true, true, true, true, true, true, true, true, false, false] rfl rfl (any_of HT_.out zq13) (fun _ _ _ h => h) (Or.inl ⟨by rfl, zpv⟩) zpw ?_
          refine one_ (i := 10) (N := some 7) #[true, true, true, true, true, true, true, true, true, true, true, false] rfl rfl (one_of HT_.out zq13) (by decide) (fun K hK => ?_)
          refine box_step ?hg (N := 7) ?hd (cs := #[.string (⟨#[]⟩ : ByteArray), .string (⟨#[]⟩ : ByteArray), .int .i64 0]) (t := 61) ?hr ?_; (case hd => rfl); (case hg => rfl); (case hr => exact zq19)
          intro gb853 hg w12 hbox hb
          replace HO_3 := za (Kd.R_below (Kd.R_elderB (zr HO_3.out) gb853 (Nat.le_of_eq hg.symm)) hb)
          have BK853 := za (hbox)
          have GW853 := za ((by rw [hg]; exact (below_size zq75) : w.heap.size ≤ gb853))
          have GE853 := za ((by rw [hg]; exact (below_size zq75) : w.heap.size ≤ gb853))
          replace HB := za (below_step zq75 hb)
          have NB851_853 := za ((by rw [hg]; exact Nat.ne_of_lt (blk_lt (g := gb851) (zb BK851.out)) : gb851 ≠ gb853))
          have NB853_851 := za ((by rw [hg]; exact Nat.ne_of_gt (blk_lt (g := gb851) (zb BK851.out)) : gb853 ≠ gb851))
          replace BK851 := za (blk_below (g := gb851) (zb BK851.out) hb)
          clear hb hbox hg
          refine hK.out _ _ ⟨(blk_cell BK851.out 0).trans rfl, (blk_cell BK851.out 1).trans rfl, (blk_cell BK851.out 2).trans rfl, (blk_cell BK851.out 3).trans rfl, ((HB.out.cell (World.block_lt_of_cell? w _ hw852_0)).trans hw852_0), ((HB.out.cell (World.block_lt_of_cell? w _ hw852_1)).trans hw852_1), ((HB.out.cell (World.block_lt_of_cell? w _ hw852_2)).trans hw852_2), ((HB.out.cell (World.block_lt_of_cell? w _ hw852_3)).trans hw852_3), ((HB.out.cell (World.block_lt_of_cell? w _ hw852_4)).trans hw852_4)⟩ (fun hHeld => ?_)
          clear hK K
          refine norm_ (a' := ?_) ?_ ?_
          rotate_left
          ·
           show Act.put _ (some 7) _ = _
           simp only [Act.put, List.setIfInBounds_toArray, List.set_cons_zero, List.set_cons_succ, i64_w, i32_w]
           rfl
          refine one_ (i := 11) (N := none) #[true, true, true, true, true, true, true, true, true, true, true, true] rfl rfl (one_of HT_.out zq13) (by decide) (fun K hK => ?_)
          have hs13 : w12.cell? ⟨gb853, 0, none⟩ = some (.string (⟨#[]⟩ : ByteArray)) := (blk_cell BK853.out 0).trans rfl
          have hfs13 := blk_frozen BK853.out 0
          have hns13_0 := NB851_853.out
          have hms13_0 := NB853_851.out
          have hs14 : w12.cell? ⟨gb853, 1, none⟩ = some (.string (⟨#[]⟩ : ByteArray)) := (blk_cell BK853.out 1).trans rfl
          have hfs14 := blk_frozen BK853.out 1
          have hns14_0 := NB851_853.out
          have hms14_0 := NB853_851.out
          have hs15 : w12.cell? ⟨gb853, 2, none⟩ = some (.int .i64 0) := (blk_cell BK853.out 2).trans rfl
          have hfs15 := blk_frozen BK853.out 2
          have hns15_0 := NB851_853.out
          have hms15_0 := NB853_851.out
          refine skip_ (w1 := ?_) (by rfl) rfl ?_ ?_
          rotate_left
          ·
           go_simp
           rfl
          refine hK.out _ _ ⟨((cell_far (p := ⟨gb853, _, none⟩) NB851_853.out _).trans (((cell_far (p := ⟨gb853, _, none⟩) NB851_853.out _).trans (((cell_far (p := ⟨gb853, _, none⟩) NB851_853.out _).trans (hHeld.1)))))), ((cell_far (p := ⟨gb853, _, none⟩) NB851_853.out _).trans (((cell_far (p := ⟨gb853, _, none⟩) NB851_853.out _).trans (((cell_far (p := ⟨gb853, _, none⟩) NB851_853.out _).trans (hHeld.2.1)))))), ((cell_far (p := ⟨gb853, _, none⟩) NB851_853.out _).trans (((cell_far (p := ⟨gb853, _, none⟩) NB851_853.out _).trans (((cell_far (p := ⟨gb853, _, none⟩) NB851_853.out _).trans (hHeld.2.2.1)))))), ((cell_far (p := ⟨gb853, _, none⟩) NB851_853.out _).trans (((cell_far (p := ⟨gb853, _, none⟩) NB851_853.out _).trans (((cell_far (p := ⟨gb853, _, none⟩) NB851_853.out _).trans (hHeld.2.2.2.1)))))), ((cell_far (p := ⟨gb853, _, none⟩) (by first | exact Nat.ne_of_lt (Nat.lt_of_lt_of_le (by have := World.block_lt_of_cell? _ _ hw852_0; first | rwa [add_block] at this | exact this | (rw [add_block] at this; exact Nat.lt_of_lt_of_le this HW0.out)) GW853.out) | (rw [add_block]; exact Nat.ne_of_lt (Nat.lt_of_lt_of_le (by have := World.block_lt_of_cell? _ _ hw852_0; first | rwa [add_block] at this | exact this | (rw [add_block] at this; exact Nat.lt_of_lt_of_le this HW0.out)) GW853.out)) | (show (Addr.add _ _).block ≠ _; rw [add_block]; exact Nat.ne_of_lt (Nat.lt_of_lt_of_le (by have := World.block_lt_of_cell? _ _ hw852_0; first | rwa [add_block] at this | exact this | (rw [add_block] at this; exact Nat.lt_of_lt_of_le this HW0.out)) GW853.out)) | (dsimp only; exact Nat.ne_of_lt (Nat.lt_of_lt_of_le (by have := World.block_lt_of_cell? _ _ hw852_0; first | rwa [add_block] at this | exact this | (rw [add_block] at this; exact Nat.lt_of_lt_of_le this HW0.out)) GW853.out))) _).trans (((cell_far (p := ⟨gb853, _, none⟩) (by first | exact Nat.ne_of_lt (Nat.lt_of_lt_of_le (by have := World.block_lt_of_cell? _ _ hw852_0; first | rwa [add_block] at this | exact this | (rw [add_block] at this; exact Nat.lt_of_lt_of_le this HW0.out)) GW853.out) | (rw [add_block]; exact Nat.ne_of_lt (Nat.lt_of_lt_of_le (by have := World.block_lt_of_cell? _ _ hw852_0; first | rwa [add_block] at this | exact this | (rw [add_block] at this; exact Nat.lt_of_lt_of_le this HW0.out)) GW853.out)) | (show (Addr.add _ _).block ≠ _; rw [add_block]; exact Nat.ne_of_lt (Nat.lt_of_lt_of_le (by have := World.block_lt_of_cell? _ _ hw852_0; first | rwa [add_block] at this | exact this | (rw [add_block] at this; exact Nat.lt_of_lt_of_le this HW0.out)) GW853.out)) | (dsimp only; exact Nat.ne_of_lt (Nat.lt_of_lt_of_le (by have := World.block_lt_of_cell? _ _ hw852_0; first | rwa [add_block] at this | exact this | (rw [add_block] at this; exact Nat.lt_of_lt_of_le this HW0.out)) GW853.out))) _).trans (((cell_far (p := ⟨gb853, _, none⟩) (by first | exact Nat.ne_of_lt (Nat.lt_of_lt_of_le (by have := World.block_lt_of_cell? _ _ hw852_0; first | rwa [add_block] at this | exact this | (rw [add_block] at this; exact Nat.lt_of_lt_of_le this HW0.out)) GW853.out) | (rw [add_block]; exact Nat.ne_of_lt (Nat.lt_of_lt_of_le (by have := World.block_lt_of_cell? _ _ hw852_0; first | rwa [add_block] at this | exact this | (rw [add_block] at this; exact Nat.lt_of_lt_of_le this HW0.out)) GW853.out)) | (show (Addr.add _ _).block ≠ _; rw [add_block]; exact Nat.ne_of_lt (Nat.lt_of_lt_of_le (by have := World.block_lt_of_cell? _ _ hw852_0; first | rwa [add_block] at this | exact this | (rw [add_block] at this; exact Nat.lt_of_lt_of_le this HW0.out)) GW853.out)) | (dsimp only; exact Nat.ne_of_lt (Nat.lt_of_lt_of_le (by have := World.block_lt_of_cell? _ _ hw852_0; first | rwa [add_block] at this | exact this | (rw [add_block] at this; exact Nat.lt_of_lt_of_le this HW0.out)) GW853.out))) _).trans (hHeld.2.2.2.2.1)))))), ((cell_far (p := ⟨gb853, _, none⟩) (by first | exact Nat.ne_of_lt (Nat.lt_of_lt_of_le (by have := World.block_lt_of_cell? _ _ hw852_1; first | rwa [add_block] at this | exact this | (rw [add_block] at this; exact Nat.lt_of_lt_of_le this HW0.out)) GW853.out) | (rw [add_block]; exact Nat.ne_of_lt (Nat.lt_of_lt_of_le (by have := World.block_lt_of_cell? _ _ hw852_1; first | rwa [add_block] at this | exact this | (rw [add_block] at this; exact Nat.lt_of_lt_of_le this HW0.out)) GW853.out)) | (show (Addr.add _ _).block ≠ _; rw [add_block]; exact Nat.ne_of_lt (Nat.lt_of_lt_of_le (by have := World.block_lt_of_cell? _ _ hw852_1; first | rwa [add_block] at this | exact this | (rw [add_block] at this; exact Nat.lt_of_lt_of_le this HW0.out)) GW853.out)) | (dsimp only; exact Nat.ne_of_lt (Nat.lt_of_lt_of_le (by have := World.block_lt_of_cell? _ _ hw852_1; first | rwa [add_block] at this | exact this | (rw [add_block] at this; exact Nat.lt_of_lt_of_le this HW0.out)) GW853.out))) _).trans (((cell_far (p := ⟨gb853, _, none⟩) (by first | exact Nat.ne_of_lt (Nat.lt_of_lt_of_le (by have := World.block_lt_of_cell? _ _ hw852_1; first | rwa [add_block] at this | exact this | (rw [add_block] at this; exact Nat.lt_of_lt_of_le this HW0.out)) GW853.out) | (rw [add_block]; exact Nat.ne_of_lt (Nat.lt_of_lt_of_le (by have := World.block_lt_of_cell? _ _ hw852_1; first | rwa [add_block] at this | exact this | (rw [add_block] at this; exact Nat.lt_of_lt_of_le this HW0.out)) GW853.out)) | (show (Addr.add _ _).block ≠ _; rw [add_block]; exact Nat.ne_of_lt (Nat.lt_of_lt_of_le (by have := World.block_lt_of_cell? _ _ hw852_1; first | rwa [add_block] at this | exact this | (rw [add_block] at this; exact Nat.lt_of_lt_of_le this HW0.out)) GW853.out)) | (dsimp only; exact Nat.ne_of_lt (Nat.lt_of_lt_of_le (by have := World.block_lt_of_cell? _ _ hw852_1; first | rwa [add_block] at this | exact this | (rw [add_block] at this; exact Nat.lt_of_lt_of_le this HW0.out)) GW853.out))) _).trans (((cell_far (p := ⟨gb853, _, none⟩) (by first | exact Nat.ne_of_lt (Nat.lt_of_lt_of_le (by have := World.block_lt_of_cell? _ _ hw852_1; first | rwa [add_block] at this | exact this | (rw [add_block] at this; exact Nat.lt_of_lt_of_le this HW0.out)) GW853.out) | (rw [add_block]; exact Nat.ne_of_lt (Nat.lt_of_lt_of_le (by have := World.block_lt_of_cell? _ _ hw852_1; first | rwa [add_block] at this | exact this | (rw [add_block] at this; exact Nat.lt_of_lt_of_le this HW0.out)) GW853.out)) | (show (Addr.add _ _).block ≠ _; rw [add_block]; exact Nat.ne_of_lt (Nat.lt_of_lt_of_le (by have := World.block_lt_of_cell? _ _ hw852_1; first | rwa [add_block] at this | exact this | (rw [add_block] at this; exact Nat.lt_of_lt_of_le this HW0.out)) GW853.out)) | (dsimp only; exact Nat.ne_of_lt (Nat.lt_of_lt_of_le (by have := World.block_lt_of_cell? _ _ hw852_1; first | rwa [add_block] at this | exact this | (rw [add_block] at this; exact Nat.lt_of_lt_of_le this HW0.out)) GW853.out))) _).trans (hHeld.2.2.2.2.2.1)))))), ((cell_far (p := ⟨gb853, _, none⟩) (by first | exact Nat.ne_of_lt (Nat.lt_of_lt_of_le (by have := World.block_lt_of_cell? _ _ hw852_2; first | rwa [add_block] at this | exact this | (rw [add_block] at this; exact Nat.lt_of_lt_of_le this HW0.out)) GW853.out) | (rw [add_block]; exact Nat.ne_of_lt (Nat.lt_of_lt_of_le (by have := World.block_lt_of_cell? _ _ hw852_2; first | rwa [add_block] at this | exact this | (rw [add_block] at this; exact Nat.lt_of_lt_of_le this HW0.out)) GW853.out)) | (show (Addr.add _ _).block ≠ _; rw [add_block]; exact Nat.ne_of_lt (Nat.lt_of_lt_of_le (by have := World.block_lt_of_cell? _ _ hw852_2; first | rwa [add_block] at this | exact this | (rw [add_block] at this; exact Nat.lt_of_lt_of_le this HW0.out)) GW853.out)) | (dsimp only; exact Nat.ne_of_lt (Nat.lt_of_lt_of_le (by have := World.block_lt_of_cell? _ _ hw852_2; first | rwa [add_block] at this | exact this | (rw [add_block] at this; exact Nat.lt_of_lt_of_le this HW0.out)) GW853.out))) _).trans (((cell_far (p := ⟨gb853, _, none⟩) (by first | exact Nat.ne_of_lt (Nat.lt_of_lt_of_le (by have := World.block_lt_of_cell? _ _ hw852_2; first | rwa [add_block] at this | exact this | (rw [add_block] at this; exact Nat.lt_of_lt_of_le this HW0.out)) GW853.out) | (rw [add_block]; exact Nat.ne_of_lt (Nat.lt_of_lt_of_le (by have := World.block_lt_of_cell? _ _ hw852_2; first | rwa [add_block] at this | exact this | (rw [add_block] at this; exact Nat.lt_of_lt_of_le this HW0.out)) GW853.out)) | (show (Addr.add _ _).block ≠ _; rw [add_block]; exact Nat.ne_of_lt (Nat.lt_of_lt_of_le (by have := World.block_lt_of_cell? _ _ hw852_2; first | rwa [add_block] at this | exact this | (rw [add_block] at this; exact Nat.lt_of_lt_of_le this HW0.out)) GW853.out)) | (dsimp only; exact Nat.ne_of_lt (Nat.lt_of_lt_of_le (by have := World.block_lt_of_cell? _ _ hw852_2; first | rwa [add_block] at this | exact this | (rw [add_block] at this; exact Nat.lt_of_lt_of_le this HW0.out)) GW853.out))) _).trans (((cell_far (p := ⟨gb853, _, none⟩) (by first | exact Nat.ne_of_lt (Nat.lt_of_lt_of_le (by have := World.block_lt_of_cell? _ _ hw852_2; first | rwa [add_block] at this | exact this | (rw [add_block] at this; exact Nat.lt_of_lt_of_le this HW0.out)) GW853.out) | (rw [add_block]; exact Nat.ne_of_lt (Nat.lt_of_lt_of_le (by have := World.block_lt_of_cell? _ _ hw852_2; first | rwa [add_block] at this | exact this | (rw [add_block] at this; exact Nat.lt_of_lt_of_le this HW0.out)) GW853.out)) | (show (Addr.add _ _).block ≠ _; rw [add_block]; exact Nat.ne_of_lt (Nat.lt_of_lt_of_le (by have := World.block_lt_of_cell? _ _ hw852_2; first | rwa [add_block] at this | exact this | (rw [add_block] at this; exact Nat.lt_of_lt_of_le this HW0.out)) GW853.out)) | (dsimp only; exact Nat.ne_of_lt (Nat.lt_of_lt_of_le (by have := World.block_lt_of_cell? _ _ hw852_2; first | rwa [add_block] at this | exact this | (rw [add_block] at this; exact Nat.lt_of_lt_of_le this HW0.out)) GW853.out))) _).trans (hHeld.2.2.2.2.2.2.1)))))), ((cell_far (p := ⟨gb853, _, none⟩) (by first | exact Nat.ne_of_lt (Nat.lt_of_lt_of_le (by have := World.block_lt_of_cell? _ _ hw852_3; first | rwa [add_block] at this | exact this | (rw [add_block] at this; exact Nat.lt_of_lt_of_le this HW0.out)) GW853.out) | (rw [add_block]; exact Nat.ne_of_lt (Nat.lt_of_lt_of_le (by have := World.block_lt_of_cell? _ _ hw852_3; first | rwa [add_block] at this | exact this | (rw [add_block] at this; exact Nat.lt_of_lt_of_le this HW0.out)) GW853.out)) | (show (Addr.add _ _).block ≠ _; rw [add_block]; exact Nat.ne_of_lt (Nat.lt_of_lt_of_le (by have := World.block_lt_of_cell? _ _ hw852_3; first | rwa [add_block] at this | exact this | (rw [add_block] at this; exact Nat.lt_of_lt_of_le this HW0.out)) GW853.out)) | (dsimp only; exact Nat.ne_of_lt (Nat.lt_of_lt_of_le (by have := World.block_lt_of_cell? _ _ hw852_3; first | rwa [add_block] at this | exact this | (rw [add_block] at this; exact Nat.lt_of_lt_of_le this HW0.out)) GW853.out))) _).trans (((cell_far (p := ⟨gb853, _, none⟩) (by first | exact Nat.ne_of_lt (Nat.lt_of_lt_of_le (by have := World.block_lt_of_cell? _ _ hw852_3; first | rwa [add_block] at this | exact this | (rw [add_block] at this; exact Nat.lt_of_lt_of_le this HW0.out)) GW853.out) | (rw [add_block]; exact Nat.ne_of_lt (Nat.lt_of_lt_of_le (by have := World.block_lt_of_cell? _ _ hw852_3; first | rwa [add_block] at this | exact this | (rw [add_block] at this; exact Nat.lt_of_lt_of_le this HW0.out)) GW853.out)) | (show (Addr.add _ _).block ≠ _; rw [add_block]; exact Nat.ne_of_lt (Nat.lt_of_lt_of_le (by have := World.block_lt_of_cell? _ _ hw852_3; first | rwa [add_block] at this | exact this | (rw [add_block] at this; exact Nat.lt_of_lt_of_le this HW0.out)) GW853.out)) | (dsimp only; exact Nat.ne_of_lt (Nat.lt_of_lt_of_le (by have := World.block_lt_of_cell? _ _ hw852_3; first | rwa [add_block] at this | exact this | (rw [add_block] at this; exact Nat.lt_of_lt_of_le this HW0.out)) GW853.out))) _).trans (((cell_far (p := ⟨gb853, _, none⟩) (by first | exact Nat.ne_of_lt (Nat.lt_of_lt_of_le (by have := World.block_lt_of_cell? _ _ hw852_3; first | rwa [add_block] at this | exact this | (rw [add_block] at this; exact Nat.lt_of_lt_of_le this HW0.out)) GW853.out) | (rw [add_block]; exact Nat.ne_of_lt (Nat.lt_of_lt_of_le (by have := World.block_lt_of_cell? _ _ hw852_3; first | rwa [add_block] at this | exact this | (rw [add_block] at this; exact Nat.lt_of_lt_of_le this HW0.out)) GW853.out)) | (show (Addr.add _ _).block ≠ _; rw [add_block]; exact Nat.ne_of_lt (Nat.lt_of_lt_of_le (by have := World.block_lt_of_cell? _ _ hw852_3; first | rwa [add_block] at this | exact this | (rw [add_block] at this; exact Nat.lt_of_lt_of_le this HW0.out)) GW853.out)) | (dsimp only; exact Nat.ne_of_lt (Nat.lt_of_lt_of_le (by have := World.block_lt_of_cell? _ _ hw852_3; first | rwa [add_block] at this | exact this | (rw [add_block] at this; exact Nat.lt_of_lt_of_le this HW0.out)) GW853.out))) _).trans (hHeld.2.2.2.2.2.2.2.1)))))), ((cell_far (p := ⟨gb853, _, none⟩) (by first | exact Nat.ne_of_lt (Nat.lt_of_lt_of_le (by have := World.block_lt_of_cell? _ _ hw852_4; first | rwa [add_block] at this | exact this | (rw [add_block] at this; exact Nat.lt_of_lt_of_le this HW0.out)) GW853.out) | (rw [add_block]; exact Nat.ne_of_lt (Nat.lt_of_lt_of_le (by have := World.block_lt_of_cell? _ _ hw852_4; first | rwa [add_block] at this | exact this | (rw [add_block] at this; exact Nat.lt_of_lt_of_le this HW0.out)) GW853.out)) | (show (Addr.add _ _).block ≠ _; rw [add_block]; exact Nat.ne_of_lt (Nat.lt_of_lt_of_le (by have := World.block_lt_of_cell? _ _ hw852_4; first | rwa [add_block] at this | exact this | (rw [add_block] at this; exact Nat.lt_of_lt_of_le this HW0.out)) GW853.out)) | (dsimp only; exact Nat.ne_of_lt (Nat.lt_of_lt_of_le (by have := World.block_lt_of_cell? _ _ hw852_4; first | rwa [add_block] at this | exact this | (rw [add_block] at this; exact Nat.lt_of_lt_of_le this HW0.out)) GW853.out))) _).trans (((cell_far (p := ⟨gb853, _, none⟩) (by first | exact Nat.ne_of_lt (Nat.lt_of_lt_of_le (by have := World.block_lt_of_cell? _ _ hw852_4; first | rwa [add_block] at this | exact this | (rw [add_block] at this; exact Nat.lt_of_lt_of_le this HW0.out)) GW853.out) | (rw [add_block]; exact Nat.ne_of_lt (Nat.lt_of_lt_of_le (by have := World.block_lt_of_cell? _ _ hw852_4; first | rwa [add_block] at this | exact this | (rw [add_block] at this; exact Nat.lt_of_lt_of_le this HW0.out)) GW853.out)) | (show (Addr.add _ _).block ≠ _; rw [add_block]; exact Nat.ne_of_lt (Nat.lt_of_lt_of_le (by have := World.block_lt_of_cell? _ _ hw852_4; first | rwa [add_block] at this | exact this | (rw [add_block] at this; exact Nat.lt_of_lt_of_le this HW0.out)) GW853.out)) | (dsimp only; exact Nat.ne_of_lt (Nat.lt_of_lt_of_le (by have := World.block_lt_of_cell? _ _ hw852_4; first | rwa [add_block] at this | exact this | (rw [add_block] at this; exact Nat.lt_of_lt_of_le this HW0.out)) GW853.out))) _).trans (((cell_far (p := ⟨gb853, _, none⟩) (by first | exact Nat.ne_of_lt (Nat.lt_of_lt_of_le (by have := World.block_lt_of_cell? _ _ hw852_4; first | rwa [add_block] at this | exact this | (rw [add_block] at this; exact Nat.lt_of_lt_of_le this HW0.out)) GW853.out) | (rw [add_block]; exact Nat.ne_of_lt (Nat.lt_of_lt_of_le (by have := World.block_lt_of_cell? _ _ hw852_4; first | rwa [add_block] at this | exact this | (rw [add_block] at this; exact Nat.lt_of_lt_of_le this HW0.out)) GW853.out)) | (show (Addr.add _ _).block ≠ _; rw [add_block]; exact Nat.ne_of_lt (Nat.lt_of_lt_of_le (by have := World.block_lt_of_cell? _ _ hw852_4; first | rwa [add_block] at this | exact this | (rw [add_block] at this; exact Nat.lt_of_lt_of_le this HW0.out)) GW853.out)) | (dsimp only; exact Nat.ne_of_lt (Nat.lt_of_lt_of_le (by have := World.block_lt_of_cell? _ _ hw852_4; first | rwa [add_block] at this | exact this | (rw [add_block] at this; exact Nat.lt_of_lt_of_le this HW0.out)) GW853.out))) _).trans (hHeld.2.2.2.2.2.2.2.2))))))⟩ (fun hHeld => ?_)
          clear hK K
          refine done_ (done_of HT_.out zq13) ?_
          go_upto_block 4 with (fail)
          go_cut [8] (fun v8 wc => ∃ (kq : Nat) (x8_6 : Int), v8 = .int .i64 x8_6 ∧ Aside0 (rb_Begin.j3 kq l0 x3_2 x4_1 x5_2 x8_6 ((rd_T39 l0 x4_1).f0) ((rd_T64 ((rd_T39 l0 x4_1).f3) x5_2).f0) ((rd_T64 ((rd_T39 l0 x4_1).f3) x5_2).f2) = some r) ∧ Aside0 (kq ≤ k2) ∧ Aside0 (Kd.R k61 61 wc w.heap.size (fun k_ => k_ ≠ gb853) u3 x3_2) ∧ Aside0 (wc.heap[gb851]? = some (.cells #[.string ((rd_T64 ((rd_T39 l0 x4_1).f3) x5_2).f0), .string ((rd_T64 ((rd_T39 l0 x4_1).f3) x5_2).f1), .int .i64 ((rd_T64 ((rd_T39 l0 x4_1).f3) x5_2).f2), .int .i64 ((rd_T64 ((rd_T39 l0 x4_1).f3) x5_2).f3)] 64 (0, 0))) ∧ Aside0 (wc.heap[gb853]? = some (.cells #[.string ((rd_T39 l0 x4_1).f0), .string ((rd_T64 ((rd_T39 l0 x4_1).f3) x5_2).f0), .int .i64 ((rd_T64 ((rd_T39 l0 x4_1).f3) x5_2).f2)] 61 (0, 0))) ∧ Aside0 (Below w.heap.size w wc))
          case first =>
           have H := HC7.out
           clear HC7
           have H' := za H
           clear H
           go_wp2
           go_loopg [8] k2 (fun kq v8 w' => ∃ (x8_3 : Int), v8 = .int .i64 x8_3 ∧ Aside0 (rb_Begin.l2 kq l0 x3_2 x4_1 x5_2 x8_3 ((rd_T39 l0 x4_1).f0) ((rd_T64 ((rd_T39 l0 x4_1).f3) x5_2).f0) ((rd_T64 ((rd_T39 l0 x4_1).f3) x5_2).f2) = some r) ∧ Aside0 (kq ≤ k2) ∧ Aside0 (Kd.R k61 61 w' w.heap.size (fun k_ => k_ ≠ gb853) u3 x3_2) ∧ Aside0 (w'.heap[gb851]? = some (.cells #[.string ((rd_T64 ((rd_T39 l0 x4_1).f3) x5_2).f0), .string ((rd_T64 ((rd_T39 l0 x4_1).f3) x5_2).f1), .int .i64 ((rd_T64 ((rd_T39 l0 x4_1).f3) x5_2).f2), .int .i64 ((rd_T64 ((rd_T39 l0 x4_1).f3) x5_2).f3)] 64 (0, 0))) ∧ Aside0 (w'.heap[gb853]? = some (.cells #[.string ((rd_T39 l0 x4_1).f0), .string ((rd_T64 ((rd_T39 l0 x4_1).f3) x5_2).f0), .int .i64 ((rd_T64 ((rd_T39 l0 x4_1).f3) x5_2).f2)] 61 (0, 0))) ∧ Aside0 (Below w.heap.size w w'))
           case atStart => exact ⟨(0), zq22, H', ⟨Nat.le_refl _⟩, ⟨by (with_reducible repeat (first | apply Kd.R_alloc | apply Kd.R_drewN | apply Kd.R_drew)); exact Kd.R_mono (Kd.R_far (p := ⟨gb853, 2, none⟩) (Kd.R_far (p := ⟨gb853, 1, none⟩) (Kd.R_far (p := ⟨gb853, 0, none⟩) (Kd.R_mono HO_3.out (fun k_ hk => (⟨hk, hk.2⟩ : _ ∧ k_ ≠ gb853))) (fun _ hk => hk.2) (.string ((rd_T39 l0 x4_1).f0))) (fun _ hk => hk.2) (.string ((rd_T64 ((rd_T39 l0 x4_1).f3) x5_2).f0))) (fun _ hk => hk.2) (.int .i64 ((rd_T64 ((rd_T39 l0 x4_1).f3) x5_2).f2))) (fun _ hk => hk.1.2)⟩, ⟨by (with_reducible repeat (first | refine blk_drewN ?_ _ | refine blk_drew ?_ | refine blk_alloc ?_ _)); refine blk_far ?_ NB851_853.out _; (with_reducible repeat (first | refine blk_drewN ?_ _ | refine blk_drew ?_ | refine blk_alloc ?_ _)); refine blk_far ?_ NB851_853.out _; (with_reducible repeat (first | refine blk_drewN ?_ _ | refine blk_drew ?_ | refine blk_alloc ?_ _)); refine blk_far ?_ NB851_853.out _; (with_reducible repeat (first | refine blk_drewN ?_ _ | refine blk_drew ?_ | refine blk_alloc ?_ _)); exact BK851.out⟩, ⟨by (with_reducible repeat (first | refine blk_drewN ?_ _ | refine blk_drew ?_ | refine blk_alloc ?_ _)); refine blk_put (cs := #[.string ((rd_T39 l0 x4_1).f0), .string ((rd_T64 ((rd_T39 l0 x4_1).f3) x5_2).f0), .int .i64 0]) ?_ 2 _ rfl; (with_reducible repeat (first | refine blk_drewN ?_ _ | refine blk_drew ?_ | refine blk_alloc ?_ _)); refine blk_put (cs := #[.string ((rd_T39 l0 x4_1).f0), .string (⟨#[]⟩ : ByteArray), .int .i64 0]) ?_ 1 _ rfl; (with_reducible repeat (first | refine blk_drewN ?_ _ | refine blk_drew ?_ | refine blk_alloc ?_ _)); refine blk_put (cs := #[.string (⟨#[]⟩ : ByteArray), .string (⟨#[]⟩ : ByteArray), .int .i64 0]) ?_ 0 _ rfl; (with_reducible repeat (first | refine blk_drewN ?_ _ | refine blk_drew ?_ | refine blk_alloc ?_ _)); exact BK853.out⟩, ⟨zq26⟩⟩
           case round =>
            clear H'
            obtain ⟨x8_3, rfl, HA, HK3, HO_3, BK851, BK853, HB⟩ := hrel
            cases gk with
            | zero => exact absurd HA.out (by simp [rb_Begin.l2])
            | succ k3 =>
             have H := HA.out
             clear HA
             simp only [rb_Begin.l2] at H
             by_cases c16 : x8_3 < (x3_2.length : Int)
             ·
              rw [if_pos c16] at H
              have c16b0 := decide_eq_true c16
              clear c16
              (first | rw [c16b0] | (simp only [i64_w, i32_w]; rw [c16b0]) | skip)
              by_cases c17 : 0 ≤ x8_3
              ·
               rw [if_pos c17] at H
               have c17b0 := decide_eq_true c17
               clear c17
               replace H := Option.bind_eq_some_iff.mp H
               obtain ⟨t855, A180, H⟩ := H
               (try dsimp only at H)
               have A18 := za A180
               clear A180
               by_cases c19 : t855 = true
               ·
                subst c19
                rw [if_pos rfl] at H
                have H' := za H
                clear H
                try go_wp2
                replace HO_3 := za (Kd.R_drew HO_3.out)
                replace BK851 := za (blk_drew BK851.out)
                replace BK853 := za (blk_drew BK853.out)
                replace HB := za (below_drew1 HB.out)
                obtain ⟨Ao21, co21, eo21⟩ := Kd.R_slice HO_3.out
                (first | subst eo21 | (injection eo21 with f1_ f2_ f3_; have f4_ := f1_.symm; have f5_ := f3_.symm; clear f1_ f2_ f3_; subst f4_; subst f5_))
                have p854 : 0 ≤ (x8_3 : Int) := of_decide_eq_true zq10
                have q854 : x8_3 < (x3_2.length : Int) := of_decide_eq_true zq10
                obtain ⟨ad854, e854, hx854_0, hx854_1, hx854_2⟩ := at_T61 (Kd.R_reads' HO_3.out).2.2 x8_3 p854 q854
                cases e854
                replace p854 := eq_true p854
                replace q854 := eq_true q854
                refine start_ (n := 12) (S := fun w' => w'.cell? ⟨gb853, 0, none⟩ = some (.string ((rd_T39 l0 x4_1).f0)) ∧ w'.cell? ⟨gb853, 1, none⟩ = some (.string ((rd_T64 ((rd_T39 l0 x4_1).f3) x5_2).f0)) ∧ w'.cell? ⟨gb853, 2, none⟩ = some (.int .i64 ((rd_T64 ((rd_T39 l0 x4_1).f3) x5_2).f2)) ∧ w'.cell? (ad854.add ((x8_3).toNat * 3)) = some (.string ((rd_T61 x3_2 x8_3).f0)) ∧ w'.cell? ⟨(ad854.add ((x8_3).toNat * 3)).block, (ad854.add ((x8_3).toNat * 3)).off + 1, none⟩ = some (.string ((rd_T61 x3_2 x8_3).f1)) ∧ w'.cell? ⟨(ad854.add ((x8_3).toNat * 3)).block, (ad854.add ((x8_3).toNat * 3)).off + 2, none⟩ = some (.int .i64 ((rd_T61 x3_2 x8_3).f2))) (ds := []) #[false, false, false, false, false, false, false, false, false, false, false, false] zq13 rfl rfl ⟨(blk_cell BK853.out 0).trans rfl, (blk_cell BK853.out 1).trans rfl, (blk_cell BK853.out 2).trans rfl, hx854_0, hx854_1, hx854_2⟩ (fun hHeld => ?_); refine with_tabW rb_Begin.tab11 rb_Begin.bits11 (fun HT_ HW_ => ?_)
                generalize wr.drew = w20 at HO_3 BK851 BK853 HB hx854_0 hx854_1 hx854_2 hHeld ⊢
                refine pure_ (i := 0) (N := some 44) #[true, false, false, false, false, false, false, false, false, false, false, false] rfl rfl (any_of HT_.out zq13) (fun _ _ _ h => h) (Or.inl ⟨by rfl, zpv⟩) zpw ?_
                refine pure_ (i := 1) (N := some 45) #[true, true, false, false, false, false, false, false, false, false, false, false] rfl rfl (any_of HT_.out zq13) (fun _ _ _ h => h) (Or.inl ⟨by rfl, zpv⟩) zpw ?_
                refine pure_ (i := 2) (N := some 46) #[true, true, true, false, false, false, false, false, false, false, false, false] rfl rfl (any_of HT_.out zq13) (fun _ _ _ h => h) (Or.inl ⟨by rfl, zpv⟩) zpw ?_
                refine pure_ (i := 3) (N := some 47) #[true, true, true, true, false, false, false, false, false, false, false, false] rfl rfl (any_of HT_.out zq13) (fun _ _ _ h => h) (Or.inl ⟨by rfl, zpv⟩) zpw ?_
                refine pure_ (i := 4) (N := some 48) #[true, true, true, true, true, false, false, false, false, false, false, false] rfl rfl (any_of HT_.out zq13) (fun _ _ _ h => h) (Or.inl ⟨by rfl, zpv⟩) zpw ?_
                refine pure_ (i := 5) (N := some 49) #[true, true, true, true, true, true, false, false, false, false, false, false] rfl rfl (any_of HT_.out zq13) (fun _ _ _ h => h) (Or.inl ⟨by rfl, zpv⟩) zpw ?_
                refine pure_ (i := 6) (N := some 50) #[true, true, true, true, true, true, true, false, false, false, false, false] rfl rfl (any_of HT_.out zq13) (fun _ _ _ h => h) (Or.inl ⟨by rfl, zpv⟩) zpw ?_
                refine pure_ (i := 7) (N := some 51) #[true, true, true, true, true, true, true, true, false, false, false, false] rfl rfl (any_of HT_.out zq13) (fun _ _ _ h => h) (Or.inl ⟨by rfl, zpv⟩) zpw ?_
                refine take_ (i := 8) (N := some 52) (v := ?_) (a' := ?_) #[true, true, true, true, true, true, true, true, true, false, false, false] rfl rfl (take_ofW HT_.out HW_.out zq13) (fun _ _ _ h => h) (Or.inl ⟨by rfl, ?_⟩) hHeld ?_ ?_
                rotate_left
                ·
                 rintro w' ⟨s0, s1, s2, s3, s4, s5⟩
                 go_simp
                 with_reducible rfl
                rotate_left
                ·
                 simp only [Act.put, List.setIfInBounds_toArray, List.set_cons_zero, List.set_cons_succ, i64_w, i32_w]
                 rfl
                refine take_ (i := 9) (N := some 53) (v := ?_) (a' := ?_) #[true, true, true, true, true, true, true, true, true, true, false, false] rfl rfl (take_ofW HT_.out HW_.out zq13) (fun _ _ _ h => h) (Or.inl ⟨by rfl, ?_⟩) hHeld ?_ ?_
                rotate_left
                ·
                 rintro w' ⟨s0, s1, s2, s3, s4, s5⟩
                 go_simp
                 with_reducible rfl
                rotate_left
                ·
                 simp only [Act.put, List.setIfInBounds_toArray, List.set_cons_zero, List.set_cons_succ, i64_w, i32_w]
                 rfl
                refine one_ (i := 10) (N := some 54) #[true, true, true, true, true, true, true, true, true, true, true, false] rfl rfl (one_of HT_.out zq13) (by decide) (fun K hK => ?_)
                refine goes_ Try.func25 zq13 rfl #[.agg #[.string ((rd_T61 x3_2 x8_3).f0), .string ((rd_T61 x3_2 x8_3).f1), .int .i64 ((rd_T61 x3_2 x8_3).f2)], .agg #[.string ((rd_T39 l0 x4_1).f0), .string ((rd_T64 ((rd_T39 l0 x4_1).f3) x5_2).f0), .int .i64 ((rd_T64 ((rd_T39 l0 x4_1).f3) x5_2).f2)]] (by rfl) rfl rfl zq2 ?_
                with_reducible refine (rb_before.calls ((rd_T61 x3_2 x8_3).f0) ((rd_T61 x3_2 x8_3).f1) ((rd_T61 x3_2 x8_3).f2) ((rd_T39 l0 x4_1).f0) ((rd_T64 ((rd_T39 l0 x4_1).f3) x5_2).f0) ((rd_T64 ((rd_T39 l0 x4_1).f3) x5_2).f2) true _ A18.out).mono ?_
                rintro e w22 ⟨rfl, hb⟩
                have HS3_ := (hb.cell (World.block_lt_of_cell? _ _ (hHeld.2.2.2.1))).trans (hHeld.2.2.2.1)
                have HS4_ := (hb.cell (World.block_lt_of_cell? _ _ (hHeld.2.2.2.2.1))).trans (hHeld.2.2.2.2.1)
                have HS5_ := (hb.cell (World.block_lt_of_cell? _ _ (hHeld.2.2.2.2.2))).trans (hHeld.2.2.2.2.2)
                refine ⟨_, rfl, ?_⟩
                replace HO_3 := za (Kd.R_below (zr HO_3.out) hb)
                replace BK851 := za (blk_below (g := gb851) (zb BK851.out) hb)
                replace BK853 := za (blk_below (g := gb853) (zb BK853.out) hb)
                replace HB := za (below_step zq26 hb)
                refine hK.out _ _ ⟨(blk_cell BK853.out 0).trans rfl, (blk_cell BK853.out 1).trans rfl, (blk_cell BK853.out 2).trans rfl, HS3_, HS4_, HS5_⟩ (fun hHeld => ?_)
                clear hK K
                refine norm_ (a' := ?_) ?_ ?_
                rotate_left
                ·
                 show Act.put _ (some 54) _ = _
                 simp only [Act.put, List.setIfInBounds_toArray, List.set_cons_zero, List.set_cons_succ, i64_w, i32_w]
                 rfl
                refine pure_ (i := 11) (N := some 55) #[true, true, true, true, true, true, true, true, true, true, true, true] rfl rfl (any_of HT_.out zq13) (fun _ _ _ h => h) (Or.inl ⟨by rfl, zpv⟩) zpw ?_
                refine done_ (done_of HT_.out zq13) ?_
                try go_wp2
                go_roundg k3
                case measure => have := HK1.out; have := HK2.out; have := HK3.out; omega
                case rel => exact ⟨(wrap64 (x8_3 + 1)), zq22, H', ⟨by have := HK1.out; have := HK2.out; have := HK3.out; omega⟩, ⟨zq67⟩, ⟨zq72⟩, ⟨zq73⟩, ⟨zq26⟩⟩
               ·
                replace c19 := Bool.eq_false_iff.mpr c19
                subst c19
                rw [if_neg (show ¬ (false = true) by decide)] at H
                have H' := za H
                clear H
                try go_wp2
                replace HO_3 := za (Kd.R_drew HO_3.out)
                replace BK851 := za (blk_drew BK851.out)
                replace BK853 := za (blk_drew BK853.out)
                replace HB := za (below_drew1 HB.out)
                obtain ⟨Ao24, co24, eo24⟩ := Kd.R_slice HO_3.out
                (first | subst eo24 | (injection eo24 with f1_ f2_ f3_; have f4_ := f1_.symm; have f5_ := f3_.symm; clear f1_ f2_ f3_; subst f4_; subst f5_))
                have p854 : 0 ≤ (x8_3 : Int) := of_decide_eq_true zq10
                have q854 : x8_3 < (x3_2.length : Int) := of_decide_eq_true zq10
                obtain ⟨ad854, e854, hx854_0, hx854_1, hx854_2⟩ := at_T61 (Kd.R_reads' HO_3.out).2.2 x8_3 p854 q854
                cases e854
                replace p854 := eq_true p854
                replace q854 := eq_true q854
                refine start_ (n := 12) (S := fun w' => w'.cell? ⟨gb853, 0, none⟩ = some (.string ((rd_T39 l0 x4_1).f0)) ∧ w'.cell? ⟨gb853, 1, none⟩ = some (.string ((rd_T64 ((rd_T39 l0 x4_1).f3) x5_2).f0)) ∧ w'.cell? ⟨gb853, 2, none⟩ = some (.int .i64 ((rd_T64 ((rd_T39 l0 x4_1).f3) x5_2).f2)) ∧ w'.cell? (ad854.add ((x8_3).toNat * 3)) = some (.string ((rd_T61 x3_2 x8_3).f0)) ∧ w'.cell? ⟨(ad854.add ((x8_3).toNat * 3)).block, (ad854.add ((x8_3).toNat * 3)).off + 1, none⟩ = some (.string ((rd_T61 x3_2 x8_3).f1)) ∧ w'.cell? ⟨(ad854.add ((x8_3).toNat * 3)).block, (ad854.add ((x8_3).toNat * 3)).off + 2, none⟩ = some (.int .i64 ((rd_T61 x3_2 x8_3).f2))) (ds := []) #[false, false, false, false, false, false, false, false, false, false, false, false] zq13 rfl rfl ⟨(blk_cell BK853.out 0).trans rfl, (blk_cell BK853.out 1).trans rfl, (blk_cell BK853.out 2).trans rfl, hx854_0, hx854_1, hx854_2⟩ (fun hHeld => ?_); refine with_tabW rb_Begin.tab11 rb_Begin.bits11 (fun HT_ HW_ => ?_)
                generalize wr.drew = w23 at HO_3 BK851 BK853 HB hx854_0 hx854_1 hx854_2 hHeld ⊢
                refine pure_ (i := 0) (N := some 44) #[true, false, false, false, false, false, false, false, false, false, false, false] rfl rfl (any_of HT_.out zq13) (fun _ _ _ h => h) (Or.inl ⟨by rfl, zpv⟩) zpw ?_
                refine pure_ (i := 1) (N := some 45) #[true, true, false, false, false, false, false, false, false, false, false, false] rfl rfl (any_of HT_.out zq13) (fun _ _ _ h => h) (Or.inl ⟨by rfl, zpv⟩) zpw ?_
                refine pure_ (i := 2) (N := some 46) #[true, true, true, false, false, false, false, false, false, false, false, false] rfl rfl (any_of HT_.out zq13) (fun _ _ _ h => h) (Or.inl ⟨by rfl, zpv⟩) zpw ?_
                refine pure_ (i := 3) (N := some 47) #[true, true, true, true, false, false, false, false, false, false, false, false] rfl rfl (any_of HT_.out zq13) (fun _ _ _ h => h) (Or.inl ⟨by rfl, zpv⟩) zpw ?_
                refine pure_ (i := 4) (N := some 48) #[true, true, true, true, true, false, false, false, false, false, false, false] rfl rfl (any_of HT_.out zq13) (fun _ _ _ h => h) (Or.inl ⟨by rfl, zpv⟩) zpw ?_
                refine pure_ (i := 5) (N := some 49) #[true, true, true, true, true, true, false, false, false, false, false, false] rfl rfl (any_of HT_.out zq13) (fun _ _ _ h => h) (Or.inl ⟨by rfl, zpv⟩) zpw ?_
                refine pure_ (i := 6) (N := some 50) #[true, true, true, true, true, true, true, false, false, false, false, false] rfl rfl (any_of HT_.out zq13) (fun _ _ _ h => h) (Or.inl ⟨by rfl, zpv⟩) zpw ?_
                refine pure_ (i := 7) (N := some 51) #[true, true, true, true, true, true, true, true, false, false, false, false] rfl rfl (any_of HT_.out zq13) (fun _ _ _ h => h) (Or.inl ⟨by rfl, zpv⟩) zpw ?_
                refine take_ (i := 8) (N := some 52) (v := ?_) (a' := ?_) #[true, true, true, true, true, true, true, true, true, false, false, false] rfl rfl (take_ofW HT_.out HW_.out zq13) (fun _ _ _ h => h) (Or.inl ⟨by rfl, ?_⟩) hHeld ?_ ?_
                rotate_left
                ·
                 rintro w' ⟨s0, s1, s2, s3, s4, s5⟩
                 go_simp
                 with_reducible rfl
                rotate_left
                ·
                 simp only [Act.put, List.setIfInBounds_toArray, List.set_cons_zero, List.set_cons_succ, i64_w, i32_w]
                 rfl
                refine take_ (i := 9) (N := some 53) (v := ?_) (a' := ?_) #[true, true, true, true, true, true, true, true, true, true, false, false] rfl rfl (take_ofW HT_.out HW_.out zq13) (fun _ _ _ h => h) (Or.inl ⟨by rfl, ?_⟩) hHeld ?_ ?_
                rotate_left
                ·
                 rintro w' ⟨s0, s1, s2, s3, s4, s5⟩
                 go_simp
                 with_reducible rfl
                rotate_left
                ·
                 simp only [Act.put, List.setIfInBounds_toArray, List.set_cons_zero, List.set_cons_succ, i64_w, i32_w]
                 rfl
                refine one_ (i := 10) (N := some 54) #[true, true, true, true, true, true, true, true, true, true, true, false] rfl rfl (one_of HT_.out zq13) (by decide) (fun K hK => ?_)
                refine goes_ Try.func25 zq13 rfl #[.agg #[.string ((rd_T61 x3_2 x8_3).f0), .string ((rd_T61 x3_2 x8_3).f1), .int .i64 ((rd_T61 x3_2 x8_3).f2)], .agg #[.string ((rd_T39 l0 x4_1).f0), .string ((rd_T64 ((rd_T39 l0 x4_1).f3) x5_2).f0), .int .i64 ((rd_T64 ((rd_T39 l0 x4_1).f3) x5_2).f2)]] (by rfl) rfl rfl zq2 ?_
                with_reducible refine (rb_before.calls ((rd_T61 x3_2 x8_3).f0) ((rd_T61 x3_2 x8_3).f1) ((rd_T61 x3_2 x8_3).f2) ((rd_T39 l0 x4_1).f0) ((rd_T64 ((rd_T39 l0 x4_1).f3) x5_2).f0) ((rd_T64 ((rd_T39 l0 x4_1).f3) x5_2).f2) false _ A18.out).mono ?_
                rintro e w25 ⟨rfl, hb⟩
                have HS3_ := (hb.cell (World.block_lt_of_cell? _ _ (hHeld.2.2.2.1))).trans (hHeld.2.2.2.1)
                have HS4_ := (hb.cell (World.block_lt_of_cell? _ _ (hHeld.2.2.2.2.1))).trans (hHeld.2.2.2.2.1)
                have HS5_ := (hb.cell (World.block_lt_of_cell? _ _ (hHeld.2.2.2.2.2))).trans (hHeld.2.2.2.2.2)
                refine ⟨_, rfl, ?_⟩
                replace HO_3 := za (Kd.R_below (zr HO_3.out) hb)
                replace BK851 := za (blk_below (g := gb851) (zb BK851.out) hb)
                replace BK853 := za (blk_below (g := gb853) (zb BK853.out) hb)
                replace HB := za (below_step zq26 hb)
                refine hK.out _ _ ⟨(blk_cell BK853.out 0).trans rfl, (blk_cell BK853.out 1).trans rfl, (blk_cell BK853.out 2).trans rfl, HS3_, HS4_, HS5_⟩ (fun hHeld => ?_)
                clear hK K
                refine norm_ (a' := ?_) ?_ ?_
                rotate_left
                ·
                 show Act.put _ (some 54) _ = _
                 simp only [Act.put, List.setIfInBounds_toArray, List.set_cons_zero, List.set_cons_succ, i64_w, i32_w]
                 rfl
                refine pure_ (i := 11) (N := some 55) #[true, true, true, true, true, true, true, true, true, true, true, true] rfl rfl (any_of HT_.out zq13) (fun _ _ _ h => h) (Or.inl ⟨by rfl, zpv⟩) zpw ?_
                refine done_ (done_of HT_.out zq13) ?_
                try go_wp2
                go_meet
                case rel => exact ⟨_, (x8_3), zq22, H', ⟨by have := HK1.out; have := HK2.out; have := HK3.out; first | omega | exact Nat.le_refl _⟩, ⟨zq67⟩, ⟨zq72⟩, ⟨zq73⟩, ⟨zq26⟩⟩
              ·
               rw [if_neg c17] at H
               exact absurd H (by simp)
             ·
              rw [if_neg c16] at H
              have c16b0 := decide_eq_false c16
              clear c16
              (first | rw [c16b0] | (simp only [i64_w, i32_w]; rw [c16b0]) | skip)
              have H' := za H
              clear H
              try go_wp2
              replace HO_3 := za (Kd.R_drew HO_3.out)
              replace BK851 := za (blk_drew BK851.out)
              replace BK853 := za (blk_drew BK853.out)
              replace HB := za (below_drew1 HB.out)
              obtain ⟨Ao27, co27, eo27⟩ := Kd.R_slice HO_3.out
              (first | subst eo27 | (injection eo27 with f1_ f2_ f3_; have f4_ := f1_.symm; have f5_ := f3_.symm; clear f1_ f2_ f3_; subst f4_; subst f5_))
              refine start_ (n := 12) (S := fun w' => True) (ds := []) #[false, false, false, false, false, false, false, false, false, false, false, false] zq13 rfl rfl trivial (fun hHeld => ?_); refine with_tabW rb_Begin.tab11 rb_Begin.bits11 (fun HT_ HW_ => ?_)
              generalize wr.drew = w26 at HO_3 BK851 BK853 HB hHeld ⊢
              refine pure_ (i := 0) (N := some 44) #[true, false, false, false, false, false, false, false, false, false, false, false] rfl rfl (any_of HT_.out zq13) (fun _ _ _ h => h) (Or.inl ⟨by rfl, zpv⟩) zpw ?_
              refine pure_ (i := 1) (N := some 45) #[true, true, false, false, false, false, false, false, false, false, false, false] rfl rfl (any_of HT_.out zq13) (fun _ _ _ h => h) (Or.inl ⟨by rfl, zpv⟩) zpw ?_
              refine pure_ (i := 2) (N := some 46) #[true, true, true, false, false, false, false, false, false, false, false, false] rfl rfl (any_of HT_.out zq13) (fun _ _ _ h => h) (Or.inl ⟨by rfl, zpv⟩) zpw ?_
              refine pure_ (i := 3) (N := some 47) #[true, true, true, true, false, false, false, false, false, false, false, false] rfl rfl (any_of HT_.out zq13) (fun _ _ _ h => h) (Or.inl ⟨by rfl, zpv⟩) zpw ?_
              refine pure_ (i := 4) (N := some 48) #[true, true, true, true, true, false, false, false, false, false, false, false] rfl rfl (any_of HT_.out zq13) (fun _ _ _ h => h) (Or.inl ⟨by rfl, zpv⟩) zpw ?_
              refine pure_ (i := 5) (N := some 49) (v := undef) (a' := ?_) #[true, true, true, true, true, true, false, false, false, false, false, false] rfl rfl (any_of HT_.out zq13) (fun _ _ _ h => h) (Or.inr ⟨by rfl, rfl⟩) ?_ ?_
              rotate_left
              ·
               simp only [Act.put, List.setIfInBounds_toArray, List.set_cons_zero, List.set_cons_succ, i64_w, i32_w]
               rfl
              refine pure_ (i := 6) (N := some 50) (v := undef) (a' := ?_) #[true, true, true, true, true, true, true, false, false, false, false, false] rfl rfl (any_of HT_.out zq13) (fun _ _ _ h => h) (Or.inr ⟨by rfl, rfl⟩) ?_ ?_
              rotate_left
              ·
               simp only [Act.put, List.setIfInBounds_toArray, List.set_cons_zero, List.set_cons_succ, i64_w, i32_w]
               rfl
              refine pure_ (i := 7) (N := some 51) (v := undef) (a' := ?_) #[true, true, true, true, true, true, true, true, false, false, false, false] rfl rfl (any_of HT_.out zq13) (fun _ _ _ h => h) (Or.inr ⟨by rfl, rfl⟩) ?_ ?_
              rotate_left
              ·
               simp only [Act.put, List.setIfInBounds_toArray, List.set_cons_zero, List.set_cons_succ, i64_w, i32_w]
               rfl
              refine pure_ (i := 8) (N := some 52) (v := undef) (a' := ?_) #[true, true, true, true, true, true, true, true, true, false, false, false] rfl rfl (any_of HT_.out zq13) (fun _ _ _ h => h) (Or.inr ⟨by rfl, rfl⟩) ?_ ?_
              rotate_left
              ·
               simp only [Act.put, List.setIfInBounds_toArray, List.set_cons_zero, List.set_cons_succ, i64_w, i32_w]
               rfl
              refine pure_ (i := 9) (N := some 53) (v := undef) (a' := ?_) #[true, true, true, true, true, true, true, true, true, true, false, false] rfl rfl (any_of HT_.out zq13) (fun _ _ _ h => h) (Or.inr ⟨by rfl, rfl⟩) ?_ ?_
              rotate_left
              ·
               simp only [Act.put, List.setIfInBounds_toArray, List.set_cons_zero, List.set_cons_succ, i64_w, i32_w]
               rfl
              refine pure_ (i := 10) (N := some 54) (v := undef) (a' := ?_) #[true, true, true, true, true, true, true, true, true, true, true, false] rfl rfl (any_of HT_.out zq13) (fun _ _ _ h => h) (Or.inr ⟨by rfl, rfl⟩) ?_ ?_
              rotate_left
              ·
               simp only [Act.put, List.setIfInBounds_toArray, List.set_cons_zero, List.set_cons_succ, i64_w, i32_w]
               rfl
              refine pure_ (i := 11) (N := some 55) #[true, true, true, true, true, true, true, true, true, true, true, true] rfl rfl (any_of HT_.out zq13) (fun _ _ _ h => h) (Or.inl ⟨by rfl, zpv⟩) zpw ?_
              refine done_ (done_of HT_.out zq13) ?_
              try go_wp2
              go_meet
              case rel => exact ⟨_, (x8_3), zq22, H', ⟨by have := HK1.out; have := HK2.out; have := HK3.out; first | omega | exact Nat.le_refl _⟩, ⟨zq67⟩, ⟨zq72⟩, ⟨zq73⟩, ⟨zq26⟩⟩
          case rest =>
           clear HC7
           obtain ⟨kq, x8_6, rfl, HA, HJ6, HO_3, BK851, BK853, HB⟩ := hcut
           cases kq with
           | zero => exact absurd HA.out (by simp [rb_Begin.j3])
           | succ kj6 =>
            have H := HA.out
            clear HA
            simp only [rb_Begin.j3] at H
            have HC28 := za H
            clear H
            go_upto_region 13 with (fail)
            go_cut [70] (fun v70 wc => ∃ (kq : Nat) (x70_27 : Bool), v70 = .bool x70_27 ∧ Aside0 (rb_Begin.j4 kq l0 x3_2 x4_1 x5_2 x8_6 x70_27 ((rd_T39 l0 x4_1).f0) ((rd_T64 ((rd_T39 l0 x4_1).f3) x5_2).f0) ((rd_T64 ((rd_T39 l0 x4_1).f3) x5_2).f2) = some r) ∧ Aside0 (kq ≤ kj6) ∧ Aside0 (Kd.R k61 61 wc w.heap.size (fun k_ => k_ ≠ gb853) u3 x3_2) ∧ Aside0 (wc.heap[gb851]? = some (.cells #[.string ((rd_T64 ((rd_T39 l0 x4_1).f3) x5_2).f0), .string ((rd_T64 ((rd_T39 l0 x4_1).f3) x5_2).f1), .int .i64 ((rd_T64 ((rd_T39 l0 x4_1).f3) x5_2).f2), .int .i64 ((rd_T64 ((rd_T39 l0 x4_1).f3) x5_2).f3)] 64 (0, 0))) ∧ Aside0 (wc.heap[gb853]? = some (.cells #[.string ((rd_T39 l0 x4_1).f0), .string ((rd_T64 ((rd_T39 l0 x4_1).f3) x5_2).f0), .int .i64 ((rd_T64 ((rd_T39 l0 x4_1).f3) x5_2).f2)] 61 (0, 0))) ∧ Aside0 (Below w.heap.size w wc))
            case first =>
             have H := HC28.out
             clear HC28
             by_cases c29 : x8_6 < (x3_2.length : Int)
             ·
              rw [if_pos c29] at H
              have c29b0 := decide_eq_true c29
              clear c29
              (first | rw [c29b0] | (simp only [i64_w, i32_w]; rw [c29b0]) | skip)
              by_cases c30 : 0 ≤ x8_6
              ·
               rw [if_pos c30] at H
               have c30b0 := decide_eq_true c30
               clear c30
               replace H := Option.bind_eq_some_iff.mp H
               obtain ⟨t857, A310, H⟩ := H
               (try dsimp only at H)
               have A31 := za A310
               clear A310
               have H' := za H
               clear H
               try go_wp2
               replace HO_3 := za (Kd.R_drew HO_3.out)
               replace BK851 := za (blk_drew BK851.out)
               replace BK853 := za (blk_drew BK853.out)
               replace HB := za (below_drew1 HB.out)
               obtain ⟨Ao33, co33, eo33⟩ := Kd.R_slice HO_3.out
               (first | subst eo33 | (injection eo33 with f1_ f2_ f3_; have f4_ := f1_.symm; have f5_ := f3_.symm; clear f1_ f2_ f3_; subst f4_; subst f5_))
               have p856 : 0 ≤ (x8_6 : Int) := of_decide_eq_true zq10
               have q856 : x8_6 < (x3_2.length : Int) := of_decide_eq_true zq10
               obtain ⟨ad856, e856, hx856_0, hx856_1, hx856_2⟩ := at_T61 (Kd.R_reads' HO_3.out).2.2 x8_6 p856 q856
               cases e856
               replace p856 := eq_true p856
               replace q856 := eq_true q856
               refine start_ (n := 13) (S := fun w' => w'.cell? ⟨gb853, 0, none⟩ = some (.string ((rd_T39 l0 x4_1).f0)) ∧ w'.cell? ⟨gb853, 1, none⟩ = some (.string ((rd_T64 ((rd_T39 l0 x4_1).f3) x5_2).f0)) ∧ w'.cell? ⟨gb853, 2, none⟩ = some (.int .i64 ((rd_T64 ((rd_T39 l0 x4_1).f3) x5_2).f2)) ∧ w'.cell? (ad856.add ((x8_6).toNat * 3)) = some (.string ((rd_T61 x3_2 x8_6).f0)) ∧ w'.cell? ⟨(ad856.add ((x8_6).toNat * 3)).block, (ad856.add ((x8_6).toNat * 3)).off + 1, none⟩ = some (.string ((rd_T61 x3_2 x8_6).f1)) ∧ w'.cell? ⟨(ad856.add ((x8_6).toNat * 3)).block, (ad856.add ((x8_6).toNat * 3)).off + 2, none⟩ = some (.int .i64 ((rd_T61 x3_2 x8_6).f2))) (ds := []) #[false, false, false, false, false, false, false, false, false, false, false, false, false] zq13 rfl rfl ⟨(blk_cell BK853.out 0).trans rfl, (blk_cell BK853.out 1).trans rfl, (blk_cell BK853.out 2).trans rfl, hx856_0, hx856_1, hx856_2⟩ (fun hHeld => ?_); refine with_tabW rb_Begin.tab13 rb_Begin.bits13 (fun HT_ HW_ => ?_)
               generalize wc.drew = w32 at HO_3 BK851 BK853 HB hx856_0 hx856_1 hx856_2 hHeld ⊢
               refine pure_ (i := 0) (N := some 58) #[true, false, false, false, false, false, false, false, false, false, false, false, false] rfl rfl (any_of HT_.out zq13) (fun _ _ _ h => h) (Or.inl ⟨by rfl, zpv⟩) zpw ?_
               refine pure_ (i := 1) (N := some 59) #[true, true, false, false, false, false, false, false, false, false, false, false, false] rfl rfl (any_of HT_.out zq13) (fun _ _ _ h => h) (Or.inl ⟨by rfl, zpv⟩) zpw ?_
               refine pure_ (i := 2) (N := some 60) #[true, true, true, false, false, false, false, false, false, false, false, false, false] rfl rfl (any_of HT_.out zq13) (fun _ _ _ h => h) (Or.inl ⟨by rfl, zpv⟩) zpw ?_
               refine pure_ (i := 3) (N := some 61) #[true, true, true, true, false, false, false, false, false, false, false, false, false] rfl rfl (any_of HT_.out zq13) (fun _ _ _ h => h) (Or.inl ⟨by rfl, zpv⟩) zpw ?_
               refine pure_ (i := 4) (N := some 62) #[true, true, true, true, true, false, false, false, false, false, false, false, false] rfl rfl (any_of HT_.out zq13) (fun _ _ _ h => h) (Or.inl ⟨by rfl, zpv⟩) zpw ?_
               refine pure_ (i := 6) (N := some 64) #[true, true, true, true, true, false, true, false, false, false, false, false, false] rfl rfl (any_of HT_.out zq13) (fun _ _ _ h => h) (Or.inl ⟨by rfl, zpv⟩) zpw ?_
               refine pure_ (i := 7) (N := some 65) #[true, true, true, true, true, false, true, true, false, false, false, false, false] rfl rfl (any_of HT_.out zq13) (fun _ _ _ h => h) (Or.inl ⟨by rfl, zpv⟩) zpw ?_
               refine pure_ (i := 8) (N := some 66) #[true, true, true, true, true, false, true, true, true, false, false, false, false] rfl rfl (any_of HT_.out zq13) (fun _ _ _ h => h) (Or.inl ⟨by rfl, zpv⟩) zpw ?_
               refine take_ (i := 5) (N := some 63) (v := ?_) (a' := ?_) #[true, true, true, true, true, true, true, true, true, false, false, false, false] rfl rfl (take_ofW HT_.out HW_.out zq13) (fun _ _ _ h => h) (Or.inl ⟨by rfl, ?_⟩) hHeld ?_ ?_
               rotate_left
               ·
                rintro w' ⟨s0, s1, s2, s3, s4, s5⟩
                go_simp
                with_reducible rfl
               rotate_left
               ·
                simp only [Act.put, List.setIfInBounds_toArray, List.set_cons_zero, List.set_cons_succ, i64_w, i32_w]
                rfl
               refine take_ (i := 9) (N := some 67) (v := ?_) (a' := ?_) #[true, true, true, true, true, true, true, true, true, true, false, false, false] rfl rfl (take_ofW HT_.out HW_.out zq13) (fun _ _ _ h => h) (Or.inl ⟨by rfl, ?_⟩) hHeld ?_ ?_
               rotate_left
               ·
                rintro w' ⟨s0, s1, s2, s3, s4, s5⟩
                go_simp
                with_reducible rfl
               rotate_left
               ·
                simp only [Act.put, List.setIfInBounds_toArray, List.set_cons_zero, List.set_cons_succ, i64_w, i32_w]
                rfl
               refine one_ (i := 10) (N := some 68) #[true, true, true, true, true, true, true, true, true, true, true, false, false] rfl rfl (one_of HT_.out zq13) (by decide) (fun K hK => ?_)
               refine goes_ Try.func25 zq13 rfl #[.agg #[.string ((rd_T39 l0 x4_1).f0), .string ((rd_T64 ((rd_T39 l0 x4_1).f3) x5_2).f0), .int .i64 ((rd_T64 ((rd_T39 l0 x4_1).f3) x5_2).f2)], .agg #[.string ((rd_T61 x3_2 x8_6).f0), .string ((rd_T61 x3_2 x8_6).f1), .int .i64 ((rd_T61 x3_2 x8_6).f2)]] (by rfl) rfl rfl zq2 ?_
               with_reducible refine (rb_before.calls ((rd_T39 l0 x4_1).f0) ((rd_T64 ((rd_T39 l0 x4_1).f3) x5_2).f0) ((rd_T64 ((rd_T39 l0 x4_1).f3) x5_2).f2) ((rd_T61 x3_2 x8_6).f0) ((rd_T61 x3_2 x8_6).f1) ((rd_T61 x3_2 x8_6).f2) t857 _ A31.out).mono ?_
               rintro e w34 ⟨rfl, hb⟩
               have HS3_ := (hb.cell (World.block_lt_of_cell? _ _ (hHeld.2.2.2.1))).trans (hHeld.2.2.2.1)
               have HS4_ := (hb.cell (World.block_lt_of_cell? _ _ (hHeld.2.2.2.2.1))).trans (hHeld.2.2.2.2.1)
               have HS5_ := (hb.cell (World.block_lt_of_cell? _ _ (hHeld.2.2.2.2.2))).trans (hHeld.2.2.2.2.2)
               refine ⟨_, rfl, ?_⟩
               replace HO_3 := za (Kd.R_below (zr HO_3.out) hb)
               replace BK851 := za (blk_below (g := gb851) (zb BK851.out) hb)
               replace BK853 := za (blk_below (g := gb853) (zb BK853.out) hb)
               replace HB := za (below_step zq26 hb)
               refine hK.out _ _ ⟨(blk_cell BK853.out 0).trans rfl, (blk_cell BK853.out 1).trans rfl, (blk_cell BK853.out 2).trans rfl, HS3_, HS4_, HS5_⟩ (fun hHeld => ?_)
               clear hK K
               refine norm_ (a' := ?_) ?_ ?_
               rotate_left
               ·
                show Act.put _ (some 68) _ = _
                simp only [Act.put, List.setIfInBounds_toArray, List.set_cons_zero, List.set_cons_succ, i64_w, i32_w]
                rfl
               refine pure_ (i := 11) (N := some 69) #[true, true, true, true, true, true, true, true, true, true, true, true, false] rfl rfl (any_of HT_.out zq13) (fun _ _ _ h => h) (Or.inl ⟨by rfl, zpv⟩) zpw ?_
               refine pure_ (i := 12) (N := some 70) #[true, true, true, true, true, true, true, true, true, true, true, true, true] rfl rfl (any_of HT_.out zq13) (fun _ _ _ h => h) (Or.inl ⟨by rfl, zpv⟩) zpw ?_
               refine done_ (done_of HT_.out zq13) ?_
               try go_wp2
               go_meet
               case rel => exact ⟨_, (!t857), zq22, H', ⟨by have := HK1.out; have := HK2.out; have := HJ6.out; first | omega | exact Nat.le_refl _⟩, ⟨zq67⟩, ⟨zq72⟩, ⟨zq73⟩, ⟨zq26⟩⟩
              ·
               rw [if_neg c30] at H
               exact absurd H (by simp)
             ·
              rw [if_neg c29] at H
              have c29b0 := decide_eq_false c29
              clear c29
              (first | rw [c29b0] | (simp only [i64_w, i32_w]; rw [c29b0]) | skip)
              have H' := za H
              clear H
              try go_wp2
              replace HO_3 := za (Kd.R_drew HO_3.out)
              replace BK851 := za (blk_drew BK851.out)
              replace BK853 := za (blk_drew BK853.out)
              replace HB := za (below_drew1 HB.out)
              obtain ⟨Ao36, co36, eo36⟩ := Kd.R_slice HO_3.out
              (first | subst eo36 | (injection eo36 with f1_ f2_ f3_; have f4_ := f1_.symm; have f5_ := f3_.symm; clear f1_ f2_ f3_; subst f4_; subst f5_))
              refine start_ (n := 13) (S := fun w' => True) (ds := []) #[false, false, false, false, false, false, false, false, false, false, false, false, false] zq13 rfl rfl trivial (fun hHeld => ?_); refine with_tabW rb_Begin.tab13 rb_Begin.bits13 (fun HT_ HW_ => ?_)
              generalize wc.drew = w35 at HO_3 BK851 BK853 HB hHeld ⊢
              refine pure_ (i := 0) (N := some 58) #[true, false, false, false, false, false, false, false, false, false, false, false, false] rfl rfl (any_of HT_.out zq13) (fun _ _ _ h => h) (Or.inl ⟨by rfl, zpv⟩) zpw ?_
              refine pure_ (i := 1) (N := some 59) #[true, true, false, false, false, false, false, false, false, false, false, false, false] rfl rfl (any_of HT_.out zq13) (fun _ _ _ h => h) (Or.inl ⟨by rfl, zpv⟩) zpw ?_
              refine pure_ (i := 2) (N := some 60) #[true, true, true, false, false, false, false, false, false, false, false, false, false] rfl rfl (any_of HT_.out zq13) (fun _ _ _ h => h) (Or.inl ⟨by rfl, zpv⟩) zpw ?_
              refine pure_ (i := 3) (N := some 61) #[true, true, true, true, false, false, false, false, false, false, false, false, false] rfl rfl (any_of HT_.out zq13) (fun _ _ _ h => h) (Or.inl ⟨by rfl, zpv⟩) zpw ?_
              refine pure_ (i := 4) (N := some 62) #[true, true, true, true, true, false, false, false, false, false, false, false, false] rfl rfl (any_of HT_.out zq13) (fun _ _ _ h => h) (Or.inl ⟨by rfl, zpv⟩) zpw ?_
              refine pure_ (i := 5) (N := some 63) (v := undef) (a' := ?_) #[true, true, true, true, true, true, false, false, false, false, false, false, false] rfl rfl (any_of HT_.out zq13) (fun _ _ _ h => h) (Or.inr ⟨by rfl, rfl⟩) ?_ ?_
              rotate_left
              ·
               simp only [Act.put, List.setIfInBounds_toArray, List.set_cons_zero, List.set_cons_succ, i64_w, i32_w]
               rfl
              refine pure_ (i := 6) (N := some 64) (v := undef) (a' := ?_) #[true, true, true, true, true, true, true, false, false, false, false, false, false] rfl rfl (any_of HT_.out zq13) (fun _ _ _ h => h) (Or.inr ⟨by rfl, rfl⟩) ?_ ?_
              rotate_left
              ·
               simp only [Act.put, List.setIfInBounds_toArray, List.set_cons_zero, List.set_cons_succ, i64_w, i32_w]
               rfl
              refine pure_ (i := 7) (N := some 65) (v := undef) (a' := ?_) #[true, true, true, true, true, true, true, true, false, false, false, false, false] rfl rfl (any_of HT_.out zq13) (fun _ _ _ h => h) (Or.inr ⟨by rfl, rfl⟩) ?_ ?_
              rotate_left
              ·
               simp only [Act.put, List.setIfInBounds_toArray, List.set_cons_zero, List.set_cons_succ, i64_w, i32_w]
               rfl
              refine pure_ (i := 8) (N := some 66) (v := undef) (a' := ?_) #[true, true, true, true, true, true, true, true, true, false, false, false, false] rfl rfl (any_of HT_.out zq13) (fun _ _ _ h => h) (Or.inr ⟨by rfl, rfl⟩) ?_ ?_
              rotate_left
              ·
               simp only [Act.put, List.setIfInBounds_toArray, List.set_cons_zero, List.set_cons_succ, i64_w, i32_w]
               rfl
              refine pure_ (i := 9) (N := some 67) (v := undef) (a' := ?_) #[true, true, true, true, true, true, true, true, true, true, false, false, false] rfl rfl (any_of HT_.out zq13) (fun _ _ _ h => h) (Or.inr ⟨by rfl, rfl⟩) ?_ ?_
              rotate_left
              ·
               simp only [Act.put, List.setIfInBounds_toArray, List.set_cons_zero, List.set_cons_succ, i64_w, i32_w]
               rfl
              refine pure_ (i := 10) (N := some 68) (v := undef) (a' := ?_) #[true, true, true, true, true, true, true, true, true, true, true, false, false] rfl rfl (any_of HT_.out zq13) (fun _ _ _ h => h) (Or.inr ⟨by rfl, rfl⟩) ?_ ?_
              rotate_left
              ·
               simp only [Act.put, List.setIfInBounds_toArray, List.set_cons_zero, List.set_cons_succ, i64_w, i32_w]
               rfl
              refine pure_ (i := 11) (N := some 69) (v := undef) (a' := ?_) #[true, true, true, true, true, true, true, true, true, true, true, true, false] rfl rfl (any_of HT_.out zq13) (fun _ _ _ h => h) (Or.inr ⟨by rfl, rfl⟩) ?_ ?_
              rotate_left
              ·
               simp only [Act.put, List.setIfInBounds_toArray, List.set_cons_zero, List.set_cons_succ, i64_w, i32_w]
               rfl
              refine pure_ (i := 12) (N := some 70) #[true, true, true, true, true, true, true, true, true, true, true, true, true] rfl rfl (any_of HT_.out zq13) (fun _ _ _ h => h) (Or.inl ⟨by rfl, zpv⟩) zpw ?_
              refine done_ (done_of HT_.out zq13) ?_
              try go_wp2
              go_meet
              case rel => exact ⟨_, (false), zq22, H', ⟨by have := HK1.out; have := HK2.out; have := HJ6.out; first | omega | exact Nat.le_refl _⟩, ⟨zq67⟩, ⟨zq72⟩, ⟨zq73⟩, ⟨zq26⟩⟩
            case rest =>
             clear HC28
             obtain ⟨kq, x70_27, rfl, HA, HJ27, HO_3, BK851, BK853, HB⟩ := hcut
             cases kq with
             | zero => exact absurd HA.out (by simp [rb_Begin.j4])
             | succ kj27 =>
              have H := HA.out
              clear HA
              simp only [rb_Begin.j4] at H
              by_cases c37 : x70_27 = true
              ·
               subst c37
               rw [if_pos rfl] at H
               exact absurd H (by simp)
              ·
               replace c37 := Bool.eq_false_iff.mpr c37
               subst c37
               rw [if_neg (show ¬ (false = true) by decide)] at H
               by_cases c38 : x3_2.length < 3518437208883
               ·
                rw [if_pos c38] at H
                have LMc38 := za c38
                clear c38
                obtain ⟨y858, hy858⟩ : ∃ y_ : List (S61), y_ = (x3_2 ++ [(⟨(⟨#[]⟩ : ByteArray), (⟨#[]⟩ : ByteArray), 0⟩ : S61)]) := ⟨_, rfl⟩
                replace H : (rb_Begin.l3 kj27 l0 y858 x4_1 x5_2 x8_6 (wrap64 ((y858.length : Int) - 1)) ((rd_T39 l0 x4_1).f0) ((rd_T64 ((rd_T39 l0 x4_1).f3) x5_2).f0) ((rd_T64 ((rd_T39 l0 x4_1).f3) x5_2).f2)) = some r := by first | (rw [hy858]; with_reducible exact H) | (have H2_ := (Option.bind_some _ _).symm.trans H; rw [hy858]; with_reducible exact H2_) | (have H2_ := (Option.bind_some _ _).symm.trans H; with_reducible exact H2_) | with_reducible exact H | (rw [hy858]; exact H) | exact H
                have Ny858 := za hy858
                clear hy858
                have H' := za H
                clear H
                go_wp2_with (first | ((with_reducible refine gate_builtin (b := .append) (xs := #[.tmp 71, .tmp 73]) rfl ?_); at_builtin; refine Kd.R_append k61 (w0 := w) w.heap.size rfl (.tmp 71) (.tmp 73) 24 61 (.agg #[(.string ⟨#[]⟩), (.string ⟨#[]⟩), (.int .i64 0)]) 40 rfl Try.underlying24 info61 rfl (by decide) (by omega) u3 x3_2 (⟨(⟨#[]⟩ : ByteArray), (⟨#[]⟩ : ByteArray), 0⟩ : S61) [.string (⟨#[]⟩ : ByteArray), .string (⟨#[]⟩ : ByteArray), .int .i64 0] (fun k_ => k_ ≠ gb853) (fun _ => False) rfl rfl ?aP (fun _ hk => hk.elim) ?aF ?aO ?aB ?aS ?aL ?_; (case aP => exact k61_mkM _ _ _ (⟨(⟨#[]⟩ : ByteArray), (⟨#[]⟩ : ByteArray), 0⟩ : S61)); (case aB => exact zq26); (case aF => exact (fun k_ hk => Kd.freshB (g := gb853) (zb BK853.out) k_ hk)); (case aO => exact (zr HO_3.out)); (case aS => exact (below_size zq26)); (case aL => have := LMc38.out; omega); intro v859 w39 ho hb hg hat; rw [← Ny858.out] at ho; replace BK851 := za (blk_grown (g := gb851) (zb BK851.out) hg (Kd.R_ne HO_3.out BK851.out (by decide))); replace BK853 := za (blk_grown (g := gb853) (zb BK853.out) hg (Kd.R_away HO_3.out (fun _ hk => hk))); replace HB := za (hb); have HO860 := za (ho); clear HO_3; clear ho hb hg hat; obtain ⟨Ao40, co40, eo40⟩ := Kd.R_slice HO860.out; subst eo40))
                go_loopg [9] kj27 (fun kq v9 w' => ∃ (x3_5 : List (S61)) (x9_5 : Int) (x854000_5 : ByteArray) (x854001_5 : ByteArray) (x854002_5 : Int), v9 = .int .i64 x9_5 ∧ Aside0 (rb_Begin.l3 kq l0 x3_5 x4_1 x5_2 x8_6 x9_5 x854000_5 x854001_5 x854002_5 = some r) ∧ Aside0 (kq ≤ kj27) ∧ Aside0 (Kd.R k61 61 w' w.heap.size (fun k_ => k_ ≠ gb853) (.slice Ao40 y858.length co40) x3_5) ∧ Aside0 (w'.heap[gb851]? = some (.cells #[.string ((rd_T64 ((rd_T39 l0 x4_1).f3) x5_2).f0), .string ((rd_T64 ((rd_T39 l0 x4_1).f3) x5_2).f1), .int .i64 ((rd_T64 ((rd_T39 l0 x4_1).f3) x5_2).f2), .int .i64 ((rd_T64 ((rd_T39 l0 x4_1).f3) x5_2).f3)] 64 (0, 0))) ∧ Aside0 (w'.heap[gb853]? = some (.cells #[.string x854000_5, .string x854001_5, .int .i64 x854002_5] 61 (0, 0))) ∧ Aside0 (Below w.heap.size w w'))
                case atStart => exact ⟨(y858), (wrap64 ((y858.length : Int) - 1)), (((rd_T39 l0 x4_1).f0)), (((rd_T64 ((rd_T39 l0 x4_1).f3) x5_2).f0)), (((rd_T64 ((rd_T39 l0 x4_1).f3) x5_2).f2)), zq22, H', ⟨Nat.le_refl _⟩, ⟨by (with_reducible repeat (first | apply Kd.R_alloc | apply Kd.R_drewN | apply Kd.R_drew)); exact HO860.out⟩, ⟨zq72⟩, ⟨zq73⟩, ⟨zq26⟩⟩
                case round =>
                 clear H'
                 obtain ⟨x3_5, x9_5, x854000_5, x854001_5, x854002_5, rfl, HA, HK5, HO_3, BK851, BK853, HB⟩ := hrel
                 have hl3_5 := (Kd.R_reads' HO_3.out).1
                 rw [hl3_5] at HO_3
                 (try simp only [hl3_5])
                 (try simp only [hl3_5] at BK851)
                 (try simp only [hl3_5] at BK853)
                 cases gk with
                 | zero => exact absurd HA.out (by simp [rb_Begin.l3])
                 | succ k5 =>
                  have H := HA.out
                  clear HA
                  simp only [rb_Begin.l3] at H
                  by_cases c41 : x9_5 > x8_6
                  ·
                   rw [if_pos c41] at H
                   exact absurd H (by simp)
                  ·
                   rw [if_neg c41] at H
                   have c41b0 : decide (x8_6 < x9_5) = false := decide_eq_false c41
                   clear c41
                   by_cases c42 : 0 ≤ x8_6
                   ·
                    rw [if_pos c42] at H
                    have c42b0 := decide_eq_true c42
                    clear c42
                    by_cases c43 : x8_6 < (x3_5.length : Int)
                    ·
                     rw [if_pos c43] at H
                     have c43b0 := decide_eq_true c43
                     clear c43
                     obtain ⟨y861, hy861⟩ : ∃ y_ : List (S61), y_ = (x3_5.set (x8_6 : Int).toNat (⟨x854000_5, x854001_5, x854002_5⟩ : S61)) := ⟨_, rfl⟩
                     replace H : (rb_Begin.l1 k5 l0 y861 x4_1 (wrap64 (x5_2 + 1))) = some r := by first | (rw [hy861]; with_reducible exact H) | (have H2_ := (Option.bind_some _ _).symm.trans H; rw [hy861]; with_reducible exact H2_) | (have H2_ := (Option.bind_some _ _).symm.trans H; with_reducible exact H2_) | with_reducible exact H | (rw [hy861]; exact H) | exact H
                     have Ny861 := za hy861
                     clear hy861
                     have H' := za H
                     clear H
                     have hnb45 := NB853_851.out
                     have hnc45 := NB851_853.out
                     obtain ⟨hcz46_0, hcz46_1, hcz46_2⟩ := zc3 BK853.out
                     obtain ⟨hfz46_0, hfz46_1, hfz46_2⟩ := zf3 BK853.out
                     have p44 : 0 ≤ (x8_6 : Int) := of_decide_eq_true zq10
                     have q44 : (x8_6 : Int) < ((x3_5.length : Int) : Int) := of_decide_eq_true zq10
                     obtain ⟨go44, co44, eo44, gb44, gl44, cl44, HG44⟩ := Kd.R_form HO_3.out (by omega)
                     (first | cases eo44 | (injection eo44 with ea_ en_ ec_; (first | subst ea_ | (injection ea_ with ea_; subst ea_)); subst ec_; clear en_))
                     have GB44 := za gb44
                     have GG44 := za HG44
                     clear gb44 gl44 HG44
                     obtain ⟨ce44, hcl44, hM44, hcc44, hfr44⟩ := Kd.R_elem HO_3.out z61 (x8_6 : Int) p44 q44
                     obtain rfl := k61_openM hM44
                     have hx44_0 : wr.cell? ⟨go44, (x8_6 : Int).toNat * 3, none⟩ = some (.string ((rd_T61 x3_5 x8_6).f0)) := hcc44 0 _ rfl
                     have hx44_1 : wr.cell? ⟨go44, (x8_6 : Int).toNat * 3 + 1, none⟩ = some (.string ((rd_T61 x3_5 x8_6).f1)) := hcc44 1 _ rfl
                     have hx44_2 : wr.cell? ⟨go44, (x8_6 : Int).toNat * 3 + 2, none⟩ = some (.int .i64 ((rd_T61 x3_5 x8_6).f2)) := hcc44 2 _ rfl
                     have hf44_0 : wr.frozen? ⟨go44, (x8_6 : Int).toNat * 3, none⟩ = false := hfr44 0
                     have hf44_1 : wr.frozen? ⟨go44, (x8_6 : Int).toNat * 3 + 1, none⟩ = false := hfr44 1
                     have hf44_2 : wr.frozen? ⟨go44, (x8_6 : Int).toNat * 3 + 2, none⟩ = false := hfr44 2
                     clear hcl44 hcc44 hfr44 hM44
                     replace p44 := eq_true p44
                     replace q44 := eq_true q44
                     have HX47 := za (show Kd.R k61 61 wr w.heap.size (fun k_ => k_ ≠ gb853) (.slice (some ⟨go44, 0, none⟩) x3_5.length co40) x3_5 from (zr HO_3.out))
                     obtain ⟨ce47, hcl47, hM47, hcc47, hfr47⟩ := Kd.R_elem HX47.out z61 (x8_6 : Int) (of_decide_eq_true zq10) (by have h_ : (x8_6 : Int) < ((x3_5.length : Int) : Int) := of_decide_eq_true zq10; first | exact h_ | (have e_ := (Kd.R_reads' HO_3.out).1; omega) | simpa using h_)
                     obtain rfl := k61_openM hM47
                     have HP47 := Kd.R_seg HX47.out (x8_6 : Int) (of_decide_eq_true zq10) (by have h_ : (x8_6 : Int) < ((x3_5.length : Int) : Int) := of_decide_eq_true zq10; first | exact h_ | (have e_ := (Kd.R_reads' HO_3.out).1; omega) | simpa using h_) (seg := [.string x854000_5, .string x854001_5, .int .i64 x854002_5]) (j := 0) hcl47 hcc47 (show 3 ≤ 3 from by decide) (x' := (⟨x854000_5, x854001_5, x854002_5⟩ : S61)) (k61_mkM _ _ _ (⟨x854000_5, x854001_5, x854002_5⟩ : S61) ) (fun _ hk => hk)
                     have hx47_0 := hcc47 0 _ rfl
                     (try simp only [show (k61).sz = 3 from rfl, Nat.mul_one, Nat.add_zero] at hx47_0)
                     have hf47_0 := hfr47 0
                     (try simp only [show (k61).sz = 3 from rfl, Nat.mul_one, Nat.add_zero] at hf47_0)
                     have hx47_1 := hcc47 1 _ rfl
                     (try simp only [show (k61).sz = 3 from rfl, Nat.mul_one, Nat.add_zero] at hx47_1)
                     have hf47_1 := hfr47 1
                     (try simp only [show (k61).sz = 3 from rfl, Nat.mul_one, Nat.add_zero] at hf47_1)
                     have hx47_2 := hcc47 2 _ rfl
                     (try simp only [show (k61).sz = 3 from rfl, Nat.mul_one, Nat.add_zero] at hx47_2)
                     have hf47_2 := hfr47 2
                     (try simp only [show (k61).sz = 3 from rfl, Nat.mul_one, Nat.add_zero] at hf47_2)
                     clear hcl47 hcc47 hfr47 hM47
                     go_wp2_with (first | ((with_reducible refine gate_store (t := 61) (p := 94) rfl ?_); refine store_event (t := 61) (p := 94) (v := ?vo_w48) (w1 := (((wr.setCell ⟨go44, (x8_6 : Int).toNat * 3, none⟩ (.string x854000_5)).setCell ⟨go44, (x8_6 : Int).toNat * 3 + 1, none⟩ (.string x854001_5)).setCell ⟨go44, (x8_6 : Int).toNat * 3 + 2, none⟩ (.int .i64 x854002_5))) ?hg ?ho ?hn ?hr ?_; (case ho => rfl); (case hg => rfl); (case hn => rfl); (case hr => exact zq19); intro w48 hw; have hg : wr.grownBy w48 (some go44) := (by rw [hw]; exact HP47.2); have hp_ : Kd.R k61 61 w48 w.heap.size (fun k_ => k_ ≠ gb853) (.slice (some ⟨go44, 0, none⟩) x3_5.length co40) y861 := (by rw [hw, Ny861.out]; exact HP47.1); clear HP47; replace BK851 := za (blk_grown (g := gb851) (zb BK851.out) hg (Kd.R_ne HO_3.out BK851.out (by decide))); replace BK853 := za (blk_grown (g := gb853) (zb BK853.out) hg (Kd.R_away HO_3.out (fun _ hk => hk))); replace HO_3 := za (hp_); replace HB := za ((by rw [hw]; exact below_set (below_set (below_set (HB.out) GB44.out) GB44.out) GB44.out : Below w.heap.size w w48)); clear hg hw hp_))
                     (try simp only [← hl3_5])
                     go_roundg k5
                     case measure => have := HK1.out; have := HK2.out; have := HJ6.out; have := HJ27.out; have := HK5.out; omega
                     case rel => exact ⟨(y861), (wrap64 (x5_2 + 1)), zq22, H', ⟨by have := HK1.out; have := HK2.out; have := HJ6.out; have := HJ27.out; have := HK5.out; omega⟩, ⟨by (try simp only [hl3_5]); (with_reducible repeat (first | apply Kd.R_alloc | apply Kd.R_drewN | apply Kd.R_drew)); exact Kd.R_mono HO_3.out (fun _ hk => trivial)⟩, ⟨zq26⟩⟩
                    ·
                     rw [if_neg c43] at H
                     exact absurd H (by simp)
                   ·
                    rw [if_neg c42] at H
                    exact absurd H (by simp)
               ·
                rw [if_neg c38] at H
                exact absurd H (by simp)
         ·
          rw [if_neg c6] at H
          exact absurd H (by simp)
        ·
         rw [if_neg c5] at H
         have c5b0 := decide_eq_false c5
         clear c5
         have H' := za H
         clear H
         have p848 : 0 ≤ (x4_1 : Int) := of_decide_eq_true zq10
         have q848 : x4_1 < (l0.length : Int) := of_decide_eq_true zq10
         obtain ⟨ad848, A848_2, c848_2, A848_3, c848_3, A848_4, c848_4, e848, hx848_0, hx848_1, hx848_2, hx848_3, hx848_4, hl848_2, hi848_2, hl848_3, hi848_3, hl848_4, hi848_4⟩ := at_T39 HR0.out x4_1 p848 q848
         cases e848
         replace hx848_0 := (HB.out.cell (World.block_lt_of_cell? w _ hx848_0)).trans hx848_0
         replace hx848_1 := (HB.out.cell (World.block_lt_of_cell? w _ hx848_1)).trans hx848_1
         replace hx848_2 := (HB.out.cell (World.block_lt_of_cell? w _ hx848_2)).trans hx848_2
         replace hx848_3 := (HB.out.cell (World.block_lt_of_cell? w _ hx848_3)).trans hx848_3
         replace hx848_4 := (HB.out.cell (World.block_lt_of_cell? w _ hx848_4)).trans hx848_4
         have HR848_2 := za hi848_2
         have HC848_2 := za hl848_2
         clear hi848_2 hl848_2
         have HR848_3 := za hi848_3
         have HC848_3 := za hl848_3
         clear hi848_3 hl848_3
         have HR848_4 := za hi848_4
         have HC848_4 := za hl848_4
         clear hi848_4 hl848_4
         replace p848 := eq_true p848
         replace q848 := eq_true q848
         go_wp2
         go_roundg k2
         case measure => have := HK1.out; have := HK2.out; omega
         case rel => exact ⟨(x3_2), (wrap64 (x4_1 + 1)), zq22, H', ⟨by have := HK1.out; have := HK2.out; omega⟩, ⟨zq67⟩, ⟨zq3⟩⟩
       ·
        rw [if_neg c4] at H
        exact absurd H (by simp)
      ·
       rw [if_neg c3] at H
       exact absurd H (by simp)
   ·
    rw [if_neg c2] at H
    have c2b0 := decide_eq_false c2
    clear c2
    obtain rfl := Option.some.inj H
    go_wp2
    go_ret
    exact ⟨_, zq16, zq67, zq3⟩
end Go.Proofs.Ytcjnhnnfoadklaa.QRunBranches
