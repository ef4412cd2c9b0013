import Derived.Test.YtcjnhnnfoadklaaZRCx16
namespace Go.Proofs.Ytcjnhnnfoadklaa.QRunCounts
open Go.RowKit Go.Proofs.YtcjnhnnfoadklaaW.PrintWords Go.Proofs.YtcjnhnnfoadklaaW.PrintLast Go.Proofs.YtcjnhnnfoadklaaW.PrintMore
attribute [local go_sem] max2_int min2_int max_two min_two max_three min_three max_four min_four
set_option linter.unusedVariables false
set_option linter.unusedSimpArgs false
mutual
def rb_Begin.l0 : Nat → List (S39) → List (S61) → Int → Option ((List (S61)))
 | 0, _, _, _ => none
 | k + 1, x0, x3, x4 => if x4 < (x0.length : Int) then (rb_Begin.l1 k x0 x3 x4 0) else (some x3)
def rb_Begin.l1 : Nat → List (S39) → List (S61) → Int → Int → Option ((List (S61)))
 | 0, _, _, _, _ => none
 | k + 1, x0, x3, x4, x5 => if 0 ≤ x4 then (if x4 < (x0.length : Int) then (if x5 < (((rd_T39 x0 x4).f3).length : Int) then (if 0 ≤ x5 then (rb_Begin.l2 k x0 x3 x4 x5 0 ((rd_T39 x0 x4).f0) ((rd_T64 ((rd_T39 x0 x4).f3) x5).f0) ((rd_T64 ((rd_T39 x0 x4).f3) x5).f2)) else (none)) else (rb_Begin.l0 k x0 x3 (wrap64 (x4 + 1)))) else (none)) else (none)
def rb_Begin.j3 : Nat → List (S39) → List (S61) → Int → Int → Int → ByteArray → ByteArray → Int → Option ((List (S61)))
 | 0, _, _, _, _, _, _, _, _ => none
 | k + 1, x0, x3, x4, x5, x8, x832000, x832001, x832002 => if x8 < (x3.length : Int) then (if 0 ≤ x8 then ((rb_before.f x832000 x832001 x832002 ((rd_T61 x3 x8).f0) ((rd_T61 x3 x8).f1) ((rd_T61 x3 x8).f2)).bind fun t835 => (rb_Begin.j4 k x0 x3 x4 x5 x8 (!t835) x832000 x832001 x832002)) else (none)) else (rb_Begin.j4 k x0 x3 x4 x5 x8 false x832000 x832001 x832002)
def rb_Begin.j4 : Nat → List (S39) → List (S61) → Int → Int → Int → Bool → ByteArray → ByteArray → Int → Option ((List (S61)))
 | 0, _, _, _, _, _, _, _, _, _ => none
 | k + 1, x0, x3, x4, x5, x8, x70, x832000, x832001, x832002 => if x70 = true then (rb_Begin.l1 k x0 x3 x4 (wrap64 (x5 + 1))) else (if x3.length < 3518437208883 then ((some (x3 ++ [(⟨(⟨#[]⟩ : ByteArray), (⟨#[]⟩ : ByteArray), 0⟩ : S61)] : List (S61))).bind fun y836 => (rb_Begin.l3 k x0 y836 x4 x5 x8 (wrap64 ((y836.length : Int) - 1)) x832000 x832001 x832002)) else (none))
def rb_Begin.l3 : Nat → List (S39) → List (S61) → Int → Int → Int → Int → ByteArray → ByteArray → Int → Option ((List (S61)))
 | 0, _, _, _, _, _, _, _, _, _ => none
 | k + 1, x0, x3, x4, x5, x8, x9, x832000, x832001, x832002 => if x9 > x8 then (if 0 ≤ (wrap64 (x9 - 1)) then (if (wrap64 (x9 - 1)) < (x3.length : Int) then (if 0 ≤ x9 then (if x9 < (x3.length : Int) then (rb_Begin.l3 k x0 (x3.set (x9 : Int).toNat (⟨(rd_T61 x3 (wrap64 (x9 - 1))).f0, (rd_T61 x3 (wrap64 (x9 - 1))).f1, (rd_T61 x3 (wrap64 (x9 - 1))).f2⟩ : S61)) x4 x5 x8 (wrap64 (x9 - 1)) x832000 x832001 x832002) else (none)) else (none)) else (none)) else (none)) else (if 0 ≤ x8 then (if x8 < (x3.length : Int) then (rb_Begin.l1 k x0 (x3.set (x8 : Int).toNat (⟨x832000, x832001, x832002⟩ : S61)) x4 (wrap64 (x5 + 1))) else (none)) else (none))
def rb_Begin.l2 : Nat → List (S39) → List (S61) → Int → Int → Int → ByteArray → ByteArray → Int → Option ((List (S61)))
 | 0, _, _, _, _, _, _, _, _ => none
 | k + 1, x0, x3, x4, x5, x8, x832000, x832001, x832002 => if x8 < (x3.length : Int) then (if 0 ≤ x8 then ((rb_before.f ((rd_T61 x3 x8).f0) ((rd_T61 x3 x8).f1) ((rd_T61 x3 x8).f2) x832000 x832001 x832002).bind fun t833 => (if t833 = true then (rb_Begin.l2 k x0 x3 x4 x5 (wrap64 (x8 + 1)) x832000 x832001 x832002) else (rb_Begin.j3 k x0 x3 x4 x5 x8 x832000 x832001 x832002))) else (none)) else (rb_Begin.j3 k x0 x3 x4 x5 x8 x832000 x832001 x832002)
end
def rb_Begin.f (k : Nat) (l0 : List (S39)) : Option ((List (S61))) := rb_Begin.l0 k l0 ([] : List (S61)) 0
theorem rb_Begin.mono_l : ∀ k, (∀ y0 y1 y2, LeO (rb_Begin.l0 k y0 y1 y2) (rb_Begin.l0 (k + 1) y0 y1 y2)) ∧ (∀ y0 y1 y2 y3, LeO (rb_Begin.l1 k y0 y1 y2 y3) (rb_Begin.l1 (k + 1) y0 y1 y2 y3)) ∧ (∀ y0 y1 y2 y3 y4 y5 y6 y7, LeO (rb_Begin.j3 k y0 y1 y2 y3 y4 y5 y6 y7) (rb_Begin.j3 (k + 1) y0 y1 y2 y3 y4 y5 y6 y7)) ∧ (∀ y0 y1 y2 y3 y4 y5 y6 y7 y8, LeO (rb_Begin.j4 k y0 y1 y2 y3 y4 y5 y6 y7 y8) (rb_Begin.j4 (k + 1) y0 y1 y2 y3 y4 y5 y6 y7 y8)) ∧ (∀ y0 y1 y2 y3 y4 y5 y6 y7 y8, LeO (rb_Begin.l3 k y0 y1 y2 y3 y4 y5 y6 y7 y8) (rb_Begin.l3 (k + 1) y0 y1 y2 y3 y4 y5 y6 y7 y8)) ∧ (∀ y0 y1 y2 y3 y4 y5 y6 y7, LeO (rb_Begin.l2 k y0 y1 y2 y3 y4 y5 y6 y7) (rb_Begin.l2 (k + 1) y0 y1 y2 y3 y4 y5 y6 y7))
 | 0 => ⟨fun _ _ _ r h => by simp [rb_Begin.l0] at h, fun _ _ _ _ r h => by simp [rb_Begin.l1] at h, fun _ _ _ _ _ _ _ _ r h => by simp [rb_Begin.j3] at h, fun _ _ _ _ _ _ _ _ _ r h => by simp [rb_Begin.j4] at h, fun _ _ _ _ _ _ _ _ _ r h => by simp [rb_Begin.l3] at h, fun _ _ _ _ _ _ _ _ r h => by simp [rb_Begin.l2] at h⟩
 | k + 1 => by
  obtain ⟨ih0, ih1, ih2, ih3, ih4, ih5⟩ := rb_Begin.mono_l k
  refine ⟨?_, ?_, ?_, ?_, ?_, ?_⟩
  ·
   intro y0 y1 y2
   unfold rb_Begin.l0
   repeat' with_reducible first | apply ih0 | apply ih1 | apply ih2 | apply ih3 | apply ih4 | apply ih5 | exact LeO.refl _ | exact LeO.none _ | refine LeO.ite ?_ ?_ | refine LeO.bind ?_ (fun _ => ?_)
  ·
   intro y0 y1 y2 y3
   unfold rb_Begin.l1
   repeat' with_reducible first | apply ih0 | apply ih1 | apply ih2 | apply ih3 | apply ih4 | apply ih5 | exact LeO.refl _ | exact LeO.none _ | refine LeO.ite ?_ ?_ | refine LeO.bind ?_ (fun _ => ?_)
  ·
   intro y0 y1 y2 y3 y4 y5 y6 y7
   unfold rb_Begin.j3
   repeat' with_reducible first | apply ih0 | apply ih1 | apply ih2 | apply ih3 | apply ih4 | apply ih5 | exact LeO.refl _ | exact LeO.none _ | refine LeO.ite ?_ ?_ | refine LeO.bind ?_ (fun _ => ?_)
  ·
   intro y0 y1 y2 y3 y4 y5 y6 y7 y8
   unfold rb_Begin.j4
   repeat' with_reducible first | apply ih0 | apply ih1 | apply ih2 | apply ih3 | apply ih4 | apply ih5 | exact LeO.refl _ | exact LeO.none _ | refine LeO.ite ?_ ?_ | refine LeO.bind ?_ (fun _ => ?_)
  ·
   intro y0 y1 y2 y3 y4 y5 y6 y7 y8
   unfold rb_Begin.l3
   repeat' with_reducible first | apply ih0 | apply ih1 | apply ih2 | apply ih3 | apply ih4 | apply ih5 | exact LeO.refl _ | exact LeO.none _ | refine LeO.ite ?_ ?_ | refine LeO.bind ?_ (fun _ => ?_)
  ·
   intro y0 y1 y2 y3 y4 y5 y6 y7
   unfold rb_Begin.l2
   repeat' with_reducible first | apply ih0 | apply ih1 | apply ih2 | apply ih3 | apply ih4 | apply ih5 | exact LeO.refl _ | exact LeO.none _ | refine LeO.ite ?_ ?_ | refine LeO.bind ?_ (fun _ => ?_)
theorem rb_Begin.mono : ∀ a0 k, LeO (rb_Begin.f k a0) (rb_Begin.f (k + 1) a0) := by
 intro a0 k
 obtain ⟨ih0, ih1, ih2, ih3, ih4, ih5⟩ := rb_Begin.mono_l k
 unfold rb_Begin.f
 repeat' with_reducible first | apply ih0 | apply ih1 | apply ih2 | apply ih3 | apply ih4 | apply ih5 | exact LeO.refl _ | exact LeO.none _ | refine LeO.ite ?_ ?_ | refine LeO.bind ?_ (fun _ => ?_)
def rb_Begin.T9 : Bool × List (List Nat × List Nat) := (true, [([], []), ([], []), ([0, 1], [0, 1]), ([2], [2]), ([3], [3]), ([], []), ([5], [5]), ([], []), ([7], [7]), ([4, 6, 8], [4, 6, 8]), ([], []), ([10, 9, 0, 1, 2, 3, 4, 5, 6, 7, 8, 9, 10], [9, 10])])
def rb_Begin.B9 : List Nat := [0, 0, 3, 7, 15, 0, 32, 0, 128, 511, 0, 2047]
theorem rb_Begin.tab9 : rtab .any (opsOf Try.f13 9) = rb_Begin.T9 := by kernel_rfl
theorem rb_Begin.bits9 : waitsOk rb_Begin.T9.2 rb_Begin.B9 = true := by kernel_rfl
def rb_Begin.T11 : Bool × List (List Nat × List Nat) := (true, [([], []), ([], []), ([1], [1]), ([0, 2], [0, 2]), ([3], [3]), ([4], [4]), ([4], [4]), ([5, 6, 4], [4, 5, 6]), ([7, 4], [4, 7]), ([4], [4]), ([8, 9, 4, 4], [4, 8, 9]), ([4, 10], [4, 10])])
def rb_Begin.B11 : List Nat := [0, 0, 2, 7, 15, 31, 31, 127, 255, 31, 1023, 2047]
theorem rb_Begin.tab11 : rtab .any (opsOf Try.f13 11) = rb_Begin.T11 := by kernel_rfl
theorem rb_Begin.bits11 : waitsOk rb_Begin.T11.2 rb_Begin.B11 = true := by kernel_rfl
def rb_Begin.T13 : Bool × List (List Nat × List Nat) := (true, [([], []), ([], []), ([1], [1]), ([0, 2], [0, 2]), ([3], [3]), ([4], [4]), ([4], [4]), ([4], [4]), ([6, 7, 4], [4, 6, 7]), ([8, 4], [4, 8]), ([5, 9, 4, 4], [4, 5, 9]), ([10, 4], [4, 10]), ([4, 11], [4, 11])])
def rb_Begin.B13 : List Nat := [0, 0, 2, 7, 15, 31, 31, 31, 223, 479, 1023, 2047, 4095]
theorem rb_Begin.tab13 : rtab .any (opsOf Try.f13 13) = rb_Begin.T13 := by kernel_rfl
theorem rb_Begin.bits13 : waitsOk rb_Begin.T13.2 rb_Begin.B13 = true := by kernel_rfl
set_option maxHeartbeats 8000000 in
set_option maxRecDepth 100000 in
theorem rb_Begin.calls (k : Nat) (A0 : Option Addr) (c0 : Nat) (l0 : List (S39)) (r : List (S61)) (w : World) (hr0 : Kd.C k39 w A0 l0.length l0) (hc0 : l0.length ≤ c0) (h : rb_Begin.f k l0 = some r) :
  Calls Try.prog 13 #[.slice A0 l0.length c0] w fun e w' => ∃ v0_ : Value, e = .returned (v0_) ∧ Kd.R k61 61 w' w.heap.size (fun _ => True) v0_ r ∧ Below w.heap.size w w' := by
 have hu64 := Try.underlying64
 have hu61 := Try.underlying61
 have HR0 := za hr0
 have HC0 := za hc0
 clear hr0 hc0
 have HB := za (Below.refl w.heap.size w)
 have H : (rb_Begin.l0 k l0 ([] : List (S61)) 0) = some r := h
 clear h
 have H' := za H
 clear H
 go_enter Try.func13, Try.ntmps13
 go_wp2
 go_loopg [3, 4] k (fun kq v3 v4 w' => ∃ (x3_1 : List (S61)) (x4_1 : Int), v4 = .int .i64 x4_1 ∧ Aside0 (rb_Begin.l0 kq l0 x3_1 x4_1 = some r) ∧ Aside0 (kq ≤ k) ∧ Aside0 (Kd.R k61 61 w' w.heap.size (fun _ => True) v3 x3_1) ∧ Aside0 (Below w.heap.size w w'))
 case atStart => exact ⟨(([] : List (S61))), (0), zq16, H', ⟨Nat.le_refl _⟩, ⟨zq29⟩, ⟨zq2⟩⟩
 case round =>
  clear H'
  obtain ⟨x3_1, x4_1, rfl, HA, HK1, HO_3, HB⟩ := hrel
  cases gk with
  | zero => exact absurd HA.out (by simp [rb_Begin.l0])
  | succ k1 =>
   have H := HA.out
   clear HA
   simp only [rb_Begin.l0] at H
   by_cases c2 : x4_1 < (l0.length : Int)
   ·
    rw [if_pos c2] at H
    have c2b0 := decide_eq_true c2
    clear c2
    have H' := za H
    clear H
    go_wp2
    go_loopg [3, 5] k1 (fun kq v3 v5 w' => ∃ (x3_2 : List (S61)) (x5_2 : Int), v5 = .int .i64 x5_2 ∧ Aside0 (rb_Begin.l1 kq l0 x3_2 x4_1 x5_2 = some r) ∧ Aside0 (kq ≤ k1) ∧ Aside0 (Kd.R k61 61 w' w.heap.size (fun _ => True) v3 x3_2) ∧ Aside0 (Below w.heap.size w w'))
    case atStart => exact ⟨(x3_1), (0), zq16, H', ⟨Nat.le_refl _⟩, ⟨zq55⟩, ⟨zq2⟩⟩
    case round =>
     clear H'
     obtain ⟨x3_2, x5_2, rfl, HA, HK2, HO_3, HB⟩ := hrel
     cases gk with
     | zero => exact absurd HA.out (by simp [rb_Begin.l1])
     | succ k2 =>
      have H := HA.out
      clear HA
      simp only [rb_Begin.l1] at H
      by_cases c3 : 0 ≤ x4_1
      ·
       rw [if_pos c3] at H
       have c3b0 := decide_eq_true c3
       clear c3
       by_cases c4 : x4_1 < (l0.length : Int)
       ·
        rw [if_pos c4] at H
        have c4b0 := decide_eq_true c4
        clear c4
        by_cases c5 : x5_2 < (((rd_T39 l0 x4_1).f3).length : Int)
        ·
         rw [if_pos c5] at H
         have c5b0 := decide_eq_true c5
         clear c5
         by_cases c6 : 0 ≤ x5_2
         ·
          rw [if_pos c6] at H
          have c6b0 := decide_eq_true c6
          clear c6
          have HC7 := za H
          clear H
          have p826 : 0 ≤ (x4_1 : Int) := of_decide_eq_true zq6
          have q826 : x4_1 < (l0.length : Int) := of_decide_eq_true zq6
          obtain ⟨ad826, A826_2, c826_2, A826_3, c826_3, A826_4, c826_4, e826, hx826_0, hx826_1, hx826_2, hx826_3, hx826_4, hl826_2, hi826_2, hl826_3, hi826_3, hl826_4, hi826_4⟩ := at_T39 HR0.out x4_1 p826 q826
          cases e826
          replace hx826_0 := (HB.out.cell (World.block_lt_of_cell? w _ hx826_0)).trans hx826_0
          replace hx826_1 := (HB.out.cell (World.block_lt_of_cell? w _ hx826_1)).trans hx826_1
          replace hx826_2 := (HB.out.cell (World.block_lt_of_cell? w _ hx826_2)).trans hx826_2
          replace hx826_3 := (HB.out.cell (World.block_lt_of_cell? w _ hx826_3)).trans hx826_3
          replace hx826_4 := (HB.out.cell (World.block_lt_of_cell? w _ hx826_4)).trans hx826_4
          have HR826_2 := za hi826_2
          have HC826_2 := za hl826_2
          clear hi826_2 hl826_2
          have HR826_3 := za hi826_3
          have HC826_3 := za hl826_3
          clear hi826_3 hl826_3
          have HR826_4 := za hi826_4
          have HC826_4 := za hl826_4
          clear hi826_4 hl826_4
          replace p826 := eq_true p826
          replace q826 := eq_true q826
          have p827 : 0 ≤ (x4_1 : Int) := of_decide_eq_true zq6
          have q827 : x4_1 < (l0.length : Int) := of_decide_eq_true zq6
          obtain ⟨ad827, A827_2, c827_2, A827_3, c827_3, A827_4, c827_4, e827, hx827_0, hx827_1, hx827_2, hx827_3, hx827_4, hl827_2, hi827_2, hl827_3, hi827_3, hl827_4, hi827_4⟩ := at_T39 HR0.out x4_1 p827 q827
          obtain rfl : ad826 = ad827 := (by injection e827)
          replace hx827_0 := (HB.out.cell (World.block_lt_of_cell? w _ hx827_0)).trans hx827_0
          replace hx827_1 := (HB.out.cell (World.block_lt_of_cell? w _ hx827_1)).trans hx827_1
          replace hx827_2 := (HB.out.cell (World.block_lt_of_cell? w _ hx827_2)).trans hx827_2
          replace hx827_3 := (HB.out.cell (World.block_lt_of_cell? w _ hx827_3)).trans hx827_3
          replace hx827_4 := (HB.out.cell (World.block_lt_of_cell? w _ hx827_4)).trans hx827_4
          have HR827_2 := za hi827_2
          have HC827_2 := za hl827_2
          clear hi827_2 hl827_2
          have HR827_3 := za hi827_3
          have HC827_3 := za hl827_3
          clear hi827_3 hl827_3
          have HR827_4 := za hi827_4
          have HC827_4 := za hl827_4
          clear hi827_4 hl827_4
          replace p827 := eq_true p827
          replace q827 := eq_true q827
          have ea_ := Option.some.inj (hx826_2.symm.trans hx827_2)
          injection ea_ with ea_ en_ ec_
          subst ea_
          subst ec_
          clear en_
          have ea_ := Option.some.inj (hx826_3.symm.trans hx827_3)
          injection ea_ with ea_ en_ ec_
          subst ea_
          subst ec_
          clear en_
          have ea_ := Option.some.inj (hx826_4.symm.trans hx827_4)
          injection ea_ with ea_ en_ ec_
          subst ea_
          subst ec_
          clear en_
          have p828 : 0 ≤ (x5_2 : Int) := of_decide_eq_true zq6
          have q828 : x5_2 < (((rd_T39 l0 x4_1).f3).length : Int) := of_decide_eq_true zq6
          obtain ⟨ad828, e828, hx828_0, hx828_1, hx828_2, hx828_3⟩ := at_T64 HR827_3.out x5_2 p828 q828
          cases e828
          replace hx828_0 := (HB.out.cell (World.block_lt_of_cell? w _ hx828_0)).trans hx828_0
          replace hx828_1 := (HB.out.cell (World.block_lt_of_cell? w _ hx828_1)).trans hx828_1
          replace hx828_2 := (HB.out.cell (World.block_lt_of_cell? w _ hx828_2)).trans hx828_2
          replace hx828_3 := (HB.out.cell (World.block_lt_of_cell? w _ hx828_3)).trans hx828_3
          replace p828 := eq_true p828
          replace q828 := eq_true q828
          try go_wp2_with (first | ((with_reducible refine gate_dst (N := 6) rfl ?_); refine box_event ?hg (N := 6) ?hd (cs := #[.string (⟨#[]⟩ : ByteArray), .string (⟨#[]⟩ : ByteArray), .int .i64 0, .int .i64 0]) (t := 64) ?hr ?_; (case hd => rfl); (case hg => rfl); (case hr => exact zq17); intro gb829 hg w8 hbox hb; replace HO_3 := za (Kd.R_below (zr HO_3.out) hb); have BK829 := za (hbox); have GW829 := za ((by rw [hg]; exact (below_size zq2) : w.heap.size ≤ gb829)); have GE829 := za ((by rw [hg]; exact (below_size zq2) : w.heap.size ≤ gb829)); replace HB := za (below_step zq2 hb); clear hb hbox hg; obtain ⟨hcz9_0, hcz9_1, hcz9_2, hcz9_3⟩ := zc4 BK829.out; obtain ⟨hfz9_0, hfz9_1, hfz9_2⟩ := zf3 BK829.out; have hfz9_3 := blk_frozen BK829.out 3))
          have n0_ : Aside0 (Kd.R k61 61 ((((w8.setCell ⟨gb829, 0, none⟩ (.string ((rd_T64 ((rd_T39 l0 x4_1).f3) x5_2).f0))).setCell ⟨gb829, 1, none⟩ (.string ((rd_T64 ((rd_T39 l0 x4_1).f3) x5_2).f1))).setCell ⟨gb829, 2, none⟩ (.int .i64 ((rd_T64 ((rd_T39 l0 x4_1).f3) x5_2).f2))).setCell ⟨gb829, 3, none⟩ (.int .i64 ((rd_T64 ((rd_T39 l0 x4_1).f3) x5_2).f3))) w.heap.size (fun _ => True) u3 x3_2) := ⟨by (with_reducible repeat (first | apply Kd.R_alloc | apply Kd.R_drewN | apply Kd.R_drew)); exact Kd.R_mono (Kd.R_far (p := ⟨gb829, 3, none⟩) (Kd.R_far (p := ⟨gb829, 2, none⟩) (Kd.R_far (p := ⟨gb829, 1, none⟩) (Kd.R_far (p := ⟨gb829, 0, none⟩) (Kd.R_types HO_3.out BK829.out (by decide)) (fun _ hk => hk.2) (.string ((rd_T64 ((rd_T39 l0 x4_1).f3) x5_2).f0))) (fun _ hk => hk.2) (.string ((rd_T64 ((rd_T39 l0 x4_1).f3) x5_2).f1))) (fun _ hk => hk.2) (.int .i64 ((rd_T64 ((rd_T39 l0 x4_1).f3) x5_2).f2))) (fun _ hk => hk.2) (.int .i64 ((rd_T64 ((rd_T39 l0 x4_1).f3) x5_2).f3))) (fun _ hk => trivial)⟩
          have n1_ : Aside0 (((((w8.setCell ⟨gb829, 0, none⟩ (.string ((rd_T64 ((rd_T39 l0 x4_1).f3) x5_2).f0))).setCell ⟨gb829, 1, none⟩ (.string ((rd_T64 ((rd_T39 l0 x4_1).f3) x5_2).f1))).setCell ⟨gb829, 2, none⟩ (.int .i64 ((rd_T64 ((rd_T39 l0 x4_1).f3) x5_2).f2))).setCell ⟨gb829, 3, none⟩ (.int .i64 ((rd_T64 ((rd_T39 l0 x4_1).f3) x5_2).f3))).heap[gb829]? = some (.cells #[.string ((rd_T64 ((rd_T39 l0 x4_1).f3) x5_2).f0), .string ((rd_T64 ((rd_T39 l0 x4_1).f3) x5_2).f1), .int .i64 ((rd_T64 ((rd_T39 l0 x4_1).f3) x5_2).f2), .int .i64 ((rd_T64 ((rd_T39 l0 x4_1).f3) x5_2).f3)] 64 (0, 0))) := ⟨by (with_reducible repeat (first | refine blk_drewN ?_ _ | refine blk_drew ?_ | refine blk_alloc ?_ _)); refine blk_put (cs := #[.string ((rd_T64 ((rd_T39 l0 x4_1).f3) x5_2).f0), .string ((rd_T64 ((rd_T39 l0 x4_1).f3) x5_2).f1), .int .i64 ((rd_T64 ((rd_T39 l0 x4_1).f3) x5_2).f2), .int .i64 0]) ?_ 3 _ rfl; (with_reducible repeat (first | refine blk_drewN ?_ _ | refine blk_drew ?_ | refine blk_alloc ?_ _)); refine blk_put (cs := #[.string ((rd_T64 ((rd_T39 l0 x4_1).f3) x5_2).f0), .string ((rd_T64 ((rd_T39 l0 x4_1).f3) x5_2).f1), .int .i64 0, .int .i64 0]) ?_ 2 _ rfl; (with_reducible repeat (first | refine blk_drewN ?_ _ | refine blk_drew ?_ | refine blk_alloc ?_ _)); refine blk_put (cs := #[.string ((rd_T64 ((rd_T39 l0 x4_1).f3) x5_2).f0), .string (⟨#[]⟩ : ByteArray), .int .i64 0, .int .i64 0]) ?_ 1 _ rfl; (with_reducible repeat (first | refine blk_drewN ?_ _ | refine blk_drew ?_ | refine blk_alloc ?_ _)); refine blk_put (cs := #[.string (⟨#[]⟩ : ByteArray), .string (⟨#[]⟩ : ByteArray), .int .i64 0, .int .i64 0]) ?_ 0 _ rfl; (with_reducible repeat (first | refine blk_drewN ?_ _ | refine blk_drew ?_ | refine blk_alloc ?_ _)); exact BK829.out⟩
          have n2_ : Aside0 (Below w.heap.size w ((((w8.setCell ⟨gb829, 0, none⟩ (.string ((rd_T64 ((rd_T39 l0 x4_1).f3) x5_2).f0))).setCell ⟨gb829, 1, none⟩ (.string ((rd_T64 ((rd_T39 l0 x4_1).f3) x5_2).f1))).setCell ⟨gb829, 2, none⟩ (.int .i64 ((rd_T64 ((rd_T39 l0 x4_1).f3) x5_2).f2))).setCell ⟨gb829, 3, none⟩ (.int .i64 ((rd_T64 ((rd_T39 l0 x4_1).f3) x5_2).f3)))) := ⟨zq65⟩
          generalize ((((w8.setCell ⟨gb829, 0, none⟩ (.string ((rd_T64 ((rd_T39 l0 x4_1).f3) x5_2).f0))).setCell ⟨gb829, 1, none⟩ (.string ((rd_T64 ((rd_T39 l0 x4_1).f3) x5_2).f1))).setCell ⟨gb829, 2, none⟩ (.int .i64 ((rd_T64 ((rd_T39 l0 x4_1).f3) x5_2).f2))).setCell ⟨gb829, 3, none⟩ (.int .i64 ((rd_T64 ((rd_T39 l0 x4_1).f3) x5_2).f3))) = w10 at n0_ n1_ n2_ ⊢
          have HO_3 := n0_
          have BK829 := n1_
          have HB := n2_
          clear n0_ n1_ n2_
          replace HO_3 := za (Kd.R_drew HO_3.out)
          replace BK829 := za (blk_drew BK829.out)
          replace HB := za (below_drew1 HB.out)
          have p830 : 0 ≤ (x4_1 : Int) := of_decide_eq_true zq6
          have q830 : x4_1 < (l0.length : Int) := of_decide_eq_true zq6
          obtain ⟨ad830, A830_2, c830_2, A830_3, c830_3, A830_4, c830_4, e830, hx830_0, hx830_1, hx830_2, hx830_3, hx830_4, hl830_2, hi830_2, hl830_3, hi830_3, hl830_4, hi830_4⟩ := at_T39 HR0.out x4_1 p830 q830
          have hw830_4 := hx830_4
          have hw830_3 := hx830_3
          have hw830_2 := hx830_2
          have hw830_1 := hx830_1
          have hw830_0 := hx830_0
          obtain rfl : ad826 = ad830 := (by injection e830)
          replace hx830_0 := (HB.out.cell (World.block_lt_of_cell? w _ hx830_0)).trans hx830_0
          replace hx830_1 := (HB.out.cell (World.block_lt_of_cell? w _ hx830_1)).trans hx830_1
          replace hx830_2 := (HB.out.cell (World.block_lt_of_cell? w _ hx830_2)).trans hx830_2
          replace hx830_3 := (HB.out.cell (World.block_lt_of_cell? w _ hx830_3)).trans hx830_3
          replace hx830_4 := (HB.out.cell (World.block_lt_of_cell? w _ hx830_4)).trans hx830_4
          have HR830_2 := za hi830_2
          have HC830_2 := za hl830_2
          clear hi830_2 hl830_2
          have HR830_3 := za hi830_3
          have HC830_3 := za hl830_3
          clear hi830_3 hl830_3
          have HR830_4 := za hi830_4
          have HC830_4 := za hl830_4
          clear hi830_4 hl830_4
          replace p830 := eq_true p830
          replace q830 := eq_true q830
          refine start_ (n := 12) (S := fun w' => w'.cell? ⟨gb829, 0, none⟩ = some (.string ((rd_T64 ((rd_T39 l0 x4_1).f3) x5_2).f0)) ∧ w'.cell? ⟨gb829, 1, none⟩ = some (.string ((rd_T64 ((rd_T39 l0 x4_1).f3) x5_2).f1)) ∧ w'.cell? ⟨gb829, 2, none⟩ = some (.int .i64 ((rd_T64 ((rd_T39 l0 x4_1).f3) x5_2).f2)) ∧ w'.cell? ⟨gb829, 3, none⟩ = some (.int .i64 ((rd_T64 ((rd_T39 l0 x4_1).f3) x5_2).f3)) ∧ w'.cell? (ad826.add ((x4_1).toNat * 5)) = some (.string ((rd_T39 l0 x4_1).f0)) ∧ w'.cell? ⟨(ad826.add ((x4_1).toNat * 5)).block, (ad826.add ((x4_1).toNat * 5)).off + 1, none⟩ = some (.int .i64 ((rd_T39 l0 x4_1).f1)) ∧ w'.cell? ⟨(ad826.add ((x4_1).toNat * 5)).block, (ad826.add ((x4_1).toNat * 5)).off + 2, none⟩ = some (.slice A830_2 ((rd_T39 l0 x4_1).f2).length c830_2) ∧ w'.cell? ⟨(ad826.add ((x4_1).toNat * 5)).block, (ad826.add ((x4_1).toNat * 5)).off + 3, none⟩ = some (.slice A830_3 ((rd_T39 l0 x4_1).f3).length c830_3) ∧ w'.cell? ⟨(ad826.add ((x4_1).toNat * 5)).block, (ad826.add ((x4_1).toNat * 5)).off + 4, none⟩ = some (.slice A830_4 ((rd_T39 l0 x4_1).f4).length c830_4)) (ds := []) #[false, false, false, false, false, false, false, false, false, false, false, false] zq12 rfl rfl ⟨(blk_cell BK829.out 0).trans rfl, (blk_cell BK829.out 1).trans rfl, (blk_cell BK829.out 2).trans rfl, (blk_cell BK829.out 3).trans rfl, ((HB.out.cell (World.block_lt_of_cell? w _ hw830_0)).trans hw830_0), ((HB.out.cell (World.block_lt_of_cell? w _ hw830_1)).trans hw830_1), ((HB.out.cell (World.block_lt_of_cell? w _ hw830_2)).trans hw830_2), ((HB.out.cell (World.block_lt_of_cell? w _ hw830_3)).trans hw830_3), ((HB.out.cell (World.block_lt_of_cell? w _ hw830_4)).trans hw830_4)⟩ (fun hHeld => ?_); refine with_tabW rb_Begin.tab9 rb_Begin.bits9 (fun HT_ HW_ => ?_)
          generalize w10.drew = w11 at HO_3 BK829 HB HR830_2 HR830_3 HR830_4 hx830_0 hx830_1 hx830_2 hx830_3 hx830_4 hHeld ⊢
          refine pure_ (i := 0) (N := some 34) #[true, false, false, false, false, false, false, false, false, false, false, false] rfl rfl (any_of HT_.out zq12) (fun _ _ _ h => h) (Or.inl ⟨by rfl, zpv⟩) zpw ?_
          refine pure_ (i := 1) (N := some 35) #[true, true, false, false, false, false, false, false, false, false, false, false] rfl rfl (any_of HT_.out zq12) (fun _ _ _ h => h) (Or.inl ⟨by rfl, zpv⟩) zpw ?_
          refine pure_ (i := 2) (N := some 36) #[true, true, true, false, false, false, false, false, false, false, false, false] rfl rfl (any_of HT_.out zq12) (fun _ _ _ h => h) (Or.inl ⟨by rfl, zpv⟩) zpw ?_
          refine pure_ (i := 3) (N := some 37) #[true, true, true, true, false, false, false, false, false, false, false, false] rfl rfl (any_of HT_.out zq12) (fun _ _ _ h => h) (Or.inl ⟨by rfl, zpv⟩) zpw ?_
          refine pure_ (i := 5) (N := some 39) #[true, true, true, true, false, true, false, false, false, false, false, false] rfl rfl (any_of HT_.out zq12) (fun _ _ _ h => h) (Or.inl ⟨by rfl, zpv⟩) zpw ?_
          refine pure_ (i := 7) (N := some 41) #[true, true, true, true, false, true, false, true, false, false, false, false] rfl rfl (any_of HT_.out zq12) (fun _ _ _ h => h) (Or.inl ⟨by rfl, zpv⟩) zpw ?_
          refine take_ (i := 4) (N := some 38) (v := ?_) (a' := ?_) #[true, true, true, true, true, true, false, true, false, false, false, false] rfl rfl (take_ofW HT_.out HW_.out zq12) (fun _ _ _ h => h) (Or.inl ⟨by rfl, ?_⟩) hHeld ?_ ?_
          rotate_left
          ·
           rintro w' ⟨s0, s1, s2, s3, s4, s5, s6, s7, s8⟩
           go_simp
           with_reducible rfl
          rotate_left
          ·
           simp only [Act.put, List.setIfInBounds_toArray, List.set_cons_zero, List.set_cons_succ, i64_w, i32_w]
           rfl
          refine take_ (i := 6) (N := some 40) (v := ?_) (a' := ?_) #[true, true, true, true, true, true, true, true, false, false, false, false] rfl rfl (take_ofW HT_.out HW_.out zq12) (fun _ _ _ h => h) (Or.inl ⟨by rfl, ?_⟩) hHeld ?_ ?_
          rotate_left
          ·
           rintro w' ⟨s0, s1, s2, s3, s4, s5, s6, s7, s8⟩
           go_simp
           with_reducible rfl
          rotate_left
          ·
           simp only [Act.put, List.setIfInBounds_toArray, List.set_cons_zero, List.set_cons_succ, i64_w, i32_w]
           rfl
          refine take_ (i := 8) (N := some 42) (v := ?_) (a' := ?_) #[true, true, true, true, true, true, true, true, true, false, false, false] rfl rfl (take_ofW HT_.out HW_.out zq12) (fun _ _ _ h => h) (Or.inl ⟨by rfl, ?_⟩) hHeld ?_ ?_
          rotate_left
          ·
           rintro w' ⟨s0, s1, s2, s3, s4, s5, s6, s7, s8⟩
           go_simp
           with_reducible rfl
          rotate_left
          ·
           simp only [Act.put, List.setIfInBounds_toArray, List.set_cons_zero, List.set_cons_succ, i64_w, i32_w]
           rfl
          refine pure_ (i := 9) (N := some 43) #[true, true, true, true, true, true, true, true, true, true, false, false] rfl rfl (any_of HT_.out zq12) (fun _ _ _ h => h) (Or.inl ⟨by rfl, zpv⟩) zpw ?_
          refine one_ (i := 10) (N := some 7) #[true, true, true, true, true, true, true, true, true, true, true, false] rfl rfl (one_of HT_.out zq12) (by decide) (fun K hK => ?_)
          refine box_step ?hg (N := 7) ?hd (cs := #[.string (⟨#[]⟩ : ByteArray), .string (⟨#[]⟩ : ByteArray), .int .i64 0]) (t := 61) ?hr ?_; (case hd => rfl); (case hg => rfl); (case hr => exact zq17)
          intro gb831 hg w12 hbox hb
          replace HO_3 := za (Kd.R_below (Kd.R_elderB (zr HO_3.out) gb831 (Nat.le_of_eq hg.symm)) hb)
          have BK831 := za (hbox)
          have GW831 := za ((by rw [hg]; exact (below_size zq65) : w.heap.size ≤ gb831))
          have GE831 := za ((by rw [hg]; exact (below_size zq65) : w.heap.size ≤ gb831))
          replace HB := za (below_step zq65 hb)
          have NB829_831 := za ((by rw [hg]; exact Nat.ne_of_lt (blk_lt (g := gb829) (zb BK829.out)) : gb829 ≠ gb831))
          have NB831_829 := za ((by rw [hg]; exact Nat.ne_of_gt (blk_lt (g := gb829) (zb BK829.out)) : gb831 ≠ gb829))
          replace BK829 := za (blk_below (g := gb829) (zb BK829.out) hb)
          clear hb hbox hg
          refine hK.out _ _ ⟨(blk_cell BK829.out 0).trans rfl, (blk_cell BK829.out 1).trans rfl, (blk_cell BK829.out 2).trans rfl, (blk_cell BK829.out 3).trans rfl, ((HB.out.cell (World.block_lt_of_cell? w _ hw830_0)).trans hw830_0), ((HB.out.cell (World.block_lt_of_cell? w _ hw830_1)).trans hw830_1), ((HB.out.cell (World.block_lt_of_cell? w _ hw830_2)).trans hw830_2), ((HB.out.cell (World.block_lt_of_cell? w _ hw830_3)).trans hw830_3), ((HB.out.cell (World.block_lt_of_cell? w _ hw830_4)).trans hw830_4)⟩ (fun hHeld => ?_)
          clear hK K
          refine norm_ (a' := ?_) ?_ ?_
          rotate_left
          ·
           show Act.put _ (some 7) _ = _
           simp only [Act.put, List.setIfInBounds_toArray, List.set_cons_zero, List.set_cons_succ, i64_w, i32_w]
           rfl
          refine one_ (i := 11) (N := none) #[true, true, true, true, true, true, true, true, true, true, true, true] rfl rfl (one_of HT_.out zq12) (by decide) (fun K hK => ?_)
          have hs13 : w12.cell? ⟨gb831, 0, none⟩ = some (.string (⟨#[]⟩ : ByteArray)) := (blk_cell BK831.out 0).trans rfl
          have hfs13 := blk_frozen BK831.out 0
          have hns13_0 := NB829_831.out
          have hms13_0 := NB831_829.out
          have hs14 : w12.cell? ⟨gb831, 1, none⟩ = some (.string (⟨#[]⟩ : ByteArray)) := (blk_cell BK831.out 1).trans rfl
          have hfs14 := blk_frozen BK831.out 1
          have hns14_0 := NB829_831.out
          have hms14_0 := NB831_829.out
          have hs15 : w12.cell? ⟨gb831, 2, none⟩ = some (.int .i64 0) := (blk_cell BK831.out 2).trans rfl
          have hfs15 := blk_frozen BK831.out 2
          have hns15_0 := NB829_831.out
          have hms15_0 := NB831_829.out
          refine skip_ (w1 := ?_) (by rfl) rfl ?_ ?_
          rotate_left
          ·
           go_simp
           rfl
          refine hK.out _ _ ⟨((cell_far (p := ⟨gb831, _, none⟩) NB829_831.out _).trans (((cell_far (p := ⟨gb831, _, none⟩) NB829_831.out _).trans (((cell_far (p := ⟨gb831, _, none⟩) NB829_831.out _).trans (hHeld.1)))))), ((cell_far (p := ⟨gb831, _, none⟩) NB829_831.out _).trans (((cell_far (p := ⟨gb831, _, none⟩) NB829_831.out _).trans (((cell_far (p := ⟨gb831, _, none⟩) NB829_831.out _).trans (hHeld.2.1)))))), ((cell_far (p := ⟨gb831, _, none⟩) NB829_831.out _).trans (((cell_far (p := ⟨gb831, _, none⟩) NB829_831.out _).trans (((cell_far (p := ⟨gb831, _, none⟩) NB829_831.out _).trans (hHeld.2.2.1)))))), ((cell_far (p := ⟨gb831, _, none⟩) NB829_831.out _).trans (((cell_far (p := ⟨gb831, _, none⟩) NB829_831.out _).trans (((cell_far (p := ⟨gb831, _, none⟩) NB829_831.out _).trans (hHeld.2.2.2.1)))))), ((cell_far (p := ⟨gb831, _, none⟩) (by first | exact Nat.ne_of_lt (Nat.lt_of_lt_of_le (by have := World.block_lt_of_cell? _ _ hw830_0; first | rwa [add_block] at this | exact this | (rw [add_block] at this; exact Nat.lt_of_lt_of_le this HW0.out)) GW831.out) | (rw [add_block]; exact Nat.ne_of_lt (Nat.lt_of_lt_of_le (by have := World.block_lt_of_cell? _ _ hw830_0; first | rwa [add_block] at this | exact this | (rw [add_block] at this; exact Nat.lt_of_lt_of_le this HW0.out)) GW831.out)) | (show (Addr.add _ _).block ≠ _; rw [add_block]; exact Nat.ne_of_lt (Nat.lt_of_lt_of_le (by have := World.block_lt_of_cell? _ _ hw830_0; first | rwa [add_block] at this | exact this | (rw [add_block] at this; exact Nat.lt_of_lt_of_le this HW0.out)) GW831.out)) | (dsimp only; exact Nat.ne_of_lt (Nat.lt_of_lt_of_le (by have := World.block_lt_of_cell? _ _ hw830_0; first | rwa [add_block] at this | exact this | (rw [add_block] at this; exact Nat.lt_of_lt_of_le this HW0.out)) GW831.out))) _).trans (((cell_far (p := ⟨gb831, _, none⟩) (by first | exact Nat.ne_of_lt (Nat.lt_of_lt_of_le (by have := World.block_lt_of_cell? _ _ hw830_0; first | rwa [add_block] at this | exact this | (rw [add_block] at this; exact Nat.lt_of_lt_of_le this HW0.out)) GW831.out) | (rw [add_block]; exact Nat.ne_of_lt (Nat.lt_of_lt_of_le (by have := World.block_lt_of_cell? _ _ hw830_0; first | rwa [add_block] at this | exact this | (rw [add_block] at this; exact Nat.lt_of_lt_of_le this HW0.out)) GW831.out)) | (show (Addr.add _ _).block ≠ _; rw [add_block]; exact Nat.ne_of_lt (Nat.lt_of_lt_of_le (by have := World.block_lt_of_cell? _ _ hw830_0; first | rwa [add_block] at this | exact this | (rw [add_block] at this; exact Nat.lt_of_lt_of_le this HW0.out)) GW831.out)) | (dsimp only; exact Nat.ne_of_lt (Nat.lt_of_lt_of_le (by have := World.block_lt_of_cell? _ _ hw830_0; first | rwa [add_block] at this | exact this | (rw [add_block] at this; exact Nat.lt_of_lt_of_le this HW0.out)) GW831.out))) _).trans (((cell_far (p := ⟨gb831, _, none⟩) (by first | exact Nat.ne_of_lt (Nat.lt_of_lt_of_le (by have := World.block_lt_of_cell? _ _ hw830_0; first | rwa [add_block] at this | exact this | (rw [add_block] at this; exact Nat.lt_of_lt_of_le this HW0.out)) GW831.out) | (rw [add_block]; exact Nat.ne_of_lt (Nat.lt_of_lt_of_le (by have := World.block_lt_of_cell? _ _ hw830_0; first | rwa [add_block] at this | exact this | (rw [add_block] at this; exact Nat.lt_of_lt_of_le this HW0.out)) GW831.out)) | (show (Addr.add _ _).block ≠ _; rw [add_block]; exact Nat.ne_of_lt (Nat.lt_of_lt_of_le (by have := World.block_lt_of_cell? _ _ hw830_0; first | rwa [add_block] at this | exact this | (rw [add_block] at this; exact Nat.lt_of_lt_of_le this HW0.out)) GW831.out)) | (dsimp only; exact Nat.ne_of_lt (Nat.lt_of_lt_of_le (by have := World.block_lt_of_cell? _ _ hw830_0; first | rwa [add_block] at this | exact this | (rw [add_block] at this; exact Nat.lt_of_lt_of_le this HW0.out)) GW831.out))) _).trans (hHeld.2.2.2.2.1)))))), ((cell_far (p := ⟨gb831, _, none⟩) (by first | exact Nat.ne_of_lt (Nat.lt_of_lt_of_le (by have := World.block_lt_of_cell? _ _ hw830_1; first | rwa [add_block] at this | exact this | (rw [add_block] at this; exact Nat.lt_of_lt_of_le this HW0.out)) GW831.out) | (rw [add_block]; exact Nat.ne_of_lt (Nat.lt_of_lt_of_le (by have := World.block_lt_of_cell? _ _ hw830_1; first | rwa [add_block] at this | exact this | (rw [add_block] at this; exact Nat.lt_of_lt_of_le this HW0.out)) GW831.out)) | (show (Addr.add _ _).block ≠ _; rw [add_block]; exact Nat.ne_of_lt (Nat.lt_of_lt_of_le (by have := World.block_lt_of_cell? _ _ hw830_1; first | rwa [add_block] at this | exact this | (rw [add_block] at this; exact Nat.lt_of_lt_of_le this HW0.out)) GW831.out)) | (dsimp only; exact Nat.ne_of_lt (Nat.lt_of_lt_of_le (by have := World.block_lt_of_cell? _ _ hw830_1; first | rwa [add_block] at this | exact this | (rw [add_block] at this; exact Nat.lt_of_lt_of_le this HW0.out)) GW831.out))) _).trans (((cell_far (p := ⟨gb831, _, none⟩) (by first | exact Nat.ne_of_lt (Nat.lt_of_lt_of_le (by have := World.block_lt_of_cell? _ _ hw830_1; first | rwa [add_block] at this | exact this | (rw [add_block] at this; exact Nat.lt_of_lt_of_le this HW0.out)) GW831.out) | (rw [add_block]; exact Nat.ne_of_lt (Nat.lt_of_lt_of_le (by have := World.block_lt_of_cell? _ _ hw830_1; first | rwa [add_block] at this | exact this | (rw [add_block] at this; exact Nat.lt_of_lt_of_le this HW0.out)) GW831.out)) | (show (Addr.add _ _).block ≠ _; rw [add_block]; exact Nat.ne_of_lt (Nat.lt_of_lt_of_le (by have := World.block_lt_of_cell? _ _ hw830_1; first | rwa [add_block] at this | exact this | (rw [add_block] at this; exact Nat.lt_of_lt_of_le this HW0.out)) GW831.out)) | (dsimp only; exact Nat.ne_of_lt (Nat.lt_of_lt_of_le (by have := World.block_lt_of_cell? _ _ hw830_1; first | rwa [add_block] at this | exact this | (rw [add_block] at this; exact Nat.lt_of_lt_of_le this HW0.out)) GW831.out))) _).trans (((cell_far (p := ⟨gb831, _, none⟩) (by first | exact Nat.ne_of_lt (Nat.lt_of_lt_of_le (by have := World.block_lt_of_cell? _ _ hw830_1; first | rwa [add_block] at this | exact this | (rw [add_block] at this; exact Nat.lt_of_lt_of_le this HW0.out)) GW831.out) | (rw [add_block]; exact Nat.ne_of_lt (Nat.lt_of_lt_of_le (by have := World.block_lt_of_cell? _ _ hw830_1; first | rwa [add_block] at this | exact this | (rw [add_block] at this; exact Nat.lt_of_lt_of_le this HW0.out)) GW831.out)) | (show (Addr.add _ _).block ≠ _; rw [add_block]; exact Nat.ne_of_lt (Nat.lt_of_lt_of_le (by have := World.block_lt_of_cell? _ _ hw830_1; first | rwa [add_block] at this | exact this | (rw [add_block] at this; exact Nat.lt_of_lt_of_le this HW0.out)) GW831.out)) | (dsimp only; exact Nat.ne_of_lt (Nat.lt_of_lt_of_le (by have := World.block_lt_of_cell? _ _ hw830_1; first | rwa [add_block] at this | exact this | (rw [add_block] at this; exact Nat.lt_of_lt_of_le this HW0.out)) GW831.out))) _).trans (hHeld.2.2.2.2.2.1)))))), ((cell_far (p := ⟨gb831, _, none⟩) (by first | exact Nat.ne_of_lt (Nat.lt_of_lt_of_le (by have := World.block_lt_of_cell? _ _ hw830_2; first | rwa [add_block] at this | exact this | (rw [add_block] at this; exact Nat.lt_of_lt_of_le this HW0.out)) GW831.out) | (rw [add_block]; exact Nat.ne_of_lt (Nat.lt_of_lt_of_le (by have := World.block_lt_of_cell? _ _ hw830_2; first | rwa [add_block] at this | exact this | (rw [add_block] at this; exact Nat.lt_of_lt_of_le this HW0.out)) GW831.out)) | (show (Addr.add _ _).block ≠ _; rw [add_block]; exact Nat.ne_of_lt (Nat.lt_of_lt_of_le (by have := World.block_lt_of_cell? _ _ hw830_2; first | rwa [add_block] at this | exact this | (rw [add_block] at this; exact Nat.lt_of_lt_of_le this HW0.out)) GW831.out)) | (dsimp only; exact Nat.ne_of_lt (Nat.lt_of_lt_of_le (by have := World.block_lt_of_cell? _ _ hw830_2; first | rwa [add_block] at this | exact this | (rw [add_block] at this; exact Nat.lt_of_lt_of_le this HW0.out)) GW831.out))) _).trans (((cell_far (p := ⟨gb831, _, none⟩) (by first | exact Nat.ne_of_lt (Nat.lt_of_lt_of_le (by have := World.block_lt_of_cell? _ _ hw830_2; first | rwa [add_block] at this | exact this | (rw [add_block] at this; exact Nat.lt_of_lt_of_le this HW0.out)) GW831.out) | (rw [add_block]; exact Nat.ne_of_lt (Nat.lt_of_lt_of_le (by have := World.block_lt_of_cell? _ _ hw830_2; first | rwa [add_block] at this | exact this | (rw [add_block] at this; exact Nat.lt_of_lt_of_le this HW0.out)) GW831.out)) | (show (Addr.add _ _).block ≠ _; rw [add_block]; exact Nat.ne_of_lt (Nat.lt_of_lt_of_le (by have := World.block_lt_of_cell? _ _ hw830_2; first | rwa [add_block] at this | exact this | (rw [add_block] at this; exact Nat.lt_of_lt_of_le this HW0.out)) GW831.out)) | (dsimp only; exact Nat.ne_of_lt (Nat.lt_of_lt_of_le (by have := World.block_lt_of_cell? _ _ hw830_2; first | rwa [add_block] at this | exact this | (rw [add_block] at this; exact Nat.lt_of_lt_of_le this HW0.out)) GW831.out))) _).trans (((cell_far (p := ⟨gb831, _, none⟩) (by first | exact Nat.ne_of_lt (Nat.lt_of_lt_of_le (by have := World.block_lt_of_cell? _ _ hw830_2; first | rwa [add_block] at this | exact this | (rw [add_block] at this; exact Nat.lt_of_lt_of_le this HW0.out)) GW831.out) | (rw [add_block]; exact Nat.ne_of_lt (Nat.lt_of_lt_of_le (by have := World.block_lt_of_cell? _ _ hw830_2; first | rwa [add_block] at this | exact this | (rw [add_block] at this; exact Nat.lt_of_lt_of_le this HW0.out)) GW831.out)) | (show (Addr.add _ _).block ≠ _; rw [add_block]; exact Nat.ne_of_lt (Nat.lt_of_lt_of_le (by have := World.block_lt_of_cell? _ _ hw830_2; first | rwa [add_block] at this | exact this | (rw [add_block] at this; exact Nat.lt_of_lt_of_le this HW0.out)) GW831.out)) | (dsimp only; exact Nat.ne_of_lt (Nat.lt_of_lt_of_le (by have := World.block_lt_of_cell? _ _ hw830_2; first | rwa [add_block] at this | exact this | (rw [add_block] at this; exact Nat.lt_of_lt_of_le this HW0.out)) GW831.out))) _).trans (hHeld.2.2.2.2.2.2.1)))))), ((cell_far (p := ⟨gb831, _, none⟩) (by first | exact Nat.ne_of_lt (Nat.lt_of_lt_of_le (by have := World.block_lt_of_cell? _ _ hw830_3; first | rwa [add_block] at this | exact this | (rw [add_block] at this; exact Nat.lt_of_lt_of_le this HW0.out)) GW831.out) | (rw [add_block]; exact Nat.ne_of_lt (Nat.lt_of_lt_of_le (by have := World.block_lt_of_cell? _ _ hw830_3; first | rwa [add_block] at this | exact this | (rw [add_block] at this; exact Nat.lt_of_lt_of_le this HW0.out)) GW831.out)) | (show (Addr.add _ _).block ≠ _; rw [add_block]; exact Nat.ne_of_lt (Nat.lt_of_lt_of_le (by have := World.block_lt_of_cell? _ _ hw830_3; first | rwa [add_block] at this | exact this | (rw [add_block] at this; exact Nat.lt_of_lt_of_le this HW0.out)) GW831.out)) | (dsimp only; exact Nat.ne_of_lt (Nat.lt_of_lt_of_le (by have := World.block_lt_of_cell? _ _ hw830_3; first | rwa [add_block] at this | exact this | (rw [add_block] at this; exact Nat.lt_of_lt_of_le this HW0.out)) GW831.out))) _).trans (((cell_far (p := ⟨gb831, _, none⟩) (by first | exact Nat.ne_of_lt (Nat.lt_of_lt_of_le (by have := World.block_lt_of_cell? _ _ hw830_3; first | rwa [add_block] at this | exact this | (rw [add_block] at this; exact Nat.lt_of_lt_of_le this HW0.out)) GW831.out) | (rw [add_block]; exact Nat.ne_of_lt (Nat.lt_of_lt_of_le (by have := World.block_lt_of_cell? _ _ hw830_3; first | rwa [add_block] at this | exact this | (rw [add_block] at this; exact Nat.lt_of_lt_of_le this HW0.out)) GW831.out)) | (show (Addr.add _ _).block ≠ _; rw [add_block]; exact Nat.ne_of_lt (Nat.lt_of_lt_of_le (by have := World.block_lt_of_cell? _ _ hw830_3; first | rwa [add_block] at this | exact this | (rw [add_block] at this; exact Nat.lt_of_lt_of_le this HW0.out)) GW831.out)) | (dsimp only; exact Nat.ne_of_lt (Nat.lt_of_lt_of_le (by have := World.block_lt_of_cell? _ _ hw830_3; first | rwa [add_block] at this | exact this | (rw [add_block] at this; exact Nat.lt_of_lt_of_le this HW0.out)) GW831.out))) _).trans (((cell_far (p := ⟨gb831, _, none⟩) (by first | exact Nat.ne_of_lt (Nat.lt_of_lt_of_le (by have := World.block_lt_of_cell? _ _ hw830_3; first | rwa [add_block] at this | exact this | (rw [add_block] at this; exact Nat.lt_of_lt_of_le this HW0.out)) GW831.out) | (rw [add_block]; exact Nat.ne_of_lt (Nat.lt_of_lt_of_le (by have := World.block_lt_of_cell? _ _ hw830_3; first | rwa [add_block] at this | exact this | (rw [add_block] at this; exact Nat.lt_of_lt_of_le this HW0.out)) GW831.out)) | (show (Addr.add _ _).block ≠ _; rw [add_block]; exact Nat.ne_of_lt (Nat.lt_of_lt_of_le (by have := World.block_lt_of_cell? _ _ hw830_3; first | rwa [add_block] at this | exact this | (rw [add_block] at this; exact Nat.lt_of_lt_of_le this HW0.out)) GW831.out)) | (dsimp only; exact Nat.ne_of_lt (Nat.lt_of_lt_of_le (by have := World.block_lt_of_cell? _ _ hw830_3; first | rwa [add_block] at this | exact this | (rw [add_block] at this; exact Nat.lt_of_lt_of_le this HW0.out)) GW831.out))) _).trans (hHeld.2.2.2.2.2.2.2.1)))))), ((cell_far (p := ⟨gb831, _, none⟩) (by first | exact Nat.ne_of_lt (Nat.lt_of_lt_of_le (by have := World.block_lt_of_cell? _ _ hw830_4; first | rwa [add_block] at this | exact this | (rw [add_block] at this; exact Nat.lt_of_lt_of_le this HW0.out)) GW831.out) | (rw [add_block]; exact Nat.ne_of_lt (Nat.lt_of_lt_of_le (by have := World.block_lt_of_cell? _ _ hw830_4; first | rwa [add_block] at this | exact this | (rw [add_block] at this; exact Nat.lt_of_lt_of_le this HW0.out)) GW831.out)) | (show (Addr.add _ _).block ≠ _; rw [add_block]; exact Nat.ne_of_lt (Nat.lt_of_lt_of_le (by have := World.block_lt_of_cell? _ _ hw830_4; first | rwa [add_block] at this | exact this | (rw [add_block] at this; exact Nat.lt_of_lt_of_le this HW0.out)) GW831.out)) | (dsimp only; exact Nat.ne_of_lt (Nat.lt_of_lt_of_le (by have := World.block_lt_of_cell? _ _ hw830_4; first | rwa [add_block] at this | exact this | (rw [add_block] at this; exact Nat.lt_of_lt_of_le this HW0.out)) GW831.out))) _).trans (((cell_far (p := ⟨gb831, _, none⟩) (by first | exact Nat.ne_of_lt (Nat.lt_of_lt_of_le (by have := World.block_lt_of_cell? _ _ hw830_4; first | rwa [add_block] at this | exact this | (rw [add_block] at this; exact Nat.lt_of_lt_of_le this HW0.out)) GW831.out) | (rw [add_block]; exact Nat.ne_of_lt (Nat.lt_of_lt_of_le (by have := World.block_lt_of_cell? _ _ hw830_4; first | rwa [add_block] at this | exact this | (rw [add_block] at this; exact Nat.lt_of_lt_of_le this HW0.out)) GW831.out)) | (show (Addr.add _ _).block ≠ _; rw [add_block]; exact Nat.ne_of_lt (Nat.lt_of_lt_of_le (by have := World.block_lt_of_cell? _ _ hw830_4; first | rwa [add_block] at this | exact this | (rw [add_block] at this; exact Nat.lt_of_lt_of_le this HW0.out)) GW831.out)) | (dsimp only; exact Nat.ne_of_lt (Nat.lt_of_lt_of_le (by have := World.block_lt_of_cell? _ _ hw830_4; first | rwa [add_block] at this | exact this | (rw [add_block] at this; exact Nat.lt_of_lt_of_le this HW0.out)) GW831.out))) _).trans (((cell_far (p := ⟨gb831, _, none⟩) (by first | exact Nat.ne_of_lt (Nat.lt_of_lt_of_le (by have := World.block_lt_of_cell? _ _ hw830_4; first | rwa [add_block] at this | exact this | (rw [add_block] at this; exact Nat.lt_of_lt_of_le this HW0.out)) GW831.out) | (rw [add_block]; exact Nat.ne_of_lt (Nat.lt_of_lt_of_le (by have := World.block_lt_of_cell? _ _ hw830_4; first | rwa [add_block] at this | exact this | (rw [add_block] at this; exact Nat.lt_of_lt_of_le this HW0.out)) GW831.out)) | (show (Addr.add _ _).block ≠ _; rw [add_block]; exact Nat.ne_of_lt (Nat.lt_of_lt_of_le (by have := World.block_lt_of_cell? _ _ hw830_4; first | rwa [add_block] at this | exact this | (rw [add_block] at this; exact Nat.lt_of_lt_of_le this HW0.out)) GW831.out)) | (dsimp only; exact Nat.ne_of_lt (Nat.lt_of_lt_of_le (by have := World.block_lt_of_cell? _ _ hw830_4; first | rwa [add_block] at this | exact this | (rw [add_block] at this; exact Nat.lt_of_lt_of_le this HW0.out)) GW831.out))) _).trans (hHeld.2.2.2.2.2.2.2.2))))))⟩ (fun hHeld => ?_)
          clear hK K
          refine done_ (done_of HT_.out zq12) ?_
          go_upto_block 4 with (fail)
          go_cut [8] (fun v8 wc => ∃ (kq : Nat) (x8_6 : Int), v8 = .int .i64 x8_6 ∧ Aside0 (rb_Begin.j3 kq l0 x3_2 x4_1 x5_2 x8_6 ((rd_T39 l0 x4_1).f0) ((rd_T64 ((rd_T39 l0 x4_1).f3) x5_2).f0) ((rd_T64 ((rd_T39 l0 x4_1).f3) x5_2).f2) = some r) ∧ Aside0 (kq ≤ k2) ∧ Aside0 (Kd.R k61 61 wc w.heap.size (fun k_ => k_ ≠ gb831) u3 x3_2) ∧ Aside0 (wc.heap[gb829]? = some (.cells #[.string ((rd_T64 ((rd_T39 l0 x4_1).f3) x5_2).f0), .string ((rd_T64 ((rd_T39 l0 x4_1).f3) x5_2).f1), .int .i64 ((rd_T64 ((rd_T39 l0 x4_1).f3) x5_2).f2), .int .i64 ((rd_T64 ((rd_T39 l0 x4_1).f3) x5_2).f3)] 64 (0, 0))) ∧ Aside0 (wc.heap[gb831]? = some (.cells #[.string ((rd_T39 l0 x4_1).f0), .string ((rd_T64 ((rd_T39 l0 x4_1).f3) x5_2).f0), .int .i64 ((rd_T64 ((rd_T39 l0 x4_1).f3) x5_2).f2)] 61 (0, 0))) ∧ Aside0 (Below w.heap.size w wc))
          case first =>
           have H := HC7.out
           clear HC7
           have H' := za H
           clear H
           go_wp2
           go_loopg [8] k2 (fun kq v8 w' => ∃ (x8_3 : Int), v8 = .int .i64 x8_3 ∧ Aside0 (rb_Begin.l2 kq l0 x3_2 x4_1 x5_2 x8_3 ((rd_T39 l0 x4_1).f0) ((rd_T64 ((rd_T39 l0 x4_1).f3) x5_2).f0) ((rd_T64 ((rd_T39 l0 x4_1).f3) x5_2).f2) = some r) ∧ Aside0 (kq ≤ k2) ∧ Aside0 (Kd.R k61 61 w' w.heap.size (fun k_ => k_ ≠ gb831) u3 x3_2) ∧ Aside0 (w'.heap[gb829]? = some (.cells #[.string ((rd_T64 ((rd_T39 l0 x4_1).f3) x5_2).f0), .string ((rd_T64 ((rd_T39 l0 x4_1).f3) x5_2).f1), .int .i64 ((rd_T64 ((rd_T39 l0 x4_1).f3) x5_2).f2), .int .i64 ((rd_T64 ((rd_T39 l0 x4_1).f3) x5_2).f3)] 64 (0, 0))) ∧ Aside0 (w'.heap[gb831]? = some (.cells #[.string ((rd_T39 l0 x4_1).f0), .string ((rd_T64 ((rd_T39 l0 x4_1).f3) x5_2).f0), .int .i64 ((rd_T64 ((rd_T39 l0 x4_1).f3) x5_2).f2)] 61 (0, 0))) ∧ Aside0 (Below w.heap.size w w'))
           case atStart => exact ⟨(0), zq16, H', ⟨Nat.le_refl _⟩, ⟨by (with_reducible repeat (first | apply Kd.R_alloc | apply Kd.R_drewN | apply Kd.R_drew)); exact Kd.R_mono (Kd.R_far (p := ⟨gb831, 2, none⟩) (Kd.R_far (p := ⟨gb831, 1, none⟩) (Kd.R_far (p := ⟨gb831, 0, none⟩) (Kd.R_mono HO_3.out (fun k_ hk => (⟨hk, hk.2⟩ : _ ∧ k_ ≠ gb831))) (fun _ hk => hk.2) (.string ((rd_T39 l0 x4_1).f0))) (fun _ hk => hk.2) (.string ((rd_T64 ((rd_T39 l0 x4_1).f3) x5_2).f0))) (fun _ hk => hk.2) (.int .i64 ((rd_T64 ((rd_T39 l0 x4_1).f3) x5_2).f2))) (fun _ hk => hk.1.2)⟩, ⟨by (with_reducible repeat (first | refine blk_drewN ?_ _ | refine blk_drew ?_ | refine blk_alloc ?_ _)); refine blk_far ?_ NB829_831.out _; (with_reducible repeat (first | refine blk_drewN ?_ _ | refine blk_drew ?_ | refine blk_alloc ?_ _)); refine blk_far ?_ NB829_831.out _; (with_reducible repeat (first | refine blk_drewN ?_ _ | refine blk_drew ?_ | refine blk_alloc ?_ _)); refine blk_far ?_ NB829_831.out _; (with_reducible repeat (first | refine blk_drewN ?_ _ | refine blk_drew ?_ | refine blk_alloc ?_ _)); exact BK829.out⟩, ⟨by (with_reducible repeat (first | refine blk_drewN ?_ _ | refine blk_drew ?_ | refine blk_alloc ?_ _)); refine blk_put (cs := #[.string ((rd_T39 l0 x4_1).f0), .string ((rd_T64 ((rd_T39 l0 x4_1).f3) x5_2).f0), .int .i64 0]) ?_ 2 _ rfl; (with_reducible repeat (first | refine blk_drewN ?_ _ | refine blk_drew ?_ | refine blk_alloc ?_ _)); refine blk_put (cs := #[.string ((rd_T39 l0 x4_1).f0), .string (⟨#[]⟩ : ByteArray), .int .i64 0]) ?_ 1 _ rfl; (with_reducible repeat (first | refine blk_drewN ?_ _ | refine blk_drew ?_ | refine blk_alloc ?_ _)); refine blk_put (cs := #[.string (⟨#[]⟩ : ByteArray), .string (⟨#[]⟩ : ByteArray), .int .i64 0]) ?_ 0 _ rfl; (with_reducible repeat (first | refine blk_drewN ?_ _ | refine blk_drew ?_ | refine blk_alloc ?_ _)); exact BK831.out⟩, ⟨zq23⟩⟩
           case round =>
            clear H'
            obtain ⟨x8_3, rfl, HA, HK3, HO_3, BK829, BK831, HB⟩ := hrel
            cases gk with
            | zero => exact absurd HA.out (by simp [rb_Begin.l2])
            | succ k3 =>
             have H := HA.out
             clear HA
             simp only [rb_Begin.l2] at H
             by_cases c16 : x8_3 < (x3_2.length : Int)
             ·
              rw [if_pos c16] at H
              have c16b0 := decide_eq_true c16
              clear c16
              (first | rw [c16b0] | (simp only [i64_w, i32_w]; rw [c16b0]) | skip)
              by_cases c17 : 0 ≤ x8_3
              ·
               rw [if_pos c17] at H
               have c17b0 := decide_eq_true c17
               clear c17
               replace H := Option.bind_eq_some_iff.mp H
               obtain ⟨t833, A180, H⟩ := H
               (try dsimp only at H)
               have A18 := za A180
               clear A180
               by_cases c19 : t833 = true
               ·
                subst c19
                rw [if_pos rfl] at H
                have H' := za H
                clear H
                try go_wp2
                replace HO_3 := za (Kd.R_drew HO_3.out)
                replace BK829 := za (blk_drew BK829.out)
                replace BK831 := za (blk_drew BK831.out)
                replace HB := za (below_drew1 HB.out)
                obtain ⟨Ao21, co21, eo21⟩ := Kd.R_slice HO_3.out
                (first | subst eo21 | (injection eo21 with f1_ f2_ f3_; have f4_ := f1_.symm; have f5_ := f3_.symm; clear f1_ f2_ f3_; subst f4_; subst f5_))
                have p832 : 0 ≤ (x8_3 : Int) := of_decide_eq_true zq6
                have q832 : x8_3 < (x3_2.length : Int) := of_decide_eq_true zq6
                obtain ⟨ad832, e832, hx832_0, hx832_1, hx832_2⟩ := at_T61 (Kd.R_reads' HO_3.out).2.2 x8_3 p832 q832
                cases e832
                replace p832 := eq_true p832
                replace q832 := eq_true q832
                refine start_ (n := 12) (S := fun w' => w'.cell? ⟨gb831, 0, none⟩ = some (.string ((rd_T39 l0 x4_1).f0)) ∧ w'.cell? ⟨gb831, 1, none⟩ = some (.string ((rd_T64 ((rd_T39 l0 x4_1).f3) x5_2).f0)) ∧ w'.cell? ⟨gb831, 2, none⟩ = some (.int .i64 ((rd_T64 ((rd_T39 l0 x4_1).f3) x5_2).f2)) ∧ w'.cell? (ad832.add ((x8_3).toNat * 3)) = some (.string ((rd_T61 x3_2 x8_3).f0)) ∧ w'.cell? ⟨(ad832.add ((x8_3).toNat * 3)).block, (ad832.add ((x8_3).toNat * 3)).off + 1, none⟩ = some (.string ((rd_T61 x3_2 x8_3).f1)) ∧ w'.cell? ⟨(ad832.add ((x8_3).toNat * 3)).block, (ad832.add ((x8_3).toNat * 3)).off + 2, none⟩ = some (.int .i64 ((rd_T61 x3_2 x8_3).f2))) (ds := []) #[false, false, false, false, false, false, false, false, false, false, false, false] zq12 rfl rfl ⟨(blk_cell BK831.out 0).trans rfl, (blk_cell BK831.out 1).trans rfl, (blk_cell BK831.out 2).trans rfl, hx832_0, hx832_1, hx832_2⟩ (fun hHeld => ?_); refine with_tabW rb_Begin.tab11 rb_Begin.bits11 (fun HT_ HW_ => ?_)
                generalize wr.drew = w20 at HO_3 BK829 BK831 HB hx832_0 hx832_1 hx832_2 hHeld ⊢
                refine pure_ (i := 0) (N := some 44) #[true, false, false, false, false, false, false, false, false, false, false, false] rfl rfl (any_of HT_.out zq12) (fun _ _ _ h => h) (Or.inl ⟨by rfl, zpv⟩) zpw ?_
                refine pure_ (i := 1) (N := some 45) #[true, true, false, false, false, false, false, false, false, false, false, false] rfl rfl (any_of HT_.out zq12) (fun _ _ _ h => h) (Or.inl ⟨by rfl, zpv⟩) zpw ?_
                refine pure_ (i := 2) (N := some 46) #[true, true, true, false, false, false, false, false, false, false, false, false] rfl rfl (any_of HT_.out zq12) (fun _ _ _ h => h) (Or.inl ⟨by rfl, zpv⟩) zpw ?_
                refine pure_ (i := 3) (N := some 47) #[true, true, true, true, false, false, false, false, false, false, false, false] rfl rfl (any_of HT_.out zq12) (fun _ _ _ h => h) (Or.inl ⟨by rfl, zpv⟩) zpw ?_
                refine pure_ (i := 4) (N := some 48) #[true, true, true, true, true, false, false, false, false, false, false, false] rfl rfl (any_of HT_.out zq12) (fun _ _ _ h => h) (Or.inl ⟨by rfl, zpv⟩) zpw ?_
                refine pure_ (i := 5) (N := some 49) #[true, true, true, true, true, true, false, false, false, false, false, false] rfl rfl (any_of HT_.out zq12) (fun _ _ _ h => h) (Or.inl ⟨by rfl, zpv⟩) zpw ?_
                refine pure_ (i := 6) (N := some 50) #[true, true, true, true, true, true, true, false, false, false, false, false] rfl rfl (any_of HT_.out zq12) (fun _ _ _ h => h) (Or.inl ⟨by rfl, zpv⟩) zpw ?_
                refine pure_ (i := 7) (N := some 51) #[true, true, true, true, true, true, true, true, false, false, false, false] rfl rfl (any_of HT_.out zq12) (fun _ _ _ h => h) (Or.inl ⟨by rfl, zpv⟩) zpw ?_
                refine take_ (i := 8) (N := some 52) (v := ?_) (a' := ?_) #[true, true, true, true, true, true, true, true, true, false, false, false] rfl rfl (take_ofW HT_.out HW_.out zq12) (fun _ _ _ h => h) (Or.inl ⟨by rfl, ?_⟩) hHeld ?_ ?_
                rotate_left
                ·
                 rintro w' ⟨s0, s1, s2, s3, s4, s5⟩
                 go_simp
                 with_reducible rfl
                rotate_left
                ·
                 simp only [Act.put, List.setIfInBounds_toArray, List.set_cons_zero, List.set_cons_succ, i64_w, i32_w]
                 rfl
                refine take_ (i := 9) (N := some 53) (v := ?_) (a' := ?_) #[true, true, true, true, true, true, true, true, true, true, false, false] rfl rfl (take_ofW HT_.out HW_.out zq12) (fun _ _ _ h => h) (Or.inl ⟨by rfl, ?_⟩) hHeld ?_ ?_
                rotate_left
                ·
                 rintro w' ⟨s0, s1, s2, s3, s4, s5⟩
                 go_simp
                 with_reducible rfl
                rotate_left
                ·
                 simp only [Act.put, List.setIfInBounds_toArray, List.set_cons_zero, List.set_cons_succ, i64_w, i32_w]
                 rfl
                refine one_ (i := 10) (N := some 54) #[true, true, true, true, true, true, true, true, true, true, true, false] rfl rfl (one_of HT_.out zq12) (by decide) (fun K hK => ?_)
                refine goes_ Try.func25 zq12 rfl #[.agg #[.string ((rd_T61 x3_2 x8_3).f0), .string ((rd_T61 x3_2 x8_3).f1), .int .i64 ((rd_T61 x3_2 x8_3).f2)], .agg #[.string ((rd_T39 l0 x4_1).f0), .string ((rd_T64 ((rd_T39 l0 x4_1).f3) x5_2).f0), .int .i64 ((rd_T64 ((rd_T39 l0 x4_1).f3) x5_2).f2)]] (by rfl) rfl rfl zq1 ?_
                with_reducible refine (rb_before.calls ((rd_T61 x3_2 x8_3).f0) ((rd_T61 x3_2 x8_3).f1) ((rd_T61 x3_2 x8_3).f2) ((rd_T39 l0 x4_1).f0) ((rd_T64 ((rd_T39 l0 x4_1).f3) x5_2).f0) ((rd_T64 ((rd_T39 l0 x4_1).f3) x5_2).f2) true _ A18.out).mono ?_
                rintro e w22 ⟨rfl, hb⟩
                have HS3_ := (hb.cell (World.block_lt_of_cell? _ _ (hHeld.2.2.2.1))).trans (hHeld.2.2.2.1)
                have HS4_ := (hb.cell (World.block_lt_of_cell? _ _ (hHeld.2.2.2.2.1))).trans (hHeld.2.2.2.2.1)
                have HS5_ := (hb.cell (World.block_lt_of_cell? _ _ (hHeld.2.2.2.2.2))).trans (hHeld.2.2.2.2.2)
                refine ⟨_, rfl, ?_⟩
                replace HO_3 := za (Kd.R_below (zr HO_3.out) hb)
                replace BK829 := za (blk_below (g := gb829) (zb BK829.out) hb)
                replace BK831 := za (blk_below (g := gb831) (zb BK831.out) hb)
                replace HB := za (below_step zq23 hb)
                refine hK.out _ _ ⟨(blk_cell BK831.out 0).trans rfl, (blk_cell BK831.out 1).trans rfl, (blk_cell BK831.out 2).trans rfl, HS3_, HS4_, HS5_⟩ (fun hHeld => ?_)
                clear hK K
                refine norm_ (a' := ?_) ?_ ?_
                rotate_left
                ·
                 show Act.put _ (some 54) _ = _
                 simp only [Act.put, List.setIfInBounds_toArray, List.set_cons_zero, List.set_cons_succ, i64_w, i32_w]
                 rfl
                refine pure_ (i := 11) (N := some 55) #[true, true, true, true, true, true, true, true, true, true, true, true] rfl rfl (any_of HT_.out zq12) (fun _ _ _ h => h) (Or.inl ⟨by rfl, zpv⟩) zpw ?_
                refine done_ (done_of HT_.out zq12) ?_
                try go_wp2
                go_roundg k3
                case measure => have := HK1.out; have := HK2.out; have := HK3.out; omega
                case rel => exact ⟨(wrap64 (x8_3 + 1)), zq16, H', ⟨by have := HK1.out; have := HK2.out; have := HK3.out; omega⟩, ⟨zq55⟩, ⟨zq61⟩, ⟨zq62⟩, ⟨zq23⟩⟩
               ·
                replace c19 := Bool.eq_false_iff.mpr c19
                subst c19
                rw [if_neg (show ¬ (false = true) by decide)] at H
                have H' := za H
                clear H
                try go_wp2
                replace HO_3 := za (Kd.R_drew HO_3.out)
                replace BK829 := za (blk_drew BK829.out)
                replace BK831 := za (blk_drew BK831.out)
                replace HB := za (below_drew1 HB.out)
                obtain ⟨Ao24, co24, eo24⟩ := Kd.R_slice HO_3.out
                (first | subst eo24 | (injection eo24 with f1_ f2_ f3_; have f4_ := f1_.symm; have f5_ := f3_.symm; clear f1_ f2_ f3_; subst f4_; subst f5_))
                have p832 : 0 ≤ (x8_3 : Int) := of_decide_eq_true zq6
                have q832 : x8_3 < (x3_2.length : Int) := of_decide_eq_true zq6
                obtain ⟨ad832, e832, hx832_0, hx832_1, hx832_2⟩ := at_T61 (Kd.R_reads' HO_3.out).2.2 x8_3 p832 q832
                cases e832
                replace p832 := eq_true p832
                replace q832 := eq_true q832
                refine start_ (n := 12) (S := fun w' => w'.cell? ⟨gb831, 0, none⟩ = some (.string ((rd_T39 l0 x4_1).f0)) ∧ w'.cell? ⟨gb831, 1, none⟩ = some (.string ((rd_T64 ((rd_T39 l0 x4_1).f3) x5_2).f0)) ∧ w'.cell? ⟨gb831, 2, none⟩ = some (.int .i64 ((rd_T64 ((rd_T39 l0 x4_1).f3) x5_2).f2)) ∧ w'.cell? (ad832.add ((x8_3).toNat * 3)) = some (.string ((rd_T61 x3_2 x8_3).f0)) ∧ w'.cell? ⟨(ad832.add ((x8_3).toNat * 3)).block, (ad832.add ((x8_3).toNat * 3)).off + 1, none⟩ = some (.string ((rd_T61 x3_2 x8_3).f1)) ∧ w'.cell? ⟨(ad832.add ((x8_3).toNat * 3)).block, (ad832.add ((x8_3).toNat * 3)).off + 2, none⟩ = some (.int .i64 ((rd_T61 x3_2 x8_3).f2))) (ds := []) #[false, false, false, false, false, false, false, false, false, false, false, false] zq12 rfl rfl ⟨(blk_cell BK831.out 0).trans rfl, (blk_cell BK831.out 1).trans rfl, (blk_cell BK831.out 2).trans rfl, hx832_0, hx832_1, hx832_2⟩ (fun hHeld => ?_); refine with_tabW rb_Begin.tab11 rb_Begin.bits11 (fun HT_ HW_ => ?_)
                generalize wr.drew = w23 at HO_3 BK829 BK831 HB hx832_0 hx832_1 hx832_2 hHeld ⊢
                refine pure_ (i := 0) (N := some 44) #[true, false, false, false, false, false, false, false, false, false, false, false] rfl rfl (any_of HT_.out zq12) (fun _ _ _ h => h) (Or.inl ⟨by rfl, zpv⟩) zpw ?_
                refine pure_ (i := 1) (N := some 45) #[true, true, false, false, false, false, false, false, false, false, false, false] rfl rfl (any_of HT_.out zq12) (fun _ _ _ h => h) (Or.inl ⟨by rfl, zpv⟩) zpw ?_
                refine pure_ (i := 2) (N := some 46) #[true, true, true, false, false, false, false, false, false, false, false, false] rfl rfl (any_of HT_.out zq12) (fun _ _ _ h => h) (Or.inl ⟨by rfl, zpv⟩) zpw ?_
                refine pure_ (i := 3) (N := some 47) #[true, true, true, true, false, false, false, false, false, false, false, false] rfl rfl (any_of HT_.out zq12) (fun _ _ _ h => h) (Or.inl ⟨by rfl, zpv⟩) zpw ?_
                refine pure_ (i := 4) (N := some 48) #[true, true, true, true, true, false, false, false, false, false, false, false] rfl rfl (any_of HT_.out zq12) (fun _ _ _ h => h) (Or.inl ⟨by rfl, zpv⟩) zpw ?_
                refine pure_ (i := 5) (N := some 49) #[true, true, true, true, true, true, false, false, false, false, false, false] rfl rfl (any_of HT_.out zq12) (fun _ _ _ h => h) (Or.inl ⟨by rfl, zpv⟩) zpw ?_
                refine pure_ (i := 6) (N := some 50) #[true, true, true, true, true, true, true, false, false, false, false, false] rfl rfl (any_of HT_.out zq12) (fun _ _ _ h => h) (Or.inl ⟨by rfl, zpv⟩) zpw ?_
                refine pure_ (i := 7) (N := some 51) #[true, true, true, true, true, true, true, true, false, false, false, false] rfl rfl (any_of HT_.out zq12) (fun _ _ _ h => h) (Or.inl ⟨by rfl, zpv⟩) zpw ?_
                refine take_ (i := 8) (N := some 52) (v := ?_) (a' := ?_) #[true, true, true, true, true, true, true, true, true, false, false, false] rfl rfl (take_ofW HT_.out HW_.out zq12) (fun _ _ _ h => h) (Or.inl ⟨by rfl, ?_⟩) hHeld ?_ ?_
                rotate_left
                ·
                 rintro w' ⟨s0, s1, s2, s3, s4, s5⟩
                 go_simp
                 with_reducible rfl
                rotate_left
                ·
                 simp only [Act.put, List.setIfInBounds_toArray, List.set_cons_zero, List.set_cons_succ, i64_w, i32_w]
                 rfl
                refine take_ (i := 9) (N := some 53) (v := ?_) (a' := ?_) #[true, true, true, true, true, true, true, true, true, true, false, false] rfl rfl (take_ofW HT_.out HW_.out zq12) (fun _ _ _ h => h) (Or.inl ⟨by rfl, ?_⟩) hHeld ?_ ?_
                rotate_left
                ·
                 rintro w' ⟨s0, s1, s2, s3, s4, s5⟩
                 go_simp
                 with_reducible rfl
                rotate_left
                ·
                 simp only [Act.put, List.setIfInBounds_toArray, List.set_cons_zero, List.set_cons_succ, i64_w, i32_w]
                 rfl
                refine one_ (i := 10) (N := some 54) #[true, true, true, true, true, true, true, true, true, true, true, false] rfl rfl (one_of HT_.out zq12) (by decide) (fun K hK => ?_)
                refine goes_ Try.func25 zq12 rfl #[.agg #[.string ((rd_T61 x3_2 x8_3).f0), .string ((rd_T61 x3_2 x8_3).f1), .int .i64 ((rd_T61 x3_2 x8_3).f2)], .agg #[.string ((rd_T39 l0 x4_1).f0), .string ((rd_T64 ((rd_T39 l0 x4_1).f3) x5_2).f0), .int .i64 ((rd_T64 ((rd_T39 l0 x4_1).f3) x5_2).f2)]] (by rfl) rfl rfl zq1 ?_
                with_reducible refine (rb_before.calls ((rd_T61 x3_2 x8_3).f0) ((rd_T61 x3_2 x8_3).f1) ((rd_T61 x3_2 x8_3).f2) ((rd_T39 l0 x4_1).f0) ((rd_T64 ((rd_T39 l0 x4_1).f3) x5_2).f0) ((rd_T64 ((rd_T39 l0 x4_1).f3) x5_2).f2) false _ A18.out).mono ?_
                rintro e w25 ⟨rfl, hb⟩
                have HS3_ := (hb.cell (World.block_lt_of_cell? _ _ (hHeld.2.2.2.1))).trans (hHeld.2.2.2.1)
                have HS4_ := (hb.cell (World.block_lt_of_cell? _ _ (hHeld.2.2.2.2.1))).trans (hHeld.2.2.2.2.1)
                have HS5_ := (hb.cell (World.block_lt_of_cell? _ _ (hHeld.2.2.2.2.2))).trans (hHeld.2.2.2.2.2)
                refine ⟨_, rfl, ?_⟩
                replace HO_3 := za (Kd.R_below (zr HO_3.out) hb)
                replace BK829 := za (blk_below (g := gb829) (zb BK829.out) hb)
                replace BK831 := za (blk_below (g := gb831) (zb BK831.out) hb)
                replace HB := za (below_step zq23 hb)
                refine hK.out _ _ ⟨(blk_cell BK831.out 0).trans rfl, (blk_cell BK831.out 1).trans rfl, (blk_cell BK831.out 2).trans rfl, HS3_, HS4_, HS5_⟩ (fun hHeld => ?_)
                clear hK K
                refine norm_ (a' := ?_) ?_ ?_
                rotate_left
                ·
                 show Act.put _ (some 54) _ = _
                 simp only [Act.put, List.setIfInBounds_toArray, List.set_cons_zero, List.set_cons_succ, i64_w, i32_w]
                 rfl
                refine pure_ (i := 11) (N := some 55) #[true, true, true, true, true, true, true, true, true, true, true, true] rfl rfl (any_of HT_.out zq12) (fun _ _ _ h => h) (Or.inl ⟨by rfl, zpv⟩) zpw ?_
                refine done_ (done_of HT_.out zq12) ?_
                try go_wp2
                go_meet
                case rel => exact ⟨_, (x8_3), zq16, H', ⟨by have := HK1.out; have := HK2.out; have := HK3.out; first | omega | exact Nat.le_refl _⟩, ⟨zq55⟩, ⟨zq61⟩, ⟨zq62⟩, ⟨zq23⟩⟩
              ·
               rw [if_neg c17] at H
               exact absurd H (by simp)
             ·
              rw [if_neg c16] at H
              have c16b0 := decide_eq_false c16
              clear c16
              (first | rw [c16b0] | (simp only [i64_w, i32_w]; rw [c16b0]) | skip)
              have H' := za H
              clear H
              try go_wp2
              replace HO_3 := za (Kd.R_drew HO_3.out)
              replace BK829 := za (blk_drew BK829.out)
              replace BK831 := za (blk_drew BK831.out)
              replace HB := za (below_drew1 HB.out)
              obtain ⟨Ao27, co27, eo27⟩ := Kd.R_slice HO_3.out
              (first | subst eo27 | (injection eo27 with f1_ f2_ f3_; have f4_ := f1_.symm; have f5_ := f3_.symm; clear f1_ f2_ f3_; subst f4_; subst f5_))
              refine start_ (n := 12) (S := fun w' => True) (ds := []) #[false, false, false, false, false, false, false, false, false, false, false, false] zq12 rfl rfl trivial (fun hHeld => ?_); refine with_tabW rb_Begin.tab11 rb_Begin.bits11 (fun HT_ HW_ => ?_)
              generalize wr.drew = w26 at HO_3 BK829 BK831 HB hHeld ⊢
              refine pure_ (i := 0) (N := some 44) #[true, false, false, false, false, false, false, false, false, false, false, false] rfl rfl (any_of HT_.out zq12) (fun _ _ _ h => h) (Or.inl ⟨by rfl, zpv⟩) zpw ?_
              refine pure_ (i := 1) (N := some 45) #[true, true, false, false, false, false, false, false, false, false, false, false] rfl rfl (any_of HT_.out zq12) (fun _ _ _ h => h) (Or.inl ⟨by rfl, zpv⟩) zpw ?_
              refine pure_ (i := 2) (N := some 46) #[true, true, true, false, false, false, false, false, false, false, false, false] rfl rfl (any_of HT_.out zq12) (fun _ _ _ h => h) (Or.inl ⟨by rfl, zpv⟩) zpw ?_
              refine pure_ (i := 3) (N := some 47) #[true, true, true, true, false, false, false, false, false, false, false, false] rfl rfl (any_of HT_.out zq12) (fun _ _ _ h => h) (Or.inl ⟨by rfl, zpv⟩) zpw ?_
              refine pure_ (i := 4) (N := some 48) #[true, true, true, true, true, false, false, false, false, false, false, false] rfl rfl (any_of HT_.out zq12) (fun _ _ _ h => h) (Or.inl ⟨by rfl, zpv⟩) zpw ?_
              refine pure_ (i := 5) (N := some 49) (v := undef) (a' := ?_) #[true, true, true, true, true, true, false, false, false, false, false, false] rfl rfl (any_of HT_.out zq12) (fun _ _ _ h => h) (Or.inr ⟨by rfl, rfl⟩) ?_ ?_
              rotate_left
              ·
               simp only [Act.put, List.setIfInBounds_toArray, List.set_cons_zero, List.set_cons_succ, i64_w, i32_w]
               rfl
              refine pure_ (i := 6) (N := some 50) (v := undef) (a' := ?_) #[true, true, true, true, true, true, true, false, false, false, false, false] rfl rfl (any_of HT_.out zq12) (fun _ _ _ h => h) (Or.inr ⟨by rfl, rfl⟩) ?_ ?_
              rotate_left
              ·
               simp only [Act.put, List.setIfInBounds_toArray, List.set_cons_zero, List.set_cons_succ, i64_w, i32_w]
               rfl
              refine pure_ (i := 7) (N := some 51) (v := undef) (a' := ?_) #[true, true, true, true, true, true, true, true, false, false, false, false] rfl rfl (any_of HT_.out zq12) (fun _ _ _ h => h) (Or.inr ⟨by rfl, rfl⟩) ?_ ?_
              rotate_left
              ·
               simp only [Act.put, List.setIfInBounds_toArray, List.set_cons_zero, List.set_cons_succ, i64_w, i32_w]
               rfl
              refine pure_ (i := 8) (N := some 52) (v := undef) (a' := ?_) #[true, true, true, true, true, true, true, true, true, false, false, false] rfl rfl (any_of HT_.out zq12) (fun _ _ _ h => h) (Or.inr ⟨by rfl, rfl⟩) ?_ ?_
              rotate_left
              ·
               simp only [Act.put, List.setIfInBounds_toArray, List.set_cons_zero, List.set_cons_succ, i64_w, i32_w]
               rfl
              refine pure_ (i := 9) (N := some 53) (v := undef) (a' := ?_) #[true, true, true, true, true, true, true, true, true, true, false, false] rfl rfl (any_of HT_.out zq12) (fun _ _ _ h => h) (Or.inr ⟨by rfl, rfl⟩) ?_ ?_
              rotate_left
              ·
               simp only [Act.put, List.setIfInBounds_toArray, List.set_cons_zero, List.set_cons_succ, i64_w, i32_w]
               rfl
              refine pure_ (i := 10) (N := some 54) (v := undef) (a' := ?_) #[true, true, true, true, true, true, true, true, true, true, true, false] rfl rfl (any_of HT_.out zq12) (fun _ _ _ h => h) (Or.inr ⟨by rfl, rfl⟩) ?_ ?_
              rotate_left
              ·
               simp only [Act.put, List.setIfInBounds_toArray, List.set_cons_zero, List.set_cons_succ, i64_w, i32_w]
               rfl
              refine pure_ (i := 11) (N := some 55) #[true, true, true, true, true, true, true, true, true, true, true, true] rfl rfl (any_of HT_.out zq12) (fun _ _ _ h => h) (Or.inl ⟨by rfl, zpv⟩) zpw ?_
              refine done_ (done_of HT_.out zq12) ?_
              try go_wp2
              go_meet
              case rel => exact ⟨_, (x8_3), zq16, H', ⟨by have := HK1.out; have := HK2.out; have := HK3.out; first | omega | exact Nat.le_refl _⟩, ⟨zq55⟩, ⟨zq61⟩, ⟨zq62⟩, ⟨zq23⟩⟩
          case rest =>
           clear HC7
           obtain ⟨kq, x8_6, rfl, HA, HJ6, HO_3, BK829, BK831, HB⟩ := hcut
           cases kq with
           | zero => exact absurd HA.out (by simp [rb_Begin.j3])
           | succ kj6 =>
            have H := HA.out
            clear HA
            simp only [rb_Begin.j3] at H
            have HC28 := za H
            clear H
            go_upto_region 13 with (fail)
            go_cut [70] (fun v70 wc => ∃ (kq : Nat) (x70_27 : Bool), v70 = .bool x70_27 ∧ Aside0 (rb_Begin.j4 kq l0 x3_2 x4_1 x5_2 x8_6 x70_27 ((rd_T39 l0 x4_1).f0) ((rd_T64 ((rd_T39 l0 x4_1).f3) x5_2).f0) ((rd_T64 ((rd_T39 l0 x4_1).f3) x5_2).f2) = some r) ∧ Aside0 (kq ≤ kj6) ∧ Aside0 (Kd.R k61 61 wc w.heap.size (fun k_ => k_ ≠ gb831) u3 x3_2) ∧ Aside0 (wc.heap[gb829]? = some (.cells #[.string ((rd_T64 ((rd_T39 l0 x4_1).f3) x5_2).f0), .string ((rd_T64 ((rd_T39 l0 x4_1).f3) x5_2).f1), .int .i64 ((rd_T64 ((rd_T39 l0 x4_1).f3) x5_2).f2), .int .i64 ((rd_T64 ((rd_T39 l0 x4_1).f3) x5_2).f3)] 64 (0, 0))) ∧ Aside0 (wc.heap[gb831]? = some (.cells #[.string ((rd_T39 l0 x4_1).f0), .string ((rd_T64 ((rd_T39 l0 x4_1).f3) x5_2).f0), .int .i64 ((rd_T64 ((rd_T39 l0 x4_1).f3) x5_2).f2)] 61 (0, 0))) ∧ Aside0 (Below w.heap.size w wc))
            case first =>
             have H := HC28.out
             clear HC28
             by_cases c29 : x8_6 < (x3_2.length : Int)
             ·
              rw [if_pos c29] at H
              have c29b0 := decide_eq_true c29
              clear c29
              (first | rw [c29b0] | (simp only [i64_w, i32_w]; rw [c29b0]) | skip)
              by_cases c30 : 0 ≤ x8_6
              ·
               rw [if_pos c30] at H
               have c30b0 := decide_eq_true c30
               clear c30
               replace H := Option.bind_eq_some_iff.mp H
               obtain ⟨t835, A310, H⟩ := H
               (try dsimp only at H)
               have A31 := za A310
               clear A310
               have H' := za H
               clear H
               try go_wp2
               replace HO_3 := za (Kd.R_drew HO_3.out)
               replace BK829 := za (blk_drew BK829.out)
               replace BK831 := za (blk_drew BK831.out)
               replace HB := za (below_drew1 HB.out)
               obtain ⟨Ao33, co33, eo33⟩ := Kd.R_slice HO_3.out
               (first | subst eo33 | (injection eo33 with f1_ f2_ f3_; have f4_ := f1_.symm; have f5_ := f3_.symm; clear f1_ f2_ f3_; subst f4_; subst f5_))
               have p834 : 0 ≤ (x8_6 : Int) := of_decide_eq_true zq6
               have q834 : x8_6 < (x3_2.length : Int) := of_decide_eq_true zq6
               obtain ⟨ad834, e834, hx834_0, hx834_1, hx834_2⟩ := at_T61 (Kd.R_reads' HO_3.out).2.2 x8_6 p834 q834
               cases e834
               replace p834 := eq_true p834
               replace q834 := eq_true q834
               refine start_ (n := 13) (S := fun w' => w'.cell? ⟨gb831, 0, none⟩ = some (.string ((rd_T39 l0 x4_1).f0)) ∧ w'.cell? ⟨gb831, 1, none⟩ = some (.string ((rd_T64 ((rd_T39 l0 x4_1).f3) x5_2).f0)) ∧ w'.cell? ⟨gb831, 2, none⟩ = some (.int .i64 ((rd_T64 ((rd_T39 l0 x4_1).f3) x5_2).f2)) ∧ w'.cell? (ad834.add ((x8_6).toNat * 3)) = some (.string ((rd_T61 x3_2 x8_6).f0)) ∧ w'.cell? ⟨(ad834.add ((x8_6).toNat * 3)).block, (ad834.add ((x8_6).toNat * 3)).off + 1, none⟩ = some (.string ((rd_T61 x3_2 x8_6).f1)) ∧ w'.cell? ⟨(ad834.add ((x8_6).toNat * 3)).block, (ad834.add ((x8_6).toNat * 3)).off + 2, none⟩ = some (.int .i64 ((rd_T61 x3_2 x8_6).f2))) (ds := []) #[false, false, false, false, false, false, false, false, false, false, false, false, false] zq12 rfl rfl ⟨(blk_cell BK831.out 0).trans rfl, (blk_cell BK831.out 1).trans rfl, (blk_cell BK831.out 2).trans rfl, hx834_0, hx834_1, hx834_2⟩ (fun hHeld => ?_); refine with_tabW rb_Begin.tab13 rb_Begin.bits13 (fun HT_ HW_ => ?_)
               generalize wc.drew = w32 at HO_3 BK829 BK831 HB hx834_0 hx834_1 hx834_2 hHeld ⊢
               refine pure_ (i := 0) (N := some 58) #[true, false, false, false, false, false, false, false, false, false, false, false, false] rfl rfl (any_of HT_.out zq12) (fun _ _ _ h => h) (Or.inl ⟨by rfl, zpv⟩) zpw ?_
               refine pure_ (i := 1) (N := some 59) #[true, true, false, false, false, false, false, false, false, false, false, false, false] rfl rfl (any_of HT_.out zq12) (fun _ _ _ h => h) (Or.inl ⟨by rfl, zpv⟩) zpw ?_
               refine pure_ (i := 2) (N := some 60) #[true, true, true, false, false, false, false, false, false, false, false, false, false] rfl rfl (any_of HT_.out zq12) (fun _ _ _ h => h) (Or.inl ⟨by rfl, zpv⟩) zpw ?_
               refine pure_ (i := 3) (N := some 61) #[true, true, true, true, false, false, false, false, false, false, false, false, false] rfl rfl (any_of HT_.out zq12) (fun _ _ _ h => h) (Or.inl ⟨by rfl, zpv⟩) zpw ?_
               refine pure_ (i := 4) (N := some 62) #[true, true, true, true, true, false, false, false, false, false, false, false, false] rfl rfl (any_of HT_.out zq12) (fun _ _ _ h => h) (Or.inl ⟨by rfl, zpv⟩) zpw ?_
               refine pure_ (i := 6) (N := some 64) #[true, true, true, true, true, false, true, false, false, false, false, false, false] rfl rfl (any_of HT_.out zq12) (fun _ _ _ h => h) (Or.inl ⟨by rfl, zpv⟩) zpw ?_
               refine pure_ (i := 7) (N := some 65) #[true, true, true, true, true, false, true, true, false, false, false, false, false] rfl rfl (any_of HT_.out zq12) (fun _ _ _ h => h) (Or.inl ⟨by rfl, zpv⟩) zpw ?_
               refine pure_ (i := 8) (N := some 66) #[true, true, true, true, true, false, true, true, true, false, false, false, false] rfl rfl (any_of HT_.out zq12) (fun _ _ _ h => h) (Or.inl ⟨by rfl, zpv⟩) zpw ?_
               refine take_ (i := 5) (N := some 63) (v := ?_) (a' := ?_) #[true, true, true, true, true, true, true, true, true, false, false, false, false] rfl rfl (take_ofW HT_.out HW_.out zq12) (fun _ _ _ h => h) (Or.inl ⟨by rfl, ?_⟩) hHeld ?_ ?_
               rotate_left
               ·
                rintro w' ⟨s0, s1, s2, s3, s4, s5⟩
                go_simp
                with_reducible rfl
               rotate_left
               ·
                simp only [Act.put, List.setIfInBounds_toArray, List.set_cons_zero, List.set_cons_succ, i64_w, i32_w]
                rfl
               refine take_ (i := 9) (N := some 67) (v := ?_) (a' := ?_) #[true, true, true, true, true, true, true, true, true, true, false, false, false] rfl rfl (take_ofW HT_.out HW_.out zq12) (fun _ _ _ h => h) (Or.inl ⟨by rfl, ?_⟩) hHeld ?_ ?_
               rotate_left
               ·
                rintro w' ⟨s0, s1, s2, s3, s4, s5⟩
                go_simp
                with_reducible rfl
               rotate_left
               ·
                simp only [Act.put, List.setIfInBounds_toArray, List.set_cons_zero, List.set_cons_succ, i64_w, i32_w]
                rfl
               refine one_ (i := 10) (N := some 68) #[true, true, true, true, true, true, true, true, true, true, true, false, false] rfl rfl (one_of HT_.out zq12) (by decide) (fun K hK => ?_)
               refine goes_ Try.func25 zq12 rfl #[.agg #[.string ((rd_T39 l0 x4_1).f0), .string ((rd_T64 ((rd_T39 l0 x4_1).f3) x5_2).f0), .int .i64 ((rd_T64 ((rd_T39 l0 x4_1).f3) x5_2).f2)], .agg #[.string ((rd_T61 x3_2 x8_6).f0), .string ((rd_T61 x3_2 x8_6).f1), .int .i64 ((rd_T61 x3_2 x8_6).f2)]] (by rfl) rfl rfl zq1 ?_
               with_reducible refine (rb_before.calls ((rd_T39 l0 x4_1).f0) ((rd_T64 ((rd_T39 l0 x4_1).f3) x5_2).f0) ((rd_T64 ((rd_T39 l0 x4_1).f3) x5_2).f2) ((rd_T61 x3_2 x8_6).f0) ((rd_T61 x3_2 x8_6).f1) ((rd_T61 x3_2 x8_6).f2) t835 _ A31.out).mono ?_
               rintro e w34 ⟨rfl, hb⟩
               have HS3_ := (hb.cell (World.block_lt_of_cell? _ _ (hHeld.2.2.2.1))).trans (hHeld.2.2.2.1)
               have HS4_ := (hb.cell (World.block_lt_of_cell? _ _ (hHeld.2.2.2.2.1))).trans (hHeld.2.2.2.2.1)
               have HS5_ := (hb.cell (World.block_lt_of_cell? _ _ (hHeld.2.2.2.2.2))).trans (hHeld.2.2.2.2.2)
               refine ⟨_, rfl, ?_⟩
               replace HO_3 := za (Kd.R_below (zr HO_3.out) hb)
               replace BK829 := za (blk_below (g := gb829) (zb BK829.out) hb)
               replace BK831 := za (blk_below (g := gb831) (zb BK831.out) hb)
               replace HB := za (below_step zq23 hb)
               refine hK.out _ _ ⟨(blk_cell BK831.out 0).trans rfl, (blk_cell BK831.out 1).trans rfl, (blk_cell BK831.out 2).trans rfl, HS3_, HS4_, HS5_⟩ (fun hHeld => ?_)
               clear hK K
               refine norm_ (a' := ?_) ?_ ?_
               rotate_left
               ·
                show Act.put _ (some 68) _ = _
                simp only [Act.put, List.setIfInBounds_toArray, List.set_cons_zero, List.set_cons_succ, i64_w, i32_w]
                rfl
               refine pure_ (i := 11) (N := some 69) #[true, true, true, true, true, true, true, true, true, true, true, true, false] rfl rfl (any_of HT_.out zq12) (fun _ _ _ h => h) (Or.inl ⟨by rfl, zpv⟩) zpw ?_
               refine pure_ (i := 12) (N := some 70) #[true, true, true, true, true, true, true, true, true, true, true, true, true] rfl rfl (any_of HT_.out zq12) (fun _ _ _ h => h) (Or.inl ⟨by rfl, zpv⟩) zpw ?_
               refine done_ (done_of HT_.out zq12) ?_
               try go_wp2
               go_meet
               case rel => exact ⟨_, (!t835), zq16, H', ⟨by have := HK1.out; have := HK2.out; have := HJ6.out; first | omega | exact Nat.le_refl _⟩, ⟨zq55⟩, ⟨zq61⟩, ⟨zq62⟩, ⟨zq23⟩⟩
              ·
               rw [if_neg c30] at H
               exact absurd H (by simp)
             ·
              rw [if_neg c29] at H
              have c29b0 := decide_eq_false c29
              clear c29
              (first | rw [c29b0] | (simp only [i64_w, i32_w]; rw [c29b0]) | skip)
              have H' := za H
              clear H
              try go_wp2
              replace HO_3 := za (Kd.R_drew HO_3.out)
              replace BK829 := za (blk_drew BK829.out)
              replace BK831 := za (blk_drew BK831.out)
              replace HB := za (below_drew1 HB.out)
              obtain ⟨Ao36, co36, eo36⟩ := Kd.R_slice HO_3.out
              (first | subst eo36 | (injection eo36 with f1_ f2_ f3_; have f4_ := f1_.symm; have f5_ := f3_.symm; clear f1_ f2_ f3_; subst f4_; subst f5_))
              refine start_ (n := 13) (S := fun w' => True) (ds := []) #[false, false, false, false, false, false, false, false, false, false, false, false, false] zq12 rfl rfl trivial (fun hHeld => ?_); refine with_tabW rb_Begin.tab13 rb_Begin.bits13 (fun HT_ HW_ => ?_)
              generalize wc.drew = w35 at HO_3 BK829 BK831 HB hHeld ⊢
              refine pure_ (i := 0) (N := some 58) #[true, false, false, false, false, false, false, false, false, false, false, false, false] rfl rfl (any_of HT_.out zq12) (fun _ _ _ h => h) (Or.inl ⟨by rfl, zpv⟩) zpw ?_
              refine pure_ (i := 1) (N := some 59) #[true, true, false, false, false, false, false, false, false, false, false, false, false] rfl rfl (any_of HT_.out zq12) (fun _ _ _ h => h) (Or.inl ⟨by rfl, zpv⟩) zpw ?_
              refine pure_ (i := 2) (N := some 60) #[true, true, true, false, false, false, false, false, false, false, false, false, false] rfl rfl (any_of HT_.out zq12) (fun _ _ _ h => h) (Or.inl ⟨by rfl, zpv⟩) zpw ?_
              refine pure_ (i := 3) (N := some 61) #[true, true, true, true, false, false, false, false, false, false, false, false, false] rfl rfl (any_of HT_.out zq12) (fun _ _ _ h => h) (Or.inl ⟨by rfl, zpv⟩) zpw ?_
              refine pure_ (i := 4) (N := some 62) #[true, true, true, true, true, false, false, false, false, false, false, false, false] rfl rfl (any_of HT_.out zq12) (fun _ _ _ h => h) (Or.inl ⟨by rfl, zpv⟩) zpw ?_
              refine pure_ (i := 5) (N := some 63) (v := undef) (a' := ?_) #[true, true, true, true, true, true, false, false, false, false, false, false, false] rfl rfl (any_of HT_.out zq12) (fun _ _ _ h => h) (Or.inr ⟨by rfl, rfl⟩) ?_ ?_
              rotate_left
              ·
               simp only [Act.put, List.setIfInBounds_toArray, List.set_cons_zero, List.set_cons_succ, i64_w, i32_w]
               rfl
              refine pure_ (i := 6) (N := some 64) (v := undef) (a' := ?_) #[true, true, true, true, true, true, true, false, false, false, false, false, false] rfl rfl (any_of HT_.out zq12) (fun _ _ _ h => h) (Or.inr ⟨by rfl, rfl⟩) ?_ ?_
              rotate_left
              ·
               simp only [Act.put, List.setIfInBounds_toArray, List.set_cons_zero, List.set_cons_succ, i64_w, i32_w]
               rfl
              refine pure_ (i := 7) (N := some 65) (v := undef) (a' := ?_) #[true, true, true, true, true, true, true, true, false, false, false, false, false] rfl rfl (any_of HT_.out zq12) (fun _ _ _ h => h) (Or.inr ⟨by rfl, rfl⟩) ?_ ?_
              rotate_left
              ·
               simp only [Act.put, List.setIfInBounds_toArray, List.set_cons_zero, List.set_cons_succ, i64_w, i32_w]
               rfl
              refine pure_ (i := 8) (N := some 66) (v := undef) (a' := ?_) #[true, true, true, true, true, true, true, true, true, false, false, false, false] rfl rfl (any_of HT_.out zq12) (fun _ _ _ h => h) (Or.inr ⟨by rfl, rfl⟩) ?_ ?_
              rotate_left
              ·
               simp only [Act.put, List.setIfInBounds_toArray, List.set_cons_zero, List.set_cons_succ, i64_w, i32_w]
               rfl
              refine pure_ (i := 9) (N := some 67) (v := undef) (a' := ?_) #[true, true, true, true, true, true, true, true, true, true, false, false, false] rfl rfl (any_of HT_.out zq12) (fun _ _ _ h => h) (Or.inr ⟨by rfl, rfl⟩) ?_ ?_
              rotate_left
              ·
               simp only [Act.put, List.setIfInBounds_toArray, List.set_cons_zero, List.set_cons_succ, i64_w, i32_w]
               rfl
              refine pure_ (i := 10) (N := some 68) (v := undef) (a' := ?_) #[true, true, true, true, true, true, true, true, true, true, true, false, false] rfl rfl (any_of HT_.out zq12) (fun _ _ _ h => h) (Or.inr ⟨by rfl, rfl⟩) ?_ ?_
              rotate_left
              ·
               simp only [Act.put, List.setIfInBounds_toArray, List.set_cons_zero, List.set_cons_succ, i64_w, i32_w]
               rfl
              refine pure_ (i := 11) (N := some 69) (v := undef) (a' := ?_) #[true, true, true, true, true, true, true, true, true, true, true, true, false] rfl rfl (any_of HT_.out zq12) (fun _ _ _ h => h) (Or.inr ⟨by rfl, rfl⟩) ?_ ?_
              rotate_left
              ·
               simp only [Act.put, List.setIfInBounds_toArray, List.set_cons_zero, List.set_cons_succ, i64_w, i32_w]
               rfl
              refine pure_ (i := 12) (N := some 70) #[true, true, true, true, true, true, true, true, true, true, true, true, true] rfl rfl (any_of HT_.out zq12) (fun _ _ _ h => h) (Or.inl ⟨by rfl, zpv⟩) zpw ?_
              refine done_ (done_of HT_.out zq12) ?_
              try go_wp2
              go_meet
              case rel => exact ⟨_, (false), zq16, H', ⟨by have := HK1.out; have := HK2.out; have := HJ6.out; first | omega | exact Nat.le_refl _⟩, ⟨zq55⟩, ⟨zq61⟩, ⟨zq62⟩, ⟨zq23⟩⟩
            case rest =>
             clear HC28
             obtain ⟨kq, x70_27, rfl, HA, HJ27, HO_3, BK829, BK831, HB⟩ := hcut
             cases kq with
             | zero => exact absurd HA.out (by simp [rb_Begin.j4])
             | succ kj27 =>
              have H := HA.out
              clear HA
              simp only [rb_Begin.j4] at H
              by_cases c37 : x70_27 = true
              ·
               subst c37
               rw [if_pos rfl] at H
               have H' := za H
               clear H
               go_wp2
               go_roundg kj27
               case measure => have := HK1.out; have := HK2.out; have := HJ6.out; have := HJ27.out; omega
               case rel => exact ⟨(x3_2), (wrap64 (x5_2 + 1)), zq16, H', ⟨by have := HK1.out; have := HK2.out; have := HJ6.out; have := HJ27.out; omega⟩, ⟨zq91⟩, ⟨zq23⟩⟩
              ·
               replace c37 := Bool.eq_false_iff.mpr c37
               subst c37
               rw [if_neg (show ¬ (false = true) by decide)] at H
               by_cases c38 : x3_2.length < 3518437208883
               ·
                rw [if_pos c38] at H
                have LMc38 := za c38
                clear c38
                obtain ⟨y836, hy836⟩ : ∃ y_ : List (S61), y_ = (x3_2 ++ [(⟨(⟨#[]⟩ : ByteArray), (⟨#[]⟩ : ByteArray), 0⟩ : S61)]) := ⟨_, rfl⟩
                replace H : (rb_Begin.l3 kj27 l0 y836 x4_1 x5_2 x8_6 (wrap64 ((y836.length : Int) - 1)) ((rd_T39 l0 x4_1).f0) ((rd_T64 ((rd_T39 l0 x4_1).f3) x5_2).f0) ((rd_T64 ((rd_T39 l0 x4_1).f3) x5_2).f2)) = some r := by first | (rw [hy836]; with_reducible exact H) | (have H2_ := (Option.bind_some _ _).symm.trans H; rw [hy836]; with_reducible exact H2_) | (have H2_ := (Option.bind_some _ _).symm.trans H; with_reducible exact H2_) | with_reducible exact H | (rw [hy836]; exact H) | exact H
                have Ny836 := za hy836
                clear hy836
                have H' := za H
                clear H
                go_wp2_with (first | ((with_reducible refine gate_builtin (b := .append) (xs := #[.tmp 71, .tmp 73]) rfl ?_); at_builtin; refine Kd.R_append k61 (w0 := w) w.heap.size rfl (.tmp 71) (.tmp 73) 24 61 (.agg #[(.string ⟨#[]⟩), (.string ⟨#[]⟩), (.int .i64 0)]) 40 rfl Try.underlying24 info61 rfl (by decide) (by omega) u3 x3_2 (⟨(⟨#[]⟩ : ByteArray), (⟨#[]⟩ : ByteArray), 0⟩ : S61) [.string (⟨#[]⟩ : ByteArray), .string (⟨#[]⟩ : ByteArray), .int .i64 0] (fun k_ => k_ ≠ gb831) (fun _ => False) rfl rfl ?aP (fun _ hk => hk.elim) ?aF ?aO ?aB ?aS ?aL ?_; (case aP => exact k61_mkM _ _ _ (⟨(⟨#[]⟩ : ByteArray), (⟨#[]⟩ : ByteArray), 0⟩ : S61)); (case aB => exact zq23); (case aF => exact (fun k_ hk => Kd.freshB (g := gb831) (zb BK831.out) k_ hk)); (case aO => exact (zr HO_3.out)); (case aS => exact (below_size zq23)); (case aL => have := LMc38.out; omega); intro v837 w39 ho hb hg hat; rw [← Ny836.out] at ho; replace BK829 := za (blk_grown (g := gb829) (zb BK829.out) hg (Kd.R_ne HO_3.out BK829.out (by decide))); replace BK831 := za (blk_grown (g := gb831) (zb BK831.out) hg (Kd.R_away HO_3.out (fun _ hk => hk))); replace HB := za (hb); have HO838 := za (ho); clear HO_3; clear ho hb hg hat; obtain ⟨Ao40, co40, eo40⟩ := Kd.R_slice HO838.out; subst eo40))
                go_loopg [9] kj27 (fun kq v9 w' => ∃ (x3_5 : List (S61)) (x9_5 : Int) (x832000_5 : ByteArray) (x832001_5 : ByteArray) (x832002_5 : Int), v9 = .int .i64 x9_5 ∧ Aside0 (rb_Begin.l3 kq l0 x3_5 x4_1 x5_2 x8_6 x9_5 x832000_5 x832001_5 x832002_5 = some r) ∧ Aside0 (kq ≤ kj27) ∧ Aside0 (Kd.R k61 61 w' w.heap.size (fun k_ => k_ ≠ gb831) (.slice Ao40 y836.length co40) x3_5) ∧ Aside0 (w'.heap[gb829]? = some (.cells #[.string ((rd_T64 ((rd_T39 l0 x4_1).f3) x5_2).f0), .string ((rd_T64 ((rd_T39 l0 x4_1).f3) x5_2).f1), .int .i64 ((rd_T64 ((rd_T39 l0 x4_1).f3) x5_2).f2), .int .i64 ((rd_T64 ((rd_T39 l0 x4_1).f3) x5_2).f3)] 64 (0, 0))) ∧ Aside0 (w'.heap[gb831]? = some (.cells #[.string x832000_5, .string x832001_5, .int .i64 x832002_5] 61 (0, 0))) ∧ Aside0 (Below w.heap.size w w'))
                case atStart => exact ⟨(y836), (wrap64 ((y836.length : Int) - 1)), (((rd_T39 l0 x4_1).f0)), (((rd_T64 ((rd_T39 l0 x4_1).f3) x5_2).f0)), (((rd_T64 ((rd_T39 l0 x4_1).f3) x5_2).f2)), zq16, H', ⟨Nat.le_refl _⟩, ⟨by (with_reducible repeat (first | apply Kd.R_alloc | apply Kd.R_drewN | apply Kd.R_drew)); exact HO838.out⟩, ⟨zq61⟩, ⟨zq62⟩, ⟨zq23⟩⟩
                case round =>
                 clear H'
                 obtain ⟨x3_5, x9_5, x832000_5, x832001_5, x832002_5, rfl, HA, HK5, HO_3, BK829, BK831, HB⟩ := hrel
                 have hl3_5 := (Kd.R_reads' HO_3.out).1
                 rw [hl3_5] at HO_3
                 (try simp only [hl3_5])
                 (try simp only [hl3_5] at BK829)
                 (try simp only [hl3_5] at BK831)
                 cases gk with
                 | zero => exact absurd HA.out (by simp [rb_Begin.l3])
                 | succ k5 =>
                  have H := HA.out
                  clear HA
                  simp only [rb_Begin.l3] at H
                  by_cases c41 : x9_5 > x8_6
                  ·
                   rw [if_pos c41] at H
                   have c41b0 : decide (x8_6 < x9_5) = true := decide_eq_true c41
                   clear c41
                   obtain ⟨ji42, hji42⟩ : ∃ j_ : Int, (wrap64 (x9_5 - 1)) = j_ := ⟨_, rfl⟩
                   replace H : (if 0 ≤ (ji42) then (if (ji42) < (x3_5.length : Int) then (if 0 ≤ x9_5 then (if x9_5 < (x3_5.length : Int) then (rb_Begin.l3 k5 l0 (x3_5.set (x9_5 : Int).toNat (⟨(rd_T61 x3_5 (ji42)).f0, (rd_T61 x3_5 (ji42)).f1, (rd_T61 x3_5 (ji42)).f2⟩ : S61)) x4_1 x5_2 x8_6 ji42 x832000_5 x832001_5 x832002_5) else (none)) else (none)) else (none)) else (none)) = some r := by first | (rw [hji42] at H; exact H) | (simp only [hji42] at H ⊢; exact H)
                   have hji42w : (IntKind.i64.wrap (x9_5 - 1)) = ji42 := (i64_w _).trans hji42
                   by_cases c43 : 0 ≤ (ji42)
                   ·
                    rw [if_pos c43] at H
                    have c43b0 := decide_eq_true c43
                    clear c43
                    by_cases c44 : (ji42) < (x3_5.length : Int)
                    ·
                     rw [if_pos c44] at H
                     have c44b0 := decide_eq_true c44
                     clear c44
                     by_cases c45 : 0 ≤ x9_5
                     ·
                      rw [if_pos c45] at H
                      have c45b0 := decide_eq_true c45
                      clear c45
                      by_cases c46 : x9_5 < (x3_5.length : Int)
                      ·
                       rw [if_pos c46] at H
                       have c46b0 := decide_eq_true c46
                       clear c46
                       obtain ⟨y840, hy840⟩ : ∃ y_ : List (S61), y_ = (x3_5.set (x9_5 : Int).toNat (⟨(rd_T61 x3_5 (ji42)).f0, (rd_T61 x3_5 (ji42)).f1, (rd_T61 x3_5 (ji42)).f2⟩ : S61)) := ⟨_, rfl⟩
                       replace H : (rb_Begin.l3 k5 l0 y840 x4_1 x5_2 x8_6 ji42 x832000_5 x832001_5 x832002_5) = some r := by first | (rw [hy840]; with_reducible exact H) | (have H2_ := (Option.bind_some _ _).symm.trans H; rw [hy840]; with_reducible exact H2_) | (have H2_ := (Option.bind_some _ _).symm.trans H; with_reducible exact H2_) | with_reducible exact H | (rw [hy840]; exact H) | exact H
                       have Ny840 := za hy840
                       clear hy840
                       have H' := za H
                       clear H
                       have p839 : 0 ≤ ((ji42) : Int) := of_decide_eq_true zq6
                       have q839 : (ji42) < (x3_5.length : Int) := of_decide_eq_true zq6
                       obtain ⟨ad839, e839, hx839_0, hx839_1, hx839_2⟩ := at_T61 (Kd.R_reads' HO_3.out).2.2 (ji42) p839 q839
                       cases e839
                       replace p839 := eq_true p839
                       replace q839 := eq_true q839
                       have p47 : 0 ≤ (x9_5 : Int) := of_decide_eq_true zq6
                       have q47 : (x9_5 : Int) < ((x3_5.length : Int) : Int) := of_decide_eq_true zq6
                       obtain ⟨go47, co47, eo47, gb47, gl47, cl47, HG47⟩ := Kd.R_form HO_3.out (by omega)
                       (first | cases eo47 | (injection eo47 with ea_ en_ ec_; (first | subst ea_ | (injection ea_ with ea_; subst ea_)); subst ec_; clear en_))
                       have GB47 := za gb47
                       have GG47 := za HG47
                       clear gb47 gl47 HG47
                       (first | simp only [add_plain] at hx839_0 | skip)
                       (first | simp only [add_plain] at hx839_1 | skip)
                       (first | simp only [add_plain] at hx839_2 | skip)
                       obtain ⟨ce47, hcl47, hM47, hcc47, hfr47⟩ := Kd.R_elem HO_3.out z61 (x9_5 : Int) p47 q47
                       obtain rfl := k61_openM hM47
                       have hx47_0 : wr.cell? ⟨go47, (x9_5 : Int).toNat * 3, none⟩ = some (.string ((rd_T61 x3_5 x9_5).f0)) := hcc47 0 _ rfl
                       have hx47_1 : wr.cell? ⟨go47, (x9_5 : Int).toNat * 3 + 1, none⟩ = some (.string ((rd_T61 x3_5 x9_5).f1)) := hcc47 1 _ rfl
                       have hx47_2 : wr.cell? ⟨go47, (x9_5 : Int).toNat * 3 + 2, none⟩ = some (.int .i64 ((rd_T61 x3_5 x9_5).f2)) := hcc47 2 _ rfl
                       have hf47_0 : wr.frozen? ⟨go47, (x9_5 : Int).toNat * 3, none⟩ = false := hfr47 0
                       have hf47_1 : wr.frozen? ⟨go47, (x9_5 : Int).toNat * 3 + 1, none⟩ = false := hfr47 1
                       have hf47_2 : wr.frozen? ⟨go47, (x9_5 : Int).toNat * 3 + 2, none⟩ = false := hfr47 2
                       clear hcl47 hcc47 hfr47 hM47
                       replace p47 := eq_true p47
                       replace q47 := eq_true q47
                       have HX48 := za (show Kd.R k61 61 wr w.heap.size (fun k_ => k_ ≠ gb831) (.slice (some ⟨go47, 0, none⟩) x3_5.length co40) x3_5 from (zr HO_3.out))
                       obtain ⟨ce48, hcl48, hM48, hcc48, hfr48⟩ := Kd.R_elem HX48.out z61 (x9_5 : Int) (of_decide_eq_true zq6) (by have h_ : (x9_5 : Int) < ((x3_5.length : Int) : Int) := of_decide_eq_true zq6; first | exact h_ | (have e_ := (Kd.R_reads' HO_3.out).1; omega) | simpa using h_)
                       obtain rfl := k61_openM hM48
                       have HP48 := Kd.R_seg HX48.out (x9_5 : Int) (of_decide_eq_true zq6) (by have h_ : (x9_5 : Int) < ((x3_5.length : Int) : Int) := of_decide_eq_true zq6; first | exact h_ | (have e_ := (Kd.R_reads' HO_3.out).1; omega) | simpa using h_) (seg := [.string ((rd_T61 x3_5 (ji42)).f0), .string ((rd_T61 x3_5 (ji42)).f1), .int .i64 ((rd_T61 x3_5 (ji42)).f2)]) (j := 0) hcl48 hcc48 (show 3 ≤ 3 from by decide) (x' := (⟨(rd_T61 x3_5 (ji42)).f0, (rd_T61 x3_5 (ji42)).f1, (rd_T61 x3_5 (ji42)).f2⟩ : S61)) (k61_mkM _ _ _ (⟨(rd_T61 x3_5 (ji42)).f0, (rd_T61 x3_5 (ji42)).f1, (rd_T61 x3_5 (ji42)).f2⟩ : S61) ) (fun _ hk => hk)
                       have hx48_0 := hcc48 0 _ rfl
                       (try simp only [show (k61).sz = 3 from rfl, Nat.mul_one, Nat.add_zero] at hx48_0)
                       have hf48_0 := hfr48 0
                       (try simp only [show (k61).sz = 3 from rfl, Nat.mul_one, Nat.add_zero] at hf48_0)
                       have hx48_1 := hcc48 1 _ rfl
                       (try simp only [show (k61).sz = 3 from rfl, Nat.mul_one, Nat.add_zero] at hx48_1)
                       have hf48_1 := hfr48 1
                       (try simp only [show (k61).sz = 3 from rfl, Nat.mul_one, Nat.add_zero] at hf48_1)
                       have hx48_2 := hcc48 2 _ rfl
                       (try simp only [show (k61).sz = 3 from rfl, Nat.mul_one, Nat.add_zero] at hx48_2)
                       have hf48_2 := hfr48 2
                       (try simp only [show (k61).sz = 3 from rfl, Nat.mul_one, Nat.add_zero] at hf48_2)
                       clear hcl48 hcc48 hfr48 hM48
                       go_wp2_with (first | ((with_reducible refine gate_store (t := 61) (p := 90) rfl ?_); refine store_event (t := 61) (p := 90) (v := ?vo_w49) (w1 := (((wr.setCell ⟨go47, (x9_5 : Int).toNat * 3, none⟩ (.string ((rd_T61 x3_5 (ji42)).f0))).setCell ⟨go47, (x9_5 : Int).toNat * 3 + 1, none⟩ (.string ((rd_T61 x3_5 (ji42)).f1))).setCell ⟨go47, (x9_5 : Int).toNat * 3 + 2, none⟩ (.int .i64 ((rd_T61 x3_5 (ji42)).f2)))) ?hg ?ho ?hn ?hr ?_; (case ho => rfl); (case hg => rfl); (case hn => rfl); (case hr => exact zq17); intro w49 hw; have hg : wr.grownBy w49 (some go47) := (by rw [hw]; exact HP48.2); have hp_ : Kd.R k61 61 w49 w.heap.size (fun k_ => k_ ≠ gb831) (.slice (some ⟨go47, 0, none⟩) x3_5.length co40) y840 := (by rw [hw, Ny840.out]; exact HP48.1); clear HP48; replace BK829 := za (blk_grown (g := gb829) (zb BK829.out) hg (Kd.R_ne HO_3.out BK829.out (by decide))); replace BK831 := za (blk_grown (g := gb831) (zb BK831.out) hg (Kd.R_away HO_3.out (fun _ hk => hk))); replace HO_3 := za (hp_); replace HB := za ((by rw [hw]; exact below_set (below_set (below_set (HB.out) GB47.out) GB47.out) GB47.out : Below w.heap.size w w49)); clear hg hw hp_))
                       (try simp only [← hl3_5])
                       go_roundg k5
                       case measure => have := HK1.out; have := HK2.out; have := HJ6.out; have := HJ27.out; have := HK5.out; omega
                       case rel => exact ⟨(y840), (ji42), (x832000_5), (x832001_5), (x832002_5), (by first | rfl | (simp; done) | (simp only [← hji42] <;> (first | rfl | simp)) | (simp [*]; done)), H', ⟨by have := HK1.out; have := HK2.out; have := HJ6.out; have := HJ27.out; have := HK5.out; omega⟩, ⟨by (try simp only [hl3_5]); (with_reducible repeat (first | apply Kd.R_alloc | apply Kd.R_drewN | apply Kd.R_drew)); exact HO_3.out⟩, ⟨by (try simp only [hl3_5]); (with_reducible repeat (first | refine blk_drewN ?_ _ | refine blk_drew ?_ | refine blk_alloc ?_ _)); exact BK829.out⟩, ⟨by (try simp only [hl3_5]); (with_reducible repeat (first | refine blk_drewN ?_ _ | refine blk_drew ?_ | refine blk_alloc ?_ _)); exact BK831.out⟩, ⟨zq23⟩⟩
                      ·
                       rw [if_neg c46] at H
                       exact absurd H (by simp)
                     ·
                      rw [if_neg c45] at H
                      exact absurd H (by simp)
                    ·
                     rw [if_neg c44] at H
                     exact absurd H (by simp)
                   ·
                    rw [if_neg c43] at H
                    exact absurd H (by simp)
                  ·
                   rw [if_neg c41] at H
                   have c41b0 : decide (x8_6 < x9_5) = false := decide_eq_false c41
                   clear c41
                   by_cases c50 : 0 ≤ x8_6
                   ·
                    rw [if_pos c50] at H
                    have c50b0 := decide_eq_true c50
                    clear c50
                    by_cases c51 : x8_6 < (x3_5.length : Int)
                    ·
                     rw [if_pos c51] at H
                     have c51b0 := decide_eq_true c51
                     clear c51
                     obtain ⟨y841, hy841⟩ : ∃ y_ : List (S61), y_ = (x3_5.set (x8_6 : Int).toNat (⟨x832000_5, x832001_5, x832002_5⟩ : S61)) := ⟨_, rfl⟩
                     replace H : (rb_Begin.l1 k5 l0 y841 x4_1 (wrap64 (x5_2 + 1))) = some r := by first | (rw [hy841]; with_reducible exact H) | (have H2_ := (Option.bind_some _ _).symm.trans H; rw [hy841]; with_reducible exact H2_) | (have H2_ := (Option.bind_some _ _).symm.trans H; with_reducible exact H2_) | with_reducible exact H | (rw [hy841]; exact H) | exact H
                     have Ny841 := za hy841
                     clear hy841
                     have H' := za H
                     clear H
                     have hnb53 := NB831_829.out
                     have hnc53 := NB829_831.out
                     obtain ⟨hcz54_0, hcz54_1, hcz54_2⟩ := zc3 BK831.out
                     obtain ⟨hfz54_0, hfz54_1, hfz54_2⟩ := zf3 BK831.out
                     have p52 : 0 ≤ (x8_6 : Int) := of_decide_eq_true zq6
                     have q52 : (x8_6 : Int) < ((x3_5.length : Int) : Int) := of_decide_eq_true zq6
                     obtain ⟨go52, co52, eo52, gb52, gl52, cl52, HG52⟩ := Kd.R_form HO_3.out (by omega)
                     (first | cases eo52 | (injection eo52 with ea_ en_ ec_; (first | subst ea_ | (injection ea_ with ea_; subst ea_)); subst ec_; clear en_))
                     have GB52 := za gb52
                     have GG52 := za HG52
                     clear gb52 gl52 HG52
                     obtain ⟨ce52, hcl52, hM52, hcc52, hfr52⟩ := Kd.R_elem HO_3.out z61 (x8_6 : Int) p52 q52
                     obtain rfl := k61_openM hM52
                     have hx52_0 : wr.cell? ⟨go52, (x8_6 : Int).toNat * 3, none⟩ = some (.string ((rd_T61 x3_5 x8_6).f0)) := hcc52 0 _ rfl
                     have hx52_1 : wr.cell? ⟨go52, (x8_6 : Int).toNat * 3 + 1, none⟩ = some (.string ((rd_T61 x3_5 x8_6).f1)) := hcc52 1 _ rfl
                     have hx52_2 : wr.cell? ⟨go52, (x8_6 : Int).toNat * 3 + 2, none⟩ = some (.int .i64 ((rd_T61 x3_5 x8_6).f2)) := hcc52 2 _ rfl
                     have hf52_0 : wr.frozen? ⟨go52, (x8_6 : Int).toNat * 3, none⟩ = false := hfr52 0
                     have hf52_1 : wr.frozen? ⟨go52, (x8_6 : Int).toNat * 3 + 1, none⟩ = false := hfr52 1
                     have hf52_2 : wr.frozen? ⟨go52, (x8_6 : Int).toNat * 3 + 2, none⟩ = false := hfr52 2
                     clear hcl52 hcc52 hfr52 hM52
                     replace p52 := eq_true p52
                     replace q52 := eq_true q52
                     have HX55 := za (show Kd.R k61 61 wr w.heap.size (fun k_ => k_ ≠ gb831) (.slice (some ⟨go52, 0, none⟩) x3_5.length co40) x3_5 from (zr HO_3.out))
                     obtain ⟨ce55, hcl55, hM55, hcc55, hfr55⟩ := Kd.R_elem HX55.out z61 (x8_6 : Int) (of_decide_eq_true zq6) (by have h_ : (x8_6 : Int) < ((x3_5.length : Int) : Int) := of_decide_eq_true zq6; first | exact h_ | (have e_ := (Kd.R_reads' HO_3.out).1; omega) | simpa using h_)
                     obtain rfl := k61_openM hM55
                     have HP55 := Kd.R_seg HX55.out (x8_6 : Int) (of_decide_eq_true zq6) (by have h_ : (x8_6 : Int) < ((x3_5.length : Int) : Int) := of_decide_eq_true zq6; first | exact h_ | (have e_ := (Kd.R_reads' HO_3.out).1; omega) | simpa using h_) (seg := [.string x832000_5, .string x832001_5, .int .i64 x832002_5]) (j := 0) hcl55 hcc55 (show 3 ≤ 3 from by decide) (x' := (⟨x832000_5, x832001_5, x832002_5⟩ : S61)) (k61_mkM _ _ _ (⟨x832000_5, x832001_5, x832002_5⟩ : S61) ) (fun _ hk => hk)
                     have hx55_0 := hcc55 0 _ rfl
                     (try simp only [show (k61).sz = 3 from rfl, Nat.mul_one, Nat.add_zero] at hx55_0)
                     have hf55_0 := hfr55 0
                     (try simp only [show (k61).sz = 3 from rfl, Nat.mul_one, Nat.add_zero] at hf55_0)
                     have hx55_1 := hcc55 1 _ rfl
                     (try simp only [show (k61).sz = 3 from rfl, Nat.mul_one, Nat.add_zero] at hx55_1)
                     have hf55_1 := hfr55 1
                     (try simp only [show (k61).sz = 3 from rfl, Nat.mul_one, Nat.add_zero] at hf55_1)
                     have hx55_2 := hcc55 2 _ rfl
                     (try simp only [show (k61).sz = 3 from rfl, Nat.mul_one, Nat.add_zero] at hx55_2)
                     have hf55_2 := hfr55 2
                     (try simp only [show (k61).sz = 3 from rfl, Nat.mul_one, Nat.add_zero] at hf55_2)
                     clear hcl55 hcc55 hfr55 hM55
                     go_wp2_with (first | ((with_reducible refine gate_store (t := 61) (p := 94) rfl ?_); refine store_event (t := 61) (p := 94) (v := ?vo_w56) (w1 := (((wr.setCell ⟨go52, (x8_6 : Int).toNat * 3, none⟩ (.string x832000_5)).setCell ⟨go52, (x8_6 : Int).toNat * 3 + 1, none⟩ (.string x832001_5)).setCell ⟨go52, (x8_6 : Int).toNat * 3 + 2, none⟩ (.int .i64 x832002_5))) ?hg ?ho ?hn ?hr ?_; (case ho => rfl); (case hg => rfl); (case hn => rfl); (case hr => exact zq17); intro w56 hw; have hg : wr.grownBy w56 (some go52) := (by rw [hw]; exact HP55.2); have hp_ : Kd.R k61 61 w56 w.heap.size (fun k_ => k_ ≠ gb831) (.slice (some ⟨go52, 0, none⟩) x3_5.length co40) y841 := (by rw [hw, Ny841.out]; exact HP55.1); clear HP55; replace BK829 := za (blk_grown (g := gb829) (zb BK829.out) hg (Kd.R_ne HO_3.out BK829.out (by decide))); replace BK831 := za (blk_grown (g := gb831) (zb BK831.out) hg (Kd.R_away HO_3.out (fun _ hk => hk))); replace HO_3 := za (hp_); replace HB := za ((by rw [hw]; exact below_set (below_set (below_set (HB.out) GB52.out) GB52.out) GB52.out : Below w.heap.size w w56)); clear hg hw hp_))
                     (try simp only [← hl3_5])
                     go_roundg k5
                     case measure => have := HK1.out; have := HK2.out; have := HJ6.out; have := HJ27.out; have := HK5.out; omega
                     case rel => exact ⟨(y841), (wrap64 (x5_2 + 1)), zq16, H', ⟨by have := HK1.out; have := HK2.out; have := HJ6.out; have := HJ27.out; have := HK5.out; omega⟩, ⟨by (try simp only [hl3_5]); (with_reducible repeat (first | apply Kd.R_alloc | apply Kd.R_drewN | apply Kd.R_drew)); exact Kd.R_mono HO_3.out (fun _ hk => trivial)⟩, ⟨zq23⟩⟩
                    ·
                     rw [if_neg c51] at H
                     exact absurd H (by simp)
                   ·
                    rw [if_neg c50] at H
                    exact absurd H (by simp)
               ·
                rw [if_neg c38] at H
                exact absurd H (by simp)
         ·
          rw [if_neg c6] at H
          exact absurd H (by simp)
        ·
         rw [if_neg c5] at H
         have c5b0 := decide_eq_false c5
         clear c5
         have H' := za H
         clear H
         have p826 : 0 ≤ (x4_1 : Int) := of_decide_eq_true zq6
         have q826 : x4_1 < (l0.length : Int) := of_decide_eq_true zq6
         obtain ⟨ad826, A826_2, c826_2, A826_3, c826_3, A826_4, c826_4, e826, hx826_0, hx826_1, hx826_2, hx826_3, hx826_4, hl826_2, hi826_2, hl826_3, hi826_3, hl826_4, hi826_4⟩ := at_T39 HR0.out x4_1 p826 q826
         cases e826
         replace hx826_0 := (HB.out.cell (World.block_lt_of_cell? w _ hx826_0)).trans hx826_0
         replace hx826_1 := (HB.out.cell (World.block_lt_of_cell? w _ hx826_1)).trans hx826_1
         replace hx826_2 := (HB.out.cell (World.block_lt_of_cell? w _ hx826_2)).trans hx826_2
         replace hx826_3 := (HB.out.cell (World.block_lt_of_cell? w _ hx826_3)).trans hx826_3
         replace hx826_4 := (HB.out.cell (World.block_lt_of_cell? w _ hx826_4)).trans hx826_4
         have HR826_2 := za hi826_2
         have HC826_2 := za hl826_2
         clear hi826_2 hl826_2
         have HR826_3 := za hi826_3
         have HC826_3 := za hl826_3
         clear hi826_3 hl826_3
         have HR826_4 := za hi826_4
         have HC826_4 := za hl826_4
         clear hi826_4 hl826_4
         replace p826 := eq_true p826
         replace q826 := eq_true q826
         go_wp2
         go_roundg k2
         case measure => have := HK1.out; have := HK2.out; omega
         case rel => exact ⟨(x3_2), (wrap64 (x4_1 + 1)), zq16, H', ⟨by have := HK1.out; have := HK2.out; omega⟩, ⟨zq55⟩, ⟨zq2⟩⟩
       ·
        rw [if_neg c4] at H
        exact absurd H (by simp)
      ·
       rw [if_neg c3] at H
       exact absurd H (by simp)
   ·
    rw [if_neg c2] at H
    have c2b0 := decide_eq_false c2
    clear c2
    obtain rfl := Option.some.inj H
    go_wp2
    go_ret
    exact ⟨_, zq14, zq55, zq2⟩
end Go.Proofs.Ytcjnhnnfoadklaa.QRunCounts
