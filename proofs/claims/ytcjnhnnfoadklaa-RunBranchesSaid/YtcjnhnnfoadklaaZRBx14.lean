import Derived.Test.YtcjnhnnfoadklaaZRBx13
namespace Go.Proofs.Ytcjnhnnfoadklaa.QRunBranches
open Go.RowKit Go.Proofs.YtcjnhnnfoadklaaW.PrintWords Go.Proofs.YtcjnhnnfoadklaaW.PrintLast Go.Proofs.YtcjnhnnfoadklaaW.PrintMore
attribute [local go_sem] max2_int min2_int max_two min_two max_three min_three max_four min_four
set_option linter.unusedVariables false
set_option linter.unusedSimpArgs false
mutual
def rr_module.l0 : Nat → List (S110) → Int → Int → Int → Int → ByteArray → Int → Option (ByteArray × Int × (List (S116)) × (List (S64)) × (List (S44)) × Int × Int × Int × Int)
 | 0, _, _, _, _, _, _, _ => none
 | k + 1, x1000, x1001, x1002, x1003, x1004, x757000, x757001 => (rr_take.f x1000 x1001 x1002 x1003 x1004 (⟨#[105, 109, 112, 111, 114, 116]⟩ : ByteArray)).bind fun bt761 => (if bt761.1 = true then (none) else (rr_module.l1 k x1000 bt761.2.1 bt761.2.2.1 bt761.2.2.2.1 bt761.2.2.2.2 x757000 x757001 ([] : List (S64)) ([] : List (S44))))
def rr_module.l1 : Nat → List (S110) → Int → Int → Int → Int → ByteArray → Int → List (S64) → List (S44) → Option (ByteArray × Int × (List (S116)) × (List (S64)) × (List (S44)) × Int × Int × Int × Int)
 | 0, _, _, _, _, _, _, _, _, _ => none
 | k + 1, x1000, x1001, x1002, x1003, x1004, x757000, x757001, x757003, x757004 => if x1003 = 0 then (if 0 ≤ x1001 then (if x1001 < (x1000.length : Int) then (rr_module.j2 k (((rd_T110 x1000 x1001).f0) != 0) x1000 x1001 x1002 x1003 x1004 x757000 x757001 x757003 x757004) else (none)) else (none)) else (rr_module.j2 k false x1000 x1001 x1002 x1003 x1004 x757000 x757001 x757003 x757004)
def rr_module.j2 : Nat → Bool → List (S110) → Int → Int → Int → Int → ByteArray → Int → List (S64) → List (S44) → Option (ByteArray × Int × (List (S116)) × (List (S64)) × (List (S44)) × Int × Int × Int × Int)
 | 0, _, _, _, _, _, _, _, _, _, _ => none
 | k + 1, x45, x1000, x1001, x1002, x1003, x1004, x757000, x757001, x757003, x757004 => if x45 = true then ((rr_take.f x1000 x1001 x1002 x1003 x1004 (⟨#[118, 97, 114]⟩ : ByteArray)).bind fun bt767 => (if bt767.1 = true then ((rr_variable.f k x1000 bt767.2.1 bt767.2.2.1 bt767.2.2.2.1 bt767.2.2.2.2).bind fun bt772 => (if x757003.length < 2932031007402 then (rr_module.l1 k x1000 bt772.2.2.2.2.1 bt772.2.2.2.2.2.1 bt772.2.2.2.2.2.2.1 bt772.2.2.2.2.2.2.2 x757000 x757001 (x757003 ++ [(⟨bt772.1, bt772.2.1, bt772.2.2.1, bt772.2.2.2.1⟩ : S64)]) x757004) else (none))) else ((rr_take.f x1000 bt767.2.1 bt767.2.2.1 bt767.2.2.2.1 bt767.2.2.2.2 (⟨#[112, 114, 111, 99]⟩ : ByteArray)).bind fun bt783 => (if bt783.1 = true then ((rr_proc.f k x1000 bt783.2.1 bt783.2.2.1 bt783.2.2.2.1 bt783.2.2.2.2).bind fun bt788 => (if x757004.length < 1034834473200 then (rr_module.l1 k x1000 bt788.2.2.2.2.2.2.2.2.1 bt788.2.2.2.2.2.2.2.2.2.1 bt788.2.2.2.2.2.2.2.2.2.2.1 bt788.2.2.2.2.2.2.2.2.2.2.2 x757000 x757001 x757003 (x757004 ++ [(⟨bt788.1, bt788.2.1, bt788.2.2.1, bt788.2.2.2.1, bt788.2.2.2.2.1, bt788.2.2.2.2.2.1, bt788.2.2.2.2.2.2.1, bt788.2.2.2.2.2.2.2.1⟩ : S44)])) else (none))) else (none))))) else (some (x757000, x757001, ([] : List (S116)), x757003, x757004, x1001, x1002, x1003, x1004))
end
def rr_module.f (k : Nat) (s0_0 : List (S110)) (s0_1 : Int) (s0_2 : Int) (s0_3 : Int) (s0_4 : Int) : Option (ByteArray × Int × (List (S116)) × (List (S64)) × (List (S44)) × Int × Int × Int × Int) := (rr_want.f s0_0 s0_1 s0_2 s0_3 s0_4 (⟨#[109, 111, 100, 117, 108, 101]⟩ : ByteArray)).bind fun bt742 => ((rr_here.f s0_0 bt742.1 bt742.2.1 bt742.2.2.1 bt742.2.2.2).bind fun bt746 => ((rr_name.f s0_0 bt746.2.1 bt746.2.2.1 bt746.2.2.2.1 bt746.2.2.2.2).bind fun bt751 => ((rr_want.f s0_0 bt751.2.1 bt751.2.2.1 bt751.2.2.2.1 bt751.2.2.2.2 (⟨#[59]⟩ : ByteArray)).bind fun bt757 => (rr_module.l0 k s0_0 bt757.1 bt757.2.1 bt757.2.2.1 bt757.2.2.2 bt751.1 bt746.1))))
theorem rr_module.mono_l : ∀ k, (∀ y0 y1 y2 y3 y4 y5 y6, LeO (rr_module.l0 k y0 y1 y2 y3 y4 y5 y6) (rr_module.l0 (k + 1) y0 y1 y2 y3 y4 y5 y6)) ∧ (∀ y0 y1 y2 y3 y4 y5 y6 y7 y8, LeO (rr_module.l1 k y0 y1 y2 y3 y4 y5 y6 y7 y8) (rr_module.l1 (k + 1) y0 y1 y2 y3 y4 y5 y6 y7 y8)) ∧ (∀ y0 y1 y2 y3 y4 y5 y6 y7 y8 y9, LeO (rr_module.j2 k y0 y1 y2 y3 y4 y5 y6 y7 y8 y9) (rr_module.j2 (k + 1) y0 y1 y2 y3 y4 y5 y6 y7 y8 y9))
 | 0 => ⟨fun _ _ _ _ _ _ _ r h => by simp [rr_module.l0] at h, fun _ _ _ _ _ _ _ _ _ r h => by simp [rr_module.l1] at h, fun _ _ _ _ _ _ _ _ _ _ r h => by simp [rr_module.j2] at h⟩
 | k + 1 => by
  obtain ⟨ih0, ih1, ih2⟩ := rr_module.mono_l k
  refine ⟨?_, ?_, ?_⟩
  ·
   intro y0 y1 y2 y3 y4 y5 y6
   unfold rr_module.l0
   repeat' with_reducible first | apply ih0 | apply ih1 | apply ih2 | apply rr_proc.mono | apply rr_variable.mono | exact LeO.refl _ | exact LeO.none _ | refine LeO.ite ?_ ?_ | refine LeO.bind ?_ (fun _ => ?_)
  ·
   intro y0 y1 y2 y3 y4 y5 y6 y7 y8
   unfold rr_module.l1
   repeat' with_reducible first | apply ih0 | apply ih1 | apply ih2 | apply rr_proc.mono | apply rr_variable.mono | exact LeO.refl _ | exact LeO.none _ | refine LeO.ite ?_ ?_ | refine LeO.bind ?_ (fun _ => ?_)
  ·
   intro y0 y1 y2 y3 y4 y5 y6 y7 y8 y9
   unfold rr_module.j2
   repeat' with_reducible first | apply ih0 | apply ih1 | apply ih2 | apply rr_proc.mono | apply rr_variable.mono | exact LeO.refl _ | exact LeO.none _ | refine LeO.ite ?_ ?_ | refine LeO.bind ?_ (fun _ => ?_)
theorem rr_module.mono : ∀ a0 a1 a2 a3 a4 k, LeO (rr_module.f k a0 a1 a2 a3 a4) (rr_module.f (k + 1) a0 a1 a2 a3 a4) := by
 intro a0 a1 a2 a3 a4 k
 obtain ⟨ih0, ih1, ih2⟩ := rr_module.mono_l k
 unfold rr_module.f
 repeat' with_reducible first | apply ih0 | apply ih1 | apply ih2 | apply rr_proc.mono | apply rr_variable.mono | exact LeO.refl _ | exact LeO.none _ | refine LeO.ite ?_ ?_ | refine LeO.bind ?_ (fun _ => ?_)
def rr_module.T7 : Bool × List (List Nat × List Nat) := (true, [([], []), ([0], [0]), ([1], [1]), ([2], [2]), ([3], [3]), ([4], [4]), ([5], [5]), ([6, 5], [5, 6]), ([7, 5], [5, 7]), ([8, 5], [5, 8]), ([5], [5]), ([10, 5], [5, 10]), ([11, 5], [5, 11]), ([12, 5], [5, 12]), ([9, 13, 5], [5, 9, 13]), ([14, 5], [5, 14]), ([15, 5], [5, 15]), ([16, 5], [5, 16]), ([5, 17], [5, 17])])
def rr_module.B7 : List Nat := [0, 1, 3, 7, 15, 31, 63, 127, 255, 511, 63, 1087, 3135, 7231, 16383, 32767, 65535, 131071, 262143]
theorem rr_module.tab7 : rtab .any (opsOf Try.f32 7) = rr_module.T7 := by kernel_rfl
theorem rr_module.bits7 : waitsOk rr_module.T7.2 rr_module.B7 = true := by kernel_rfl
def rr_module.T9 : Bool × List (List Nat × List Nat) := (true, [([], []), ([0], [0]), ([], []), ([2], [2]), ([3], [3]), ([1, 4, 3], [1, 4]), ([0, 1, 2, 3, 4, 5], []), ([6, 5, 5, 0, 1, 2, 3, 4, 5], [5, 6])])
def rr_module.B9 : List Nat := [0, 1, 0, 4, 12, 31, 63, 127]
theorem rr_module.tab9 : rtab .any (opsOf Try.f32 9) = rr_module.T9 := by kernel_rfl
theorem rr_module.bits9 : waitsOk rr_module.T9.2 rr_module.B9 = true := by kernel_rfl
def rr_module.T11 : Bool × List (List Nat × List Nat) := (true, [([], []), ([0], [0]), ([], []), ([2], [2]), ([3], [3]), ([1, 4, 3], [1, 4]), ([0, 1, 2, 3, 4, 5], []), ([6, 5, 5, 0, 1, 2, 3, 4, 5], [5, 6])])
def rr_module.B11 : List Nat := [0, 1, 0, 4, 12, 31, 63, 127]
theorem rr_module.tab11 : rtab .any (opsOf Try.f32 11) = rr_module.T11 := by kernel_rfl
theorem rr_module.bits11 : waitsOk rr_module.T11.2 rr_module.B11 = true := by kernel_rfl
set_option maxHeartbeats 8000000 in
set_option maxRecDepth 100000 in
theorem rr_module.calls (k : Nat) (g : Nat) (s0_0 : List (S110)) (s0_1 : Int) (s0_2 : Int) (s0_3 : Int) (s0_4 : Int) (r1 : ByteArray) (r2 : Int) (r3 : List (S116)) (r4 : List (S64)) (r5 : List (S44)) (r6 : Int) (r7 : Int) (r8 : Int) (r9 : Int) (w0 w : World) (hI : IsS83 w0 w g s0_0 s0_1 s0_2 s0_3 s0_4) (hB : Below w0.heap.size w0 w) (h : rr_module.f k s0_0 s0_1 s0_2 s0_3 s0_4 = some (r1, r2, r3, r4, r5, r6, r7, r8, r9)) :
  Calls Try.prog 32 #[.pointer (some ⟨g, 0, none⟩)] w fun e w' => ∃ v2_ v3_ v4_ : Value, e = .returned (.agg #[.string r1, .int .i64 r2, v2_, v3_, v4_]) ∧ Kd.R k116 116 w' w.heap.size (fun _ => True) v2_ r3 ∧ Kd.R k64 64 w' w.heap.size (fun _ => True) v3_ r4 ∧ Kd.R k44 44 w' w.heap.size (fun _ => True) v4_ r5 ∧ IsS83 w0 w' g s0_0 r6 r7 r8 r9 ∧ Below w0.heap.size w0 w' ∧ KeepBut w w' g none := by
 have hu39 := Try.underlying39
 have hu116 := Try.underlying116
 have HI0 := za hI
 have HK := za (KeepBut.refl w g none)
 have HL := za hB.size
 clear hI
 have HW0 := za hB.size
 have HB := za hB
 clear hB
 have H : ((rr_want.f s0_0 s0_1 s0_2 s0_3 s0_4 (⟨#[109, 111, 100, 117, 108, 101]⟩ : ByteArray)).bind fun bt742 => ((rr_here.f s0_0 bt742.1 bt742.2.1 bt742.2.2.1 bt742.2.2.2).bind fun bt746 => ((rr_name.f s0_0 bt746.2.1 bt746.2.2.1 bt746.2.2.2.1 bt746.2.2.2.2).bind fun bt751 => ((rr_want.f s0_0 bt751.2.1 bt751.2.2.1 bt751.2.2.2.1 bt751.2.2.2.2 (⟨#[59]⟩ : ByteArray)).bind fun bt757 => (rr_module.l0 k s0_0 bt757.1 bt757.2.1 bt757.2.2.1 bt757.2.2.2 bt751.1 bt746.1))))) = some (r1, r2, r3, r4, r5, r6, r7, r8, r9) := h
 clear h
 replace H := Option.bind_eq_some_iff.mp H
 obtain ⟨⟨t742, t743, t744, t745⟩, A20, H⟩ := H
 (try dsimp only at H)
 have A2 := za A20
 clear A20
 replace H := Option.bind_eq_some_iff.mp H
 obtain ⟨⟨t746, t747, t748, t749, t750⟩, A30, H⟩ := H
 (try dsimp only at H)
 have A3 := za A30
 clear A30
 replace H := Option.bind_eq_some_iff.mp H
 obtain ⟨⟨t751, t752, t753, t754, t755⟩, A40, H⟩ := H
 (try dsimp only at H)
 have A4 := za A40
 clear A40
 replace H := Option.bind_eq_some_iff.mp H
 obtain ⟨⟨t757, t758, t759, t760⟩, A50, H⟩ := H
 (try dsimp only at H)
 have A5 := za A50
 clear A50
 have H' := za H
 clear H
 go_enter Try.func32, Try.ntmps32
 go_wp2_with (first | ((with_reducible refine gate_dst (N := 2) rfl ?_); refine box_event ?hg (N := 2) ?hd (cs := #[.string (⟨#[]⟩ : ByteArray), .int .i64 0, .slice none 0 0, .slice none 0 0, .slice none 0 0]) (t := 39) ?hr ?_; (case hd => rfl); (case hg => rfl); (case hr => exact zq19); intro gb741 hg w6 hbox hb; replace HB := za (below_step zq4 hb); have BK741 := za (hbox); have GW741 := za ((by rw [hg]; exact (keep_size (w := w) (g := g) (row := none) zq7) : w.heap.size ≤ gb741)); have GE741 := za ((Nat.le_trans HW0.out (by rw [hg]; exact (keep_size (w := w) (g := g) (row := none) zq7) : w.heap.size ≤ gb741) : w0.heap.size ≤ gb741)); replace HK := za (KeepBut.trans zq7 (KeepBut.of_below hb g none) (.inl rfl)); have NB0_741 := za ((by rw [hg]; exact Nat.ne_of_lt (IsS83.lt (show IsS83 w0 _ g s0_0 s0_1 s0_2 s0_3 s0_4 from zq0)) : g ≠ gb741)); have NB741_0 := za ((by rw [hg]; exact Nat.ne_of_gt (IsS83.lt (show IsS83 w0 _ g s0_0 s0_1 s0_2 s0_3 s0_4 from zq0)) : gb741 ≠ g)); replace HI0 := za (IsS83.below zq0 hb); clear hb hbox hg) | ((with_reducible refine gate_callee (f := 45) rfl ?_); refine goesL_ (some 5) rfl rfl Try.func45 zq13 rfl #[.pointer (some ⟨g, 0, none⟩), .string (⟨#[109, 111, 100, 117, 108, 101]⟩ : ByteArray)] rfl zq2 ?_; (with_reducible refine (rr_want.calls g s0_0 s0_1 s0_2 s0_3 s0_4 (⟨#[109, 111, 100, 117, 108, 101]⟩ : ByteArray) t742 t743 t744 t745 w0 _ ?side1 ?side2 A2.out).mono ?_); (case side1 => exact zq39); (case side2 => exact zq69); rintro e w7 ⟨rfl, hi, hb, hk⟩; refine ⟨_, rfl, ?_⟩; replace BK741 := za (KeepBut.blk hk (g' := gb741) (zb BK741.out) NB741_0.out (by simp)); replace HK := za (KeepBut.trans zq51 hk (.inl rfl)); replace HB := za (hb); replace HI0 := za (hi); (try clear hb hk hi)) | ((with_reducible refine gate_callee (f := 46) rfl ?_); refine goesL_ (some 7) rfl rfl Try.func46 zq13 rfl #[.pointer (some ⟨g, 0, none⟩)] rfl zq2 ?_; (with_reducible refine (rr_here.calls g s0_0 t742 t743 t744 t745 t746 t747 t748 t749 t750 w0 _ ?side1 ?side2 A3.out).mono ?_); (case side1 => exact zq39); (case side2 => exact zq69); rintro e w8 ⟨rfl, hi, hb, hk⟩; refine ⟨_, rfl, ?_⟩; replace BK741 := za (KeepBut.blk hk (g' := gb741) (zb BK741.out) NB741_0.out (by simp)); replace HK := za (KeepBut.trans zq51 hk (.inl rfl)); replace HB := za (hb); replace HI0 := za (hi); (try clear hb hk hi)) | ((with_reducible refine gate_callee (f := 47) rfl ?_); refine goesL_ (some 9) rfl rfl Try.func47 zq13 rfl #[.pointer (some ⟨g, 0, none⟩)] rfl zq2 ?_; (with_reducible refine (rr_name.calls g s0_0 t747 t748 t749 t750 t751 t752 t753 t754 t755 w0 _ ?side1 ?side2 A4.out).mono ?_); (case side1 => exact zq39); (case side2 => exact zq69); rintro e w9 ⟨rfl, hi, hb, hk⟩; refine ⟨_, rfl, ?_⟩; replace BK741 := za (KeepBut.blk hk (g' := gb741) (zb BK741.out) NB741_0.out (by simp)); replace HK := za (KeepBut.trans zq51 hk (.inl rfl)); replace HB := za (hb); replace HI0 := za (hi); (try clear hb hk hi)) | ((with_reducible refine gate_dst (N := 3) rfl ?_); refine box_event ?hg (N := 3) ?hd (cs := #[.string (⟨#[]⟩ : ByteArray), .int .i64 0, .slice none 0 0, .slice none 0 0, .slice none 0 0]) (t := 39) ?hr ?_; (case hd => rfl); (case hg => rfl); (case hr => exact zq19); intro gb756 hg w10 hbox hb; replace HB := za (below_step zq69 hb); have BK756 := za (hbox); have GW756 := za ((by rw [hg]; exact (keep_size (w := w) (g := g) (row := none) zq51) : w.heap.size ≤ gb756)); have GE756 := za ((Nat.le_trans HW0.out (by rw [hg]; exact (keep_size (w := w) (g := g) (row := none) zq51) : w.heap.size ≤ gb756) : w0.heap.size ≤ gb756)); replace HK := za (KeepBut.trans zq51 (KeepBut.of_below hb g none) (.inl rfl)); have NB741_756 := za ((by rw [hg]; exact Nat.ne_of_lt (blk_lt (g := gb741) (zb BK741.out)) : gb741 ≠ gb756)); have NB756_741 := za ((by rw [hg]; exact Nat.ne_of_gt (blk_lt (g := gb741) (zb BK741.out)) : gb756 ≠ gb741)); replace BK741 := za (blk_below (g := gb741) (zb BK741.out) hb); have NB0_756 := za ((by rw [hg]; exact Nat.ne_of_lt (IsS83.lt (show IsS83 w0 _ g s0_0 t752 t753 t754 t755 from zq39)) : g ≠ gb756)); have NB756_0 := za ((by rw [hg]; exact Nat.ne_of_gt (IsS83.lt (show IsS83 w0 _ g s0_0 t752 t753 t754 t755 from zq39)) : gb756 ≠ g)); replace HI0 := za (IsS83.below zq39 hb); clear hb hbox hg; have hnb11 := NB756_741.out; have hnc11 := NB741_756.out; have hnb12 := NB756_0.out; have hnc12 := NB0_756.out; obtain ⟨hcz13_0, hcz13_1, hcz13_2, hcz13_3, hcz13_4⟩ := zc5 BK756.out; obtain ⟨hfz13_0, hfz13_1, hfz13_2, hfz13_3⟩ := zf4 BK756.out; have hfz13_4 := blk_frozen BK756.out 4) | ((with_reducible refine gate_callee (f := 45) rfl ?_); refine goesL_ (some 12) rfl rfl Try.func45 zq13 rfl #[.pointer (some ⟨g, 0, none⟩), .string (⟨#[59]⟩ : ByteArray)] rfl zq2 ?_; (with_reducible refine (rr_want.calls g s0_0 t752 t753 t754 t755 (⟨#[59]⟩ : ByteArray) t757 t758 t759 t760 w0 _ ?side1 ?side2 A5.out).mono ?_); (case side1 => exact zq9); (case side2 => exact zq21); rintro e w14 ⟨rfl, hi, hb, hk⟩; refine ⟨_, rfl, ?_⟩; replace BK741 := za (KeepBut.blk hk (g' := gb741) (o := .cells #[.string (⟨#[]⟩ : ByteArray), .int .i64 0, .slice none 0 0, .slice none 0 0, .slice none 0 0] 39 (0, 0)) (by (with_reducible repeat (first | refine blk_drewN ?_ _ | refine blk_drew ?_ | refine blk_alloc ?_ _)); refine blk_far ?_ NB741_756.out _; (with_reducible repeat (first | refine blk_drewN ?_ _ | refine blk_drew ?_ | refine blk_alloc ?_ _)); refine blk_far ?_ NB741_756.out _; (with_reducible repeat (first | refine blk_drewN ?_ _ | refine blk_drew ?_ | refine blk_alloc ?_ _)); refine blk_far ?_ NB741_756.out _; (with_reducible repeat (first | refine blk_drewN ?_ _ | refine blk_drew ?_ | refine blk_alloc ?_ _)); refine blk_far ?_ NB741_756.out _; (with_reducible repeat (first | refine blk_drewN ?_ _ | refine blk_drew ?_ | refine blk_alloc ?_ _)); refine blk_far ?_ NB741_756.out _; (with_reducible repeat (first | refine blk_drewN ?_ _ | refine blk_drew ?_ | refine blk_alloc ?_ _)); exact BK741.out) NB741_0.out (by simp)); replace BK756 := za (KeepBut.blk hk (g' := gb756) (o := .cells #[.string t751, .int .i64 t746, .slice none 0 0, .slice none 0 0, .slice none 0 0] 39 (0, 0)) (by (with_reducible repeat (first | refine blk_drewN ?_ _ | refine blk_drew ?_ | refine blk_alloc ?_ _)); refine blk_put (cs := #[.string t751, .int .i64 t746, .slice none 0 0, .slice none 0 0, .slice none 0 0]) ?_ 4 _ rfl; (with_reducible repeat (first | refine blk_drewN ?_ _ | refine blk_drew ?_ | refine blk_alloc ?_ _)); refine blk_put (cs := #[.string t751, .int .i64 t746, .slice none 0 0, .slice none 0 0, .slice none 0 0]) ?_ 3 _ rfl; (with_reducible repeat (first | refine blk_drewN ?_ _ | refine blk_drew ?_ | refine blk_alloc ?_ _)); refine blk_put (cs := #[.string t751, .int .i64 t746, .slice none 0 0, .slice none 0 0, .slice none 0 0]) ?_ 2 _ rfl; (with_reducible repeat (first | refine blk_drewN ?_ _ | refine blk_drew ?_ | refine blk_alloc ?_ _)); refine blk_put (cs := #[.string t751, .int .i64 0, .slice none 0 0, .slice none 0 0, .slice none 0 0]) ?_ 1 _ rfl; (with_reducible repeat (first | refine blk_drewN ?_ _ | refine blk_drew ?_ | refine blk_alloc ?_ _)); refine blk_put (cs := #[.string (⟨#[]⟩ : ByteArray), .int .i64 0, .slice none 0 0, .slice none 0 0, .slice none 0 0]) ?_ 0 _ rfl; (with_reducible repeat (first | refine blk_drewN ?_ _ | refine blk_drew ?_ | refine blk_alloc ?_ _)); exact BK756.out) NB756_0.out (by simp)); replace HK := za (KeepBut.trans zq18 hk (.inl rfl)); replace HB := za (hb); replace HI0 := za (hi); (try clear hb hk hi)))
 (try simp only [Act.put, List.setIfInBounds_toArray, List.set_cons_zero, List.set_cons_succ])
 go_loopg [] k (fun kq w' => ∃ (x1001_1 : Int) (x1002_1 : Int) (x1003_1 : Int) (x1004_1 : Int), Aside0 (rr_module.l0 kq s0_0 x1001_1 x1002_1 x1003_1 x1004_1 t751 t746 = some (r1, r2, r3, r4, r5, r6, r7, r8, r9)) ∧ Aside0 (kq ≤ k) ∧ Aside0 (w'.heap[gb741]? = some (.cells #[.string (⟨#[]⟩ : ByteArray), .int .i64 0, (.slice none 0 0), (.slice none 0 0), (.slice none 0 0)] 39 (0, 0))) ∧ Aside0 (w'.heap[gb756]? = some (.cells #[.string t751, .int .i64 t746, (.slice none 0 0), (.slice none 0 0), (.slice none 0 0)] 39 (0, 0))) ∧ Aside0 (IsS83 w0 w' g s0_0 x1001_1 x1002_1 x1003_1 x1004_1) ∧ Aside0 (KeepBut w w' g none) ∧ Aside0 (Below w0.heap.size w0 w'))
 case atStart => exact ⟨(t757), (t758), (t759), (t760), H', ⟨Nat.le_refl _⟩, ⟨zq89⟩, ⟨zq90⟩, ⟨zq9⟩, ⟨zq18⟩, ⟨zq21⟩⟩
 case round =>
  clear H'
  obtain ⟨x1001_1, x1002_1, x1003_1, x1004_1, HA, HK1, BK741, BK756, HI0, HK, HB⟩ := hrel
  cases gk with
  | zero => exact absurd HA.out (by simp [rr_module.l0])
  | succ k1 =>
   have H := HA.out
   clear HA
   simp only [rr_module.l0] at H
   replace H := Option.bind_eq_some_iff.mp H
   obtain ⟨⟨t761, t762, t763, t764, t765⟩, A150, H⟩ := H
   (try dsimp only at H)
   have A15 := za A150
   clear A150
   by_cases c16 : t761 = true
   ·
    subst c16
    rw [if_pos rfl] at H
    exact absurd H (by simp)
   ·
    replace c16 := Bool.eq_false_iff.mpr c16
    subst c16
    rw [if_neg (show ¬ (false = true) by decide)] at H
    have H' := za H
    clear H
    go_wp2_with (first | ((with_reducible refine gate_callee (f := 48) rfl ?_); refine goesL_ (some 14) rfl rfl Try.func48 zq13 rfl #[.pointer (some ⟨g, 0, none⟩), .string (⟨#[105, 109, 112, 111, 114, 116]⟩ : ByteArray)] rfl zq2 ?_; (with_reducible refine (rr_take.calls g s0_0 x1001_1 x1002_1 x1003_1 x1004_1 (⟨#[105, 109, 112, 111, 114, 116]⟩ : ByteArray) false t762 t763 t764 t765 w0 _ ?side1 ?side2 A15.out).mono ?_); (case side1 => exact zq9); (case side2 => exact zq21); rintro e w17 ⟨rfl, hi, hb, hk⟩; refine ⟨_, rfl, ?_⟩; replace BK741 := za (KeepBut.blk hk (g' := gb741) (zb BK741.out) NB741_0.out (by simp)); replace BK756 := za (KeepBut.blk hk (g' := gb756) (zb BK756.out) NB756_0.out (by simp)); replace HK := za (KeepBut.trans zq18 hk (.inl rfl)); replace HB := za (hb); replace HI0 := za (hi); (try clear hb hk hi)))
    (try simp only [Act.put, List.setIfInBounds_toArray, List.set_cons_zero, List.set_cons_succ])
    go_loopg [] k1 (fun kq w' => ∃ (x1001_2 : Int) (x1002_2 : Int) (x1003_2 : Int) (x1004_2 : Int) (x757003_2 : List (S64)) (x757004_2 : List (S44)) (u757003 : Value) (u757004 : Value), Aside0 (rr_module.l1 kq s0_0 x1001_2 x1002_2 x1003_2 x1004_2 t751 t746 x757003_2 x757004_2 = some (r1, r2, r3, r4, r5, r6, r7, r8, r9)) ∧ Aside0 (kq ≤ k1) ∧ Aside0 (Kd.R k64 64 w' w.heap.size (fun _ => True) u757003 x757003_2) ∧ Aside0 (Kd.R k44 44 w' w.heap.size (fun _ => True) u757004 x757004_2) ∧ Aside0 (w'.heap[gb741]? = some (.cells #[.string (⟨#[]⟩ : ByteArray), .int .i64 0, (.slice none 0 0), (.slice none 0 0), (.slice none 0 0)] 39 (0, 0))) ∧ Aside0 (w'.heap[gb756]? = some (.cells #[.string t751, .int .i64 t746, (.slice none 0 0), u757003, u757004] 39 (0, 0))) ∧ Aside0 (IsS83 w0 w' g s0_0 x1001_2 x1002_2 x1003_2 x1004_2) ∧ Aside0 (KeepBut w w' g none) ∧ Aside0 (Below w0.heap.size w0 w'))
    case atStart => exact ⟨(t762), (t763), (t764), (t765), (([] : List (S64))), (([] : List (S44))), (.slice none 0 0), (.slice none 0 0), H', ⟨Nat.le_refl _⟩, ⟨zq33⟩, ⟨zq33⟩, ⟨zq89⟩, ⟨zq90⟩, ⟨zq9⟩, ⟨zq18⟩, ⟨zq21⟩⟩
    case round =>
     clear H'
     obtain ⟨x1001_2, x1002_2, x1003_2, x1004_2, x757003_2, x757004_2, u757003, u757004, HA, HK2, HO_757003, HO_757004, BK741, BK756, HI0, HK, HB⟩ := hrel
     cases gk with
     | zero => exact absurd HA.out (by simp [rr_module.l1])
     | succ k2 =>
      have H := HA.out
      clear HA
      simp only [rr_module.l1] at H
      have HC18 := za H
      clear H
      go_upto_region 7 with (fail)
      go_cut [45] (fun v45 wc => ∃ (kq : Nat) (x45_17 : Bool), v45 = .bool x45_17 ∧ Aside0 (rr_module.j2 kq x45_17 s0_0 x1001_2 x1002_2 x1003_2 x1004_2 t751 t746 x757003_2 x757004_2 = some (r1, r2, r3, r4, r5, r6, r7, r8, r9)) ∧ Aside0 (kq ≤ k2) ∧ Aside0 (Kd.R k64 64 wc w.heap.size (fun _ => True) u757003 x757003_2) ∧ Aside0 (Kd.R k44 44 wc w.heap.size (fun _ => True) u757004 x757004_2) ∧ Aside0 (wc.heap[gb741]? = some (.cells #[.string (⟨#[]⟩ : ByteArray), .int .i64 0, (.slice none 0 0), (.slice none 0 0), (.slice none 0 0)] 39 (0, 0))) ∧ Aside0 (wc.heap[gb756]? = some (.cells #[.string t751, .int .i64 t746, (.slice none 0 0), u757003, u757004] 39 (0, 0))) ∧ Aside0 (IsS83 w0 wc g s0_0 x1001_2 x1002_2 x1003_2 x1004_2) ∧ Aside0 (KeepBut w wc g none) ∧ Aside0 (Below w0.heap.size w0 wc))
      case first =>
       have H := HC18.out
       clear HC18
       by_cases c19 : x1003_2 = 0
       ·
        rw [if_pos c19] at H
        have c19b0 := beq_iff_eq.mpr c19
        have c19b1 := bne_eq_false_iff_eq.mpr c19
        clear c19
        (first | rw [c19b0] | (simp only [i64_w, i32_w]; rw [c19b0]) | skip)
        by_cases c20 : 0 ≤ x1001_2
        ·
         rw [if_pos c20] at H
         have c20b0 := decide_eq_true c20
         clear c20
         by_cases c21 : x1001_2 < (s0_0.length : Int)
         ·
          rw [if_pos c21] at H
          have c21b0 := decide_eq_true c21
          clear c21
          have H' := za H
          clear H
          try go_wp2
          replace HO_757003 := za (Kd.R_drew HO_757003.out)
          replace HO_757004 := za (Kd.R_drew HO_757004.out)
          replace BK741 := za (blk_drew BK741.out)
          replace BK756 := za (blk_drew BK756.out)
          replace HI0 := za (IsS83.drew HI0.out)
          replace HK := za (keep_drew HK.out)
          replace HB := za (below_drew1 HB.out)
          obtain ⟨ASz23_0, cSz23_0, HGz23, hgz23, HSz23_0⟩ := HI0.out
          have hx23_0 := cellS83_0 HGz23
          have hx23_1 := cellS83_1 HGz23
          have hx23_2 := cellS83_2 HGz23
          have hx23_3 := cellS83_3 HGz23
          have hx23_4 := cellS83_4 HGz23
          clear HGz23 hgz23
          have p766 : 0 ≤ (x1001_2 : Int) := of_decide_eq_true zq10
          have q766 : x1001_2 < (s0_0.length : Int) := of_decide_eq_true zq10
          obtain ⟨ad766, e766, hx766_0, hx766_1, hx766_2⟩ := at_T110 HSz23_0 x1001_2 p766 q766
          have hw766_2 := hx766_2
          have hw766_1 := hx766_1
          have hw766_0 := hx766_0
          cases e766
          replace hx766_0 := pw_cell_below HB.out hx766_0
          replace hx766_1 := pw_cell_below HB.out hx766_1
          replace hx766_2 := pw_cell_below HB.out hx766_2
          replace p766 := eq_true p766
          replace q766 := eq_true q766
          refine start_ (n := 19) (S := fun w' => w'.cell? ⟨g, 0, none⟩ = some (.slice (some ad766) s0_0.length cSz23_0) ∧ w'.cell? ⟨g, 1, none⟩ = some (.int .i64 x1001_2) ∧ w'.cell? ⟨g, 2, none⟩ = some (.int .i64 x1002_2) ∧ w'.cell? ⟨g, 3, none⟩ = some (.int .i64 x1003_2) ∧ w'.cell? ⟨g, 4, none⟩ = some (.int .i64 x1004_2) ∧ w'.cell? (ad766.add ((x1001_2).toNat * 3)) = some (.int .i64 ((rd_T110 s0_0 x1001_2).f0)) ∧ w'.cell? ⟨(ad766.add ((x1001_2).toNat * 3)).block, (ad766.add ((x1001_2).toNat * 3)).off + 1, none⟩ = some (.string ((rd_T110 s0_0 x1001_2).f1)) ∧ w'.cell? ⟨(ad766.add ((x1001_2).toNat * 3)).block, (ad766.add ((x1001_2).toNat * 3)).off + 2, none⟩ = some (.int .i64 ((rd_T110 s0_0 x1001_2).f2))) (ds := []) #[false, false, false, false, false, false, false, false, false, false, false, false, false, false, false, false, false, false, false] zq13 rfl rfl ⟨hx23_0, hx23_1, hx23_2, hx23_3, hx23_4, hx766_0, hx766_1, hx766_2⟩ (fun hHeld => ?_); refine with_tabW rr_module.tab7 rr_module.bits7 (fun HT_ HW_ => ?_)
          generalize wr.drew = w22 at HO_757003 HO_757004 BK741 BK756 HI0 HK HB hx23_0 hx23_1 hx23_2 hx23_3 hx23_4 hx766_0 hx766_1 hx766_2 hHeld ⊢
          refine pure_ (i := 0) (N := some 27) #[true, false, false, false, false, false, false, false, false, false, false, false, false, false, false, false, false, false, false] rfl rfl (any_of HT_.out zq13) (fun _ _ _ h => h) (Or.inl ⟨by rfl, zpv⟩) zpw ?_
          refine pure_ (i := 1) (N := some 28) #[true, true, false, false, false, false, false, false, false, false, false, false, false, false, false, false, false, false, false] rfl rfl (any_of HT_.out zq13) (fun _ _ _ h => h) (Or.inl ⟨by rfl, zpv⟩) zpw ?_
          refine pure_ (i := 2) (N := some 29) #[true, true, true, false, false, false, false, false, false, false, false, false, false, false, false, false, false, false, false] rfl rfl (any_of HT_.out zq13) (fun _ _ _ h => h) (Or.inl ⟨by rfl, zpv⟩) zpw ?_
          refine take_ (i := 3) (N := some 30) (v := ?_) (a' := ?_) #[true, true, true, true, false, false, false, false, false, false, false, false, false, false, false, false, false, false, false] rfl rfl (take_ofW HT_.out HW_.out zq13) (fun _ _ _ h => h) (Or.inl ⟨by rfl, ?_⟩) hHeld ?_ ?_
          rotate_left
          ·
           rintro w' ⟨s0, s1, s2, s3, s4, s5, s6, s7⟩
           go_simp
           with_reducible rfl
          rotate_left
          ·
           simp only [Act.put, List.setIfInBounds_toArray, List.set_cons_zero, List.set_cons_succ, i64_w, i32_w]
           rfl
          refine pure_ (i := 4) (N := some 31) #[true, true, true, true, true, false, false, false, false, false, false, false, false, false, false, false, false, false, false] rfl rfl (any_of HT_.out zq13) (fun _ _ _ h => h) (Or.inl ⟨by rfl, zpv⟩) zpw ?_
          refine pure_ (i := 5) (N := some 32) #[true, true, true, true, true, true, false, false, false, false, false, false, false, false, false, false, false, false, false] rfl rfl (any_of HT_.out zq13) (fun _ _ _ h => h) (Or.inl ⟨by rfl, zpv⟩) zpw ?_
          refine pure_ (i := 6) (N := some 33) #[true, true, true, true, true, true, true, false, false, false, false, false, false, false, false, false, false, false, false] rfl rfl (any_of HT_.out zq13) (fun _ _ _ h => h) (Or.inl ⟨by rfl, zpv⟩) zpw ?_
          refine pure_ (i := 7) (N := some 34) #[true, true, true, true, true, true, true, true, false, false, false, false, false, false, false, false, false, false, false] rfl rfl (any_of HT_.out zq13) (fun _ _ _ h => h) (Or.inl ⟨by rfl, zpv⟩) zpw ?_
          refine pure_ (i := 8) (N := some 35) #[true, true, true, true, true, true, true, true, true, false, false, false, false, false, false, false, false, false, false] rfl rfl (any_of HT_.out zq13) (fun _ _ _ h => h) (Or.inl ⟨by rfl, zpv⟩) zpw ?_
          refine pure_ (i := 10) (N := some 37) #[true, true, true, true, true, true, true, true, true, false, true, false, false, false, false, false, false, false, false] rfl rfl (any_of HT_.out zq13) (fun _ _ _ h => h) (Or.inl ⟨by rfl, zpv⟩) zpw ?_
          refine pure_ (i := 11) (N := some 38) #[true, true, true, true, true, true, true, true, true, false, true, true, false, false, false, false, false, false, false] rfl rfl (any_of HT_.out zq13) (fun _ _ _ h => h) (Or.inl ⟨by rfl, zpv⟩) zpw ?_
          refine pure_ (i := 12) (N := some 39) #[true, true, true, true, true, true, true, true, true, false, true, true, true, false, false, false, false, false, false] rfl rfl (any_of HT_.out zq13) (fun _ _ _ h => h) (Or.inl ⟨by rfl, zpv⟩) zpw ?_
          refine take_ (i := 9) (N := some 36) (v := ?_) (a' := ?_) #[true, true, true, true, true, true, true, true, true, true, true, true, true, false, false, false, false, false, false] rfl rfl (take_ofW HT_.out HW_.out zq13) (fun _ _ _ h => h) (Or.inl ⟨by rfl, ?_⟩) hHeld ?_ ?_
          rotate_left
          ·
           rintro w' ⟨s0, s1, s2, s3, s4, s5, s6, s7⟩
           go_simp
           with_reducible rfl
          rotate_left
          ·
           simp only [Act.put, List.setIfInBounds_toArray, List.set_cons_zero, List.set_cons_succ, i64_w, i32_w]
           rfl
          refine take_ (i := 13) (N := some 40) (v := ?_) (a' := ?_) #[true, true, true, true, true, true, true, true, true, true, true, true, true, true, false, false, false, false, false] rfl rfl (take_ofW HT_.out HW_.out zq13) (fun _ _ _ h => h) (Or.inl ⟨by rfl, ?_⟩) hHeld ?_ ?_
          rotate_left
          ·
           rintro w' ⟨s0, s1, s2, s3, s4, s5, s6, s7⟩
           go_simp
           with_reducible rfl
          rotate_left
          ·
           simp only [Act.put, List.setIfInBounds_toArray, List.set_cons_zero, List.set_cons_succ, i64_w, i32_w]
           rfl
          refine pure_ (i := 14) (N := some 41) #[true, true, true, true, true, true, true, true, true, true, true, true, true, true, true, false, false, false, false] rfl rfl (any_of HT_.out zq13) (fun _ _ _ h => h) (Or.inl ⟨by rfl, zpv⟩) zpw ?_
          refine pure_ (i := 15) (N := some 42) #[true, true, true, true, true, true, true, true, true, true, true, true, true, true, true, true, false, false, false] rfl rfl (any_of HT_.out zq13) (fun _ _ _ h => h) (Or.inl ⟨by rfl, zpv⟩) zpw ?_
          refine take_ (i := 16) (N := some 43) (v := ?_) (a' := ?_) #[true, true, true, true, true, true, true, true, true, true, true, true, true, true, true, true, true, false, false] rfl rfl (take_ofW HT_.out HW_.out zq13) (fun _ _ _ h => h) (Or.inl ⟨by rfl, ?_⟩) hHeld ?_ ?_
          rotate_left
          ·
           rintro w' ⟨s0, s1, s2, s3, s4, s5, s6, s7⟩
           go_simp
           with_reducible rfl
          rotate_left
          ·
           simp only [Act.put, List.setIfInBounds_toArray, List.set_cons_zero, List.set_cons_succ, i64_w, i32_w]
           rfl
          refine pure_ (i := 17) (N := some 44) #[true, true, true, true, true, true, true, true, true, true, true, true, true, true, true, true, true, true, false] rfl rfl (any_of HT_.out zq13) (fun _ _ _ h => h) (Or.inl ⟨by rfl, zpv⟩) zpw ?_
          refine pure_ (i := 18) (N := some 45) #[true, true, true, true, true, true, true, true, true, true, true, true, true, true, true, true, true, true, true] rfl rfl (any_of HT_.out zq13) (fun _ _ _ h => h) (Or.inl ⟨by rfl, zpv⟩) zpw ?_
          refine done_ (done_of HT_.out zq13) ?_
          try go_wp2
          go_meet
          case rel => exact ⟨_, ((((rd_T110 s0_0 x1001_2).f0) != 0)), zq22, H', ⟨by have := HK1.out; have := HK2.out; first | omega | exact Nat.le_refl _⟩, ⟨by (with_reducible repeat (first | apply Kd.R_alloc | apply Kd.R_drewN | apply Kd.R_drew)); exact HO_757003.out⟩, ⟨by (with_reducible repeat (first | apply Kd.R_alloc | apply Kd.R_drewN | apply Kd.R_drew)); exact HO_757004.out⟩, ⟨zq89⟩, ⟨zq90⟩, ⟨zq9⟩, ⟨zq18⟩, ⟨zq21⟩⟩
         ·
          rw [if_neg c21] at H
          exact absurd H (by simp)
        ·
         rw [if_neg c20] at H
         exact absurd H (by simp)
       ·
        rw [if_neg c19] at H
        have c19b0 := beq_eq_false_iff_ne.mpr c19
        have c19b1 := bne_iff_ne.mpr c19
        (first | rw [c19b0] | (simp only [i64_w, i32_w]; rw [c19b0]) | skip)
        have H' := za H
        clear H
        try go_wp2
        replace HO_757003 := za (Kd.R_drew HO_757003.out)
        replace HO_757004 := za (Kd.R_drew HO_757004.out)
        replace BK741 := za (blk_drew BK741.out)
        replace BK756 := za (blk_drew BK756.out)
        replace HI0 := za (IsS83.drew HI0.out)
        replace HK := za (keep_drew HK.out)
        replace HB := za (below_drew1 HB.out)
        obtain ⟨ASz25_0, cSz25_0, HGz25, hgz25, HSz25_0⟩ := HI0.out
        have hx25_0 := cellS83_0 HGz25
        have hx25_1 := cellS83_1 HGz25
        have hx25_2 := cellS83_2 HGz25
        have hx25_3 := cellS83_3 HGz25
        have hx25_4 := cellS83_4 HGz25
        clear HGz25 hgz25
        refine start_ (n := 19) (S := fun w' => w'.cell? ⟨g, 0, none⟩ = some (.slice ASz25_0 s0_0.length cSz25_0) ∧ w'.cell? ⟨g, 1, none⟩ = some (.int .i64 x1001_2) ∧ w'.cell? ⟨g, 2, none⟩ = some (.int .i64 x1002_2) ∧ w'.cell? ⟨g, 3, none⟩ = some (.int .i64 x1003_2) ∧ w'.cell? ⟨g, 4, none⟩ = some (.int .i64 x1004_2)) (ds := []) #[false, false, false, false, false, false, false, false, false, false, false, false, false, false, false, false, false, false, false] zq13 rfl rfl ⟨hx25_0, hx25_1, hx25_2, hx25_3, hx25_4⟩ (fun hHeld => ?_); refine with_tabW rr_module.tab7 rr_module.bits7 (fun HT_ HW_ => ?_)
        generalize wr.drew = w24 at HO_757003 HO_757004 BK741 BK756 HI0 HK HB hx25_0 hx25_1 hx25_2 hx25_3 hx25_4 hHeld ⊢
        refine pure_ (i := 0) (N := some 27) #[true, false, false, false, false, false, false, false, false, false, false, false, false, false, false, false, false, false, false] rfl rfl (any_of HT_.out zq13) (fun _ _ _ h => h) (Or.inl ⟨by rfl, zpv⟩) zpw ?_
        refine pure_ (i := 1) (N := some 28) #[true, true, false, false, false, false, false, false, false, false, false, false, false, false, false, false, false, false, false] rfl rfl (any_of HT_.out zq13) (fun _ _ _ h => h) (Or.inl ⟨by rfl, zpv⟩) zpw ?_
        refine pure_ (i := 2) (N := some 29) #[true, true, true, false, false, false, false, false, false, false, false, false, false, false, false, false, false, false, false] rfl rfl (any_of HT_.out zq13) (fun _ _ _ h => h) (Or.inl ⟨by rfl, zpv⟩) zpw ?_
        refine take_ (i := 3) (N := some 30) (v := ?_) (a' := ?_) #[true, true, true, true, false, false, false, false, false, false, false, false, false, false, false, false, false, false, false] rfl rfl (take_ofW HT_.out HW_.out zq13) (fun _ _ _ h => h) (Or.inl ⟨by rfl, ?_⟩) hHeld ?_ ?_
        rotate_left
        ·
         rintro w' ⟨s0, s1, s2, s3, s4⟩
         go_simp
         with_reducible rfl
        rotate_left
        ·
         simp only [Act.put, List.setIfInBounds_toArray, List.set_cons_zero, List.set_cons_succ, i64_w, i32_w]
         rfl
        refine pure_ (i := 4) (N := some 31) #[true, true, true, true, true, false, false, false, false, false, false, false, false, false, false, false, false, false, false] rfl rfl (any_of HT_.out zq13) (fun _ _ _ h => h) (Or.inl ⟨by rfl, zpv⟩) zpw ?_
        refine pure_ (i := 5) (N := some 32) #[true, true, true, true, true, true, false, false, false, false, false, false, false, false, false, false, false, false, false] rfl rfl (any_of HT_.out zq13) (fun _ _ _ h => h) (Or.inl ⟨by rfl, zpv⟩) zpw ?_
        refine pure_ (i := 6) (N := some 33) (v := undef) (a' := ?_) #[true, true, true, true, true, true, true, false, false, false, false, false, false, false, false, false, false, false, false] rfl rfl (any_of HT_.out zq13) (fun _ _ _ h => h) (Or.inr ⟨by rfl, rfl⟩) ?_ ?_
        rotate_left
        ·
         simp only [Act.put, List.setIfInBounds_toArray, List.set_cons_zero, List.set_cons_succ, i64_w, i32_w]
         rfl
        refine pure_ (i := 7) (N := some 34) (v := undef) (a' := ?_) #[true, true, true, true, true, true, true, true, false, false, false, false, false, false, false, false, false, false, false] rfl rfl (any_of HT_.out zq13) (fun _ _ _ h => h) (Or.inr ⟨by rfl, rfl⟩) ?_ ?_
        rotate_left
        ·
         simp only [Act.put, List.setIfInBounds_toArray, List.set_cons_zero, List.set_cons_succ, i64_w, i32_w]
         rfl
        refine pure_ (i := 8) (N := some 35) (v := undef) (a' := ?_) #[true, true, true, true, true, true, true, true, true, false, false, false, false, false, false, false, false, false, false] rfl rfl (any_of HT_.out zq13) (fun _ _ _ h => h) (Or.inr ⟨by rfl, rfl⟩) ?_ ?_
        rotate_left
        ·
         simp only [Act.put, List.setIfInBounds_toArray, List.set_cons_zero, List.set_cons_succ, i64_w, i32_w]
         rfl
        refine pure_ (i := 9) (N := some 36) (v := undef) (a' := ?_) #[true, true, true, true, true, true, true, true, true, true, false, false, false, false, false, false, false, false, false] rfl rfl (any_of HT_.out zq13) (fun _ _ _ h => h) (Or.inr ⟨by rfl, rfl⟩) ?_ ?_
        rotate_left
        ·
         simp only [Act.put, List.setIfInBounds_toArray, List.set_cons_zero, List.set_cons_succ, i64_w, i32_w]
         rfl
        refine pure_ (i := 10) (N := some 37) (v := undef) (a' := ?_) #[true, true, true, true, true, true, true, true, true, true, true, false, false, false, false, false, false, false, false] rfl rfl (any_of HT_.out zq13) (fun _ _ _ h => h) (Or.inr ⟨by rfl, rfl⟩) ?_ ?_
        rotate_left
        ·
         simp only [Act.put, List.setIfInBounds_toArray, List.set_cons_zero, List.set_cons_succ, i64_w, i32_w]
         rfl
        refine pure_ (i := 11) (N := some 38) (v := undef) (a' := ?_) #[true, true, true, true, true, true, true, true, true, true, true, true, false, false, false, false, false, false, false] rfl rfl (any_of HT_.out zq13) (fun _ _ _ h => h) (Or.inr ⟨by rfl, rfl⟩) ?_ ?_
        rotate_left
        ·
         simp only [Act.put, List.setIfInBounds_toArray, List.set_cons_zero, List.set_cons_succ, i64_w, i32_w]
         rfl
        refine pure_ (i := 12) (N := some 39) (v := undef) (a' := ?_) #[true, true, true, true, true, true, true, true, true, true, true, true, true, false, false, false, false, false, false] rfl rfl (any_of HT_.out zq13) (fun _ _ _ h => h) (Or.inr ⟨by rfl, rfl⟩) ?_ ?_
        rotate_left
        ·
         simp only [Act.put, List.setIfInBounds_toArray, List.set_cons_zero, List.set_cons_succ, i64_w, i32_w]
         rfl
        refine pure_ (i := 13) (N := some 40) (v := undef) (a' := ?_) #[true, true, true, true, true, true, true, true, true, true, true, true, true, true, false, false, false, false, false] rfl rfl (any_of HT_.out zq13) (fun _ _ _ h => h) (Or.inr ⟨by rfl, rfl⟩) ?_ ?_
        rotate_left
        ·
         simp only [Act.put, List.setIfInBounds_toArray, List.set_cons_zero, List.set_cons_succ, i64_w, i32_w]
         rfl
        refine pure_ (i := 14) (N := some 41) (v := undef) (a' := ?_) #[true, true, true, true, true, true, true, true, true, true, true, true, true, true, true, false, false, false, false] rfl rfl (any_of HT_.out zq13) (fun _ _ _ h => h) (Or.inr ⟨by rfl, rfl⟩) ?_ ?_
        rotate_left
        ·
         simp only [Act.put, List.setIfInBounds_toArray, List.set_cons_zero, List.set_cons_succ, i64_w, i32_w]
         rfl
        refine pure_ (i := 15) (N := some 42) (v := undef) (a' := ?_) #[true, true, true, true, true, true, true, true, true, true, true, true, true, true, true, true, false, false, false] rfl rfl (any_of HT_.out zq13) (fun _ _ _ h => h) (Or.inr ⟨by rfl, rfl⟩) ?_ ?_
        rotate_left
        ·
         simp only [Act.put, List.setIfInBounds_toArray, List.set_cons_zero, List.set_cons_succ, i64_w, i32_w]
         rfl
        refine pure_ (i := 16) (N := some 43) (v := undef) (a' := ?_) #[true, true, true, true, true, true, true, true, true, true, true, true, true, true, true, true, true, false, false] rfl rfl (any_of HT_.out zq13) (fun _ _ _ h => h) (Or.inr ⟨by rfl, rfl⟩) ?_ ?_
        rotate_left
        ·
         simp only [Act.put, List.setIfInBounds_toArray, List.set_cons_zero, List.set_cons_succ, i64_w, i32_w]
         rfl
        refine pure_ (i := 17) (N := some 44) (v := undef) (a' := ?_) #[true, true, true, true, true, true, true, true, true, true, true, true, true, true, true, true, true, true, false] rfl rfl (any_of HT_.out zq13) (fun _ _ _ h => h) (Or.inr ⟨by rfl, rfl⟩) ?_ ?_
        rotate_left
        ·
         simp only [Act.put, List.setIfInBounds_toArray, List.set_cons_zero, List.set_cons_succ, i64_w, i32_w]
         rfl
        refine pure_ (i := 18) (N := some 45) #[true, true, true, true, true, true, true, true, true, true, true, true, true, true, true, true, true, true, true] rfl rfl (any_of HT_.out zq13) (fun _ _ _ h => h) (Or.inl ⟨by rfl, zpv⟩) zpw ?_
        refine done_ (done_of HT_.out zq13) ?_
        try go_wp2
        go_meet
        case rel => exact ⟨_, (false), zq22, H', ⟨by have := HK1.out; have := HK2.out; first | omega | exact Nat.le_refl _⟩, ⟨by (with_reducible repeat (first | apply Kd.R_alloc | apply Kd.R_drewN | apply Kd.R_drew)); exact HO_757003.out⟩, ⟨by (with_reducible repeat (first | apply Kd.R_alloc | apply Kd.R_drewN | apply Kd.R_drew)); exact HO_757004.out⟩, ⟨zq89⟩, ⟨zq90⟩, ⟨zq9⟩, ⟨zq18⟩, ⟨zq21⟩⟩
      case rest =>
       clear HC18
       obtain ⟨kq, x45_17, rfl, HA, HJ17, HO_757003, HO_757004, BK741, BK756, HI0, HK, HB⟩ := hcut
       cases kq with
       | zero => exact absurd HA.out (by simp [rr_module.j2])
       | succ kj17 =>
        have H := HA.out
        clear HA
        simp only [rr_module.j2] at H
        by_cases c26 : x45_17 = true
        ·
         subst c26
         rw [if_pos rfl] at H
         replace H := Option.bind_eq_some_iff.mp H
         obtain ⟨⟨t767, t768, t769, t770, t771⟩, A270, H⟩ := H
         (try dsimp only at H)
         have A27 := za A270
         clear A270
         by_cases c28 : t767 = true
         ·
          subst c28
          rw [if_pos rfl] at H
          replace H := Option.bind_eq_some_iff.mp H
          obtain ⟨⟨t772, t773, t774, t775, t776, t777, t778, t779⟩, A290, H⟩ := H
          (try dsimp only at H)
          have A29 := za A290
          clear A290
          by_cases c30 : x757003_2.length < 2932031007402
          ·
           rw [if_pos c30] at H
           have LMc30 := za c30
           clear c30
           obtain ⟨y780, hy780⟩ : ∃ y_ : List (S64), y_ = (x757003_2 ++ [(⟨t772, t773, t774, t775⟩ : S64)]) := ⟨_, rfl⟩
           replace H : (rr_module.l1 kj17 s0_0 t776 t777 t778 t779 t751 t746 y780 x757004_2) = some (r1, r2, r3, r4, r5, r6, r7, r8, r9) := by first | (rw [hy780]; with_reducible exact H) | (have H2_ := (Option.bind_some _ _).symm.trans H; rw [hy780]; with_reducible exact H2_) | (have H2_ := (Option.bind_some _ _).symm.trans H; with_reducible exact H2_) | with_reducible exact H | (rw [hy780]; exact H) | exact H
           have Ny780 := za hy780
           clear hy780
           have H' := za H
           clear H
           try go_wp2_with (first | ((with_reducible refine gate_callee (f := 48) rfl ?_); refine goesL_ (some 47) rfl rfl Try.func48 zq13 rfl #[.pointer (some ⟨g, 0, none⟩), .string (⟨#[118, 97, 114]⟩ : ByteArray)] rfl zq2 ?_; (with_reducible refine (rr_take.calls g s0_0 x1001_2 x1002_2 x1003_2 x1004_2 (⟨#[118, 97, 114]⟩ : ByteArray) true t768 t769 t770 t771 w0 _ ?side1 ?side2 A27.out).mono ?_); (case side1 => exact zq9); (case side2 => exact zq21); rintro e w31 ⟨rfl, hi, hb, hk⟩; refine ⟨_, rfl, ?_⟩; replace HO_757003 := za (Kd.R_mono (Kd.R_keep (IsS83.apart (show IsS83 w0 _ g s0_0 x1001_2 x1002_2 x1003_2 x1004_2 from zq9) (zr HO_757003.out) (by decide)) hk (fun _ h => h.2)) (fun _ h => h.1)); replace HO_757004 := za (Kd.R_mono (Kd.R_keep (IsS83.apart (show IsS83 w0 _ g s0_0 x1001_2 x1002_2 x1003_2 x1004_2 from zq9) (zr HO_757004.out) (by decide)) hk (fun _ h => h.2)) (fun _ h => h.1)); replace BK741 := za (KeepBut.blk hk (g' := gb741) (zb BK741.out) NB741_0.out (by simp)); replace BK756 := za (KeepBut.blk hk (g' := gb756) (zb BK756.out) NB756_0.out (by simp)); replace HK := za (KeepBut.trans zq18 hk (.inl rfl)); replace HB := za (hb); replace HI0 := za (hi); (try clear hb hk hi)))
           replace HO_757003 := za (Kd.R_drew HO_757003.out)
           replace HO_757004 := za (Kd.R_drew HO_757004.out)
           replace BK741 := za (blk_drew BK741.out)
           replace BK756 := za (blk_drew BK756.out)
           replace HI0 := za (IsS83.drew HI0.out)
           replace HK := za (keep_drew HK.out)
           replace HB := za (below_drew1 HB.out)
           refine start_ (n := 8) (S := fun w' => w'.cell? ⟨gb756, 0, none⟩ = some (.string t751) ∧ w'.cell? ⟨gb756, 1, none⟩ = some (.int .i64 t746) ∧ w'.cell? ⟨gb756, 2, none⟩ = some (.slice none 0 0) ∧ w'.cell? ⟨gb756, 3, none⟩ = some (u757003) ∧ w'.cell? ⟨gb756, 4, none⟩ = some (u757004)) (ds := [7]) #[false, false, false, false, false, false, false, false] zq13 rfl rfl ⟨(blk_cell BK756.out 0).trans rfl, (blk_cell BK756.out 1).trans rfl, (blk_cell BK756.out 2).trans rfl, (blk_cell BK756.out 3).trans rfl, (blk_cell BK756.out 4).trans rfl⟩ (fun hHeld => ?_); refine with_tabW rr_module.tab9 rr_module.bits9 (fun HT_ HW_ => ?_)
           generalize w31.drew = w32 at HO_757003 HO_757004 BK741 BK756 HI0 HK HB hHeld ⊢
           refine pure_ (i := 0) (N := some 48) #[true, false, false, false, false, false, false, false] rfl rfl (any_of HT_.out zq13) (fun _ _ _ h => h) (Or.inl ⟨by rfl, zpv⟩) zpw ?_
           refine pure_ (i := 2) (N := some 50) #[true, false, true, false, false, false, false, false] rfl rfl (any_of HT_.out zq13) (fun _ _ _ h => h) (Or.inl ⟨by rfl, zpv⟩) zpw ?_
           refine take_ (i := 1) (N := some 49) (v := ?_) (a' := ?_) #[true, true, true, false, false, false, false, false] rfl rfl (take_ofW HT_.out HW_.out zq13) (fun _ _ _ h => h) (Or.inl ⟨by rfl, ?_⟩) hHeld ?_ ?_
           rotate_left
           ·
            rintro w' ⟨s0, s1, s2, s3, s4⟩
            go_simp
            with_reducible rfl
           rotate_left
           ·
            simp only [Act.put, List.setIfInBounds_toArray, List.set_cons_zero, List.set_cons_succ, i64_w, i32_w]
            rfl
           refine one_ (i := 3) (N := some 51) #[true, true, true, true, false, false, false, false] rfl rfl (one_of HT_.out zq13) (by decide) (fun K hK => ?_)
           refine goes_ Try.func49 zq13 rfl #[.pointer (some ⟨g, 0, none⟩)] (by rfl) rfl rfl zq2 ?_
           with_reducible refine (rr_variable.calls kj17 g s0_0 t768 t769 t770 t771 t772 t773 t774 t775 t776 t777 t778 t779 w0 _ ?side1 ?side2 A29.out).mono ?_
           (case side1 => exact zq9)
           (case side2 => exact zq21)
           rintro e w33 ⟨rfl, hi, hb, hk⟩
           refine ⟨_, rfl, ?_⟩
           replace HO_757003 := za (Kd.R_mono (Kd.R_keep (IsS83.apart (show IsS83 w0 _ g s0_0 t768 t769 t770 t771 from zq9) (zr HO_757003.out) (by decide)) hk (fun _ h => h.2)) (fun _ h => h.1))
           replace HO_757004 := za (Kd.R_mono (Kd.R_keep (IsS83.apart (show IsS83 w0 _ g s0_0 t768 t769 t770 t771 from zq9) (zr HO_757004.out) (by decide)) hk (fun _ h => h.2)) (fun _ h => h.1))
           replace BK741 := za (KeepBut.blk hk (g' := gb741) (zb BK741.out) NB741_0.out (by simp))
           replace BK756 := za (KeepBut.blk hk (g' := gb756) (zb BK756.out) NB756_0.out (by simp))
           replace HK := za (KeepBut.trans zq18 hk (.inl rfl))
           replace HB := za (hb)
           replace HI0 := za (hi)
           refine hK.out _ _ ⟨(blk_cell BK756.out 0).trans rfl, (blk_cell BK756.out 1).trans rfl, (blk_cell BK756.out 2).trans rfl, (blk_cell BK756.out 3).trans rfl, (blk_cell BK756.out 4).trans rfl⟩ (fun hHeld => ?_)
           clear hK K
           refine norm_ (a' := ?_) ?_ ?_
           rotate_left
           ·
            show Act.put _ (some 51) _ = _
            simp only [Act.put, List.setIfInBounds_toArray, List.set_cons_zero, List.set_cons_succ, i64_w, i32_w]
            rfl
           refine one_ (i := 4) (N := some 52) #[true, true, true, true, true, false, false, false] rfl rfl (one_of HT_.out zq13) (by decide) (fun K hK => ?_)
           refine value_ (w1 := ?_) (v := ?_) (by rfl) rfl ?_ ?_
           rotate_left 2
           ·
            go_simp
            constructor
            ·
             rfl
            ·
             rfl
           refine hK.out _ _ ⟨(blk_cell (blk_alloc BK756.out _) 0).trans rfl, (blk_cell (blk_alloc BK756.out _) 1).trans rfl, (blk_cell (blk_alloc BK756.out _) 2).trans rfl, (blk_cell (blk_alloc BK756.out _) 3).trans rfl, (blk_cell (blk_alloc BK756.out _) 4).trans rfl⟩ (fun hHeld => ?_)
           clear hK K
           refine norm_ (a' := ?_) ?_ ?_
           rotate_left
           ·
            show Act.put _ (some 52) _ = _
            simp only [Act.put, List.setIfInBounds_toArray, List.set_cons_zero, List.set_cons_succ, i64_w, i32_w]
            rfl
           refine one_ (i := 5) (N := some 53) #[true, true, true, true, true, true, false, false] rfl rfl (one_of HT_.out zq13) (by decide) (fun K hK => ?_)
           refine Kd.R_append_step k64 w.heap.size (by rfl) (.tmp 49) (.tmp 52) 36 64 (.agg #[(.string ⟨#[]⟩), (.string ⟨#[]⟩), (.int .i64 0), (.int .i64 0)]) 48 rfl Try.underlying36 info64 rfl (by decide) (by omega) u757003 x757003_2 (⟨t772, t773, t774, t775⟩ : S64) [.string t772, .string t773, .int .i64 t774, .int .i64 t775] (fun _ => True) (fun _ => False) rfl rfl ?aP (fun _ hk => hk.elim) ?aF ?aO (Below.refl _ _) ?aS ?aL ?_
           (case aP => exact k64_mkM _ _ _ (⟨t772, t773, t774, t775⟩ : S64))
           (case aF => exact (fun _ _ => trivial))
           (case aO => exact (zr HO_757003.out))
           (case aS => exact (keep_size (w := w) (g := g) (row := none) zq18))
           (case aL => have := LMc30.out; omega)
           intro v781 w34 ho hb hg hat
           rw [← Ny780.out] at ho
           replace HO_757004 := za (Kd.R_over' (zr HO_757004.out) (Kd.R_typed (zr HO_757003.out)) (by decide) hg)
           replace BK741 := za (blk_grown (g := gb741) (zb BK741.out) hg (Kd.R_ne HO_757003.out BK741.out (by decide)))
           replace BK756 := za (blk_grown (g := gb756) (zb BK756.out) hg (Kd.R_ne HO_757003.out BK756.out (by decide)))
           replace HB := za (below_weaken zq21 HL.out hb)
           replace HI0 := za (IsS83.grown zq9 hg (IsS83.own_ne HI0.out HO_757003.out (by decide)))
           replace HK := za (KeepBut.trans zq18 (KeepBut.of_grown hg g) (Kd.R_base2 HO_757003.out))
           have HO782 := za (ho)
           clear HO_757003
           clear ho hb hg hat
           obtain ⟨Ao35, co35, eo35⟩ := Kd.R_slice HO782.out
           (first | subst eo35 | (injection eo35 with f1_ f2_ f3_; have f4_ := f1_.symm; have f5_ := f3_.symm; clear f1_ f2_ f3_; subst f4_; subst f5_))
           refine hK.out _ _ ⟨(blk_cell BK756.out 0).trans rfl, (blk_cell BK756.out 1).trans rfl, (blk_cell BK756.out 2).trans rfl, (blk_cell BK756.out 3).trans rfl, (blk_cell BK756.out 4).trans rfl⟩ (fun hHeld => ?_)
           clear hK K
           refine norm_ (a' := ?_) ?_ ?_
           rotate_left
           ·
            show Act.put _ (some 53) _ = _
            simp only [Act.put, List.setIfInBounds_toArray, List.set_cons_zero, List.set_cons_succ, i64_w, i32_w]
            rfl
           refine pure_ (i := 6) (N := some 54) #[true, true, true, true, true, true, true, false] rfl rfl (any_of HT_.out zq13) (fun _ _ _ h => h) (Or.inl ⟨by rfl, zpv⟩) zpw ?_
           refine last_ (i := 7) (N := none) #[true, true, true, true, true, true, true, true] rfl rfl (one_of HT_.out zq13) (by decide) (fun K hK => ?_)
           have hs36 : w34.cell? ⟨gb756, 3, none⟩ = some (u757003) := (blk_cell BK756.out 3).trans rfl
           have hfs36 := blk_frozen BK756.out 3
           have hns36_0 := NB741_756.out
           have hms36_0 := NB756_741.out
           refine skip_ (w1 := ?_) (by rfl) rfl ?_ ?_
           rotate_left
           ·
            go_simp
            rfl
           refine hK.out _ _ ?_
           clear hK K
           refine done_ (done_of HT_.out zq13) ?_
           try go_wp2
           go_roundg kj17
           case measure => have := HK1.out; have := HK2.out; have := HJ17.out; omega
           case rel => exact ⟨(t776), (t777), (t778), (t779), (y780), (x757004_2), (.slice Ao35 y780.length co35), (u757004), H', ⟨by have := HK1.out; have := HK2.out; have := HJ17.out; omega⟩, ⟨by (with_reducible repeat (first | apply Kd.R_alloc | apply Kd.R_drewN | apply Kd.R_drew)); exact Kd.R_mono (Kd.R_far (p := ⟨gb756, 3, none⟩) (Kd.R_types HO782.out BK756.out (by decide)) (fun _ hk => hk.2) (.slice Ao35 y780.length co35)) (fun _ hk => trivial)⟩, ⟨by (with_reducible repeat (first | apply Kd.R_alloc | apply Kd.R_drewN | apply Kd.R_drew)); exact Kd.R_mono (Kd.R_far (p := ⟨gb756, 3, none⟩) (Kd.R_types HO_757004.out BK756.out (by decide)) (fun _ hk => hk.2) (.slice Ao35 y780.length co35)) (fun _ hk => trivial)⟩, ⟨zq86⟩, ⟨by (with_reducible repeat (first | refine blk_drewN ?_ _ | refine blk_drew ?_ | refine blk_alloc ?_ _)); refine blk_put (cs := #[.string t751, .int .i64 t746, .slice none 0 0, u757003, u757004]) ?_ 3 _ rfl; (with_reducible repeat (first | refine blk_drewN ?_ _ | refine blk_drew ?_ | refine blk_alloc ?_ _)); exact BK756.out⟩, ⟨zq9⟩, ⟨zq18⟩, ⟨zq21⟩⟩
          ·
           rw [if_neg c30] at H
           exact absurd H (by simp)
         ·
          replace c28 := Bool.eq_false_iff.mpr c28
          subst c28
          rw [if_neg (show ¬ (false = true) by decide)] at H
          replace H := Option.bind_eq_some_iff.mp H
          obtain ⟨⟨t783, t784, t785, t786, t787⟩, A370, H⟩ := H
          (try dsimp only at H)
          have A37 := za A370
          clear A370
          by_cases c38 : t783 = true
          ·
           subst c38
           rw [if_pos rfl] at H
           replace H := Option.bind_eq_some_iff.mp H
           obtain ⟨⟨t788, t789, t792, t793, t794, t795, t798, t801, t802, t803, t804, t805⟩, A390, H⟩ := H
           (try dsimp only at H)
           have A39 := za A390
           clear A390
           by_cases c40 : x757004_2.length < 1034834473200
           ·
            rw [if_pos c40] at H
            have LMc40 := za c40
            clear c40
            obtain ⟨y806, hy806⟩ : ∃ y_ : List (S44), y_ = (x757004_2 ++ [(⟨t788, t789, t792, t793, t794, t795, t798, t801⟩ : S44)]) := ⟨_, rfl⟩
            replace H : (rr_module.l1 kj17 s0_0 t802 t803 t804 t805 t751 t746 x757003_2 y806) = some (r1, r2, r3, r4, r5, r6, r7, r8, r9) := by first | (rw [hy806]; with_reducible exact H) | (have H2_ := (Option.bind_some _ _).symm.trans H; rw [hy806]; with_reducible exact H2_) | (have H2_ := (Option.bind_some _ _).symm.trans H; with_reducible exact H2_) | with_reducible exact H | (rw [hy806]; exact H) | exact H
            have Ny806 := za hy806
            clear hy806
            have H' := za H
            clear H
            try go_wp2_with (first | ((with_reducible refine gate_callee (f := 48) rfl ?_); refine goesL_ (some 47) rfl rfl Try.func48 zq13 rfl #[.pointer (some ⟨g, 0, none⟩), .string (⟨#[118, 97, 114]⟩ : ByteArray)] rfl zq2 ?_; (with_reducible refine (rr_take.calls g s0_0 x1001_2 x1002_2 x1003_2 x1004_2 (⟨#[118, 97, 114]⟩ : ByteArray) false t768 t769 t770 t771 w0 _ ?side1 ?side2 A27.out).mono ?_); (case side1 => exact zq9); (case side2 => exact zq21); rintro e w41 ⟨rfl, hi, hb, hk⟩; refine ⟨_, rfl, ?_⟩; replace HO_757003 := za (Kd.R_mono (Kd.R_keep (IsS83.apart (show IsS83 w0 _ g s0_0 x1001_2 x1002_2 x1003_2 x1004_2 from zq9) (zr HO_757003.out) (by decide)) hk (fun _ h => h.2)) (fun _ h => h.1)); replace HO_757004 := za (Kd.R_mono (Kd.R_keep (IsS83.apart (show IsS83 w0 _ g s0_0 x1001_2 x1002_2 x1003_2 x1004_2 from zq9) (zr HO_757004.out) (by decide)) hk (fun _ h => h.2)) (fun _ h => h.1)); replace BK741 := za (KeepBut.blk hk (g' := gb741) (zb BK741.out) NB741_0.out (by simp)); replace BK756 := za (KeepBut.blk hk (g' := gb756) (zb BK756.out) NB756_0.out (by simp)); replace HK := za (KeepBut.trans zq18 hk (.inl rfl)); replace HB := za (hb); replace HI0 := za (hi); (try clear hb hk hi)) | ((with_reducible refine gate_callee (f := 48) rfl ?_); refine goesL_ (some 56) rfl rfl Try.func48 zq13 rfl #[.pointer (some ⟨g, 0, none⟩), .string (⟨#[112, 114, 111, 99]⟩ : ByteArray)] rfl zq2 ?_; (with_reducible refine (rr_take.calls g s0_0 t768 t769 t770 t771 (⟨#[112, 114, 111, 99]⟩ : ByteArray) true t784 t785 t786 t787 w0 _ ?side1 ?side2 A37.out).mono ?_); (case side1 => exact zq9); (case side2 => exact zq21); rintro e w42 ⟨rfl, hi, hb, hk⟩; refine ⟨_, rfl, ?_⟩; replace HO_757003 := za (Kd.R_mono (Kd.R_keep (IsS83.apart (show IsS83 w0 _ g s0_0 t768 t769 t770 t771 from zq9) (zr HO_757003.out) (by decide)) hk (fun _ h => h.2)) (fun _ h => h.1)); replace HO_757004 := za (Kd.R_mono (Kd.R_keep (IsS83.apart (show IsS83 w0 _ g s0_0 t768 t769 t770 t771 from zq9) (zr HO_757004.out) (by decide)) hk (fun _ h => h.2)) (fun _ h => h.1)); replace BK741 := za (KeepBut.blk hk (g' := gb741) (zb BK741.out) NB741_0.out (by simp)); replace BK756 := za (KeepBut.blk hk (g' := gb756) (zb BK756.out) NB756_0.out (by simp)); replace HK := za (KeepBut.trans zq18 hk (.inl rfl)); replace HB := za (hb); replace HI0 := za (hi); (try clear hb hk hi)))
            replace HO_757003 := za (Kd.R_drew HO_757003.out)
            replace HO_757004 := za (Kd.R_drew HO_757004.out)
            replace BK741 := za (blk_drew BK741.out)
            replace BK756 := za (blk_drew BK756.out)
            replace HI0 := za (IsS83.drew HI0.out)
            replace HK := za (keep_drew HK.out)
            replace HB := za (below_drew1 HB.out)
            refine start_ (n := 8) (S := fun w' => w'.cell? ⟨gb756, 0, none⟩ = some (.string t751) ∧ w'.cell? ⟨gb756, 1, none⟩ = some (.int .i64 t746) ∧ w'.cell? ⟨gb756, 2, none⟩ = some (.slice none 0 0) ∧ w'.cell? ⟨gb756, 3, none⟩ = some (u757003) ∧ w'.cell? ⟨gb756, 4, none⟩ = some (u757004)) (ds := [7]) #[false, false, false, false, false, false, false, false] zq13 rfl rfl ⟨(blk_cell BK756.out 0).trans rfl, (blk_cell BK756.out 1).trans rfl, (blk_cell BK756.out 2).trans rfl, (blk_cell BK756.out 3).trans rfl, (blk_cell BK756.out 4).trans rfl⟩ (fun hHeld => ?_); refine with_tabW rr_module.tab11 rr_module.bits11 (fun HT_ HW_ => ?_)
            generalize w42.drew = w43 at HO_757003 HO_757004 BK741 BK756 HI0 HK HB hHeld ⊢
            refine pure_ (i := 0) (N := some 57) #[true, false, false, false, false, false, false, false] rfl rfl (any_of HT_.out zq13) (fun _ _ _ h => h) (Or.inl ⟨by rfl, zpv⟩) zpw ?_
            refine pure_ (i := 2) (N := some 59) #[true, false, true, false, false, false, false, false] rfl rfl (any_of HT_.out zq13) (fun _ _ _ h => h) (Or.inl ⟨by rfl, zpv⟩) zpw ?_
            refine take_ (i := 1) (N := some 58) (v := ?_) (a' := ?_) #[true, true, true, false, false, false, false, false] rfl rfl (take_ofW HT_.out HW_.out zq13) (fun _ _ _ h => h) (Or.inl ⟨by rfl, ?_⟩) hHeld ?_ ?_
            rotate_left
            ·
             rintro w' ⟨s0, s1, s2, s3, s4⟩
             go_simp
             with_reducible rfl
            rotate_left
            ·
             simp only [Act.put, List.setIfInBounds_toArray, List.set_cons_zero, List.set_cons_succ, i64_w, i32_w]
             rfl
            refine one_ (i := 3) (N := some 60) #[true, true, true, true, false, false, false, false] rfl rfl (one_of HT_.out zq13) (by decide) (fun K hK => ?_)
            refine goes_ Try.func50 zq13 rfl #[.pointer (some ⟨g, 0, none⟩)] (by rfl) rfl rfl zq2 ?_
            with_reducible refine (rr_proc.calls kj17 g s0_0 t784 t785 t786 t787 t788 t789 t792 t793 t794 t795 t798 t801 t802 t803 t804 t805 w0 _ ?side1 ?side2 A39.out).mono ?_
            (case side1 => exact zq9)
            (case side2 => exact zq21)
            rintro e w44 ⟨v790, v796, v799, rfl, ho0, ho1, ho2, hi, hb, hk⟩
            refine ⟨_, rfl, ?_⟩
            replace HO_757003 := za (Kd.R_mono (Kd.R_keep (IsS83.apart (show IsS83 w0 _ g s0_0 t784 t785 t786 t787 from zq9) (zr HO_757003.out) (by decide)) hk (fun _ h => h.2)) (fun _ h => h.1))
            replace HO_757004 := za (Kd.R_mono (Kd.R_told (Kd.R_told (Kd.R_told (Kd.R_oldK (IsS83.apart (show IsS83 w0 _ g s0_0 t784 t785 t786 t787 from zq9) (zr HO_757004.out) (by decide)) hk) (Kd.R_base ho0)) (Kd.R_base ho1)) (Kd.R_base ho2)) (fun _ h_ => h_.1))
            replace BK741 := za (KeepBut.blk hk (g' := gb741) (zb BK741.out) NB741_0.out (by simp))
            replace BK756 := za (KeepBut.blk hk (g' := gb756) (zb BK756.out) NB756_0.out (by simp))
            have HO791 := za (Kd.R_lower ho0 (keep_size (w := w) (g := g) (row := none) zq18))
            have HO797 := za (Kd.R_lower ho1 (keep_size (w := w) (g := g) (row := none) zq18))
            have HO800 := za (Kd.R_lower ho2 (keep_size (w := w) (g := g) (row := none) zq18))
            replace HK := za (KeepBut.trans zq18 hk (.inl rfl))
            replace HB := za (hb)
            replace HI0 := za (hi)
            obtain ⟨Ao46, co46, eo46⟩ := Kd.R_slice HO791.out
            (first | subst eo46 | (injection eo46 with f1_ f2_ f3_; have f4_ := f1_.symm; have f5_ := f3_.symm; clear f1_ f2_ f3_; subst f4_; subst f5_))
            obtain ⟨Ao47, co47, eo47⟩ := Kd.R_slice HO797.out
            (first | subst eo47 | (injection eo47 with f1_ f2_ f3_; have f4_ := f1_.symm; have f5_ := f3_.symm; clear f1_ f2_ f3_; subst f4_; subst f5_))
            obtain ⟨Ao48, co48, eo48⟩ := Kd.R_slice HO800.out
            (first | subst eo48 | (injection eo48 with f1_ f2_ f3_; have f4_ := f1_.symm; have f5_ := f3_.symm; clear f1_ f2_ f3_; subst f4_; subst f5_))
            refine hK.out _ _ ⟨(blk_cell BK756.out 0).trans rfl, (blk_cell BK756.out 1).trans rfl, (blk_cell BK756.out 2).trans rfl, (blk_cell BK756.out 3).trans rfl, (blk_cell BK756.out 4).trans rfl⟩ (fun hHeld => ?_)
            clear hK K
            refine norm_ (a' := ?_) ?_ ?_
            rotate_left
            ·
             show Act.put _ (some 60) _ = _
             simp only [Act.put, List.setIfInBounds_toArray, List.set_cons_zero, List.set_cons_succ, i64_w, i32_w]
             rfl
            refine one_ (i := 4) (N := some 61) #[true, true, true, true, true, false, false, false] rfl rfl (one_of HT_.out zq13) (by decide) (fun K hK => ?_)
            refine value_ (w1 := ?_) (v := ?_) (by rfl) rfl ?_ ?_
            rotate_left 2
            ·
             go_simp
             constructor
             ·
              rfl
             ·
              rfl
            refine hK.out _ _ ⟨(blk_cell (blk_alloc BK756.out _) 0).trans rfl, (blk_cell (blk_alloc BK756.out _) 1).trans rfl, (blk_cell (blk_alloc BK756.out _) 2).trans rfl, (blk_cell (blk_alloc BK756.out _) 3).trans rfl, (blk_cell (blk_alloc BK756.out _) 4).trans rfl⟩ (fun hHeld => ?_)
            clear hK K
            refine norm_ (a' := ?_) ?_ ?_
            rotate_left
            ·
             show Act.put _ (some 61) _ = _
             simp only [Act.put, List.setIfInBounds_toArray, List.set_cons_zero, List.set_cons_succ, i64_w, i32_w]
             rfl
            refine one_ (i := 5) (N := some 62) #[true, true, true, true, true, true, false, false] rfl rfl (one_of HT_.out zq13) (by decide) (fun K hK => ?_)
            refine Kd.R_append_step k44 w.heap.size (by rfl) (.tmp 58) (.tmp 61) 37 44 (.agg #[(.string ⟨#[]⟩), (.slice none 0 0), (.bool false), (.string ⟨#[]⟩), (.string ⟨#[]⟩), (.slice none 0 0), (.slice none 0 0), (.int .i64 0)]) 136 rfl Try.underlying37 info44 rfl (by decide) (by omega) u757004 x757004_2 (⟨t788, t789, t792, t793, t794, t795, t798, t801⟩ : S44) [.string t788, .slice Ao46 t789.length co46, .bool t792, .string t793, .string t794, .slice Ao47 t795.length co47, .slice Ao48 t798.length co48, .int .i64 t801] (fun _ => True) (fun k_ => ((fun _ => True)) k_ ∧ some k_ ≠ (u757004 : Value).ownBlock) rfl rfl ?aP (fun _ hk => hk) ?aF ?aO (Below.refl _ _) ?aS ?aL ?_
            (case aP => exact k44_mkM _ _ _ (⟨t788, t789, t792, t793, t794, t795, t798, t801⟩ : S44) (Kd.R_mono (Kd.R_apart' (HO791.out) (Kd.R_typed HO_757004.out) (by decide)) (fun k_ hk => ⟨trivial, hk.2⟩)) (Kd.R_mono (Kd.R_apart' (HO797.out) (Kd.R_typed HO_757004.out) (by decide)) (fun k_ hk => ⟨trivial, hk.2⟩)) (Kd.R_mono (Kd.R_apart' (HO800.out) (Kd.R_typed HO_757004.out) (by decide)) (fun k_ hk => ⟨trivial, hk.2⟩)))
            (case aF => exact (fun _ _ => trivial))
            (case aO => exact (by (with_reducible repeat (first | apply Kd.R_alloc | apply Kd.R_drewN | apply Kd.R_drew)); exact Kd.R_mono HO_757004.out (fun _ hk => trivial)))
            (case aS => exact (keep_size (w := w) (g := g) (row := none) zq18))
            (case aL => have := LMc40.out; omega)
            intro v807 w45 ho hb hg hat
            rw [← Ny806.out] at ho
            replace HO_757003 := za (Kd.R_over' (zr HO_757003.out) (Kd.R_typed (zr HO_757004.out)) (by decide) hg)
            replace BK741 := za (blk_grown (g := gb741) (zb BK741.out) hg (Kd.R_ne HO_757004.out BK741.out (by decide)))
            replace BK756 := za (blk_grown (g := gb756) (zb BK756.out) hg (Kd.R_ne HO_757004.out BK756.out (by decide)))
            replace HB := za (below_weaken zq21 HL.out hb)
            replace HI0 := za (IsS83.grown zq9 hg (IsS83.own_ne HI0.out HO_757004.out (by decide)))
            replace HK := za (KeepBut.trans zq18 (KeepBut.of_grown hg g) (Kd.R_base2 HO_757004.out))
            have HO808 := za (ho)
            clear HO_757004 HO791 HO797 HO800
            clear ho hb hg hat
            obtain ⟨Ao49, co49, eo49⟩ := Kd.R_slice HO808.out
            (first | subst eo49 | (injection eo49 with f1_ f2_ f3_; have f4_ := f1_.symm; have f5_ := f3_.symm; clear f1_ f2_ f3_; subst f4_; subst f5_))
            refine hK.out _ _ ⟨(blk_cell BK756.out 0).trans rfl, (blk_cell BK756.out 1).trans rfl, (blk_cell BK756.out 2).trans rfl, (blk_cell BK756.out 3).trans rfl, (blk_cell BK756.out 4).trans rfl⟩ (fun hHeld => ?_)
            clear hK K
            refine norm_ (a' := ?_) ?_ ?_
            rotate_left
            ·
             show Act.put _ (some 62) _ = _
             simp only [Act.put, List.setIfInBounds_toArray, List.set_cons_zero, List.set_cons_succ, i64_w, i32_w]
             rfl
            refine pure_ (i := 6) (N := some 63) #[true, true, true, true, true, true, true, false] rfl rfl (any_of HT_.out zq13) (fun _ _ _ h => h) (Or.inl ⟨by rfl, zpv⟩) zpw ?_
            refine last_ (i := 7) (N := none) #[true, true, true, true, true, true, true, true] rfl rfl (one_of HT_.out zq13) (by decide) (fun K hK => ?_)
            have hs50 : w45.cell? ⟨gb756, 4, none⟩ = some (u757004) := (blk_cell BK756.out 4).trans rfl
            have hfs50 := blk_frozen BK756.out 4
            have hns50_0 := NB741_756.out
            have hms50_0 := NB756_741.out
            refine skip_ (w1 := ?_) (by rfl) rfl ?_ ?_
            rotate_left
            ·
             go_simp
             rfl
            refine hK.out _ _ ?_
            clear hK K
            refine done_ (done_of HT_.out zq13) ?_
            try go_wp2
            go_roundg kj17
            case measure => have := HK1.out; have := HK2.out; have := HJ17.out; omega
            case rel => exact ⟨(t802), (t803), (t804), (t805), (x757003_2), (y806), (u757003), (.slice Ao49 y806.length co49), H', ⟨by have := HK1.out; have := HK2.out; have := HJ17.out; omega⟩, ⟨by (with_reducible repeat (first | apply Kd.R_alloc | apply Kd.R_drewN | apply Kd.R_drew)); exact Kd.R_mono (Kd.R_far (p := ⟨gb756, 4, none⟩) (Kd.R_types HO_757003.out BK756.out (by decide)) (fun _ hk => hk.2) (.slice Ao49 y806.length co49)) (fun _ hk => trivial)⟩, ⟨by (with_reducible repeat (first | apply Kd.R_alloc | apply Kd.R_drewN | apply Kd.R_drew)); exact Kd.R_mono (Kd.R_far (p := ⟨gb756, 4, none⟩) (Kd.R_types HO808.out BK756.out (by decide)) (fun _ hk => hk.2) (.slice Ao49 y806.length co49)) (fun _ hk => trivial)⟩, ⟨zq86⟩, ⟨by (with_reducible repeat (first | refine blk_drewN ?_ _ | refine blk_drew ?_ | refine blk_alloc ?_ _)); refine blk_put (cs := #[.string t751, .int .i64 t746, .slice none 0 0, u757003, u757004]) ?_ 4 _ rfl; (with_reducible repeat (first | refine blk_drewN ?_ _ | refine blk_drew ?_ | refine blk_alloc ?_ _)); exact BK756.out⟩, ⟨zq9⟩, ⟨zq18⟩, ⟨zq21⟩⟩
           ·
            rw [if_neg c40] at H
            exact absurd H (by simp)
          ·
           replace c38 := Bool.eq_false_iff.mpr c38
           subst c38
           rw [if_neg (show ¬ (false = true) by decide)] at H
           exact absurd H (by simp)
        ·
         replace c26 := Bool.eq_false_iff.mpr c26
         subst c26
         rw [if_neg (show ¬ (false = true) by decide)] at H
         simp only [Option.some.injEq, Prod.mk.injEq] at H
         obtain ⟨rfl, rfl, rfl, rfl, rfl, rfl, rfl, rfl, rfl⟩ := H
         have hnb51 := NB756_741.out
         have hnc51 := NB741_756.out
         have hnb52 := NB756_0.out
         have hnc52 := NB0_756.out
         obtain ⟨hcz53_0, hcz53_1, hcz53_2, hcz53_3, hcz53_4⟩ := zc5 BK756.out
         obtain ⟨hfz53_0, hfz53_1, hfz53_2, hfz53_3, hfz53_4⟩ := zf5 BK756.out
         have hnb54 := NB741_0.out
         have hnc54 := NB0_741.out
         obtain ⟨hcz55_0, hcz55_1, hcz55_2, hcz55_3, hcz55_4⟩ := zc5 BK741.out
         obtain ⟨hfz55_0, hfz55_1, hfz55_2, hfz55_3, hfz55_4⟩ := zf5 BK741.out
         obtain ⟨Ao56, co56, eo56⟩ := Kd.R_slice HO_757003.out
         subst eo56
         obtain ⟨Ao57, co57, eo57⟩ := Kd.R_slice HO_757004.out
         subst eo57
         go_wp2
         refine bodyPost_ret (results_cell_row rfl _ _ gb741 39 #[.string t751, .int .i64 t746, .slice none 0 0, .slice Ao56 x757003_2.length co56, .slice Ao57 x757004_2.length co57] (0, 0) _ rfl (by (with_reducible repeat (first | refine blk_drewN ?_ _ | refine blk_drew ?_ | refine blk_alloc ?_ _)); refine blk_put (cs := #[.string t751, .int .i64 t746, .slice none 0 0, .slice Ao56 x757003_2.length co56, .slice none 0 0]) ?_ 4 _ rfl; (with_reducible repeat (first | refine blk_drewN ?_ _ | refine blk_drew ?_ | refine blk_alloc ?_ _)); refine blk_put (cs := #[.string t751, .int .i64 t746, .slice none 0 0, .slice none 0 0, .slice none 0 0]) ?_ 3 _ rfl; (with_reducible repeat (first | refine blk_drewN ?_ _ | refine blk_drew ?_ | refine blk_alloc ?_ _)); refine blk_put (cs := #[.string t751, .int .i64 t746, .slice none 0 0, .slice none 0 0, .slice none 0 0]) ?_ 2 _ rfl; (with_reducible repeat (first | refine blk_drewN ?_ _ | refine blk_drew ?_ | refine blk_alloc ?_ _)); refine blk_put (cs := #[.string t751, .int .i64 0, .slice none 0 0, .slice none 0 0, .slice none 0 0]) ?_ 1 _ rfl; (with_reducible repeat (first | refine blk_drewN ?_ _ | refine blk_drew ?_ | refine blk_alloc ?_ _)); refine blk_put (cs := #[.string (⟨#[]⟩ : ByteArray), .int .i64 0, .slice none 0 0, .slice none 0 0, .slice none 0 0]) ?_ 0 _ rfl; (with_reducible repeat (first | refine blk_drewN ?_ _ | refine blk_drew ?_ | refine blk_alloc ?_ _)); exact BK741.out) Try.underlying39 rfl zq13) rfl ?_
         exact ⟨_, _, _, zq16, zq33, by (with_reducible repeat (first | apply Kd.R_alloc | apply Kd.R_drewN | apply Kd.R_drew)); exact Kd.R_mono (Kd.R_far (p := ⟨gb741, 4, none⟩) (Kd.R_far (p := ⟨gb741, 3, none⟩) (Kd.R_far (p := ⟨gb741, 2, none⟩) (Kd.R_far (p := ⟨gb741, 1, none⟩) (Kd.R_far (p := ⟨gb741, 0, none⟩) (Kd.R_types HO_757003.out BK741.out (by decide)) (fun _ hk => hk.2) (.string t751)) (fun _ hk => hk.2) (.int .i64 t746)) (fun _ hk => hk.2) (.slice none 0 0)) (fun _ hk => hk.2) (.slice Ao56 x757003_2.length co56)) (fun _ hk => hk.2) (.slice Ao57 x757004_2.length co57)) (fun _ hk => trivial), by (with_reducible repeat (first | apply Kd.R_alloc | apply Kd.R_drewN | apply Kd.R_drew)); exact Kd.R_mono (Kd.R_far (p := ⟨gb741, 4, none⟩) (Kd.R_far (p := ⟨gb741, 3, none⟩) (Kd.R_far (p := ⟨gb741, 2, none⟩) (Kd.R_far (p := ⟨gb741, 1, none⟩) (Kd.R_far (p := ⟨gb741, 0, none⟩) (Kd.R_types HO_757004.out BK741.out (by decide)) (fun _ hk => hk.2) (.string t751)) (fun _ hk => hk.2) (.int .i64 t746)) (fun _ hk => hk.2) (.slice none 0 0)) (fun _ hk => hk.2) (.slice Ao56 x757003_2.length co56)) (fun _ hk => hk.2) (.slice Ao57 x757004_2.length co57)) (fun _ hk => trivial), zq9, zq21, zq18⟩
end Go.Proofs.Ytcjnhnnfoadklaa.QRunBranches
