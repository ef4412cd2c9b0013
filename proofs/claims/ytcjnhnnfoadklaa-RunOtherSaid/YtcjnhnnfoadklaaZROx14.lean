import Derived.Test.YtcjnhnnfoadklaaZROx13
namespace Go.Proofs.Ytcjnhnnfoadklaa.QRunOther
open Go.RowKit Go.Proofs.YtcjnhnnfoadklaaW.PrintWords Go.Proofs.YtcjnhnnfoadklaaW.PrintLast Go.Proofs.YtcjnhnnfoadklaaW.PrintMore
attribute [local go_sem] max2_int min2_int max_two min_two max_three min_three max_four min_four
set_option linter.unusedVariables false
set_option linter.unusedSimpArgs false
mutual
def rr_module.l0 : Nat → List (S110) → Int → Int → Int → Int → ByteArray → Int → Option (ByteArray × Int × (List (S116)) × (List (S64)) × (List (S44)) × Int × Int × Int × Int)
 | 0, _, _, _, _, _, _, _ => none
 | k + 1, x1000, x1001, x1002, x1003, x1004, x486000, x486001 => (rr_take.f x1000 x1001 x1002 x1003 x1004 (⟨#[105, 109, 112, 111, 114, 116]⟩ : ByteArray)).bind fun bt490 => (if bt490.1 = true then (none) else (rr_module.l1 k x1000 bt490.2.1 bt490.2.2.1 bt490.2.2.2.1 bt490.2.2.2.2 x486000 x486001 ([] : List (S44))))
def rr_module.l1 : Nat → List (S110) → Int → Int → Int → Int → ByteArray → Int → List (S44) → Option (ByteArray × Int × (List (S116)) × (List (S64)) × (List (S44)) × Int × Int × Int × Int)
 | 0, _, _, _, _, _, _, _, _ => none
 | k + 1, x1000, x1001, x1002, x1003, x1004, x486000, x486001, x486004 => if x1003 = 0 then (if 0 ≤ x1001 then (if x1001 < (x1000.length : Int) then (rr_module.j2 k (((rd_T110 x1000 x1001).f0) != 0) x1000 x1001 x1002 x1003 x1004 x486000 x486001 x486004) else (none)) else (none)) else (rr_module.j2 k false x1000 x1001 x1002 x1003 x1004 x486000 x486001 x486004)
def rr_module.j2 : Nat → Bool → List (S110) → Int → Int → Int → Int → ByteArray → Int → List (S44) → Option (ByteArray × Int × (List (S116)) × (List (S64)) × (List (S44)) × Int × Int × Int × Int)
 | 0, _, _, _, _, _, _, _, _, _ => none
 | k + 1, x45, x1000, x1001, x1002, x1003, x1004, x486000, x486001, x486004 => if x45 = true then ((rr_take.f x1000 x1001 x1002 x1003 x1004 (⟨#[118, 97, 114]⟩ : ByteArray)).bind fun bt496 => (if bt496.1 = true then (none) else ((rr_take.f x1000 bt496.2.1 bt496.2.2.1 bt496.2.2.2.1 bt496.2.2.2.2 (⟨#[112, 114, 111, 99]⟩ : ByteArray)).bind fun bt501 => (if bt501.1 = true then ((rr_proc.f k x1000 bt501.2.1 bt501.2.2.1 bt501.2.2.2.1 bt501.2.2.2.2).bind fun bt506 => (if x486004.length < 1034834473200 then (rr_module.l1 k x1000 bt506.2.2.2.2.2.2.2.2.1 bt506.2.2.2.2.2.2.2.2.2.1 bt506.2.2.2.2.2.2.2.2.2.2.1 bt506.2.2.2.2.2.2.2.2.2.2.2 x486000 x486001 (x486004 ++ [(⟨bt506.1, bt506.2.1, bt506.2.2.1, bt506.2.2.2.1, bt506.2.2.2.2.1, bt506.2.2.2.2.2.1, bt506.2.2.2.2.2.2.1, bt506.2.2.2.2.2.2.2.1⟩ : S44)])) else (none))) else (none))))) else (some (x486000, x486001, ([] : List (S116)), ([] : List (S64)), x486004, x1001, x1002, x1003, x1004))
end
def rr_module.f (k : Nat) (s0_0 : List (S110)) (s0_1 : Int) (s0_2 : Int) (s0_3 : Int) (s0_4 : Int) : Option (ByteArray × Int × (List (S116)) × (List (S64)) × (List (S44)) × Int × Int × Int × Int) := (rr_want.f s0_0 s0_1 s0_2 s0_3 s0_4 (⟨#[109, 111, 100, 117, 108, 101]⟩ : ByteArray)).bind fun bt471 => ((rr_here.f s0_0 bt471.1 bt471.2.1 bt471.2.2.1 bt471.2.2.2).bind fun bt475 => ((rr_name.f s0_0 bt475.2.1 bt475.2.2.1 bt475.2.2.2.1 bt475.2.2.2.2).bind fun bt480 => ((rr_want.f s0_0 bt480.2.1 bt480.2.2.1 bt480.2.2.2.1 bt480.2.2.2.2 (⟨#[59]⟩ : ByteArray)).bind fun bt486 => (rr_module.l0 k s0_0 bt486.1 bt486.2.1 bt486.2.2.1 bt486.2.2.2 bt480.1 bt475.1))))
theorem rr_module.mono_l : ∀ k, (∀ y0 y1 y2 y3 y4 y5 y6, LeO (rr_module.l0 k y0 y1 y2 y3 y4 y5 y6) (rr_module.l0 (k + 1) y0 y1 y2 y3 y4 y5 y6)) ∧ (∀ y0 y1 y2 y3 y4 y5 y6 y7, LeO (rr_module.l1 k y0 y1 y2 y3 y4 y5 y6 y7) (rr_module.l1 (k + 1) y0 y1 y2 y3 y4 y5 y6 y7)) ∧ (∀ y0 y1 y2 y3 y4 y5 y6 y7 y8, LeO (rr_module.j2 k y0 y1 y2 y3 y4 y5 y6 y7 y8) (rr_module.j2 (k + 1) y0 y1 y2 y3 y4 y5 y6 y7 y8))
 | 0 => ⟨fun _ _ _ _ _ _ _ r h => by simp [rr_module.l0] at h, fun _ _ _ _ _ _ _ _ r h => by simp [rr_module.l1] at h, fun _ _ _ _ _ _ _ _ _ r h => by simp [rr_module.j2] at h⟩
 | k + 1 => by
  obtain ⟨ih0, ih1, ih2⟩ := rr_module.mono_l k
  refine ⟨?_, ?_, ?_⟩
  ·
   intro y0 y1 y2 y3 y4 y5 y6
   unfold rr_module.l0
   repeat' with_reducible first | apply ih0 | apply ih1 | apply ih2 | apply rr_proc.mono | exact LeO.refl _ | exact LeO.none _ | refine LeO.ite ?_ ?_ | refine LeO.bind ?_ (fun _ => ?_)
  ·
   intro y0 y1 y2 y3 y4 y5 y6 y7
   unfold rr_module.l1
   repeat' with_reducible first | apply ih0 | apply ih1 | apply ih2 | apply rr_proc.mono | exact LeO.refl _ | exact LeO.none _ | refine LeO.ite ?_ ?_ | refine LeO.bind ?_ (fun _ => ?_)
  ·
   intro y0 y1 y2 y3 y4 y5 y6 y7 y8
   unfold rr_module.j2
   repeat' with_reducible first | apply ih0 | apply ih1 | apply ih2 | apply rr_proc.mono | exact LeO.refl _ | exact LeO.none _ | refine LeO.ite ?_ ?_ | refine LeO.bind ?_ (fun _ => ?_)
theorem rr_module.mono : ∀ a0 a1 a2 a3 a4 k, LeO (rr_module.f k a0 a1 a2 a3 a4) (rr_module.f (k + 1) a0 a1 a2 a3 a4) := by
 intro a0 a1 a2 a3 a4 k
 obtain ⟨ih0, ih1, ih2⟩ := rr_module.mono_l k
 unfold rr_module.f
 repeat' with_reducible first | apply ih0 | apply ih1 | apply ih2 | apply rr_proc.mono | exact LeO.refl _ | exact LeO.none _ | refine LeO.ite ?_ ?_ | refine LeO.bind ?_ (fun _ => ?_)
def rr_module.T7 : Bool × List (List Nat × List Nat) := (true, [([], []), ([0], [0]), ([1], [1]), ([2], [2]), ([3], [3]), ([4], [4]), ([5], [5]), ([6, 5], [5, 6]), ([7, 5], [5, 7]), ([8, 5], [5, 8]), ([5], [5]), ([10, 5], [5, 10]), ([11, 5], [5, 11]), ([12, 5], [5, 12]), ([9, 13, 5], [5, 9, 13]), ([14, 5], [5, 14]), ([15, 5], [5, 15]), ([16, 5], [5, 16]), ([5, 17], [5, 17])])
def rr_module.B7 : List Nat := [0, 1, 3, 7, 15, 31, 63, 127, 255, 511, 63, 1087, 3135, 7231, 16383, 32767, 65535, 131071, 262143]
theorem rr_module.tab7 : rtab .any (opsOf Try.f32 7) = rr_module.T7 := by kernel_rfl
theorem rr_module.bits7 : waitsOk rr_module.T7.2 rr_module.B7 = true := by kernel_rfl
def rr_module.T11 : Bool × List (List Nat × List Nat) := (true, [([], []), ([0], [0]), ([], []), ([2], [2]), ([3], [3]), ([1, 4, 3], [1, 4]), ([0, 1, 2, 3, 4, 5], []), ([6, 5, 5, 0, 1, 2, 3, 4, 5], [5, 6])])
def rr_module.B11 : List Nat := [0, 1, 0, 4, 12, 31, 63, 127]
theorem rr_module.tab11 : rtab .any (opsOf Try.f32 11) = rr_module.T11 := by kernel_rfl
theorem rr_module.bits11 : waitsOk rr_module.T11.2 rr_module.B11 = true := by kernel_rfl
set_option maxHeartbeats 8000000 in
set_option maxRecDepth 100000 in
theorem rr_module.calls (k : Nat) (g : Nat) (s0_0 : List (S110)) (s0_1 : Int) (s0_2 : Int) (s0_3 : Int) (s0_4 : Int) (r1 : ByteArray) (r2 : Int) (r3 : List (S116)) (r4 : List (S64)) (r5 : List (S44)) (r6 : Int) (r7 : Int) (r8 : Int) (r9 : Int) (w0 w : World) (hI : IsS83 w0 w g s0_0 s0_1 s0_2 s0_3 s0_4) (hB : Below w0.heap.size w0 w) (h : rr_module.f k s0_0 s0_1 s0_2 s0_3 s0_4 = some (r1, r2, r3, r4, r5, r6, r7, r8, r9)) :
  Calls Try.prog 32 #[.pointer (some ⟨g, 0, none⟩)] w fun e w' => ∃ v2_ v3_ v4_ : Value, e = .returned (.agg #[.string r1, .int .i64 r2, v2_, v3_, v4_]) ∧ Kd.R k116 116 w' w.heap.size (fun _ => True) v2_ r3 ∧ Kd.R k64 64 w' w.heap.size (fun _ => True) v3_ r4 ∧ Kd.R k44 44 w' w.heap.size (fun _ => True) v4_ r5 ∧ IsS83 w0 w' g s0_0 r6 r7 r8 r9 ∧ Below w0.heap.size w0 w' ∧ KeepBut w w' g none := by
 have hu39 := Try.underlying39
 have hu116 := Try.underlying116
 have HI0 := za hI
 have HK := za (KeepBut.refl w g none)
 have HL := za hB.size
 clear hI
 have HW0 := za hB.size
 have HB := za hB
 clear hB
 have H : ((rr_want.f s0_0 s0_1 s0_2 s0_3 s0_4 (⟨#[109, 111, 100, 117, 108, 101]⟩ : ByteArray)).bind fun bt471 => ((rr_here.f s0_0 bt471.1 bt471.2.1 bt471.2.2.1 bt471.2.2.2).bind fun bt475 => ((rr_name.f s0_0 bt475.2.1 bt475.2.2.1 bt475.2.2.2.1 bt475.2.2.2.2).bind fun bt480 => ((rr_want.f s0_0 bt480.2.1 bt480.2.2.1 bt480.2.2.2.1 bt480.2.2.2.2 (⟨#[59]⟩ : ByteArray)).bind fun bt486 => (rr_module.l0 k s0_0 bt486.1 bt486.2.1 bt486.2.2.1 bt486.2.2.2 bt480.1 bt475.1))))) = some (r1, r2, r3, r4, r5, r6, r7, r8, r9) := h
 clear h
 replace H := Option.bind_eq_some_iff.mp H
 obtain ⟨⟨t471, t472, t473, t474⟩, A20, H⟩ := H
 (try dsimp only at H)
 have A2 := za A20
 clear A20
 replace H := Option.bind_eq_some_iff.mp H
 obtain ⟨⟨t475, t476, t477, t478, t479⟩, A30, H⟩ := H
 (try dsimp only at H)
 have A3 := za A30
 clear A30
 replace H := Option.bind_eq_some_iff.mp H
 obtain ⟨⟨t480, t481, t482, t483, t484⟩, A40, H⟩ := H
 (try dsimp only at H)
 have A4 := za A40
 clear A40
 replace H := Option.bind_eq_some_iff.mp H
 obtain ⟨⟨t486, t487, t488, t489⟩, A50, H⟩ := H
 (try dsimp only at H)
 have A5 := za A50
 clear A50
 have H' := za H
 clear H
 go_enter Try.func32, Try.ntmps32
 go_wp2_with (first | ((with_reducible refine gate_dst (N := 2) rfl ?_); refine box_event ?hg (N := 2) ?hd (cs := #[.string (⟨#[]⟩ : ByteArray), .int .i64 0, .slice none 0 0, .slice none 0 0, .slice none 0 0]) (t := 39) ?hr ?_; (case hd => rfl); (case hg => rfl); (case hr => exact zq17); intro gb470 hg w6 hbox hb; replace HB := za (below_step zq5 hb); have BK470 := za (hbox); have GW470 := za ((by rw [hg]; exact (keep_size (w := w) (g := g) (row := none) zq6) : w.heap.size ≤ gb470)); have GE470 := za ((Nat.le_trans HW0.out (by rw [hg]; exact (keep_size (w := w) (g := g) (row := none) zq6) : w.heap.size ≤ gb470) : w0.heap.size ≤ gb470)); replace HK := za (KeepBut.trans zq6 (KeepBut.of_below hb g none) (.inl rfl)); have NB0_470 := za ((by rw [hg]; exact Nat.ne_of_lt (IsS83.lt (show IsS83 w0 _ g s0_0 s0_1 s0_2 s0_3 s0_4 from zq0)) : g ≠ gb470)); have NB470_0 := za ((by rw [hg]; exact Nat.ne_of_gt (IsS83.lt (show IsS83 w0 _ g s0_0 s0_1 s0_2 s0_3 s0_4 from zq0)) : gb470 ≠ g)); replace HI0 := za (IsS83.below zq0 hb); clear hb hbox hg) | ((with_reducible refine gate_callee (f := 45) rfl ?_); refine goesL_ (some 5) rfl rfl Try.func45 zq16 rfl #[.pointer (some ⟨g, 0, none⟩), .string (⟨#[109, 111, 100, 117, 108, 101]⟩ : ByteArray)] rfl zq1 ?_; (with_reducible refine (rr_want.calls g s0_0 s0_1 s0_2 s0_3 s0_4 (⟨#[109, 111, 100, 117, 108, 101]⟩ : ByteArray) t471 t472 t473 t474 w0 _ ?side1 ?side2 A2.out).mono ?_); (case side1 => exact zq55); (case side2 => exact zq72); rintro e w7 ⟨rfl, hi, hb, hk⟩; refine ⟨_, rfl, ?_⟩; replace BK470 := za (KeepBut.blk hk (g' := gb470) (zb BK470.out) NB470_0.out (by simp)); replace HK := za (KeepBut.trans zq63 hk (.inl rfl)); replace HB := za (hb); replace HI0 := za (hi); (try clear hb hk hi)) | ((with_reducible refine gate_callee (f := 46) rfl ?_); refine goesL_ (some 7) rfl rfl Try.func46 zq16 rfl #[.pointer (some ⟨g, 0, none⟩)] rfl zq1 ?_; (with_reducible refine (rr_here.calls g s0_0 t471 t472 t473 t474 t475 t476 t477 t478 t479 w0 _ ?side1 ?side2 A3.out).mono ?_); (case side1 => exact zq55); (case side2 => exact zq72); rintro e w8 ⟨rfl, hi, hb, hk⟩; refine ⟨_, rfl, ?_⟩; replace BK470 := za (KeepBut.blk hk (g' := gb470) (zb BK470.out) NB470_0.out (by simp)); replace HK := za (KeepBut.trans zq63 hk (.inl rfl)); replace HB := za (hb); replace HI0 := za (hi); (try clear hb hk hi)) | ((with_reducible refine gate_callee (f := 47) rfl ?_); refine goesL_ (some 9) rfl rfl Try.func47 zq16 rfl #[.pointer (some ⟨g, 0, none⟩)] rfl zq1 ?_; (with_reducible refine (rr_name.calls g s0_0 t476 t477 t478 t479 t480 t481 t482 t483 t484 w0 _ ?side1 ?side2 A4.out).mono ?_); (case side1 => exact zq55); (case side2 => exact zq72); rintro e w9 ⟨rfl, hi, hb, hk⟩; refine ⟨_, rfl, ?_⟩; replace BK470 := za (KeepBut.blk hk (g' := gb470) (zb BK470.out) NB470_0.out (by simp)); replace HK := za (KeepBut.trans zq63 hk (.inl rfl)); replace HB := za (hb); replace HI0 := za (hi); (try clear hb hk hi)) | ((with_reducible refine gate_dst (N := 3) rfl ?_); refine box_event ?hg (N := 3) ?hd (cs := #[.string (⟨#[]⟩ : ByteArray), .int .i64 0, .slice none 0 0, .slice none 0 0, .slice none 0 0]) (t := 39) ?hr ?_; (case hd => rfl); (case hg => rfl); (case hr => exact zq17); intro gb485 hg w10 hbox hb; replace HB := za (below_step zq72 hb); have BK485 := za (hbox); have GW485 := za ((by rw [hg]; exact (keep_size (w := w) (g := g) (row := none) zq63) : w.heap.size ≤ gb485)); have GE485 := za ((Nat.le_trans HW0.out (by rw [hg]; exact (keep_size (w := w) (g := g) (row := none) zq63) : w.heap.size ≤ gb485) : w0.heap.size ≤ gb485)); replace HK := za (KeepBut.trans zq63 (KeepBut.of_below hb g none) (.inl rfl)); have NB470_485 := za ((by rw [hg]; exact Nat.ne_of_lt (blk_lt (g := gb470) (zb BK470.out)) : gb470 ≠ gb485)); have NB485_470 := za ((by rw [hg]; exact Nat.ne_of_gt (blk_lt (g := gb470) (zb BK470.out)) : gb485 ≠ gb470)); replace BK470 := za (blk_below (g := gb470) (zb BK470.out) hb); have NB0_485 := za ((by rw [hg]; exact Nat.ne_of_lt (IsS83.lt (show IsS83 w0 _ g s0_0 t481 t482 t483 t484 from zq55)) : g ≠ gb485)); have NB485_0 := za ((by rw [hg]; exact Nat.ne_of_gt (IsS83.lt (show IsS83 w0 _ g s0_0 t481 t482 t483 t484 from zq55)) : gb485 ≠ g)); replace HI0 := za (IsS83.below zq55 hb); clear hb hbox hg; have hnb11 := NB485_470.out; have hnc11 := NB470_485.out; have hnb12 := NB485_0.out; have hnc12 := NB0_485.out; obtain ⟨hcz13_0, hcz13_1, hcz13_2, hcz13_3, hcz13_4⟩ := zc5 BK485.out; obtain ⟨hfz13_0, hfz13_1, hfz13_2, hfz13_3⟩ := zf4 BK485.out; have hfz13_4 := blk_frozen BK485.out 4) | ((with_reducible refine gate_callee (f := 45) rfl ?_); refine goesL_ (some 12) rfl rfl Try.func45 zq16 rfl #[.pointer (some ⟨g, 0, none⟩), .string (⟨#[59]⟩ : ByteArray)] rfl zq1 ?_; (with_reducible refine (rr_want.calls g s0_0 t481 t482 t483 t484 (⟨#[59]⟩ : ByteArray) t486 t487 t488 t489 w0 _ ?side1 ?side2 A5.out).mono ?_); (case side1 => exact zq15); (case side2 => exact zq27); rintro e w14 ⟨rfl, hi, hb, hk⟩; refine ⟨_, rfl, ?_⟩; replace BK470 := za (KeepBut.blk hk (g' := gb470) (o := .cells #[.string (⟨#[]⟩ : ByteArray), .int .i64 0, .slice none 0 0, .slice none 0 0, .slice none 0 0] 39 (0, 0)) (by (with_reducible repeat (first | refine blk_drewN ?_ _ | refine blk_drew ?_ | refine blk_alloc ?_ _)); refine blk_far ?_ NB470_485.out _; (with_reducible repeat (first | refine blk_drewN ?_ _ | refine blk_drew ?_ | refine blk_alloc ?_ _)); refine blk_far ?_ NB470_485.out _; (with_reducible repeat (first | refine blk_drewN ?_ _ | refine blk_drew ?_ | refine blk_alloc ?_ _)); refine blk_far ?_ NB470_485.out _; (with_reducible repeat (first | refine blk_drewN ?_ _ | refine blk_drew ?_ | refine blk_alloc ?_ _)); refine blk_far ?_ NB470_485.out _; (with_reducible repeat (first | refine blk_drewN ?_ _ | refine blk_drew ?_ | refine blk_alloc ?_ _)); refine blk_far ?_ NB470_485.out _; (with_reducible repeat (first | refine blk_drewN ?_ _ | refine blk_drew ?_ | refine blk_alloc ?_ _)); exact BK470.out) NB470_0.out (by simp)); replace BK485 := za (KeepBut.blk hk (g' := gb485) (o := .cells #[.string t480, .int .i64 t475, .slice none 0 0, .slice none 0 0, .slice none 0 0] 39 (0, 0)) (by (with_reducible repeat (first | refine blk_drewN ?_ _ | refine blk_drew ?_ | refine blk_alloc ?_ _)); refine blk_put (cs := #[.string t480, .int .i64 t475, .slice none 0 0, .slice none 0 0, .slice none 0 0]) ?_ 4 _ rfl; (with_reducible repeat (first | refine blk_drewN ?_ _ | refine blk_drew ?_ | refine blk_alloc ?_ _)); refine blk_put (cs := #[.string t480, .int .i64 t475, .slice none 0 0, .slice none 0 0, .slice none 0 0]) ?_ 3 _ rfl; (with_reducible repeat (first | refine blk_drewN ?_ _ | refine blk_drew ?_ | refine blk_alloc ?_ _)); refine blk_put (cs := #[.string t480, .int .i64 t475, .slice none 0 0, .slice none 0 0, .slice none 0 0]) ?_ 2 _ rfl; (with_reducible repeat (first | refine blk_drewN ?_ _ | refine blk_drew ?_ | refine blk_alloc ?_ _)); refine blk_put (cs := #[.string t480, .int .i64 0, .slice none 0 0, .slice none 0 0, .slice none 0 0]) ?_ 1 _ rfl; (with_reducible repeat (first | refine blk_drewN ?_ _ | refine blk_drew ?_ | refine blk_alloc ?_ _)); refine blk_put (cs := #[.string (⟨#[]⟩ : ByteArray), .int .i64 0, .slice none 0 0, .slice none 0 0, .slice none 0 0]) ?_ 0 _ rfl; (with_reducible repeat (first | refine blk_drewN ?_ _ | refine blk_drew ?_ | refine blk_alloc ?_ _)); exact BK485.out) NB485_0.out (by simp)); replace HK := za (KeepBut.trans zq22 hk (.inl rfl)); replace HB := za (hb); replace HI0 := za (hi); (try clear hb hk hi)))
 (try simp only [Act.put, List.setIfInBounds_toArray, List.set_cons_zero, List.set_cons_succ])
 go_loopg [] k (fun kq w' => ∃ (x1001_1 : Int) (x1002_1 : Int) (x1003_1 : Int) (x1004_1 : Int), Aside0 (rr_module.l0 kq s0_0 x1001_1 x1002_1 x1003_1 x1004_1 t480 t475 = some (r1, r2, r3, r4, r5, r6, r7, r8, r9)) ∧ Aside0 (kq ≤ k) ∧ Aside0 (w'.heap[gb470]? = some (.cells #[.string (⟨#[]⟩ : ByteArray), .int .i64 0, (.slice none 0 0), (.slice none 0 0), (.slice none 0 0)] 39 (0, 0))) ∧ Aside0 (w'.heap[gb485]? = some (.cells #[.string t480, .int .i64 t475, (.slice none 0 0), (.slice none 0 0), (.slice none 0 0)] 39 (0, 0))) ∧ Aside0 (IsS83 w0 w' g s0_0 x1001_1 x1002_1 x1003_1 x1004_1) ∧ Aside0 (KeepBut w w' g none) ∧ Aside0 (Below w0.heap.size w0 w'))
 case atStart => exact ⟨(t486), (t487), (t488), (t489), H', ⟨Nat.le_refl _⟩, ⟨zq87⟩, ⟨zq88⟩, ⟨zq15⟩, ⟨zq22⟩, ⟨zq27⟩⟩
 case round =>
  clear H'
  obtain ⟨x1001_1, x1002_1, x1003_1, x1004_1, HA, HK1, BK470, BK485, HI0, HK, HB⟩ := hrel
  cases gk with
  | zero => exact absurd HA.out (by simp [rr_module.l0])
  | succ k1 =>
   have H := HA.out
   clear HA
   simp only [rr_module.l0] at H
   replace H := Option.bind_eq_some_iff.mp H
   obtain ⟨⟨t490, t491, t492, t493, t494⟩, A150, H⟩ := H
   (try dsimp only at H)
   have A15 := za A150
   clear A150
   by_cases c16 : t490 = true
   ·
    subst c16
    rw [if_pos rfl] at H
    exact absurd H (by simp)
   ·
    replace c16 := Bool.eq_false_iff.mpr c16
    subst c16
    rw [if_neg (show ¬ (false = true) by decide)] at H
    have H' := za H
    clear H
    go_wp2_with (first | ((with_reducible refine gate_callee (f := 48) rfl ?_); refine goesL_ (some 14) rfl rfl Try.func48 zq16 rfl #[.pointer (some ⟨g, 0, none⟩), .string (⟨#[105, 109, 112, 111, 114, 116]⟩ : ByteArray)] rfl zq1 ?_; (with_reducible refine (rr_take.calls g s0_0 x1001_1 x1002_1 x1003_1 x1004_1 (⟨#[105, 109, 112, 111, 114, 116]⟩ : ByteArray) false t491 t492 t493 t494 w0 _ ?side1 ?side2 A15.out).mono ?_); (case side1 => exact zq15); (case side2 => exact zq27); rintro e w17 ⟨rfl, hi, hb, hk⟩; refine ⟨_, rfl, ?_⟩; replace BK470 := za (KeepBut.blk hk (g' := gb470) (zb BK470.out) NB470_0.out (by simp)); replace BK485 := za (KeepBut.blk hk (g' := gb485) (zb BK485.out) NB485_0.out (by simp)); replace HK := za (KeepBut.trans zq22 hk (.inl rfl)); replace HB := za (hb); replace HI0 := za (hi); (try clear hb hk hi)))
    (try simp only [Act.put, List.setIfInBounds_toArray, List.set_cons_zero, List.set_cons_succ])
    go_loopg [] k1 (fun kq w' => ∃ (x1001_2 : Int) (x1002_2 : Int) (x1003_2 : Int) (x1004_2 : Int) (x486004_2 : List (S44)) (u486004 : Value), Aside0 (rr_module.l1 kq s0_0 x1001_2 x1002_2 x1003_2 x1004_2 t480 t475 x486004_2 = some (r1, r2, r3, r4, r5, r6, r7, r8, r9)) ∧ Aside0 (kq ≤ k1) ∧ Aside0 (Kd.R k44 44 w' w.heap.size (fun _ => True) u486004 x486004_2) ∧ Aside0 (w'.heap[gb470]? = some (.cells #[.string (⟨#[]⟩ : ByteArray), .int .i64 0, (.slice none 0 0), (.slice none 0 0), (.slice none 0 0)] 39 (0, 0))) ∧ Aside0 (w'.heap[gb485]? = some (.cells #[.string t480, .int .i64 t475, (.slice none 0 0), (.slice none 0 0), u486004] 39 (0, 0))) ∧ Aside0 (IsS83 w0 w' g s0_0 x1001_2 x1002_2 x1003_2 x1004_2) ∧ Aside0 (KeepBut w w' g none) ∧ Aside0 (Below w0.heap.size w0 w'))
    case atStart => exact ⟨(t491), (t492), (t493), (t494), (([] : List (S44))), (.slice none 0 0), H', ⟨Nat.le_refl _⟩, ⟨zq50⟩, ⟨zq87⟩, ⟨zq88⟩, ⟨zq15⟩, ⟨zq22⟩, ⟨zq27⟩⟩
    case round =>
     clear H'
     obtain ⟨x1001_2, x1002_2, x1003_2, x1004_2, x486004_2, u486004, HA, HK2, HO_486004, BK470, BK485, HI0, HK, HB⟩ := hrel
     cases gk with
     | zero => exact absurd HA.out (by simp [rr_module.l1])
     | succ k2 =>
      have H := HA.out
      clear HA
      simp only [rr_module.l1] at H
      have HC18 := za H
      clear H
      go_upto_region 7 with (fail)
      go_cut [45] (fun v45 wc => ∃ (kq : Nat) (x45_17 : Bool), v45 = .bool x45_17 ∧ Aside0 (rr_module.j2 kq x45_17 s0_0 x1001_2 x1002_2 x1003_2 x1004_2 t480 t475 x486004_2 = some (r1, r2, r3, r4, r5, r6, r7, r8, r9)) ∧ Aside0 (kq ≤ k2) ∧ Aside0 (Kd.R k44 44 wc w.heap.size (fun _ => True) u486004 x486004_2) ∧ Aside0 (wc.heap[gb470]? = some (.cells #[.string (⟨#[]⟩ : ByteArray), .int .i64 0, (.slice none 0 0), (.slice none 0 0), (.slice none 0 0)] 39 (0, 0))) ∧ Aside0 (wc.heap[gb485]? = some (.cells #[.string t480, .int .i64 t475, (.slice none 0 0), (.slice none 0 0), u486004] 39 (0, 0))) ∧ Aside0 (IsS83 w0 wc g s0_0 x1001_2 x1002_2 x1003_2 x1004_2) ∧ Aside0 (KeepBut w wc g none) ∧ Aside0 (Below w0.heap.size w0 wc))
      case first =>
       have H := HC18.out
       clear HC18
       by_cases c19 : x1003_2 = 0
       ·
        rw [if_pos c19] at H
        have c19b0 := beq_iff_eq.mpr c19
        have c19b1 := bne_eq_false_iff_eq.mpr c19
        clear c19
        (first | rw [c19b0] | (simp only [i64_w, i32_w]; rw [c19b0]) | skip)
        by_cases c20 : 0 ≤ x1001_2
        ·
         rw [if_pos c20] at H
         have c20b0 := decide_eq_true c20
         clear c20
         by_cases c21 : x1001_2 < (s0_0.length : Int)
         ·
          rw [if_pos c21] at H
          have c21b0 := decide_eq_true c21
          clear c21
          have H' := za H
          clear H
          try go_wp2
          replace HO_486004 := za (Kd.R_drew HO_486004.out)
          replace BK470 := za (blk_drew BK470.out)
          replace BK485 := za (blk_drew BK485.out)
          replace HI0 := za (IsS83.drew HI0.out)
          replace HK := za (keep_drew HK.out)
          replace HB := za (below_drew1 HB.out)
          obtain ⟨ASz23_0, cSz23_0, HGz23, hgz23, HSz23_0⟩ := HI0.out
          have hx23_0 := cellS83_0 HGz23
          have hx23_1 := cellS83_1 HGz23
          have hx23_2 := cellS83_2 HGz23
          have hx23_3 := cellS83_3 HGz23
          have hx23_4 := cellS83_4 HGz23
          clear HGz23 hgz23
          have p495 : 0 ≤ (x1001_2 : Int) := of_decide_eq_true zq9
          have q495 : x1001_2 < (s0_0.length : Int) := of_decide_eq_true zq9
          obtain ⟨ad495, e495, hx495_0, hx495_1, hx495_2⟩ := at_T110 HSz23_0 x1001_2 p495 q495
          have hw495_2 := hx495_2
          have hw495_1 := hx495_1
          have hw495_0 := hx495_0
          cases e495
          replace hx495_0 := pw_cell_below HB.out hx495_0
          replace hx495_1 := pw_cell_below HB.out hx495_1
          replace hx495_2 := pw_cell_below HB.out hx495_2
          replace p495 := eq_true p495
          replace q495 := eq_true q495
          refine start_ (n := 19) (S := fun w' => w'.cell? ⟨g, 0, none⟩ = some (.slice (some ad495) s0_0.length cSz23_0) ∧ w'.cell? ⟨g, 1, none⟩ = some (.int .i64 x1001_2) ∧ w'.cell? ⟨g, 2, none⟩ = some (.int .i64 x1002_2) ∧ w'.cell? ⟨g, 3, none⟩ = some (.int .i64 x1003_2) ∧ w'.cell? ⟨g, 4, none⟩ = some (.int .i64 x1004_2) ∧ w'.cell? (ad495.add ((x1001_2).toNat * 3)) = some (.int .i64 ((rd_T110 s0_0 x1001_2).f0)) ∧ w'.cell? ⟨(ad495.add ((x1001_2).toNat * 3)).block, (ad495.add ((x1001_2).toNat * 3)).off + 1, none⟩ = some (.string ((rd_T110 s0_0 x1001_2).f1)) ∧ w'.cell? ⟨(ad495.add ((x1001_2).toNat * 3)).block, (ad495.add ((x1001_2).toNat * 3)).off + 2, none⟩ = some (.int .i64 ((rd_T110 s0_0 x1001_2).f2))) (ds := []) #[false, false, false, false, false, false, false, false, false, false, false, false, false, false, false, false, false, false, false] zq16 rfl rfl ⟨hx23_0, hx23_1, hx23_2, hx23_3, hx23_4, hx495_0, hx495_1, hx495_2⟩ (fun hHeld => ?_); refine with_tabW rr_module.tab7 rr_module.bits7 (fun HT_ HW_ => ?_)
          generalize wr.drew = w22 at HO_486004 BK470 BK485 HI0 HK HB hx23_0 hx23_1 hx23_2 hx23_3 hx23_4 hx495_0 hx495_1 hx495_2 hHeld ⊢
          refine pure_ (i := 0) (N := some 27) #[true, false, false, false, false, false, false, false, false, false, false, false, false, false, false, false, false, false, false] rfl rfl (any_of HT_.out zq16) (fun _ _ _ h => h) (Or.inl ⟨by rfl, zpv⟩) zpw ?_
          refine pure_ (i := 1) (N := some 28) #[true, true, false, false, false, false, false, false, false, false, false, false, false, false, false, false, false, false, false] rfl rfl (any_of HT_.out zq16) (fun _ _ _ h => h) (Or.inl ⟨by rfl, zpv⟩) zpw ?_
          refine pure_ (i := 2) (N := some 29) #[true, true, true, false, false, false, false, false, false, false, false, false, false, false, false, false, false, false, false] rfl rfl (any_of HT_.out zq16) (fun _ _ _ h => h) (Or.inl ⟨by rfl, zpv⟩) zpw ?_
          refine take_ (i := 3) (N := some 30) (v := ?_) (a' := ?_) #[true, true, true, true, false, false, false, false, false, false, false, false, false, false, false, false, false, false, false] rfl rfl (take_ofW HT_.out HW_.out zq16) (fun _ _ _ h => h) (Or.inl ⟨by rfl, ?_⟩) hHeld ?_ ?_
          rotate_left
          ·
           rintro w' ⟨s0, s1, s2, s3, s4, s5, s6, s7⟩
           go_simp
           with_reducible rfl
          rotate_left
          ·
           simp only [Act.put, List.setIfInBounds_toArray, List.set_cons_zero, List.set_cons_succ, i64_w, i32_w]
           rfl
          refine pure_ (i := 4) (N := some 31) #[true, true, true, true, true, false, false, false, false, false, false, false, false, false, false, false, false, false, false] rfl rfl (any_of HT_.out zq16) (fun _ _ _ h => h) (Or.inl ⟨by rfl, zpv⟩) zpw ?_
          refine pure_ (i := 5) (N := some 32) #[true, true, true, true, true, true, false, false, false, false, false, false, false, false, false, false, false, false, false] rfl rfl (any_of HT_.out zq16) (fun _ _ _ h => h) (Or.inl ⟨by rfl, zpv⟩) zpw ?_
          refine pure_ (i := 6) (N := some 33) #[true, true, true, true, true, true, true, false, false, false, false, false, false, false, false, false, false, false, false] rfl rfl (any_of HT_.out zq16) (fun _ _ _ h => h) (Or.inl ⟨by rfl, zpv⟩) zpw ?_
          refine pure_ (i := 7) (N := some 34) #[true, true, true, true, true, true, true, true, false, false, false, false, false, false, false, false, false, false, false] rfl rfl (any_of HT_.out zq16) (fun _ _ _ h => h) (Or.inl ⟨by rfl, zpv⟩) zpw ?_
          refine pure_ (i := 8) (N := some 35) #[true, true, true, true, true, true, true, true, true, false, false, false, false, false, false, false, false, false, false] rfl rfl (any_of HT_.out zq16) (fun _ _ _ h => h) (Or.inl ⟨by rfl, zpv⟩) zpw ?_
          refine pure_ (i := 10) (N := some 37) #[true, true, true, true, true, true, true, true, true, false, true, false, false, false, false, false, false, false, false] rfl rfl (any_of HT_.out zq16) (fun _ _ _ h => h) (Or.inl ⟨by rfl, zpv⟩) zpw ?_
          refine pure_ (i := 11) (N := some 38) #[true, true, true, true, true, true, true, true, true, false, true, true, false, false, false, false, false, false, false] rfl rfl (any_of HT_.out zq16) (fun _ _ _ h => h) (Or.inl ⟨by rfl, zpv⟩) zpw ?_
          refine pure_ (i := 12) (N := some 39) #[true, true, true, true, true, true, true, true, true, false, true, true, true, false, false, false, false, false, false] rfl rfl (any_of HT_.out zq16) (fun _ _ _ h => h) (Or.inl ⟨by rfl, zpv⟩) zpw ?_
          refine take_ (i := 9) (N := some 36) (v := ?_) (a' := ?_) #[true, true, true, true, true, true, true, true, true, true, true, true, true, false, false, false, false, false, false] rfl rfl (take_ofW HT_.out HW_.out zq16) (fun _ _ _ h => h) (Or.inl ⟨by rfl, ?_⟩) hHeld ?_ ?_
          rotate_left
          ·
           rintro w' ⟨s0, s1, s2, s3, s4, s5, s6, s7⟩
           go_simp
           with_reducible rfl
          rotate_left
          ·
           simp only [Act.put, List.setIfInBounds_toArray, List.set_cons_zero, List.set_cons_succ, i64_w, i32_w]
           rfl
          refine take_ (i := 13) (N := some 40) (v := ?_) (a' := ?_) #[true, true, true, true, true, true, true, true, true, true, true, true, true, true, false, false, false, false, false] rfl rfl (take_ofW HT_.out HW_.out zq16) (fun _ _ _ h => h) (Or.inl ⟨by rfl, ?_⟩) hHeld ?_ ?_
          rotate_left
          ·
           rintro w' ⟨s0, s1, s2, s3, s4, s5, s6, s7⟩
           go_simp
           with_reducible rfl
          rotate_left
          ·
           simp only [Act.put, List.setIfInBounds_toArray, List.set_cons_zero, List.set_cons_succ, i64_w, i32_w]
           rfl
          refine pure_ (i := 14) (N := some 41) #[true, true, true, true, true, true, true, true, true, true, true, true, true, true, true, false, false, false, false] rfl rfl (any_of HT_.out zq16) (fun _ _ _ h => h) (Or.inl ⟨by rfl, zpv⟩) zpw ?_
          refine pure_ (i := 15) (N := some 42) #[true, true, true, true, true, true, true, true, true, true, true, true, true, true, true, true, false, false, false] rfl rfl (any_of HT_.out zq16) (fun _ _ _ h => h) (Or.inl ⟨by rfl, zpv⟩) zpw ?_
          refine take_ (i := 16) (N := some 43) (v := ?_) (a' := ?_) #[true, true, true, true, true, true, true, true, true, true, true, true, true, true, true, true, true, false, false] rfl rfl (take_ofW HT_.out HW_.out zq16) (fun _ _ _ h => h) (Or.inl ⟨by rfl, ?_⟩) hHeld ?_ ?_
          rotate_left
          ·
           rintro w' ⟨s0, s1, s2, s3, s4, s5, s6, s7⟩
           go_simp
           with_reducible rfl
          rotate_left
          ·
           simp only [Act.put, List.setIfInBounds_toArray, List.set_cons_zero, List.set_cons_succ, i64_w, i32_w]
           rfl
          refine pure_ (i := 17) (N := some 44) #[true, true, true, true, true, true, true, true, true, true, true, true, true, true, true, true, true, true, false] rfl rfl (any_of HT_.out zq16) (fun _ _ _ h => h) (Or.inl ⟨by rfl, zpv⟩) zpw ?_
          refine pure_ (i := 18) (N := some 45) #[true, true, true, true, true, true, true, true, true, true, true, true, true, true, true, true, true, true, true] rfl rfl (any_of HT_.out zq16) (fun _ _ _ h => h) (Or.inl ⟨by rfl, zpv⟩) zpw ?_
          refine done_ (done_of HT_.out zq16) ?_
          try go_wp2
          go_meet
          case rel => exact ⟨_, ((((rd_T110 s0_0 x1001_2).f0) != 0)), zq21, H', ⟨by have := HK1.out; have := HK2.out; first | omega | exact Nat.le_refl _⟩, ⟨by (with_reducible repeat (first | apply Kd.R_alloc | apply Kd.R_drewN | apply Kd.R_drew)); exact HO_486004.out⟩, ⟨zq87⟩, ⟨zq88⟩, ⟨zq15⟩, ⟨zq22⟩, ⟨zq27⟩⟩
         ·
          rw [if_neg c21] at H
          exact absurd H (by simp)
        ·
         rw [if_neg c20] at H
         exact absurd H (by simp)
       ·
        rw [if_neg c19] at H
        have c19b0 := beq_eq_false_iff_ne.mpr c19
        have c19b1 := bne_iff_ne.mpr c19
        (first | rw [c19b0] | (simp only [i64_w, i32_w]; rw [c19b0]) | skip)
        have H' := za H
        clear H
        try go_wp2
        replace HO_486004 := za (Kd.R_drew HO_486004.out)
        replace BK470 := za (blk_drew BK470.out)
        replace BK485 := za (blk_drew BK485.out)
        replace HI0 := za (IsS83.drew HI0.out)
        replace HK := za (keep_drew HK.out)
        replace HB := za (below_drew1 HB.out)
        obtain ⟨ASz25_0, cSz25_0, HGz25, hgz25, HSz25_0⟩ := HI0.out
        have hx25_0 := cellS83_0 HGz25
        have hx25_1 := cellS83_1 HGz25
        have hx25_2 := cellS83_2 HGz25
        have hx25_3 := cellS83_3 HGz25
        have hx25_4 := cellS83_4 HGz25
        clear HGz25 hgz25
        refine start_ (n := 19) (S := fun w' => w'.cell? ⟨g, 0, none⟩ = some (.slice ASz25_0 s0_0.length cSz25_0) ∧ w'.cell? ⟨g, 1, none⟩ = some (.int .i64 x1001_2) ∧ w'.cell? ⟨g, 2, none⟩ = some (.int .i64 x1002_2) ∧ w'.cell? ⟨g, 3, none⟩ = some (.int .i64 x1003_2) ∧ w'.cell? ⟨g, 4, none⟩ = some (.int .i64 x1004_2)) (ds := []) #[false, false, false, false, false, false, false, false, false, false, false, false, false, false, false, false, false, false, false] zq16 rfl rfl ⟨hx25_0, hx25_1, hx25_2, hx25_3, hx25_4⟩ (fun hHeld => ?_); refine with_tabW rr_module.tab7 rr_module.bits7 (fun HT_ HW_ => ?_)
        generalize wr.drew = w24 at HO_486004 BK470 BK485 HI0 HK HB hx25_0 hx25_1 hx25_2 hx25_3 hx25_4 hHeld ⊢
        refine pure_ (i := 0) (N := some 27) #[true, false, false, false, false, false, false, false, false, false, false, false, false, false, false, false, false, false, false] rfl rfl (any_of HT_.out zq16) (fun _ _ _ h => h) (Or.inl ⟨by rfl, zpv⟩) zpw ?_
        refine pure_ (i := 1) (N := some 28) #[true, true, false, false, false, false, false, false, false, false, false, false, false, false, false, false, false, false, false] rfl rfl (any_of HT_.out zq16) (fun _ _ _ h => h) (Or.inl ⟨by rfl, zpv⟩) zpw ?_
        refine pure_ (i := 2) (N := some 29) #[true, true, true, false, false, false, false, false, false, false, false, false, false, false, false, false, false, false, false] rfl rfl (any_of HT_.out zq16) (fun _ _ _ h => h) (Or.inl ⟨by rfl, zpv⟩) zpw ?_
        refine take_ (i := 3) (N := some 30) (v := ?_) (a' := ?_) #[true, true, true, true, false, false, false, false, false, false, false, false, false, false, false, false, false, false, false] rfl rfl (take_ofW HT_.out HW_.out zq16) (fun _ _ _ h => h) (Or.inl ⟨by rfl, ?_⟩) hHeld ?_ ?_
        rotate_left
        ·
         rintro w' ⟨s0, s1, s2, s3, s4⟩
         go_simp
         with_reducible rfl
        rotate_left
        ·
         simp only [Act.put, List.setIfInBounds_toArray, List.set_cons_zero, List.set_cons_succ, i64_w, i32_w]
         rfl
        refine pure_ (i := 4) (N := some 31) #[true, true, true, true, true, false, false, false, false, false, false, false, false, false, false, false, false, false, false] rfl rfl (any_of HT_.out zq16) (fun _ _ _ h => h) (Or.inl ⟨by rfl, zpv⟩) zpw ?_
        refine pure_ (i := 5) (N := some 32) #[true, true, true, true, true, true, false, false, false, false, false, false, false, false, false, false, false, false, false] rfl rfl (any_of HT_.out zq16) (fun _ _ _ h => h) (Or.inl ⟨by rfl, zpv⟩) zpw ?_
        refine pure_ (i := 6) (N := some 33) (v := undef) (a' := ?_) #[true, true, true, true, true, true, true, false, false, false, false, false, false, false, false, false, false, false, false] rfl rfl (any_of HT_.out zq16) (fun _ _ _ h => h) (Or.inr ⟨by rfl, rfl⟩) ?_ ?_
        rotate_left
        ·
         simp only [Act.put, List.setIfInBounds_toArray, List.set_cons_zero, List.set_cons_succ, i64_w, i32_w]
         rfl
        refine pure_ (i := 7) (N := some 34) (v := undef) (a' := ?_) #[true, true, true, true, true, true, true, true, false, false, false, false, false, false, false, false, false, false, false] rfl rfl (any_of HT_.out zq16) (fun _ _ _ h => h) (Or.inr ⟨by rfl, rfl⟩) ?_ ?_
        rotate_left
        ·
         simp only [Act.put, List.setIfInBounds_toArray, List.set_cons_zero, List.set_cons_succ, i64_w, i32_w]
         rfl
        refine pure_ (i := 8) (N := some 35) (v := undef) (a' := ?_) #[true, true, true, true, true, true, true, true, true, false, false, false, false, false, false, false, false, false, false] rfl rfl (any_of HT_.out zq16) (fun _ _ _ h => h) (Or.inr ⟨by rfl, rfl⟩) ?_ ?_
        rotate_left
        ·
         simp only [Act.put, List.setIfInBounds_toArray, List.set_cons_zero, List.set_cons_succ, i64_w, i32_w]
         rfl
        refine pure_ (i := 9) (N := some 36) (v := undef) (a' := ?_) #[true, true, true, true, true, true, true, true, true, true, false, false, false, false, false, false, false, false, false] rfl rfl (any_of HT_.out zq16) (fun _ _ _ h => h) (Or.inr ⟨by rfl, rfl⟩) ?_ ?_
        rotate_left
        ·
         simp only [Act.put, List.setIfInBounds_toArray, List.set_cons_zero, List.set_cons_succ, i64_w, i32_w]
         rfl
        refine pure_ (i := 10) (N := some 37) (v := undef) (a' := ?_) #[true, true, true, true, true, true, true, true, true, true, true, false, false, false, false, false, false, false, false] rfl rfl (any_of HT_.out zq16) (fun _ _ _ h => h) (Or.inr ⟨by rfl, rfl⟩) ?_ ?_
        rotate_left
        ·
         simp only [Act.put, List.setIfInBounds_toArray, List.set_cons_zero, List.set_cons_succ, i64_w, i32_w]
         rfl
        refine pure_ (i := 11) (N := some 38) (v := undef) (a' := ?_) #[true, true, true, true, true, true, true, true, true, true, true, true, false, false, false, false, false, false, false] rfl rfl (any_of HT_.out zq16) (fun _ _ _ h => h) (Or.inr ⟨by rfl, rfl⟩) ?_ ?_
        rotate_left
        ·
         simp only [Act.put, List.setIfInBounds_toArray, List.set_cons_zero, List.set_cons_succ, i64_w, i32_w]
         rfl
        refine pure_ (i := 12) (N := some 39) (v := undef) (a' := ?_) #[true, true, true, true, true, true, true, true, true, true, true, true, true, false, false, false, false, false, false] rfl rfl (any_of HT_.out zq16) (fun _ _ _ h => h) (Or.inr ⟨by rfl, rfl⟩) ?_ ?_
        rotate_left
        ·
         simp only [Act.put, List.setIfInBounds_toArray, List.set_cons_zero, List.set_cons_succ, i64_w, i32_w]
         rfl
        refine pure_ (i := 13) (N := some 40) (v := undef) (a' := ?_) #[true, true, true, true, true, true, true, true, true, true, true, true, true, true, false, false, false, false, false] rfl rfl (any_of HT_.out zq16) (fun _ _ _ h => h) (Or.inr ⟨by rfl, rfl⟩) ?_ ?_
        rotate_left
        ·
         simp only [Act.put, List.setIfInBounds_toArray, List.set_cons_zero, List.set_cons_succ, i64_w, i32_w]
         rfl
        refine pure_ (i := 14) (N := some 41) (v := undef) (a' := ?_) #[true, true, true, true, true, true, true, true, true, true, true, true, true, true, true, false, false, false, false] rfl rfl (any_of HT_.out zq16) (fun _ _ _ h => h) (Or.inr ⟨by rfl, rfl⟩) ?_ ?_
        rotate_left
        ·
         simp only [Act.put, List.setIfInBounds_toArray, List.set_cons_zero, List.set_cons_succ, i64_w, i32_w]
         rfl
        refine pure_ (i := 15) (N := some 42) (v := undef) (a' := ?_) #[true, true, true, true, true, true, true, true, true, true, true, true, true, true, true, true, false, false, false] rfl rfl (any_of HT_.out zq16) (fun _ _ _ h => h) (Or.inr ⟨by rfl, rfl⟩) ?_ ?_
        rotate_left
        ·
         simp only [Act.put, List.setIfInBounds_toArray, List.set_cons_zero, List.set_cons_succ, i64_w, i32_w]
         rfl
        refine pure_ (i := 16) (N := some 43) (v := undef) (a' := ?_) #[true, true, true, true, true, true, true, true, true, true, true, true, true, true, true, true, true, false, false] rfl rfl (any_of HT_.out zq16) (fun _ _ _ h => h) (Or.inr ⟨by rfl, rfl⟩) ?_ ?_
        rotate_left
        ·
         simp only [Act.put, List.setIfInBounds_toArray, List.set_cons_zero, List.set_cons_succ, i64_w, i32_w]
         rfl
        refine pure_ (i := 17) (N := some 44) (v := undef) (a' := ?_) #[true, true, true, true, true, true, true, true, true, true, true, true, true, true, true, true, true, true, false] rfl rfl (any_of HT_.out zq16) (fun _ _ _ h => h) (Or.inr ⟨by rfl, rfl⟩) ?_ ?_
        rotate_left
        ·
         simp only [Act.put, List.setIfInBounds_toArray, List.set_cons_zero, List.set_cons_succ, i64_w, i32_w]
         rfl
        refine pure_ (i := 18) (N := some 45) #[true, true, true, true, true, true, true, true, true, true, true, true, true, true, true, true, true, true, true] rfl rfl (any_of HT_.out zq16) (fun _ _ _ h => h) (Or.inl ⟨by rfl, zpv⟩) zpw ?_
        refine done_ (done_of HT_.out zq16) ?_
        try go_wp2
        go_meet
        case rel => exact ⟨_, (false), zq21, H', ⟨by have := HK1.out; have := HK2.out; first | omega | exact Nat.le_refl _⟩, ⟨by (with_reducible repeat (first | apply Kd.R_alloc | apply Kd.R_drewN | apply Kd.R_drew)); exact HO_486004.out⟩, ⟨zq87⟩, ⟨zq88⟩, ⟨zq15⟩, ⟨zq22⟩, ⟨zq27⟩⟩
      case rest =>
       clear HC18
       obtain ⟨kq, x45_17, rfl, HA, HJ17, HO_486004, BK470, BK485, HI0, HK, HB⟩ := hcut
       cases kq with
       | zero => exact absurd HA.out (by simp [rr_module.j2])
       | succ kj17 =>
        have H := HA.out
        clear HA
        simp only [rr_module.j2] at H
        by_cases c26 : x45_17 = true
        ·
         subst c26
         rw [if_pos rfl] at H
         replace H := Option.bind_eq_some_iff.mp H
         obtain ⟨⟨t496, t497, t498, t499, t500⟩, A270, H⟩ := H
         (try dsimp only at H)
         have A27 := za A270
         clear A270
         by_cases c28 : t496 = true
         ·
          subst c28
          rw [if_pos rfl] at H
          exact absurd H (by simp)
         ·
          replace c28 := Bool.eq_false_iff.mpr c28
          subst c28
          rw [if_neg (show ¬ (false = true) by decide)] at H
          replace H := Option.bind_eq_some_iff.mp H
          obtain ⟨⟨t501, t502, t503, t504, t505⟩, A290, H⟩ := H
          (try dsimp only at H)
          have A29 := za A290
          clear A290
          by_cases c30 : t501 = true
          ·
           subst c30
           rw [if_pos rfl] at H
           replace H := Option.bind_eq_some_iff.mp H
           obtain ⟨⟨t506, t507, t510, t511, t512, t513, t516, t519, t520, t521, t522, t523⟩, A310, H⟩ := H
           (try dsimp only at H)
           have A31 := za A310
           clear A310
           by_cases c32 : x486004_2.length < 1034834473200
           ·
            rw [if_pos c32] at H
            have LMc32 := za c32
            clear c32
            obtain ⟨y524, hy524⟩ : ∃ y_ : List (S44), y_ = (x486004_2 ++ [(⟨t506, t507, t510, t511, t512, t513, t516, t519⟩ : S44)]) := ⟨_, rfl⟩
            replace H : (rr_module.l1 kj17 s0_0 t520 t521 t522 t523 t480 t475 y524) = some (r1, r2, r3, r4, r5, r6, r7, r8, r9) := by first | (rw [hy524]; with_reducible exact H) | (have H2_ := (Option.bind_some _ _).symm.trans H; rw [hy524]; with_reducible exact H2_) | (have H2_ := (Option.bind_some _ _).symm.trans H; with_reducible exact H2_) | with_reducible exact H | (rw [hy524]; exact H) | exact H
            have Ny524 := za hy524
            clear hy524
            have H' := za H
            clear H
            try go_wp2_with (first | ((with_reducible refine gate_callee (f := 48) rfl ?_); refine goesL_ (some 47) rfl rfl Try.func48 zq16 rfl #[.pointer (some ⟨g, 0, none⟩), .string (⟨#[118, 97, 114]⟩ : ByteArray)] rfl zq1 ?_; (with_reducible refine (rr_take.calls g s0_0 x1001_2 x1002_2 x1003_2 x1004_2 (⟨#[118, 97, 114]⟩ : ByteArray) false t497 t498 t499 t500 w0 _ ?side1 ?side2 A27.out).mono ?_); (case side1 => exact zq15); (case side2 => exact zq27); rintro e w33 ⟨rfl, hi, hb, hk⟩; refine ⟨_, rfl, ?_⟩; replace HO_486004 := za (Kd.R_mono (Kd.R_keep (IsS83.apart (show IsS83 w0 _ g s0_0 x1001_2 x1002_2 x1003_2 x1004_2 from zq15) (zr HO_486004.out) (by decide)) hk (fun _ h => h.2)) (fun _ h => h.1)); replace BK470 := za (KeepBut.blk hk (g' := gb470) (zb BK470.out) NB470_0.out (by simp)); replace BK485 := za (KeepBut.blk hk (g' := gb485) (zb BK485.out) NB485_0.out (by simp)); replace HK := za (KeepBut.trans zq22 hk (.inl rfl)); replace HB := za (hb); replace HI0 := za (hi); (try clear hb hk hi)) | ((with_reducible refine gate_callee (f := 48) rfl ?_); refine goesL_ (some 56) rfl rfl Try.func48 zq16 rfl #[.pointer (some ⟨g, 0, none⟩), .string (⟨#[112, 114, 111, 99]⟩ : ByteArray)] rfl zq1 ?_; (with_reducible refine (rr_take.calls g s0_0 t497 t498 t499 t500 (⟨#[112, 114, 111, 99]⟩ : ByteArray) true t502 t503 t504 t505 w0 _ ?side1 ?side2 A29.out).mono ?_); (case side1 => exact zq15); (case side2 => exact zq27); rintro e w34 ⟨rfl, hi, hb, hk⟩; refine ⟨_, rfl, ?_⟩; replace HO_486004 := za (Kd.R_mono (Kd.R_keep (IsS83.apart (show IsS83 w0 _ g s0_0 t497 t498 t499 t500 from zq15) (zr HO_486004.out) (by decide)) hk (fun _ h => h.2)) (fun _ h => h.1)); replace BK470 := za (KeepBut.blk hk (g' := gb470) (zb BK470.out) NB470_0.out (by simp)); replace BK485 := za (KeepBut.blk hk (g' := gb485) (zb BK485.out) NB485_0.out (by simp)); replace HK := za (KeepBut.trans zq22 hk (.inl rfl)); replace HB := za (hb); replace HI0 := za (hi); (try clear hb hk hi)))
            replace HO_486004 := za (Kd.R_drew HO_486004.out)
            replace BK470 := za (blk_drew BK470.out)
            replace BK485 := za (blk_drew BK485.out)
            replace HI0 := za (IsS83.drew HI0.out)
            replace HK := za (keep_drew HK.out)
            replace HB := za (below_drew1 HB.out)
            refine start_ (n := 8) (S := fun w' => w'.cell? ⟨gb485, 0, none⟩ = some (.string t480) ∧ w'.cell? ⟨gb485, 1, none⟩ = some (.int .i64 t475) ∧ w'.cell? ⟨gb485, 2, none⟩ = some (.slice none 0 0) ∧ w'.cell? ⟨gb485, 3, none⟩ = some (.slice none 0 0) ∧ w'.cell? ⟨gb485, 4, none⟩ = some (u486004)) (ds := [7]) #[false, false, false, false, false, false, false, false] zq16 rfl rfl ⟨(blk_cell BK485.out 0).trans rfl, (blk_cell BK485.out 1).trans rfl, (blk_cell BK485.out 2).trans rfl, (blk_cell BK485.out 3).trans rfl, (blk_cell BK485.out 4).trans rfl⟩ (fun hHeld => ?_); refine with_tabW rr_module.tab11 rr_module.bits11 (fun HT_ HW_ => ?_)
            generalize w34.drew = w35 at HO_486004 BK470 BK485 HI0 HK HB hHeld ⊢
            refine pure_ (i := 0) (N := some 57) #[true, false, false, false, false, false, false, false] rfl rfl (any_of HT_.out zq16) (fun _ _ _ h => h) (Or.inl ⟨by rfl, zpv⟩) zpw ?_
            refine pure_ (i := 2) (N := some 59) #[true, false, true, false, false, false, false, false] rfl rfl (any_of HT_.out zq16) (fun _ _ _ h => h) (Or.inl ⟨by rfl, zpv⟩) zpw ?_
            refine take_ (i := 1) (N := some 58) (v := ?_) (a' := ?_) #[true, true, true, false, false, false, false, false] rfl rfl (take_ofW HT_.out HW_.out zq16) (fun _ _ _ h => h) (Or.inl ⟨by rfl, ?_⟩) hHeld ?_ ?_
            rotate_left
            ·
             rintro w' ⟨s0, s1, s2, s3, s4⟩
             go_simp
             with_reducible rfl
            rotate_left
            ·
             simp only [Act.put, List.setIfInBounds_toArray, List.set_cons_zero, List.set_cons_succ, i64_w, i32_w]
             rfl
            refine one_ (i := 3) (N := some 60) #[true, true, true, true, false, false, false, false] rfl rfl (one_of HT_.out zq16) (by decide) (fun K hK => ?_)
            refine goes_ Try.func50 zq16 rfl #[.pointer (some ⟨g, 0, none⟩)] (by rfl) rfl rfl zq1 ?_
            with_reducible refine (rr_proc.calls kj17 g s0_0 t502 t503 t504 t505 t506 t507 t510 t511 t512 t513 t516 t519 t520 t521 t522 t523 w0 _ ?side1 ?side2 A31.out).mono ?_
            (case side1 => exact zq15)
            (case side2 => exact zq27)
            rintro e w36 ⟨v508, v514, v517, rfl, ho0, ho1, ho2, hi, hb, hk⟩
            refine ⟨_, rfl, ?_⟩
            replace HO_486004 := za (Kd.R_mono (Kd.R_told (Kd.R_told (Kd.R_told (Kd.R_oldK (IsS83.apart (show IsS83 w0 _ g s0_0 t502 t503 t504 t505 from zq15) (zr HO_486004.out) (by decide)) hk) (Kd.R_base ho0)) (Kd.R_base ho1)) (Kd.R_base ho2)) (fun _ h_ => h_.1))
            replace BK470 := za (KeepBut.blk hk (g' := gb470) (zb BK470.out) NB470_0.out (by simp))
            replace BK485 := za (KeepBut.blk hk (g' := gb485) (zb BK485.out) NB485_0.out (by simp))
            have HO509 := za (Kd.R_lower ho0 (keep_size (w := w) (g := g) (row := none) zq22))
            have HO515 := za (Kd.R_lower ho1 (keep_size (w := w) (g := g) (row := none) zq22))
            have HO518 := za (Kd.R_lower ho2 (keep_size (w := w) (g := g) (row := none) zq22))
            replace HK := za (KeepBut.trans zq22 hk (.inl rfl))
            replace HB := za (hb)
            replace HI0 := za (hi)
            obtain ⟨Ao38, co38, eo38⟩ := Kd.R_slice HO509.out
            (first | subst eo38 | (injection eo38 with f1_ f2_ f3_; have f4_ := f1_.symm; have f5_ := f3_.symm; clear f1_ f2_ f3_; subst f4_; subst f5_))
            obtain ⟨Ao39, co39, eo39⟩ := Kd.R_slice HO515.out
            (first | subst eo39 | (injection eo39 with f1_ f2_ f3_; have f4_ := f1_.symm; have f5_ := f3_.symm; clear f1_ f2_ f3_; subst f4_; subst f5_))
            obtain ⟨Ao40, co40, eo40⟩ := Kd.R_slice HO518.out
            (first | subst eo40 | (injection eo40 with f1_ f2_ f3_; have f4_ := f1_.symm; have f5_ := f3_.symm; clear f1_ f2_ f3_; subst f4_; subst f5_))
            refine hK.out _ _ ⟨(blk_cell BK485.out 0).trans rfl, (blk_cell BK485.out 1).trans rfl, (blk_cell BK485.out 2).trans rfl, (blk_cell BK485.out 3).trans rfl, (blk_cell BK485.out 4).trans rfl⟩ (fun hHeld => ?_)
            clear hK K
            refine norm_ (a' := ?_) ?_ ?_
            rotate_left
            ·
             show Act.put _ (some 60) _ = _
             simp only [Act.put, List.setIfInBounds_toArray, List.set_cons_zero, List.set_cons_succ, i64_w, i32_w]
             rfl
            refine one_ (i := 4) (N := some 61) #[true, true, true, true, true, false, false, false] rfl rfl (one_of HT_.out zq16) (by decide) (fun K hK => ?_)
            refine value_ (w1 := ?_) (v := ?_) (by rfl) rfl ?_ ?_
            rotate_left 2
            ·
             go_simp
             constructor
             ·
              rfl
             ·
              rfl
            refine hK.out _ _ ⟨(blk_cell (blk_alloc BK485.out _) 0).trans rfl, (blk_cell (blk_alloc BK485.out _) 1).trans rfl, (blk_cell (blk_alloc BK485.out _) 2).trans rfl, (blk_cell (blk_alloc BK485.out _) 3).trans rfl, (blk_cell (blk_alloc BK485.out _) 4).trans rfl⟩ (fun hHeld => ?_)
            clear hK K
            refine norm_ (a' := ?_) ?_ ?_
            rotate_left
            ·
             show Act.put _ (some 61) _ = _
             simp only [Act.put, List.setIfInBounds_toArray, List.set_cons_zero, List.set_cons_succ, i64_w, i32_w]
             rfl
            refine one_ (i := 5) (N := some 62) #[true, true, true, true, true, true, false, false] rfl rfl (one_of HT_.out zq16) (by decide) (fun K hK => ?_)
            refine Kd.R_append_step k44 w.heap.size (by rfl) (.tmp 58) (.tmp 61) 37 44 (.agg #[(.string ⟨#[]⟩), (.slice none 0 0), (.bool false), (.string ⟨#[]⟩), (.string ⟨#[]⟩), (.slice none 0 0), (.slice none 0 0), (.int .i64 0)]) 136 rfl Try.underlying37 info44 rfl (by decide) (by omega) u486004 x486004_2 (⟨t506, t507, t510, t511, t512, t513, t516, t519⟩ : S44) [.string t506, .slice Ao38 t507.length co38, .bool t510, .string t511, .string t512, .slice Ao39 t513.length co39, .slice Ao40 t516.length co40, .int .i64 t519] (fun _ => True) (fun k_ => ((fun _ => True)) k_ ∧ some k_ ≠ (u486004 : Value).ownBlock) rfl rfl ?aP (fun _ hk => hk) ?aF ?aO (Below.refl _ _) ?aS ?aL ?_
            (case aP => exact k44_mkM _ _ _ (⟨t506, t507, t510, t511, t512, t513, t516, t519⟩ : S44) (Kd.R_mono (Kd.R_apart' (HO509.out) (Kd.R_typed HO_486004.out) (by decide)) (fun k_ hk => ⟨trivial, hk.2⟩)) (Kd.R_mono (Kd.R_apart' (HO515.out) (Kd.R_typed HO_486004.out) (by decide)) (fun k_ hk => ⟨trivial, hk.2⟩)) (Kd.R_mono (Kd.R_apart' (HO518.out) (Kd.R_typed HO_486004.out) (by decide)) (fun k_ hk => ⟨trivial, hk.2⟩)))
            (case aF => exact (fun _ _ => trivial))
            (case aO => exact (by (with_reducible repeat (first | apply Kd.R_alloc | apply Kd.R_drewN | apply Kd.R_drew)); exact Kd.R_mono HO_486004.out (fun _ hk => trivial)))
            (case aS => exact (keep_size (w := w) (g := g) (row := none) zq22))
            (case aL => have := LMc32.out; omega)
            intro v525 w37 ho hb hg hat
            rw [← Ny524.out] at ho
            replace BK470 := za (blk_grown (g := gb470) (zb BK470.out) hg (Kd.R_ne HO_486004.out BK470.out (by decide)))
            replace BK485 := za (blk_grown (g := gb485) (zb BK485.out) hg (Kd.R_ne HO_486004.out BK485.out (by decide)))
            replace HB := za (below_weaken zq27 HL.out hb)
            replace HI0 := za (IsS83.grown zq15 hg (IsS83.own_ne HI0.out HO_486004.out (by decide)))
            replace HK := za (KeepBut.trans zq22 (KeepBut.of_grown hg g) (Kd.R_base2 HO_486004.out))
            have HO526 := za (ho)
            clear HO_486004 HO509 HO515 HO518
            clear ho hb hg hat
            obtain ⟨Ao41, co41, eo41⟩ := Kd.R_slice HO526.out
            (first | subst eo41 | (injection eo41 with f1_ f2_ f3_; have f4_ := f1_.symm; have f5_ := f3_.symm; clear f1_ f2_ f3_; subst f4_; subst f5_))
            refine hK.out _ _ ⟨(blk_cell BK485.out 0).trans rfl, (blk_cell BK485.out 1).trans rfl, (blk_cell BK485.out 2).trans rfl, (blk_cell BK485.out 3).trans rfl, (blk_cell BK485.out 4).trans rfl⟩ (fun hHeld => ?_)
            clear hK K
            refine norm_ (a' := ?_) ?_ ?_
            rotate_left
            ·
             show Act.put _ (some 62) _ = _
             simp only [Act.put, List.setIfInBounds_toArray, List.set_cons_zero, List.set_cons_succ, i64_w, i32_w]
             rfl
            refine pure_ (i := 6) (N := some 63) #[true, true, true, true, true, true, true, false] rfl rfl (any_of HT_.out zq16) (fun _ _ _ h => h) (Or.inl ⟨by rfl, zpv⟩) zpw ?_
            refine last_ (i := 7) (N := none) #[true, true, true, true, true, true, true, true] rfl rfl (one_of HT_.out zq16) (by decide) (fun K hK => ?_)
            have hs42 : w37.cell? ⟨gb485, 4, none⟩ = some (u486004) := (blk_cell BK485.out 4).trans rfl
            have hfs42 := blk_frozen BK485.out 4
            have hns42_0 := NB470_485.out
            have hms42_0 := NB485_470.out
            refine skip_ (w1 := ?_) (by rfl) rfl ?_ ?_
            rotate_left
            ·
             go_simp
             rfl
            refine hK.out _ _ ?_
            clear hK K
            refine done_ (done_of HT_.out zq16) ?_
            try go_wp2
            go_roundg kj17
            case measure => have := HK1.out; have := HK2.out; have := HJ17.out; omega
            case rel => exact ⟨(t520), (t521), (t522), (t523), (y524), (.slice Ao41 y524.length co41), H', ⟨by have := HK1.out; have := HK2.out; have := HJ17.out; omega⟩, ⟨by (with_reducible repeat (first | apply Kd.R_alloc | apply Kd.R_drewN | apply Kd.R_drew)); exact Kd.R_mono (Kd.R_far (p := ⟨gb485, 4, none⟩) (Kd.R_types HO526.out BK485.out (by decide)) (fun _ hk => hk.2) (.slice Ao41 y524.length co41)) (fun _ hk => trivial)⟩, ⟨by (with_reducible repeat (first | refine blk_drewN ?_ _ | refine blk_drew ?_ | refine blk_alloc ?_ _)); refine blk_far ?_ NB470_485.out _; (with_reducible repeat (first | refine blk_drewN ?_ _ | refine blk_drew ?_ | refine blk_alloc ?_ _)); exact BK470.out⟩, ⟨by (with_reducible repeat (first | refine blk_drewN ?_ _ | refine blk_drew ?_ | refine blk_alloc ?_ _)); refine blk_put (cs := #[.string t480, .int .i64 t475, .slice none 0 0, .slice none 0 0, u486004]) ?_ 4 _ rfl; (with_reducible repeat (first | refine blk_drewN ?_ _ | refine blk_drew ?_ | refine blk_alloc ?_ _)); exact BK485.out⟩, ⟨zq15⟩, ⟨zq22⟩, ⟨zq27⟩⟩
           ·
            rw [if_neg c32] at H
            exact absurd H (by simp)
          ·
           replace c30 := Bool.eq_false_iff.mpr c30
           subst c30
           rw [if_neg (show ¬ (false = true) by decide)] at H
           exact absurd H (by simp)
        ·
         replace c26 := Bool.eq_false_iff.mpr c26
         subst c26
         rw [if_neg (show ¬ (false = true) by decide)] at H
         simp only [Option.some.injEq, Prod.mk.injEq] at H
         obtain ⟨rfl, rfl, rfl, rfl, rfl, rfl, rfl, rfl, rfl⟩ := H
         have hnb43 := NB485_470.out
         have hnc43 := NB470_485.out
         have hnb44 := NB485_0.out
         have hnc44 := NB0_485.out
         obtain ⟨hcz45_0, hcz45_1, hcz45_2, hcz45_3, hcz45_4⟩ := zc5 BK485.out
         obtain ⟨hfz45_0, hfz45_1, hfz45_2, hfz45_3, hfz45_4⟩ := zf5 BK485.out
         have hnb46 := NB470_0.out
         have hnc46 := NB0_470.out
         obtain ⟨hcz47_0, hcz47_1, hcz47_2, hcz47_3, hcz47_4⟩ := zc5 BK470.out
         obtain ⟨hfz47_0, hfz47_1, hfz47_2, hfz47_3, hfz47_4⟩ := zf5 BK470.out
         obtain ⟨Ao48, co48, eo48⟩ := Kd.R_slice HO_486004.out
         subst eo48
         go_wp2
         refine bodyPost_ret (results_cell_row rfl _ _ gb470 39 #[.string t480, .int .i64 t475, .slice none 0 0, .slice none 0 0, .slice Ao48 x486004_2.length co48] (0, 0) _ rfl (by (with_reducible repeat (first | refine blk_drewN ?_ _ | refine blk_drew ?_ | refine blk_alloc ?_ _)); refine blk_put (cs := #[.string t480, .int .i64 t475, .slice none 0 0, .slice none 0 0, .slice none 0 0]) ?_ 4 _ rfl; (with_reducible repeat (first | refine blk_drewN ?_ _ | refine blk_drew ?_ | refine blk_alloc ?_ _)); refine blk_put (cs := #[.string t480, .int .i64 t475, .slice none 0 0, .slice none 0 0, .slice none 0 0]) ?_ 3 _ rfl; (with_reducible repeat (first | refine blk_drewN ?_ _ | refine blk_drew ?_ | refine blk_alloc ?_ _)); refine blk_put (cs := #[.string t480, .int .i64 t475, .slice none 0 0, .slice none 0 0, .slice none 0 0]) ?_ 2 _ rfl; (with_reducible repeat (first | refine blk_drewN ?_ _ | refine blk_drew ?_ | refine blk_alloc ?_ _)); refine blk_put (cs := #[.string t480, .int .i64 0, .slice none 0 0, .slice none 0 0, .slice none 0 0]) ?_ 1 _ rfl; (with_reducible repeat (first | refine blk_drewN ?_ _ | refine blk_drew ?_ | refine blk_alloc ?_ _)); refine blk_put (cs := #[.string (⟨#[]⟩ : ByteArray), .int .i64 0, .slice none 0 0, .slice none 0 0, .slice none 0 0]) ?_ 0 _ rfl; (with_reducible repeat (first | refine blk_drewN ?_ _ | refine blk_drew ?_ | refine blk_alloc ?_ _)); exact BK470.out) Try.underlying39 rfl zq16) rfl ?_
         exact ⟨_, _, _, zq19, zq50, zq50, by (with_reducible repeat (first | apply Kd.R_alloc | apply Kd.R_drewN | apply Kd.R_drew)); exact Kd.R_mono (Kd.R_far (p := ⟨gb470, 4, none⟩) (Kd.R_far (p := ⟨gb470, 3, none⟩) (Kd.R_far (p := ⟨gb470, 2, none⟩) (Kd.R_far (p := ⟨gb470, 1, none⟩) (Kd.R_far (p := ⟨gb470, 0, none⟩) (Kd.R_types HO_486004.out BK470.out (by decide)) (fun _ hk => hk.2) (.string t480)) (fun _ hk => hk.2) (.int .i64 t475)) (fun _ hk => hk.2) (.slice none 0 0)) (fun _ hk => hk.2) (.slice none 0 0)) (fun _ hk => hk.2) (.slice Ao48 x486004_2.length co48)) (fun _ hk => trivial), zq15, zq27, zq22⟩
end Go.Proofs.Ytcjnhnnfoadklaa.QRunOther
