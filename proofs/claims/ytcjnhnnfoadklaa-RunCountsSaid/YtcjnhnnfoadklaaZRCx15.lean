import Derived.Test.YtcjnhnnfoadklaaZRCx14
namespace Go.Proofs.Ytcjnhnnfoadklaa.QRunCounts
open Go.RowKit Go.Proofs.YtcjnhnnfoadklaaW.PrintWords Go.Proofs.YtcjnhnnfoadklaaW.PrintLast Go.Proofs.YtcjnhnnfoadklaaW.PrintMore
attribute [local go_sem] max2_int min2_int max_two min_two max_three min_three max_four min_four
set_option linter.unusedVariables false
set_option linter.unusedSimpArgs false
mutual
def rr_module.l0 : Nat → List (S110) → Int → Int → Int → Int → ByteArray → Int → Option (ByteArray × Int × (List (S116)) × (List (S64)) × (List (S44)) × Int × Int × Int × Int)
 | 0, _, _, _, _, _, _, _ => none
 | k + 1, x1000, x1001, x1002, x1003, x1004, x735000, x735001 => (rr_take.f x1000 x1001 x1002 x1003 x1004 (⟨#[105, 109, 112, 111, 114, 116]⟩ : ByteArray)).bind fun bt739 => (if bt739.1 = true then (none) else (rr_module.l1 k x1000 bt739.2.1 bt739.2.2.1 bt739.2.2.2.1 bt739.2.2.2.2 x735000 x735001 ([] : List (S64)) ([] : List (S44))))
def rr_module.l1 : Nat → List (S110) → Int → Int → Int → Int → ByteArray → Int → List (S64) → List (S44) → Option (ByteArray × Int × (List (S116)) × (List (S64)) × (List (S44)) × Int × Int × Int × Int)
 | 0, _, _, _, _, _, _, _, _, _ => none
 | k + 1, x1000, x1001, x1002, x1003, x1004, x735000, x735001, x735003, x735004 => if x1003 = 0 then (if 0 ≤ x1001 then (if x1001 < (x1000.length : Int) then (rr_module.j2 k (((rd_T110 x1000 x1001).f0) != 0) x1000 x1001 x1002 x1003 x1004 x735000 x735001 x735003 x735004) else (none)) else (none)) else (rr_module.j2 k false x1000 x1001 x1002 x1003 x1004 x735000 x735001 x735003 x735004)
def rr_module.j2 : Nat → Bool → List (S110) → Int → Int → Int → Int → ByteArray → Int → List (S64) → List (S44) → Option (ByteArray × Int × (List (S116)) × (List (S64)) × (List (S44)) × Int × Int × Int × Int)
 | 0, _, _, _, _, _, _, _, _, _, _ => none
 | k + 1, x45, x1000, x1001, x1002, x1003, x1004, x735000, x735001, x735003, x735004 => if x45 = true then ((rr_take.f x1000 x1001 x1002 x1003 x1004 (⟨#[118, 97, 114]⟩ : ByteArray)).bind fun bt745 => (if bt745.1 = true then ((rr_variable.f k x1000 bt745.2.1 bt745.2.2.1 bt745.2.2.2.1 bt745.2.2.2.2).bind fun bt750 => (if x735003.length < 2932031007402 then (rr_module.l1 k x1000 bt750.2.2.2.2.1 bt750.2.2.2.2.2.1 bt750.2.2.2.2.2.2.1 bt750.2.2.2.2.2.2.2 x735000 x735001 (x735003 ++ [(⟨bt750.1, bt750.2.1, bt750.2.2.1, bt750.2.2.2.1⟩ : S64)]) x735004) else (none))) else ((rr_take.f x1000 bt745.2.1 bt745.2.2.1 bt745.2.2.2.1 bt745.2.2.2.2 (⟨#[112, 114, 111, 99]⟩ : ByteArray)).bind fun bt761 => (if bt761.1 = true then ((rr_proc.f k x1000 bt761.2.1 bt761.2.2.1 bt761.2.2.2.1 bt761.2.2.2.2).bind fun bt766 => (if x735004.length < 1034834473200 then (rr_module.l1 k x1000 bt766.2.2.2.2.2.2.2.2.1 bt766.2.2.2.2.2.2.2.2.2.1 bt766.2.2.2.2.2.2.2.2.2.2.1 bt766.2.2.2.2.2.2.2.2.2.2.2 x735000 x735001 x735003 (x735004 ++ [(⟨bt766.1, bt766.2.1, bt766.2.2.1, bt766.2.2.2.1, bt766.2.2.2.2.1, bt766.2.2.2.2.2.1, bt766.2.2.2.2.2.2.1, bt766.2.2.2.2.2.2.2.1⟩ : S44)])) else (none))) else (none))))) else (some (x735000, x735001, ([] : List (S116)), x735003, x735004, x1001, x1002, x1003, x1004))
end
def rr_module.f (k : Nat) (s0_0 : List (S110)) (s0_1 : Int) (s0_2 : Int) (s0_3 : Int) (s0_4 : Int) : Option (ByteArray × Int × (List (S116)) × (List (S64)) × (List (S44)) × Int × Int × Int × Int) := (rr_want.f s0_0 s0_1 s0_2 s0_3 s0_4 (⟨#[109, 111, 100, 117, 108, 101]⟩ : ByteArray)).bind fun bt720 => ((rr_here.f s0_0 bt720.1 bt720.2.1 bt720.2.2.1 bt720.2.2.2).bind fun bt724 => ((rr_name.f s0_0 bt724.2.1 bt724.2.2.1 bt724.2.2.2.1 bt724.2.2.2.2).bind fun bt729 => ((rr_want.f s0_0 bt729.2.1 bt729.2.2.1 bt729.2.2.2.1 bt729.2.2.2.2 (⟨#[59]⟩ : ByteArray)).bind fun bt735 => (rr_module.l0 k s0_0 bt735.1 bt735.2.1 bt735.2.2.1 bt735.2.2.2 bt729.1 bt724.1))))
theorem rr_module.mono_l : ∀ k, (∀ y0 y1 y2 y3 y4 y5 y6, LeO (rr_module.l0 k y0 y1 y2 y3 y4 y5 y6) (rr_module.l0 (k + 1) y0 y1 y2 y3 y4 y5 y6)) ∧ (∀ y0 y1 y2 y3 y4 y5 y6 y7 y8, LeO (rr_module.l1 k y0 y1 y2 y3 y4 y5 y6 y7 y8) (rr_module.l1 (k + 1) y0 y1 y2 y3 y4 y5 y6 y7 y8)) ∧ (∀ y0 y1 y2 y3 y4 y5 y6 y7 y8 y9, LeO (rr_module.j2 k y0 y1 y2 y3 y4 y5 y6 y7 y8 y9) (rr_module.j2 (k + 1) y0 y1 y2 y3 y4 y5 y6 y7 y8 y9))
 | 0 => ⟨fun _ _ _ _ _ _ _ r h => by simp [rr_module.l0] at h, fun _ _ _ _ _ _ _ _ _ r h => by simp [rr_module.l1] at h, fun _ _ _ _ _ _ _ _ _ _ r h => by simp [rr_module.j2] at h⟩
 | k + 1 => by
  obtain ⟨ih0, ih1, ih2⟩ := rr_module.mono_l k
  refine ⟨?_, ?_, ?_⟩
  ·
   intro y0 y1 y2 y3 y4 y5 y6
   unfold rr_module.l0
   repeat' with_reducible first | apply ih0 | apply ih1 | apply ih2 | apply rr_proc.mono | apply rr_variable.mono | exact LeO.refl _ | exact LeO.none _ | refine LeO.ite ?_ ?_ | refine LeO.bind ?_ (fun _ => ?_)
  ·
   intro y0 y1 y2 y3 y4 y5 y6 y7 y8
   unfold rr_module.l1
   repeat' with_reducible first | apply ih0 | apply ih1 | apply ih2 | apply rr_proc.mono | apply rr_variable.mono | exact LeO.refl _ | exact LeO.none _ | refine LeO.ite ?_ ?_ | refine LeO.bind ?_ (fun _ => ?_)
  ·
   intro y0 y1 y2 y3 y4 y5 y6 y7 y8 y9
   unfold rr_module.j2
   repeat' with_reducible first | apply ih0 | apply ih1 | apply ih2 | apply rr_proc.mono | apply rr_variable.mono | exact LeO.refl _ | exact LeO.none _ | refine LeO.ite ?_ ?_ | refine LeO.bind ?_ (fun _ => ?_)
theorem rr_module.mono : ∀ a0 a1 a2 a3 a4 k, LeO (rr_module.f k a0 a1 a2 a3 a4) (rr_module.f (k + 1) a0 a1 a2 a3 a4) := by
 intro a0 a1 a2 a3 a4 k
 obtain ⟨ih0, ih1, ih2⟩ := rr_module.mono_l k
 unfold rr_module.f
 repeat' with_reducible first | apply ih0 | apply ih1 | apply ih2 | apply rr_proc.mono | apply rr_variable.mono | exact LeO.refl _ | exact LeO.none _ | refine LeO.ite ?_ ?_ | refine LeO.bind ?_ (fun _ => ?_)
def rr_module.T7 : Bool × List (List Nat × List Nat) := (true, [([], []), ([0], [0]), ([1], [1]), ([2], [2]), ([3], [3]), ([4], [4]), ([5], [5]), ([6, 5], [5, 6]), ([7, 5], [5, 7]), ([8, 5], [5, 8]), ([5], [5]), ([10, 5], [5, 10]), ([11, 5], [5, 11]), ([12, 5], [5, 12]), ([9, 13, 5], [5, 9, 13]), ([14, 5], [5, 14]), ([15, 5], [5, 15]), ([16, 5], [5, 16]), ([5, 17], [5, 17])])
def rr_module.B7 : List Nat := [0, 1, 3, 7, 15, 31, 63, 127, 255, 511, 63, 1087, 3135, 7231, 16383, 32767, 65535, 131071, 262143]
theorem rr_module.tab7 : rtab .any (opsOf Try.f32 7) = rr_module.T7 := by kernel_rfl
theorem rr_module.bits7 : waitsOk rr_module.T7.2 rr_module.B7 = true := by kernel_rfl
def rr_module.T9 : Bool × List (List Nat × List Nat) := (true, [([], []), ([0], [0]), ([], []), ([2], [2]), ([3], [3]), ([1, 4, 3], [1, 4]), ([0, 1, 2, 3, 4, 5], []), ([6, 5, 5, 0, 1, 2, 3, 4, 5], [5, 6])])
def rr_module.B9 : List Nat := [0, 1, 0, 4, 12, 31, 63, 127]
theorem rr_module.tab9 : rtab .any (opsOf Try.f32 9) = rr_module.T9 := by kernel_rfl
theorem rr_module.bits9 : waitsOk rr_module.T9.2 rr_module.B9 = true := by kernel_rfl
def rr_module.T11 : Bool × List (List Nat × List Nat) := (true, [([], []), ([0], [0]), ([], []), ([2], [2]), ([3], [3]), ([1, 4, 3], [1, 4]), ([0, 1, 2, 3, 4, 5], []), ([6, 5, 5, 0, 1, 2, 3, 4, 5], [5, 6])])
def rr_module.B11 : List Nat := [0, 1, 0, 4, 12, 31, 63, 127]
theorem rr_module.tab11 : rtab .any (opsOf Try.f32 11) = rr_module.T11 := by kernel_rfl
theorem rr_module.bits11 : waitsOk rr_module.T11.2 rr_module.B11 = true := by kernel_rfl
set_option maxHeartbeats 8000000 in
set_option maxRecDepth 100000 in
theorem rr_module.calls (k : Nat) (g : Nat) (s0_0 : List (S110)) (s0_1 : Int) (s0_2 : Int) (s0_3 : Int) (s0_4 : Int) (r1 : ByteArray) (r2 : Int) (r3 : List (S116)) (r4 : List (S64)) (r5 : List (S44)) (r6 : Int) (r7 : Int) (r8 : Int) (r9 : Int) (w0 w : World) (hI : IsS83 w0 w g s0_0 s0_1 s0_2 s0_3 s0_4) (hB : Below w0.heap.size w0 w) (h : rr_module.f k s0_0 s0_1 s0_2 s0_3 s0_4 = some (r1, r2, r3, r4, r5, r6, r7, r8, r9)) :
  Calls Try.prog 32 #[.pointer (some ⟨g, 0, none⟩)] w fun e w' => ∃ v2_ v3_ v4_ : Value, e = .returned (.agg #[.string r1, .int .i64 r2, v2_, v3_, v4_]) ∧ Kd.R k116 116 w' w.heap.size (fun _ => True) v2_ r3 ∧ Kd.R k64 64 w' w.heap.size (fun _ => True) v3_ r4 ∧ Kd.R k44 44 w' w.heap.size (fun _ => True) v4_ r5 ∧ IsS83 w0 w' g s0_0 r6 r7 r8 r9 ∧ Below w0.heap.size w0 w' ∧ KeepBut w w' g none := by
 have hu39 := Try.underlying39
 have hu116 := Try.underlying116
 have HI0 := za hI
 have HK := za (KeepBut.refl w g none)
 have HL := za hB.size
 clear hI
 have HW0 := za hB.size
 have HB := za hB
 clear hB
 have H : ((rr_want.f s0_0 s0_1 s0_2 s0_3 s0_4 (⟨#[109, 111, 100, 117, 108, 101]⟩ : ByteArray)).bind fun bt720 => ((rr_here.f s0_0 bt720.1 bt720.2.1 bt720.2.2.1 bt720.2.2.2).bind fun bt724 => ((rr_name.f s0_0 bt724.2.1 bt724.2.2.1 bt724.2.2.2.1 bt724.2.2.2.2).bind fun bt729 => ((rr_want.f s0_0 bt729.2.1 bt729.2.2.1 bt729.2.2.2.1 bt729.2.2.2.2 (⟨#[59]⟩ : ByteArray)).bind fun bt735 => (rr_module.l0 k s0_0 bt735.1 bt735.2.1 bt735.2.2.1 bt735.2.2.2 bt729.1 bt724.1))))) = some (r1, r2, r3, r4, r5, r6, r7, r8, r9) := h
 clear h
 replace H := Option.bind_eq_some_iff.mp H
 obtain ⟨⟨t720, t721, t722, t723⟩, A20, H⟩ := H
 (try dsimp only at H)
 have A2 := za A20
 clear A20
 replace H := Option.bind_eq_some_iff.mp H
 obtain ⟨⟨t724, t725, t726, t727, t728⟩, A30, H⟩ := H
 (try dsimp only at H)
 have A3 := za A30
 clear A30
 replace H := Option.bind_eq_some_iff.mp H
 obtain ⟨⟨t729, t730, t731, t732, t733⟩, A40, H⟩ := H
 (try dsimp only at H)
 have A4 := za A40
 clear A40
 replace H := Option.bind_eq_some_iff.mp H
 obtain ⟨⟨t735, t736, t737, t738⟩, A50, H⟩ := H
 (try dsimp only at H)
 have A5 := za A50
 clear A50
 have H' := za H
 clear H
 go_enter Try.func32, Try.ntmps32
 go_wp2_with (first | ((with_reducible refine gate_dst (N := 2) rfl ?_); refine box_event ?hg (N := 2) ?hd (cs := #[.string (⟨#[]⟩ : ByteArray), .int .i64 0, .slice none 0 0, .slice none 0 0, .slice none 0 0]) (t := 39) ?hr ?_; (case hd => rfl); (case hg => rfl); (case hr => exact zq17); intro gb719 hg w6 hbox hb; replace HB := za (below_step zq3 hb); have BK719 := za (hbox); have GW719 := za ((by rw [hg]; exact (keep_size (w := w) (g := g) (row := none) zq5) : w.heap.size ≤ gb719)); have GE719 := za ((Nat.le_trans HW0.out (by rw [hg]; exact (keep_size (w := w) (g := g) (row := none) zq5) : w.heap.size ≤ gb719) : w0.heap.size ≤ gb719)); replace HK := za (KeepBut.trans zq5 (KeepBut.of_below hb g none) (.inl rfl)); have NB0_719 := za ((by rw [hg]; exact Nat.ne_of_lt (IsS83.lt (show IsS83 w0 _ g s0_0 s0_1 s0_2 s0_3 s0_4 from zq0)) : g ≠ gb719)); have NB719_0 := za ((by rw [hg]; exact Nat.ne_of_gt (IsS83.lt (show IsS83 w0 _ g s0_0 s0_1 s0_2 s0_3 s0_4 from zq0)) : gb719 ≠ g)); replace HI0 := za (IsS83.below zq0 hb); clear hb hbox hg) | ((with_reducible refine gate_callee (f := 45) rfl ?_); refine goesL_ (some 5) rfl rfl Try.func45 zq12 rfl #[.pointer (some ⟨g, 0, none⟩), .string (⟨#[109, 111, 100, 117, 108, 101]⟩ : ByteArray)] rfl zq1 ?_; (with_reducible refine (rr_want.calls g s0_0 s0_1 s0_2 s0_3 s0_4 (⟨#[109, 111, 100, 117, 108, 101]⟩ : ByteArray) t720 t721 t722 t723 w0 _ ?side1 ?side2 A2.out).mono ?_); (case side1 => exact zq35); (case side2 => exact zq57); rintro e w7 ⟨rfl, hi, hb, hk⟩; refine ⟨_, rfl, ?_⟩; replace BK719 := za (KeepBut.blk hk (g' := gb719) (zb BK719.out) NB719_0.out (by simp)); replace HK := za (KeepBut.trans zq45 hk (.inl rfl)); replace HB := za (hb); replace HI0 := za (hi); (try clear hb hk hi)) | ((with_reducible refine gate_callee (f := 46) rfl ?_); refine goesL_ (some 7) rfl rfl Try.func46 zq12 rfl #[.pointer (some ⟨g, 0, none⟩)] rfl zq1 ?_; (with_reducible refine (rr_here.calls g s0_0 t720 t721 t722 t723 t724 t725 t726 t727 t728 w0 _ ?side1 ?side2 A3.out).mono ?_); (case side1 => exact zq35); (case side2 => exact zq57); rintro e w8 ⟨rfl, hi, hb, hk⟩; refine ⟨_, rfl, ?_⟩; replace BK719 := za (KeepBut.blk hk (g' := gb719) (zb BK719.out) NB719_0.out (by simp)); replace HK := za (KeepBut.trans zq45 hk (.inl rfl)); replace HB := za (hb); replace HI0 := za (hi); (try clear hb hk hi)) | ((with_reducible refine gate_callee (f := 47) rfl ?_); refine goesL_ (some 9) rfl rfl Try.func47 zq12 rfl #[.pointer (some ⟨g, 0, none⟩)] rfl zq1 ?_; (with_reducible refine (rr_name.calls g s0_0 t725 t726 t727 t728 t729 t730 t731 t732 t733 w0 _ ?side1 ?side2 A4.out).mono ?_); (case side1 => exact zq35); (case side2 => exact zq57); rintro e w9 ⟨rfl, hi, hb, hk⟩; refine ⟨_, rfl, ?_⟩; replace BK719 := za (KeepBut.blk hk (g' := gb719) (zb BK719.out) NB719_0.out (by simp)); replace HK := za (KeepBut.trans zq45 hk (.inl rfl)); replace HB := za (hb); replace HI0 := za (hi); (try clear hb hk hi)) | ((with_reducible refine gate_dst (N := 3) rfl ?_); refine box_event ?hg (N := 3) ?hd (cs := #[.string (⟨#[]⟩ : ByteArray), .int .i64 0, .slice none 0 0, .slice none 0 0, .slice none 0 0]) (t := 39) ?hr ?_; (case hd => rfl); (case hg => rfl); (case hr => exact zq17); intro gb734 hg w10 hbox hb; replace HB := za (below_step zq57 hb); have BK734 := za (hbox); have GW734 := za ((by rw [hg]; exact (keep_size (w := w) (g := g) (row := none) zq45) : w.heap.size ≤ gb734)); have GE734 := za ((Nat.le_trans HW0.out (by rw [hg]; exact (keep_size (w := w) (g := g) (row := none) zq45) : w.heap.size ≤ gb734) : w0.heap.size ≤ gb734)); replace HK := za (KeepBut.trans zq45 (KeepBut.of_below hb g none) (.inl rfl)); have NB719_734 := za ((by rw [hg]; exact Nat.ne_of_lt (blk_lt (g := gb719) (zb BK719.out)) : gb719 ≠ gb734)); have NB734_719 := za ((by rw [hg]; exact Nat.ne_of_gt (blk_lt (g := gb719) (zb BK719.out)) : gb734 ≠ gb719)); replace BK719 := za (blk_below (g := gb719) (zb BK719.out) hb); have NB0_734 := za ((by rw [hg]; exact Nat.ne_of_lt (IsS83.lt (show IsS83 w0 _ g s0_0 t730 t731 t732 t733 from zq35)) : g ≠ gb734)); have NB734_0 := za ((by rw [hg]; exact Nat.ne_of_gt (IsS83.lt (show IsS83 w0 _ g s0_0 t730 t731 t732 t733 from zq35)) : gb734 ≠ g)); replace HI0 := za (IsS83.below zq35 hb); clear hb hbox hg; have hnb11 := NB734_719.out; have hnc11 := NB719_734.out; have hnb12 := NB734_0.out; have hnc12 := NB0_734.out; obtain ⟨hcz13_0, hcz13_1, hcz13_2, hcz13_3, hcz13_4⟩ := zc5 BK734.out; obtain ⟨hfz13_0, hfz13_1, hfz13_2, hfz13_3⟩ := zf4 BK734.out; have hfz13_4 := blk_frozen BK734.out 4) | ((with_reducible refine gate_callee (f := 45) rfl ?_); refine goesL_ (some 12) rfl rfl Try.func45 zq12 rfl #[.pointer (some ⟨g, 0, none⟩), .string (⟨#[59]⟩ : ByteArray)] rfl zq1 ?_; (with_reducible refine (rr_want.calls g s0_0 t730 t731 t732 t733 (⟨#[59]⟩ : ByteArray) t735 t736 t737 t738 w0 _ ?side1 ?side2 A5.out).mono ?_); (case side1 => exact zq10); (case side2 => exact zq18); rintro e w14 ⟨rfl, hi, hb, hk⟩; refine ⟨_, rfl, ?_⟩; replace BK719 := za (KeepBut.blk hk (g' := gb719) (o := .cells #[.string (⟨#[]⟩ : ByteArray), .int .i64 0, .slice none 0 0, .slice none 0 0, .slice none 0 0] 39 (0, 0)) (by (with_reducible repeat (first | refine blk_drewN ?_ _ | refine blk_drew ?_ | refine blk_alloc ?_ _)); refine blk_far ?_ NB719_734.out _; (with_reducible repeat (first | refine blk_drewN ?_ _ | refine blk_drew ?_ | refine blk_alloc ?_ _)); refine blk_far ?_ NB719_734.out _; (with_reducible repeat (first | refine blk_drewN ?_ _ | refine blk_drew ?_ | refine blk_alloc ?_ _)); refine blk_far ?_ NB719_734.out _; (with_reducible repeat (first | refine blk_drewN ?_ _ | refine blk_drew ?_ | refine blk_alloc ?_ _)); refine blk_far ?_ NB719_734.out _; (with_reducible repeat (first | refine blk_drewN ?_ _ | refine blk_drew ?_ | refine blk_alloc ?_ _)); refine blk_far ?_ NB719_734.out _; (with_reducible repeat (first | refine blk_drewN ?_ _ | refine blk_drew ?_ | refine blk_alloc ?_ _)); exact BK719.out) NB719_0.out (by simp)); replace BK734 := za (KeepBut.blk hk (g' := gb734) (o := .cells #[.string t729, .int .i64 t724, .slice none 0 0, .slice none 0 0, .slice none 0 0] 39 (0, 0)) (by (with_reducible repeat (first | refine blk_drewN ?_ _ | refine blk_drew ?_ | refine blk_alloc ?_ _)); refine blk_put (cs := #[.string t729, .int .i64 t724, .slice none 0 0, .slice none 0 0, .slice none 0 0]) ?_ 4 _ rfl; (with_reducible repeat (first | refine blk_drewN ?_ _ | refine blk_drew ?_ | refine blk_alloc ?_ _)); refine blk_put (cs := #[.string t729, .int .i64 t724, .slice none 0 0, .slice none 0 0, .slice none 0 0]) ?_ 3 _ rfl; (with_reducible repeat (first | refine blk_drewN ?_ _ | refine blk_drew ?_ | refine blk_alloc ?_ _)); refine blk_put (cs := #[.string t729, .int .i64 t724, .slice none 0 0, .slice none 0 0, .slice none 0 0]) ?_ 2 _ rfl; (with_reducible repeat (first | refine blk_drewN ?_ _ | refine blk_drew ?_ | refine blk_alloc ?_ _)); refine blk_put (cs := #[.string t729, .int .i64 0, .slice none 0 0, .slice none 0 0, .slice none 0 0]) ?_ 1 _ rfl; (with_reducible repeat (first | refine blk_drewN ?_ _ | refine blk_drew ?_ | refine blk_alloc ?_ _)); refine blk_put (cs := #[.string (⟨#[]⟩ : ByteArray), .int .i64 0, .slice none 0 0, .slice none 0 0, .slice none 0 0]) ?_ 0 _ rfl; (with_reducible repeat (first | refine blk_drewN ?_ _ | refine blk_drew ?_ | refine blk_alloc ?_ _)); exact BK734.out) NB734_0.out (by simp)); replace HK := za (KeepBut.trans zq15 hk (.inl rfl)); replace HB := za (hb); replace HI0 := za (hi); (try clear hb hk hi)))
 (try simp only [Act.put, List.setIfInBounds_toArray, List.set_cons_zero, List.set_cons_succ])
 go_loopg [] k (fun kq w' => ∃ (x1001_1 : Int) (x1002_1 : Int) (x1003_1 : Int) (x1004_1 : Int), Aside0 (rr_module.l0 kq s0_0 x1001_1 x1002_1 x1003_1 x1004_1 t729 t724 = some (r1, r2, r3, r4, r5, r6, r7, r8, r9)) ∧ Aside0 (kq ≤ k) ∧ Aside0 (w'.heap[gb719]? = some (.cells #[.string (⟨#[]⟩ : ByteArray), .int .i64 0, (.slice none 0 0), (.slice none 0 0), (.slice none 0 0)] 39 (0, 0))) ∧ Aside0 (w'.heap[gb734]? = some (.cells #[.string t729, .int .i64 t724, (.slice none 0 0), (.slice none 0 0), (.slice none 0 0)] 39 (0, 0))) ∧ Aside0 (IsS83 w0 w' g s0_0 x1001_1 x1002_1 x1003_1 x1004_1) ∧ Aside0 (KeepBut w w' g none) ∧ Aside0 (Below w0.heap.size w0 w'))
 case atStart => exact ⟨(t735), (t736), (t737), (t738), H', ⟨Nat.le_refl _⟩, ⟨zq74⟩, ⟨zq75⟩, ⟨zq10⟩, ⟨zq15⟩, ⟨zq18⟩⟩
 case round =>
  clear H'
  obtain ⟨x1001_1, x1002_1, x1003_1, x1004_1, HA, HK1, BK719, BK734, HI0, HK, HB⟩ := hrel
  cases gk with
  | zero => exact absurd HA.out (by simp [rr_module.l0])
  | succ k1 =>
   have H := HA.out
   clear HA
   simp only [rr_module.l0] at H
   replace H := Option.bind_eq_some_iff.mp H
   obtain ⟨⟨t739, t740, t741, t742, t743⟩, A150, H⟩ := H
   (try dsimp only at H)
   have A15 := za A150
   clear A150
   by_cases c16 : t739 = true
   ·
    subst c16
    rw [if_pos rfl] at H
    exact absurd H (by simp)
   ·
    replace c16 := Bool.eq_false_iff.mpr c16
    subst c16
    rw [if_neg (show ¬ (false = true) by decide)] at H
    have H' := za H
    clear H
    go_wp2_with (first | ((with_reducible refine gate_callee (f := 48) rfl ?_); refine goesL_ (some 14) rfl rfl Try.func48 zq12 rfl #[.pointer (some ⟨g, 0, none⟩), .string (⟨#[105, 109, 112, 111, 114, 116]⟩ : ByteArray)] rfl zq1 ?_; (with_reducible refine (rr_take.calls g s0_0 x1001_1 x1002_1 x1003_1 x1004_1 (⟨#[105, 109, 112, 111, 114, 116]⟩ : ByteArray) false t740 t741 t742 t743 w0 _ ?side1 ?side2 A15.out).mono ?_); (case side1 => exact zq10); (case side2 => exact zq18); rintro e w17 ⟨rfl, hi, hb, hk⟩; refine ⟨_, rfl, ?_⟩; replace BK719 := za (KeepBut.blk hk (g' := gb719) (zb BK719.out) NB719_0.out (by simp)); replace BK734 := za (KeepBut.blk hk (g' := gb734) (zb BK734.out) NB734_0.out (by simp)); replace HK := za (KeepBut.trans zq15 hk (.inl rfl)); replace HB := za (hb); replace HI0 := za (hi); (try clear hb hk hi)))
    (try simp only [Act.put, List.setIfInBounds_toArray, List.set_cons_zero, List.set_cons_succ])
    go_loopg [] k1 (fun kq w' => ∃ (x1001_2 : Int) (x1002_2 : Int) (x1003_2 : Int) (x1004_2 : Int) (x735003_2 : List (S64)) (x735004_2 : List (S44)) (u735003 : Value) (u735004 : Value), Aside0 (rr_module.l1 kq s0_0 x1001_2 x1002_2 x1003_2 x1004_2 t729 t724 x735003_2 x735004_2 = some (r1, r2, r3, r4, r5, r6, r7, r8, r9)) ∧ Aside0 (kq ≤ k1) ∧ Aside0 (Kd.R k64 64 w' w.heap.size (fun _ => True) u735003 x735003_2) ∧ Aside0 (Kd.R k44 44 w' w.heap.size (fun _ => True) u735004 x735004_2) ∧ Aside0 (w'.heap[gb719]? = some (.cells #[.string (⟨#[]⟩ : ByteArray), .int .i64 0, (.slice none 0 0), (.slice none 0 0), (.slice none 0 0)] 39 (0, 0))) ∧ Aside0 (w'.heap[gb734]? = some (.cells #[.string t729, .int .i64 t724, (.slice none 0 0), u735003, u735004] 39 (0, 0))) ∧ Aside0 (IsS83 w0 w' g s0_0 x1001_2 x1002_2 x1003_2 x1004_2) ∧ Aside0 (KeepBut w w' g none) ∧ Aside0 (Below w0.heap.size w0 w'))
    case atStart => exact ⟨(t740), (t741), (t742), (t743), (([] : List (S64))), (([] : List (S44))), (.slice none 0 0), (.slice none 0 0), H', ⟨Nat.le_refl _⟩, ⟨zq29⟩, ⟨zq29⟩, ⟨zq74⟩, ⟨zq75⟩, ⟨zq10⟩, ⟨zq15⟩, ⟨zq18⟩⟩
    case round =>
     clear H'
     obtain ⟨x1001_2, x1002_2, x1003_2, x1004_2, x735003_2, x735004_2, u735003, u735004, HA, HK2, HO_735003, HO_735004, BK719, BK734, HI0, HK, HB⟩ := hrel
     cases gk with
     | zero => exact absurd HA.out (by simp [rr_module.l1])
     | succ k2 =>
      have H := HA.out
      clear HA
      simp only [rr_module.l1] at H
      have HC18 := za H
      clear H
      go_upto_region 7 with (fail)
      go_cut [45] (fun v45 wc => ∃ (kq : Nat) (x45_17 : Bool), v45 = .bool x45_17 ∧ Aside0 (rr_module.j2 kq x45_17 s0_0 x1001_2 x1002_2 x1003_2 x1004_2 t729 t724 x735003_2 x735004_2 = some (r1, r2, r3, r4, r5, r6, r7, r8, r9)) ∧ Aside0 (kq ≤ k2) ∧ Aside0 (Kd.R k64 64 wc w.heap.size (fun _ => True) u735003 x735003_2) ∧ Aside0 (Kd.R k44 44 wc w.heap.size (fun _ => True) u735004 x735004_2) ∧ Aside0 (wc.heap[gb719]? = some (.cells #[.string (⟨#[]⟩ : ByteArray), .int .i64 0, (.slice none 0 0), (.slice none 0 0), (.slice none 0 0)] 39 (0, 0))) ∧ Aside0 (wc.heap[gb734]? = some (.cells #[.string t729, .int .i64 t724, (.slice none 0 0), u735003, u735004] 39 (0, 0))) ∧ Aside0 (IsS83 w0 wc g s0_0 x1001_2 x1002_2 x1003_2 x1004_2) ∧ Aside0 (KeepBut w wc g none) ∧ Aside0 (Below w0.heap.size w0 wc))
      case first =>
       have H := HC18.out
       clear HC18
       by_cases c19 : x1003_2 = 0
       ·
        rw [if_pos c19] at H
        have c19b0 := beq_iff_eq.mpr c19
        have c19b1 := bne_eq_false_iff_eq.mpr c19
        clear c19
        (first | rw [c19b0] | (simp only [i64_w, i32_w]; rw [c19b0]) | skip)
        by_cases c20 : 0 ≤ x1001_2
        ·
         rw [if_pos c20] at H
         have c20b0 := decide_eq_true c20
         clear c20
         by_cases c21 : x1001_2 < (s0_0.length : Int)
         ·
          rw [if_pos c21] at H
          have c21b0 := decide_eq_true c21
          clear c21
          have H' := za H
          clear H
          try go_wp2
          replace HO_735003 := za (Kd.R_drew HO_735003.out)
          replace HO_735004 := za (Kd.R_drew HO_735004.out)
          replace BK719 := za (blk_drew BK719.out)
          replace BK734 := za (blk_drew BK734.out)
          replace HI0 := za (IsS83.drew HI0.out)
          replace HK := za (keep_drew HK.out)
          replace HB := za (below_drew1 HB.out)
          obtain ⟨ASz23_0, cSz23_0, HGz23, hgz23, HSz23_0⟩ := HI0.out
          have hx23_0 := cellS83_0 HGz23
          have hx23_1 := cellS83_1 HGz23
          have hx23_2 := cellS83_2 HGz23
          have hx23_3 := cellS83_3 HGz23
          have hx23_4 := cellS83_4 HGz23
          clear HGz23 hgz23
          have p744 : 0 ≤ (x1001_2 : Int) := of_decide_eq_true zq6
          have q744 : x1001_2 < (s0_0.length : Int) := of_decide_eq_true zq6
          obtain ⟨ad744, e744, hx744_0, hx744_1, hx744_2⟩ := at_T110 HSz23_0 x1001_2 p744 q744
          have hw744_2 := hx744_2
          have hw744_1 := hx744_1
          have hw744_0 := hx744_0
          cases e744
          replace hx744_0 := pw_cell_below HB.out hx744_0
          replace hx744_1 := pw_cell_below HB.out hx744_1
          replace hx744_2 := pw_cell_below HB.out hx744_2
          replace p744 := eq_true p744
          replace q744 := eq_true q744
          refine start_ (n := 19) (S := fun w' => w'.cell? ⟨g, 0, none⟩ = some (.slice (some ad744) s0_0.length cSz23_0) ∧ w'.cell? ⟨g, 1, none⟩ = some (.int .i64 x1001_2) ∧ w'.cell? ⟨g, 2, none⟩ = some (.int .i64 x1002_2) ∧ w'.cell? ⟨g, 3, none⟩ = some (.int .i64 x1003_2) ∧ w'.cell? ⟨g, 4, none⟩ = some (.int .i64 x1004_2) ∧ w'.cell? (ad744.add ((x1001_2).toNat * 3)) = some (.int .i64 ((rd_T110 s0_0 x1001_2).f0)) ∧ w'.cell? ⟨(ad744.add ((x1001_2).toNat * 3)).block, (ad744.add ((x1001_2).toNat * 3)).off + 1, none⟩ = some (.string ((rd_T110 s0_0 x1001_2).f1)) ∧ w'.cell? ⟨(ad744.add ((x1001_2).toNat * 3)).block, (ad744.add ((x1001_2).toNat * 3)).off + 2, none⟩ = some (.int .i64 ((rd_T110 s0_0 x1001_2).f2))) (ds := []) #[false, false, false, false, false, false, false, false, false, false, false, false, false, false, false, false, false, false, false] zq12 rfl rfl ⟨hx23_0, hx23_1, hx23_2, hx23_3, hx23_4, hx744_0, hx744_1, hx744_2⟩ (fun hHeld => ?_); refine with_tabW rr_module.tab7 rr_module.bits7 (fun HT_ HW_ => ?_)
          generalize wr.drew = w22 at HO_735003 HO_735004 BK719 BK734 HI0 HK HB hx23_0 hx23_1 hx23_2 hx23_3 hx23_4 hx744_0 hx744_1 hx744_2 hHeld ⊢
          refine pure_ (i := 0) (N := some 27) #[true, false, false, false, false, false, false, false, false, false, false, false, false, false, false, false, false, false, false] rfl rfl (any_of HT_.out zq12) (fun _ _ _ h => h) (Or.inl ⟨by rfl, zpv⟩) zpw ?_
          refine pure_ (i := 1) (N := some 28) #[true, true, false, false, false, false, false, false, false, false, false, false, false, false, false, false, false, false, false] rfl rfl (any_of HT_.out zq12) (fun _ _ _ h => h) (Or.inl ⟨by rfl, zpv⟩) zpw ?_
          refine pure_ (i := 2) (N := some 29) #[true, true, true, false, false, false, false, false, false, false, false, false, false, false, false, false, false, false, false] rfl rfl (any_of HT_.out zq12) (fun _ _ _ h => h) (Or.inl ⟨by rfl, zpv⟩) zpw ?_
          refine take_ (i := 3) (N := some 30) (v := ?_) (a' := ?_) #[true, true, true, true, false, false, false, false, false, false, false, false, false, false, false, false, false, false, false] rfl rfl (take_ofW HT_.out HW_.out zq12) (fun _ _ _ h => h) (Or.inl ⟨by rfl, ?_⟩) hHeld ?_ ?_
          rotate_left
          ·
           rintro w' ⟨s0, s1, s2, s3, s4, s5, s6, s7⟩
           go_simp
           with_reducible rfl
          rotate_left
          ·
           simp only [Act.put, List.setIfInBounds_toArray, List.set_cons_zero, List.set_cons_succ, i64_w, i32_w]
           rfl
          refine pure_ (i := 4) (N := some 31) #[true, true, true, true, true, false, false, false, false, false, false, false, false, false, false, false, false, false, false] rfl rfl (any_of HT_.out zq12) (fun _ _ _ h => h) (Or.inl ⟨by rfl, zpv⟩) zpw ?_
          refine pure_ (i := 5) (N := some 32) #[true, true, true, true, true, true, false, false, false, false, false, false, false, false, false, false, false, false, false] rfl rfl (any_of HT_.out zq12) (fun _ _ _ h => h) (Or.inl ⟨by rfl, zpv⟩) zpw ?_
          refine pure_ (i := 6) (N := some 33) #[true, true, true, true, true, true, true, false, false, false, false, false, false, false, false, false, false, false, false] rfl rfl (any_of HT_.out zq12) (fun _ _ _ h => h) (Or.inl ⟨by rfl, zpv⟩) zpw ?_
          refine pure_ (i := 7) (N := some 34) #[true, true, true, true, true, true, true, true, false, false, false, false, false, false, false, false, false, false, false] rfl rfl (any_of HT_.out zq12) (fun _ _ _ h => h) (Or.inl ⟨by rfl, zpv⟩) zpw ?_
          refine pure_ (i := 8) (N := some 35) #[true, true, true, true, true, true, true, true, true, false, false, false, false, false, false, false, false, false, false] rfl rfl (any_of HT_.out zq12) (fun _ _ _ h => h) (Or.inl ⟨by rfl, zpv⟩) zpw ?_
          refine pure_ (i := 10) (N := some 37) #[true, true, true, true, true, true, true, true, true, false, true, false, false, false, false, false, false, false, false] rfl rfl (any_of HT_.out zq12) (fun _ _ _ h => h) (Or.inl ⟨by rfl, zpv⟩) zpw ?_
          refine pure_ (i := 11) (N := some 38) #[true, true, true, true, true, true, true, true, true, false, true, true, false, false, false, false, false, false, false] rfl rfl (any_of HT_.out zq12) (fun _ _ _ h => h) (Or.inl ⟨by rfl, zpv⟩) zpw ?_
          refine pure_ (i := 12) (N := some 39) #[true, true, true, true, true, true, true, true, true, false, true, true, true, false, false, false, false, false, false] rfl rfl (any_of HT_.out zq12) (fun _ _ _ h => h) (Or.inl ⟨by rfl, zpv⟩) zpw ?_
          refine take_ (i := 9) (N := some 36) (v := ?_) (a' := ?_) #[true, true, true, true, true, true, true, true, true, true, true, true, true, false, false, false, false, false, false] rfl rfl (take_ofW HT_.out HW_.out zq12) (fun _ _ _ h => h) (Or.inl ⟨by rfl, ?_⟩) hHeld ?_ ?_
          rotate_left
          ·
           rintro w' ⟨s0, s1, s2, s3, s4, s5, s6, s7⟩
           go_simp
           with_reducible rfl
          rotate_left
          ·
           simp only [Act.put, List.setIfInBounds_toArray, List.set_cons_zero, List.set_cons_succ, i64_w, i32_w]
           rfl
          refine take_ (i := 13) (N := some 40) (v := ?_) (a' := ?_) #[true, true, true, true, true, true, true, true, true, true, true, true, true, true, false, false, false, false, false] rfl rfl (take_ofW HT_.out HW_.out zq12) (fun _ _ _ h => h) (Or.inl ⟨by rfl, ?_⟩) hHeld ?_ ?_
          rotate_left
          ·
           rintro w' ⟨s0, s1, s2, s3, s4, s5, s6, s7⟩
           go_simp
           with_reducible rfl
          rotate_left
          ·
           simp only [Act.put, List.setIfInBounds_toArray, List.set_cons_zero, List.set_cons_succ, i64_w, i32_w]
           rfl
          refine pure_ (i := 14) (N := some 41) #[true, true, true, true, true, true, true, true, true, true, true, true, true, true, true, false, false, false, false] rfl rfl (any_of HT_.out zq12) (fun _ _ _ h => h) (Or.inl ⟨by rfl, zpv⟩) zpw ?_
          refine pure_ (i := 15) (N := some 42) #[true, true, true, true, true, true, true, true, true, true, true, true, true, true, true, true, false, false, false] rfl rfl (any_of HT_.out zq12) (fun _ _ _ h => h) (Or.inl ⟨by rfl, zpv⟩) zpw ?_
          refine take_ (i := 16) (N := some 43) (v := ?_) (a' := ?_) #[true, true, true, true, true, true, true, true, true, true, true, true, true, true, true, true, true, false, false] rfl rfl (take_ofW HT_.out HW_.out zq12) (fun _ _ _ h => h) (Or.inl ⟨by rfl, ?_⟩) hHeld ?_ ?_
          rotate_left
          ·
           rintro w' ⟨s0, s1, s2, s3, s4, s5, s6, s7⟩
           go_simp
           with_reducible rfl
          rotate_left
          ·
           simp only [Act.put, List.setIfInBounds_toArray, List.set_cons_zero, List.set_cons_succ, i64_w, i32_w]
           rfl
          refine pure_ (i := 17) (N := some 44) #[true, true, true, true, true, true, true, true, true, true, true, true, true, true, true, true, true, true, false] rfl rfl (any_of HT_.out zq12) (fun _ _ _ h => h) (Or.inl ⟨by rfl, zpv⟩) zpw ?_
          refine pure_ (i := 18) (N := some 45) #[true, true, true, true, true, true, true, true, true, true, true, true, true, true, true, true, true, true, true] rfl rfl (any_of HT_.out zq12) (fun _ _ _ h => h) (Or.inl ⟨by rfl, zpv⟩) zpw ?_
          refine done_ (done_of HT_.out zq12) ?_
          try go_wp2
          go_meet
          case rel => exact ⟨_, ((((rd_T110 s0_0 x1001_2).f0) != 0)), zq16, H', ⟨by have := HK1.out; have := HK2.out; first | omega | exact Nat.le_refl _⟩, ⟨by (with_reducible repeat (first | apply Kd.R_alloc | apply Kd.R_drewN | apply Kd.R_drew)); exact HO_735003.out⟩, ⟨by (with_reducible repeat (first | apply Kd.R_alloc | apply Kd.R_drewN | apply Kd.R_drew)); exact HO_735004.out⟩, ⟨zq74⟩, ⟨zq75⟩, ⟨zq10⟩, ⟨zq15⟩, ⟨zq18⟩⟩
         ·
          rw [if_neg c21] at H
          exact absurd H (by simp)
        ·
         rw [if_neg c20] at H
         exact absurd H (by simp)
       ·
        rw [if_neg c19] at H
        have c19b0 := beq_eq_false_iff_ne.mpr c19
        have c19b1 := bne_iff_ne.mpr c19
        (first | rw [c19b0] | (simp only [i64_w, i32_w]; rw [c19b0]) | skip)
        have H' := za H
        clear H
        try go_wp2
        replace HO_735003 := za (Kd.R_drew HO_735003.out)
        replace HO_735004 := za (Kd.R_drew HO_735004.out)
        replace BK719 := za (blk_drew BK719.out)
        replace BK734 := za (blk_drew BK734.out)
        replace HI0 := za (IsS83.drew HI0.out)
        replace HK := za (keep_drew HK.out)
        replace HB := za (below_drew1 HB.out)
        obtain ⟨ASz25_0, cSz25_0, HGz25, hgz25, HSz25_0⟩ := HI0.out
        have hx25_0 := cellS83_0 HGz25
        have hx25_1 := cellS83_1 HGz25
        have hx25_2 := cellS83_2 HGz25
        have hx25_3 := cellS83_3 HGz25
        have hx25_4 := cellS83_4 HGz25
        clear HGz25 hgz25
        refine start_ (n := 19) (S := fun w' => w'.cell? ⟨g, 0, none⟩ = some (.slice ASz25_0 s0_0.length cSz25_0) ∧ w'.cell? ⟨g, 1, none⟩ = some (.int .i64 x1001_2) ∧ w'.cell? ⟨g, 2, none⟩ = some (.int .i64 x1002_2) ∧ w'.cell? ⟨g, 3, none⟩ = some (.int .i64 x1003_2) ∧ w'.cell? ⟨g, 4, none⟩ = some (.int .i64 x1004_2)) (ds := []) #[false, false, false, false, false, false, false, false, false, false, false, false, false, false, false, false, false, false, false] zq12 rfl rfl ⟨hx25_0, hx25_1, hx25_2, hx25_3, hx25_4⟩ (fun hHeld => ?_); refine with_tabW rr_module.tab7 rr_module.bits7 (fun HT_ HW_ => ?_)
        generalize wr.drew = w24 at HO_735003 HO_735004 BK719 BK734 HI0 HK HB hx25_0 hx25_1 hx25_2 hx25_3 hx25_4 hHeld ⊢
        refine pure_ (i := 0) (N := some 27) #[true, false, false, false, false, false, false, false, false, false, false, false, false, false, false, false, false, false, false] rfl rfl (any_of HT_.out zq12) (fun _ _ _ h => h) (Or.inl ⟨by rfl, zpv⟩) zpw ?_
        refine pure_ (i := 1) (N := some 28) #[true, true, false, false, false, false, false, false, false, false, false, false, false, false, false, false, false, false, false] rfl rfl (any_of HT_.out zq12) (fun _ _ _ h => h) (Or.inl ⟨by rfl, zpv⟩) zpw ?_
        refine pure_ (i := 2) (N := some 29) #[true, true, true, false, false, false, false, false, false, false, false, false, false, false, false, false, false, false, false] rfl rfl (any_of HT_.out zq12) (fun _ _ _ h => h) (Or.inl ⟨by rfl, zpv⟩) zpw ?_
        refine take_ (i := 3) (N := some 30) (v := ?_) (a' := ?_) #[true, true, true, true, false, false, false, false, false, false, false, false, false, false, false, false, false, false, false] rfl rfl (take_ofW HT_.out HW_.out zq12) (fun _ _ _ h => h) (Or.inl ⟨by rfl, ?_⟩) hHeld ?_ ?_
        rotate_left
        ·
         rintro w' ⟨s0, s1, s2, s3, s4⟩
         go_simp
         with_reducible rfl
        rotate_left
        ·
         simp only [Act.put, List.setIfInBounds_toArray, List.set_cons_zero, List.set_cons_succ, i64_w, i32_w]
         rfl
        refine pure_ (i := 4) (N := some 31) #[true, true, true, true, true, false, false, false, false, false, false, false, false, false, false, false, false, false, false] rfl rfl (any_of HT_.out zq12) (fun _ _ _ h => h) (Or.inl ⟨by rfl, zpv⟩) zpw ?_
        refine pure_ (i := 5) (N := some 32) #[true, true, true, true, true, true, false, false, false, false, false, false, false, false, false, false, false, false, false] rfl rfl (any_of HT_.out zq12) (fun _ _ _ h => h) (Or.inl ⟨by rfl, zpv⟩) zpw ?_
        refine pure_ (i := 6) (N := some 33) (v := undef) (a' := ?_) #[true, true, true, true, true, true, true, false, false, false, false, false, false, false, false, false, false, false, false] rfl rfl (any_of HT_.out zq12) (fun _ _ _ h => h) (Or.inr ⟨by rfl, rfl⟩) ?_ ?_
        rotate_left
        ·
         simp only [Act.put, List.setIfInBounds_toArray, List.set_cons_zero, List.set_cons_succ, i64_w, i32_w]
         rfl
        refine pure_ (i := 7) (N := some 34) (v := undef) (a' := ?_) #[true, true, true, true, true, true, true, true, false, false, false, false, false, false, false, false, false, false, false] rfl rfl (any_of HT_.out zq12) (fun _ _ _ h => h) (Or.inr ⟨by rfl, rfl⟩) ?_ ?_
        rotate_left
        ·
         simp only [Act.put, List.setIfInBounds_toArray, List.set_cons_zero, List.set_cons_succ, i64_w, i32_w]
         rfl
        refine pure_ (i := 8) (N := some 35) (v := undef) (a' := ?_) #[true, true, true, true, true, true, true, true, true, false, false, false, false, false, false, false, false, false, false] rfl rfl (any_of HT_.out zq12) (fun _ _ _ h => h) (Or.inr ⟨by rfl, rfl⟩) ?_ ?_
        rotate_left
        ·
         simp only [Act.put, List.setIfInBounds_toArray, List.set_cons_zero, List.set_cons_succ, i64_w, i32_w]
         rfl
        refine pure_ (i := 9) (N := some 36) (v := undef) (a' := ?_) #[true, true, true, true, true, true, true, true, true, true, false, false, false, false, false, false, false, false, false] rfl rfl (any_of HT_.out zq12) (fun _ _ _ h => h) (Or.inr ⟨by rfl, rfl⟩) ?_ ?_
        rotate_left
        ·
         simp only [Act.put, List.setIfInBounds_toArray, List.set_cons_zero, List.set_cons_succ, i64_w, i32_w]
         rfl
        refine pure_ (i := 10) (N := some 37) (v := undef) (a' := ?_) #[true, true, true, true, true, true, true, true, true, true, true, false, false, false, false, false, false, false, false] rfl rfl (any_of HT_.out zq12) (fun _ _ _ h => h) (Or.inr ⟨by rfl, rfl⟩) ?_ ?_
        rotate_left
        ·
         simp only [Act.put, List.setIfInBounds_toArray, List.set_cons_zero, List.set_cons_succ, i64_w, i32_w]
         rfl
        refine pure_ (i := 11) (N := some 38) (v := undef) (a' := ?_) #[true, true, true, true, true, true, true, true, true, true, true, true, false, false, false, false, false, false, false] rfl rfl (any_of HT_.out zq12) (fun _ _ _ h => h) (Or.inr ⟨by rfl, rfl⟩) ?_ ?_
        rotate_left
        ·
         simp only [Act.put, List.setIfInBounds_toArray, List.set_cons_zero, List.set_cons_succ, i64_w, i32_w]
         rfl
        refine pure_ (i := 12) (N := some 39) (v := undef) (a' := ?_) #[true, true, true, true, true, true, true, true, true, true, true, true, true, false, false, false, false, false, false] rfl rfl (any_of HT_.out zq12) (fun _ _ _ h => h) (Or.inr ⟨by rfl, rfl⟩) ?_ ?_
        rotate_left
        ·
         simp only [Act.put, List.setIfInBounds_toArray, List.set_cons_zero, List.set_cons_succ, i64_w, i32_w]
         rfl
        refine pure_ (i := 13) (N := some 40) (v := undef) (a' := ?_) #[true, true, true, true, true, true, true, true, true, true, true, true, true, true, false, false, false, false, false] rfl rfl (any_of HT_.out zq12) (fun _ _ _ h => h) (Or.inr ⟨by rfl, rfl⟩) ?_ ?_
        rotate_left
        ·
         simp only [Act.put, List.setIfInBounds_toArray, List.set_cons_zero, List.set_cons_succ, i64_w, i32_w]
         rfl
        refine pure_ (i := 14) (N := some 41) (v := undef) (a' := ?_) #[true, true, true, true, true, true, true, true, true, true, true, true, true, true, true, false, false, false, false] rfl rfl (any_of HT_.out zq12) (fun _ _ _ h => h) (Or.inr ⟨by rfl, rfl⟩) ?_ ?_
        rotate_left
        ·
         simp only [Act.put, List.setIfInBounds_toArray, List.set_cons_zero, List.set_cons_succ, i64_w, i32_w]
         rfl
        refine pure_ (i := 15) (N := some 42) (v := undef) (a' := ?_) #[true, true, true, true, true, true, true, true, true, true, true, true, true, true, true, true, false, false, false] rfl rfl (any_of HT_.out zq12) (fun _ _ _ h => h) (Or.inr ⟨by rfl, rfl⟩) ?_ ?_
        rotate_left
        ·
         simp only [Act.put, List.setIfInBounds_toArray, List.set_cons_zero, List.set_cons_succ, i64_w, i32_w]
         rfl
        refine pure_ (i := 16) (N := some 43) (v := undef) (a' := ?_) #[true, true, true, true, true, true, true, true, true, true, true, true, true, true, true, true, true, false, false] rfl rfl (any_of HT_.out zq12) (fun _ _ _ h => h) (Or.inr ⟨by rfl, rfl⟩) ?_ ?_
        rotate_left
        ·
         simp only [Act.put, List.setIfInBounds_toArray, List.set_cons_zero, List.set_cons_succ, i64_w, i32_w]
         rfl
        refine pure_ (i := 17) (N := some 44) (v := undef) (a' := ?_) #[true, true, true, true, true, true, true, true, true, true, true, true, true, true, true, true, true, true, false] rfl rfl (any_of HT_.out zq12) (fun _ _ _ h => h) (Or.inr ⟨by rfl, rfl⟩) ?_ ?_
        rotate_left
        ·
         simp only [Act.put, List.setIfInBounds_toArray, List.set_cons_zero, List.set_cons_succ, i64_w, i32_w]
         rfl
        refine pure_ (i := 18) (N := some 45) #[true, true, true, true, true, true, true, true, true, true, true, true, true, true, true, true, true, true, true] rfl rfl (any_of HT_.out zq12) (fun _ _ _ h => h) (Or.inl ⟨by rfl, zpv⟩) zpw ?_
        refine done_ (done_of HT_.out zq12) ?_
        try go_wp2
        go_meet
        case rel => exact ⟨_, (false), zq16, H', ⟨by have := HK1.out; have := HK2.out; first | omega | exact Nat.le_refl _⟩, ⟨by (with_reducible repeat (first | apply Kd.R_alloc | apply Kd.R_drewN | apply Kd.R_drew)); exact HO_735003.out⟩, ⟨by (with_reducible repeat (first | apply Kd.R_alloc | apply Kd.R_drewN | apply Kd.R_drew)); exact HO_735004.out⟩, ⟨zq74⟩, ⟨zq75⟩, ⟨zq10⟩, ⟨zq15⟩, ⟨zq18⟩⟩
      case rest =>
       clear HC18
       obtain ⟨kq, x45_17, rfl, HA, HJ17, HO_735003, HO_735004, BK719, BK734, HI0, HK, HB⟩ := hcut
       cases kq with
       | zero => exact absurd HA.out (by simp [rr_module.j2])
       | succ kj17 =>
        have H := HA.out
        clear HA
        simp only [rr_module.j2] at H
        by_cases c26 : x45_17 = true
        ·
         subst c26
         rw [if_pos rfl] at H
         replace H := Option.bind_eq_some_iff.mp H
         obtain ⟨⟨t745, t746, t747, t748, t749⟩, A270, H⟩ := H
         (try dsimp only at H)
         have A27 := za A270
         clear A270
         by_cases c28 : t745 = true
         ·
          subst c28
          rw [if_pos rfl] at H
          replace H := Option.bind_eq_some_iff.mp H
          obtain ⟨⟨t750, t751, t752, t753, t754, t755, t756, t757⟩, A290, H⟩ := H
          (try dsimp only at H)
          have A29 := za A290
          clear A290
          by_cases c30 : x735003_2.length < 2932031007402
          ·
           rw [if_pos c30] at H
           have LMc30 := za c30
           clear c30
           obtain ⟨y758, hy758⟩ : ∃ y_ : List (S64), y_ = (x735003_2 ++ [(⟨t750, t751, t752, t753⟩ : S64)]) := ⟨_, rfl⟩
           replace H : (rr_module.l1 kj17 s0_0 t754 t755 t756 t757 t729 t724 y758 x735004_2) = some (r1, r2, r3, r4, r5, r6, r7, r8, r9) := by first | (rw [hy758]; with_reducible exact H) | (have H2_ := (Option.bind_some _ _).symm.trans H; rw [hy758]; with_reducible exact H2_) | (have H2_ := (Option.bind_some _ _).symm.trans H; with_reducible exact H2_) | with_reducible exact H | (rw [hy758]; exact H) | exact H
           have Ny758 := za hy758
           clear hy758
           have H' := za H
           clear H
           try go_wp2_with (first | ((with_reducible refine gate_callee (f := 48) rfl ?_); refine goesL_ (some 47) rfl rfl Try.func48 zq12 rfl #[.pointer (some ⟨g, 0, none⟩), .string (⟨#[118, 97, 114]⟩ : ByteArray)] rfl zq1 ?_; (with_reducible refine (rr_take.calls g s0_0 x1001_2 x1002_2 x1003_2 x1004_2 (⟨#[118, 97, 114]⟩ : ByteArray) true t746 t747 t748 t749 w0 _ ?side1 ?side2 A27.out).mono ?_); (case side1 => exact zq10); (case side2 => exact zq18); rintro e w31 ⟨rfl, hi, hb, hk⟩; refine ⟨_, rfl, ?_⟩; replace HO_735003 := za (Kd.R_mono (Kd.R_keep (IsS83.apart (show IsS83 w0 _ g s0_0 x1001_2 x1002_2 x1003_2 x1004_2 from zq10) (zr HO_735003.out) (by decide)) hk (fun _ h => h.2)) (fun _ h => h.1)); replace HO_735004 := za (Kd.R_mono (Kd.R_keep (IsS83.apart (show IsS83 w0 _ g s0_0 x1001_2 x1002_2 x1003_2 x1004_2 from zq10) (zr HO_735004.out) (by decide)) hk (fun _ h => h.2)) (fun _ h => h.1)); replace BK719 := za (KeepBut.blk hk (g' := gb719) (zb BK719.out) NB719_0.out (by simp)); replace BK734 := za (KeepBut.blk hk (g' := gb734) (zb BK734.out) NB734_0.out (by simp)); replace HK := za (KeepBut.trans zq15 hk (.inl rfl)); replace HB := za (hb); replace HI0 := za (hi); (try clear hb hk hi)))
           replace HO_735003 := za (Kd.R_drew HO_735003.out)
           replace HO_735004 := za (Kd.R_drew HO_735004.out)
           replace BK719 := za (blk_drew BK719.out)
           replace BK734 := za (blk_drew BK734.out)
           replace HI0 := za (IsS83.drew HI0.out)
           replace HK := za (keep_drew HK.out)
           replace HB := za (below_drew1 HB.out)
           refine start_ (n := 8) (S := fun w' => w'.cell? ⟨gb734, 0, none⟩ = some (.string t729) ∧ w'.cell? ⟨gb734, 1, none⟩ = some (.int .i64 t724) ∧ w'.cell? ⟨gb734, 2, none⟩ = some (.slice none 0 0) ∧ w'.cell? ⟨gb734, 3, none⟩ = some (u735003) ∧ w'.cell? ⟨gb734, 4, none⟩ = some (u735004)) (ds := [7]) #[false, false, false, false, false, false, false, false] zq12 rfl rfl ⟨(blk_cell BK734.out 0).trans rfl, (blk_cell BK734.out 1).trans rfl, (blk_cell BK734.out 2).trans rfl, (blk_cell BK734.out 3).trans rfl, (blk_cell BK734.out 4).trans rfl⟩ (fun hHeld => ?_); refine with_tabW rr_module.tab9 rr_module.bits9 (fun HT_ HW_ => ?_)
           generalize w31.drew = w32 at HO_735003 HO_735004 BK719 BK734 HI0 HK HB hHeld ⊢
           refine pure_ (i := 0) (N := some 48) #[true, false, false, false, false, false, false, false] rfl rfl (any_of HT_.out zq12) (fun _ _ _ h => h) (Or.inl ⟨by rfl, zpv⟩) zpw ?_
           refine pure_ (i := 2) (N := some 50) #[true, false, true, false, false, false, false, false] rfl rfl (any_of HT_.out zq12) (fun _ _ _ h => h) (Or.inl ⟨by rfl, zpv⟩) zpw ?_
           refine take_ (i := 1) (N := some 49) (v := ?_) (a' := ?_) #[true, true, true, false, false, false, false, false] rfl rfl (take_ofW HT_.out HW_.out zq12) (fun _ _ _ h => h) (Or.inl ⟨by rfl, ?_⟩) hHeld ?_ ?_
           rotate_left
           ·
            rintro w' ⟨s0, s1, s2, s3, s4⟩
            go_simp
            with_reducible rfl
           rotate_left
           ·
            simp only [Act.put, List.setIfInBounds_toArray, List.set_cons_zero, List.set_cons_succ, i64_w, i32_w]
            rfl
           refine one_ (i := 3) (N := some 51) #[true, true, true, true, false, false, false, false] rfl rfl (one_of HT_.out zq12) (by decide) (fun K hK => ?_)
           refine goes_ Try.func49 zq12 rfl #[.pointer (some ⟨g, 0, none⟩)] (by rfl) rfl rfl zq1 ?_
           with_reducible refine (rr_variable.calls kj17 g s0_0 t746 t747 t748 t749 t750 t751 t752 t753 t754 t755 t756 t757 w0 _ ?side1 ?side2 A29.out).mono ?_
           (case side1 => exact zq10)
           (case side2 => exact zq18)
           rintro e w33 ⟨rfl, hi, hb, hk⟩
           refine ⟨_, rfl, ?_⟩
           replace HO_735003 := za (Kd.R_mono (Kd.R_keep (IsS83.apart (show IsS83 w0 _ g s0_0 t746 t747 t748 t749 from zq10) (zr HO_735003.out) (by decide)) hk (fun _ h => h.2)) (fun _ h => h.1))
           replace HO_735004 := za (Kd.R_mono (Kd.R_keep (IsS83.apart (show IsS83 w0 _ g s0_0 t746 t747 t748 t749 from zq10) (zr HO_735004.out) (by decide)) hk (fun _ h => h.2)) (fun _ h => h.1))
           replace BK719 := za (KeepBut.blk hk (g' := gb719) (zb BK719.out) NB719_0.out (by simp))
           replace BK734 := za (KeepBut.blk hk (g' := gb734) (zb BK734.out) NB734_0.out (by simp))
           replace HK := za (KeepBut.trans zq15 hk (.inl rfl))
           replace HB := za (hb)
           replace HI0 := za (hi)
           refine hK.out _ _ ⟨(blk_cell BK734.out 0).trans rfl, (blk_cell BK734.out 1).trans rfl, (blk_cell BK734.out 2).trans rfl, (blk_cell BK734.out 3).trans rfl, (blk_cell BK734.out 4).trans rfl⟩ (fun hHeld => ?_)
           clear hK K
           refine norm_ (a' := ?_) ?_ ?_
           rotate_left
           ·
            show Act.put _ (some 51) _ = _
            simp only [Act.put, List.setIfInBounds_toArray, List.set_cons_zero, List.set_cons_succ, i64_w, i32_w]
            rfl
           refine one_ (i := 4) (N := some 52) #[true, true, true, true, true, false, false, false] rfl rfl (one_of HT_.out zq12) (by decide) (fun K hK => ?_)
           refine value_ (w1 := ?_) (v := ?_) (by rfl) rfl ?_ ?_
           rotate_left 2
           ·
            go_simp
            constructor
            ·
             rfl
            ·
             rfl
           refine hK.out _ _ ⟨(blk_cell (blk_alloc BK734.out _) 0).trans rfl, (blk_cell (blk_alloc BK734.out _) 1).trans rfl, (blk_cell (blk_alloc BK734.out _) 2).trans rfl, (blk_cell (blk_alloc BK734.out _) 3).trans rfl, (blk_cell (blk_alloc BK734.out _) 4).trans rfl⟩ (fun hHeld => ?_)
           clear hK K
           refine norm_ (a' := ?_) ?_ ?_
           rotate_left
           ·
            show Act.put _ (some 52) _ = _
            simp only [Act.put, List.setIfInBounds_toArray, List.set_cons_zero, List.set_cons_succ, i64_w, i32_w]
            rfl
           refine one_ (i := 5) (N := some 53) #[true, true, true, true, true, true, false, false] rfl rfl (one_of HT_.out zq12) (by decide) (fun K hK => ?_)
           refine Kd.R_append_step k64 w.heap.size (by rfl) (.tmp 49) (.tmp 52) 36 64 (.agg #[(.string ⟨#[]⟩), (.string ⟨#[]⟩), (.int .i64 0), (.int .i64 0)]) 48 rfl Try.underlying36 info64 rfl (by decide) (by omega) u735003 x735003_2 (⟨t750, t751, t752, t753⟩ : S64) [.string t750, .string t751, .int .i64 t752, .int .i64 t753] (fun _ => True) (fun _ => False) rfl rfl ?aP (fun _ hk => hk.elim) ?aF ?aO (Below.refl _ _) ?aS ?aL ?_
           (case aP => exact k64_mkM _ _ _ (⟨t750, t751, t752, t753⟩ : S64))
           (case aF => exact (fun _ _ => trivial))
           (case aO => exact (zr HO_735003.out))
           (case aS => exact (keep_size (w := w) (g := g) (row := none) zq15))
           (case aL => have := LMc30.out; omega)
           intro v759 w34 ho hb hg hat
           rw [← Ny758.out] at ho
           replace HO_735004 := za (Kd.R_over' (zr HO_735004.out) (Kd.R_typed (zr HO_735003.out)) (by decide) hg)
           replace BK719 := za (blk_grown (g := gb719) (zb BK719.out) hg (Kd.R_ne HO_735003.out BK719.out (by decide)))
           replace BK734 := za (blk_grown (g := gb734) (zb BK734.out) hg (Kd.R_ne HO_735003.out BK734.out (by decide)))
           replace HB := za (below_weaken zq18 HL.out hb)
           replace HI0 := za (IsS83.grown zq10 hg (IsS83.own_ne HI0.out HO_735003.out (by decide)))
           replace HK := za (KeepBut.trans zq15 (KeepBut.of_grown hg g) (Kd.R_base2 HO_735003.out))
           have HO760 := za (ho)
           clear HO_735003
           clear ho hb hg hat
           obtain ⟨Ao35, co35, eo35⟩ := Kd.R_slice HO760.out
           (first | subst eo35 | (injection eo35 with f1_ f2_ f3_; have f4_ := f1_.symm; have f5_ := f3_.symm; clear f1_ f2_ f3_; subst f4_; subst f5_))
           refine hK.out _ _ ⟨(blk_cell BK734.out 0).trans rfl, (blk_cell BK734.out 1).trans rfl, (blk_cell BK734.out 2).trans rfl, (blk_cell BK734.out 3).trans rfl, (blk_cell BK734.out 4).trans rfl⟩ (fun hHeld => ?_)
           clear hK K
           refine norm_ (a' := ?_) ?_ ?_
           rotate_left
           ·
            show Act.put _ (some 53) _ = _
            simp only [Act.put, List.setIfInBounds_toArray, List.set_cons_zero, List.set_cons_succ, i64_w, i32_w]
            rfl
           refine pure_ (i := 6) (N := some 54) #[true, true, true, true, true, true, true, false] rfl rfl (any_of HT_.out zq12) (fun _ _ _ h => h) (Or.inl ⟨by rfl, zpv⟩) zpw ?_
           refine last_ (i := 7) (N := none) #[true, true, true, true, true, true, true, true] rfl rfl (one_of HT_.out zq12) (by decide) (fun K hK => ?_)
           have hs36 : w34.cell? ⟨gb734, 3, none⟩ = some (u735003) := (blk_cell BK734.out 3).trans rfl
           have hfs36 := blk_frozen BK734.out 3
           have hns36_0 := NB719_734.out
           have hms36_0 := NB734_719.out
           refine skip_ (w1 := ?_) (by rfl) rfl ?_ ?_
           rotate_left
           ·
            go_simp
            rfl
           refine hK.out _ _ ?_
           clear hK K
           refine done_ (done_of HT_.out zq12) ?_
           try go_wp2
           go_roundg kj17
           case measure => have := HK1.out; have := HK2.out; have := HJ17.out; omega
           case rel => exact ⟨(t754), (t755), (t756), (t757), (y758), (x735004_2), (.slice Ao35 y758.length co35), (u735004), H', ⟨by have := HK1.out; have := HK2.out; have := HJ17.out; omega⟩, ⟨by (with_reducible repeat (first | apply Kd.R_alloc | apply Kd.R_drewN | apply Kd.R_drew)); exact Kd.R_mono (Kd.R_far (p := ⟨gb734, 3, none⟩) (Kd.R_types HO760.out BK734.out (by decide)) (fun _ hk => hk.2) (.slice Ao35 y758.length co35)) (fun _ hk => trivial)⟩, ⟨by (with_reducible repeat (first | apply Kd.R_alloc | apply Kd.R_drewN | apply Kd.R_drew)); exact Kd.R_mono (Kd.R_far (p := ⟨gb734, 3, none⟩) (Kd.R_types HO_735004.out BK734.out (by decide)) (fun _ hk => hk.2) (.slice Ao35 y758.length co35)) (fun _ hk => trivial)⟩, ⟨zq72⟩, ⟨by (with_reducible repeat (first | refine blk_drewN ?_ _ | refine blk_drew ?_ | refine blk_alloc ?_ _)); refine blk_put (cs := #[.string t729, .int .i64 t724, .slice none 0 0, u735003, u735004]) ?_ 3 _ rfl; (with_reducible repeat (first | refine blk_drewN ?_ _ | refine blk_drew ?_ | refine blk_alloc ?_ _)); exact BK734.out⟩, ⟨zq10⟩, ⟨zq15⟩, ⟨zq18⟩⟩
          ·
           rw [if_neg c30] at H
           exact absurd H (by simp)
         ·
          replace c28 := Bool.eq_false_iff.mpr c28
          subst c28
          rw [if_neg (show ¬ (false = true) by decide)] at H
          replace H := Option.bind_eq_some_iff.mp H
          obtain ⟨⟨t761, t762, t763, t764, t765⟩, A370, H⟩ := H
          (try dsimp only at H)
          have A37 := za A370
          clear A370
          by_cases c38 : t761 = true
          ·
           subst c38
           rw [if_pos rfl] at H
           replace H := Option.bind_eq_some_iff.mp H
           obtain ⟨⟨t766, t767, t770, t771, t772, t773, t776, t779, t780, t781, t782, t783⟩, A390, H⟩ := H
           (try dsimp only at H)
           have A39 := za A390
           clear A390
           by_cases c40 : x735004_2.length < 1034834473200
           ·
            rw [if_pos c40] at H
            have LMc40 := za c40
            clear c40
            obtain ⟨y784, hy784⟩ : ∃ y_ : List (S44), y_ = (x735004_2 ++ [(⟨t766, t767, t770, t771, t772, t773, t776, t779⟩ : S44)]) := ⟨_, rfl⟩
            replace H : (rr_module.l1 kj17 s0_0 t780 t781 t782 t783 t729 t724 x735003_2 y784) = some (r1, r2, r3, r4, r5, r6, r7, r8, r9) := by first | (rw [hy784]; with_reducible exact H) | (have H2_ := (Option.bind_some _ _).symm.trans H; rw [hy784]; with_reducible exact H2_) | (have H2_ := (Option.bind_some _ _).symm.trans H; with_reducible exact H2_) | with_reducible exact H | (rw [hy784]; exact H) | exact H
            have Ny784 := za hy784
            clear hy784
            have H' := za H
            clear H
            try go_wp2_with (first | ((with_reducible refine gate_callee (f := 48) rfl ?_); refine goesL_ (some 47) rfl rfl Try.func48 zq12 rfl #[.pointer (some ⟨g, 0, none⟩), .string (⟨#[118, 97, 114]⟩ : ByteArray)] rfl zq1 ?_; (with_reducible refine (rr_take.calls g s0_0 x1001_2 x1002_2 x1003_2 x1004_2 (⟨#[118, 97, 114]⟩ : ByteArray) false t746 t747 t748 t749 w0 _ ?side1 ?side2 A27.out).mono ?_); (case side1 => exact zq10); (case side2 => exact zq18); rintro e w41 ⟨rfl, hi, hb, hk⟩; refine ⟨_, rfl, ?_⟩; replace HO_735003 := za (Kd.R_mono (Kd.R_keep (IsS83.apart (show IsS83 w0 _ g s0_0 x1001_2 x1002_2 x1003_2 x1004_2 from zq10) (zr HO_735003.out) (by decide)) hk (fun _ h => h.2)) (fun _ h => h.1)); replace HO_735004 := za (Kd.R_mono (Kd.R_keep (IsS83.apart (show IsS83 w0 _ g s0_0 x1001_2 x1002_2 x1003_2 x1004_2 from zq10) (zr HO_735004.out) (by decide)) hk (fun _ h => h.2)) (fun _ h => h.1)); replace BK719 := za (KeepBut.blk hk (g' := gb719) (zb BK719.out) NB719_0.out (by simp)); replace BK734 := za (KeepBut.blk hk (g' := gb734) (zb BK734.out) NB734_0.out (by simp)); replace HK := za (KeepBut.trans zq15 hk (.inl rfl)); replace HB := za (hb); replace HI0 := za (hi); (try clear hb hk hi)) | ((with_reducible refine gate_callee (f := 48) rfl ?_); refine goesL_ (some 56) rfl rfl Try.func48 zq12 rfl #[.pointer (some ⟨g, 0, none⟩), .string (⟨#[112, 114, 111, 99]⟩ : ByteArray)] rfl zq1 ?_; (with_reducible refine (rr_take.calls g s0_0 t746 t747 t748 t749 (⟨#[112, 114, 111, 99]⟩ : ByteArray) true t762 t763 t764 t765 w0 _ ?side1 ?side2 A37.out).mono ?_); (case side1 => exact zq10); (case side2 => exact zq18); rintro e w42 ⟨rfl, hi, hb, hk⟩; refine ⟨_, rfl, ?_⟩; replace HO_735003 := za (Kd.R_mono (Kd.R_keep (IsS83.apart (show IsS83 w0 _ g s0_0 t746 t747 t748 t749 from zq10) (zr HO_735003.out) (by decide)) hk (fun _ h => h.2)) (fun _ h => h.1)); replace HO_735004 := za (Kd.R_mono (Kd.R_keep (IsS83.apart (show IsS83 w0 _ g s0_0 t746 t747 t748 t749 from zq10) (zr HO_735004.out) (by decide)) hk (fun _ h => h.2)) (fun _ h => h.1)); replace BK719 := za (KeepBut.blk hk (g' := gb719) (zb BK719.out) NB719_0.out (by simp)); replace BK734 := za (KeepBut.blk hk (g' := gb734) (zb BK734.out) NB734_0.out (by simp)); replace HK := za (KeepBut.trans zq15 hk (.inl rfl)); replace HB := za (hb); replace HI0 := za (hi); (try clear hb hk hi)))
            replace HO_735003 := za (Kd.R_drew HO_735003.out)
            replace HO_735004 := za (Kd.R_drew HO_735004.out)
            replace BK719 := za (blk_drew BK719.out)
            replace BK734 := za (blk_drew BK734.out)
            replace HI0 := za (IsS83.drew HI0.out)
            replace HK := za (keep_drew HK.out)
            replace HB := za (below_drew1 HB.out)
            refine start_ (n := 8) (S := fun w' => w'.cell? ⟨gb734, 0, none⟩ = some (.string t729) ∧ w'.cell? ⟨gb734, 1, none⟩ = some (.int .i64 t724) ∧ w'.cell? ⟨gb734, 2, none⟩ = some (.slice none 0 0) ∧ w'.cell? ⟨gb734, 3, none⟩ = some (u735003) ∧ w'.cell? ⟨gb734, 4, none⟩ = some (u735004)) (ds := [7]) #[false, false, false, false, false, false, false, false] zq12 rfl rfl ⟨(blk_cell BK734.out 0).trans rfl, (blk_cell BK734.out 1).trans rfl, (blk_cell BK734.out 2).trans rfl, (blk_cell BK734.out 3).trans rfl, (blk_cell BK734.out 4).trans rfl⟩ (fun hHeld => ?_); refine with_tabW rr_module.tab11 rr_module.bits11 (fun HT_ HW_ => ?_)
            generalize w42.drew = w43 at HO_735003 HO_735004 BK719 BK734 HI0 HK HB hHeld ⊢
            refine pure_ (i := 0) (N := some 57) #[true, false, false, false, false, false, false, false] rfl rfl (any_of HT_.out zq12) (fun _ _ _ h => h) (Or.inl ⟨by rfl, zpv⟩) zpw ?_
            refine pure_ (i := 2) (N := some 59) #[true, false, true, false, false, false, false, false] rfl rfl (any_of HT_.out zq12) (fun _ _ _ h => h) (Or.inl ⟨by rfl, zpv⟩) zpw ?_
            refine take_ (i := 1) (N := some 58) (v := ?_) (a' := ?_) #[true, true, true, false, false, false, false, false] rfl rfl (take_ofW HT_.out HW_.out zq12) (fun _ _ _ h => h) (Or.inl ⟨by rfl, ?_⟩) hHeld ?_ ?_
            rotate_left
            ·
             rintro w' ⟨s0, s1, s2, s3, s4⟩
             go_simp
             with_reducible rfl
            rotate_left
            ·
             simp only [Act.put, List.setIfInBounds_toArray, List.set_cons_zero, List.set_cons_succ, i64_w, i32_w]
             rfl
            refine one_ (i := 3) (N := some 60) #[true, true, true, true, false, false, false, false] rfl rfl (one_of HT_.out zq12) (by decide) (fun K hK => ?_)
            refine goes_ Try.func50 zq12 rfl #[.pointer (some ⟨g, 0, none⟩)] (by rfl) rfl rfl zq1 ?_
            with_reducible refine (rr_proc.calls kj17 g s0_0 t762 t763 t764 t765 t766 t767 t770 t771 t772 t773 t776 t779 t780 t781 t782 t783 w0 _ ?side1 ?side2 A39.out).mono ?_
            (case side1 => exact zq10)
            (case side2 => exact zq18)
            rintro e w44 ⟨v768, v774, v777, rfl, ho0, ho1, ho2, hi, hb, hk⟩
            refine ⟨_, rfl, ?_⟩
            replace HO_735003 := za (Kd.R_mono (Kd.R_keep (IsS83.apart (show IsS83 w0 _ g s0_0 t762 t763 t764 t765 from zq10) (zr HO_735003.out) (by decide)) hk (fun _ h => h.2)) (fun _ h => h.1))
            replace HO_735004 := za (Kd.R_mono (Kd.R_told (Kd.R_told (Kd.R_told (Kd.R_oldK (IsS83.apart (show IsS83 w0 _ g s0_0 t762 t763 t764 t765 from zq10) (zr HO_735004.out) (by decide)) hk) (Kd.R_base ho0)) (Kd.R_base ho1)) (Kd.R_base ho2)) (fun _ h_ => h_.1))
            replace BK719 := za (KeepBut.blk hk (g' := gb719) (zb BK719.out) NB719_0.out (by simp))
            replace BK734 := za (KeepBut.blk hk (g' := gb734) (zb BK734.out) NB734_0.out (by simp))
            have HO769 := za (Kd.R_lower ho0 (keep_size (w := w) (g := g) (row := none) zq15))
            have HO775 := za (Kd.R_lower ho1 (keep_size (w := w) (g := g) (row := none) zq15))
            have HO778 := za (Kd.R_lower ho2 (keep_size (w := w) (g := g) (row := none) zq15))
            replace HK := za (KeepBut.trans zq15 hk (.inl rfl))
            replace HB := za (hb)
            replace HI0 := za (hi)
            obtain ⟨Ao46, co46, eo46⟩ := Kd.R_slice HO769.out
            (first | subst eo46 | (injection eo46 with f1_ f2_ f3_; have f4_ := f1_.symm; have f5_ := f3_.symm; clear f1_ f2_ f3_; subst f4_; subst f5_))
            obtain ⟨Ao47, co47, eo47⟩ := Kd.R_slice HO775.out
            (first | subst eo47 | (injection eo47 with f1_ f2_ f3_; have f4_ := f1_.symm; have f5_ := f3_.symm; clear f1_ f2_ f3_; subst f4_; subst f5_))
            obtain ⟨Ao48, co48, eo48⟩ := Kd.R_slice HO778.out
            (first | subst eo48 | (injection eo48 with f1_ f2_ f3_; have f4_ := f1_.symm; have f5_ := f3_.symm; clear f1_ f2_ f3_; subst f4_; subst f5_))
            refine hK.out _ _ ⟨(blk_cell BK734.out 0).trans rfl, (blk_cell BK734.out 1).trans rfl, (blk_cell BK734.out 2).trans rfl, (blk_cell BK734.out 3).trans rfl, (blk_cell BK734.out 4).trans rfl⟩ (fun hHeld => ?_)
            clear hK K
            refine norm_ (a' := ?_) ?_ ?_
            rotate_left
            ·
             show Act.put _ (some 60) _ = _
             simp only [Act.put, List.setIfInBounds_toArray, List.set_cons_zero, List.set_cons_succ, i64_w, i32_w]
             rfl
            refine one_ (i := 4) (N := some 61) #[true, true, true, true, true, false, false, false] rfl rfl (one_of HT_.out zq12) (by decide) (fun K hK => ?_)
            refine value_ (w1 := ?_) (v := ?_) (by rfl) rfl ?_ ?_
            rotate_left 2
            ·
             go_simp
             constructor
             ·
              rfl
             ·
              rfl
            refine hK.out _ _ ⟨(blk_cell (blk_alloc BK734.out _) 0).trans rfl, (blk_cell (blk_alloc BK734.out _) 1).trans rfl, (blk_cell (blk_alloc BK734.out _) 2).trans rfl, (blk_cell (blk_alloc BK734.out _) 3).trans rfl, (blk_cell (blk_alloc BK734.out _) 4).trans rfl⟩ (fun hHeld => ?_)
            clear hK K
            refine norm_ (a' := ?_) ?_ ?_
            rotate_left
            ·
             show Act.put _ (some 61) _ = _
             simp only [Act.put, List.setIfInBounds_toArray, List.set_cons_zero, List.set_cons_succ, i64_w, i32_w]
             rfl
            refine one_ (i := 5) (N := some 62) #[true, true, true, true, true, true, false, false] rfl rfl (one_of HT_.out zq12) (by decide) (fun K hK => ?_)
            refine Kd.R_append_step k44 w.heap.size (by rfl) (.tmp 58) (.tmp 61) 37 44 (.agg #[(.string ⟨#[]⟩), (.slice none 0 0), (.bool false), (.string ⟨#[]⟩), (.string ⟨#[]⟩), (.slice none 0 0), (.slice none 0 0), (.int .i64 0)]) 136 rfl Try.underlying37 info44 rfl (by decide) (by omega) u735004 x735004_2 (⟨t766, t767, t770, t771, t772, t773, t776, t779⟩ : S44) [.string t766, .slice Ao46 t767.length co46, .bool t770, .string t771, .string t772, .slice Ao47 t773.length co47, .slice Ao48 t776.length co48, .int .i64 t779] (fun _ => True) (fun k_ => ((fun _ => True)) k_ ∧ some k_ ≠ (u735004 : Value).ownBlock) rfl rfl ?aP (fun _ hk => hk) ?aF ?aO (Below.refl _ _) ?aS ?aL ?_
            (case aP => exact k44_mkM _ _ _ (⟨t766, t767, t770, t771, t772, t773, t776, t779⟩ : S44) (Kd.R_mono (Kd.R_apart' (HO769.out) (Kd.R_typed HO_735004.out) (by decide)) (fun k_ hk => ⟨trivial, hk.2⟩)) (Kd.R_mono (Kd.R_apart' (HO775.out) (Kd.R_typed HO_735004.out) (by decide)) (fun k_ hk => ⟨trivial, hk.2⟩)) (Kd.R_mono (Kd.R_apart' (HO778.out) (Kd.R_typed HO_735004.out) (by decide)) (fun k_ hk => ⟨trivial, hk.2⟩)))
            (case aF => exact (fun _ _ => trivial))
            (case aO => exact (by (with_reducible repeat (first | apply Kd.R_alloc | apply Kd.R_drewN | apply Kd.R_drew)); exact Kd.R_mono HO_735004.out (fun _ hk => trivial)))
            (case aS => exact (keep_size (w := w) (g := g) (row := none) zq15))
            (case aL => have := LMc40.out; omega)
            intro v785 w45 ho hb hg hat
            rw [← Ny784.out] at ho
            replace HO_735003 := za (Kd.R_over' (zr HO_735003.out) (Kd.R_typed (zr HO_735004.out)) (by decide) hg)
            replace BK719 := za (blk_grown (g := gb719) (zb BK719.out) hg (Kd.R_ne HO_735004.out BK719.out (by decide)))
            replace BK734 := za (blk_grown (g := gb734) (zb BK734.out) hg (Kd.R_ne HO_735004.out BK734.out (by decide)))
            replace HB := za (below_weaken zq18 HL.out hb)
            replace HI0 := za (IsS83.grown zq10 hg (IsS83.own_ne HI0.out HO_735004.out (by decide)))
            replace HK := za (KeepBut.trans zq15 (KeepBut.of_grown hg g) (Kd.R_base2 HO_735004.out))
            have HO786 := za (ho)
            clear HO_735004 HO769 HO775 HO778
            clear ho hb hg hat
            obtain ⟨Ao49, co49, eo49⟩ := Kd.R_slice HO786.out
            (first | subst eo49 | (injection eo49 with f1_ f2_ f3_; have f4_ := f1_.symm; have f5_ := f3_.symm; clear f1_ f2_ f3_; subst f4_; subst f5_))
            refine hK.out _ _ ⟨(blk_cell BK734.out 0).trans rfl, (blk_cell BK734.out 1).trans rfl, (blk_cell BK734.out 2).trans rfl, (blk_cell BK734.out 3).trans rfl, (blk_cell BK734.out 4).trans rfl⟩ (fun hHeld => ?_)
            clear hK K
            refine norm_ (a' := ?_) ?_ ?_
            rotate_left
            ·
             show Act.put _ (some 62) _ = _
             simp only [Act.put, List.setIfInBounds_toArray, List.set_cons_zero, List.set_cons_succ, i64_w, i32_w]
             rfl
            refine pure_ (i := 6) (N := some 63) #[true, true, true, true, true, true, true, false] rfl rfl (any_of HT_.out zq12) (fun _ _ _ h => h) (Or.inl ⟨by rfl, zpv⟩) zpw ?_
            refine last_ (i := 7) (N := none) #[true, true, true, true, true, true, true, true] rfl rfl (one_of HT_.out zq12) (by decide) (fun K hK => ?_)
            have hs50 : w45.cell? ⟨gb734, 4, none⟩ = some (u735004) := (blk_cell BK734.out 4).trans rfl
            have hfs50 := blk_frozen BK734.out 4
            have hns50_0 := NB719_734.out
            have hms50_0 := NB734_719.out
            refine skip_ (w1 := ?_) (by rfl) rfl ?_ ?_
            rotate_left
            ·
             go_simp
             rfl
            refine hK.out _ _ ?_
            clear hK K
            refine done_ (done_of HT_.out zq12) ?_
            try go_wp2
            go_roundg kj17
            case measure => have := HK1.out; have := HK2.out; have := HJ17.out; omega
            case rel => exact ⟨(t780), (t781), (t782), (t783), (x735003_2), (y784), (u735003), (.slice Ao49 y784.length co49), H', ⟨by have := HK1.out; have := HK2.out; have := HJ17.out; omega⟩, ⟨by (with_reducible repeat (first | apply Kd.R_alloc | apply Kd.R_drewN | apply Kd.R_drew)); exact Kd.R_mono (Kd.R_far (p := ⟨gb734, 4, none⟩) (Kd.R_types HO_735003.out BK734.out (by decide)) (fun _ hk => hk.2) (.slice Ao49 y784.length co49)) (fun _ hk => trivial)⟩, ⟨by (with_reducible repeat (first | apply Kd.R_alloc | apply Kd.R_drewN | apply Kd.R_drew)); exact Kd.R_mono (Kd.R_far (p := ⟨gb734, 4, none⟩) (Kd.R_types HO786.out BK734.out (by decide)) (fun _ hk => hk.2) (.slice Ao49 y784.length co49)) (fun _ hk => trivial)⟩, ⟨zq72⟩, ⟨by (with_reducible repeat (first | refine blk_drewN ?_ _ | refine blk_drew ?_ | refine blk_alloc ?_ _)); refine blk_put (cs := #[.string t729, .int .i64 t724, .slice none 0 0, u735003, u735004]) ?_ 4 _ rfl; (with_reducible repeat (first | refine blk_drewN ?_ _ | refine blk_drew ?_ | refine blk_alloc ?_ _)); exact BK734.out⟩, ⟨zq10⟩, ⟨zq15⟩, ⟨zq18⟩⟩
           ·
            rw [if_neg c40] at H
            exact absurd H (by simp)
          ·
           replace c38 := Bool.eq_false_iff.mpr c38
           subst c38
           rw [if_neg (show ¬ (false = true) by decide)] at H
           exact absurd H (by simp)
        ·
         replace c26 := Bool.eq_false_iff.mpr c26
         subst c26
         rw [if_neg (show ¬ (false = true) by decide)] at H
         simp only [Option.some.injEq, Prod.mk.injEq] at H
         obtain ⟨rfl, rfl, rfl, rfl, rfl, rfl, rfl, rfl, rfl⟩ := H
         have hnb51 := NB734_719.out
         have hnc51 := NB719_734.out
         have hnb52 := NB734_0.out
         have hnc52 := NB0_734.out
         obtain ⟨hcz53_0, hcz53_1, hcz53_2, hcz53_3, hcz53_4⟩ := zc5 BK734.out
         obtain ⟨hfz53_0, hfz53_1, hfz53_2, hfz53_3, hfz53_4⟩ := zf5 BK734.out
         have hnb54 := NB719_0.out
         have hnc54 := NB0_719.out
         obtain ⟨hcz55_0, hcz55_1, hcz55_2, hcz55_3, hcz55_4⟩ := zc5 BK719.out
         obtain ⟨hfz55_0, hfz55_1, hfz55_2, hfz55_3, hfz55_4⟩ := zf5 BK719.out
         obtain ⟨Ao56, co56, eo56⟩ := Kd.R_slice HO_735003.out
         subst eo56
         obtain ⟨Ao57, co57, eo57⟩ := Kd.R_slice HO_735004.out
         subst eo57
         go_wp2
         refine bodyPost_ret (results_cell_row rfl _ _ gb719 39 #[.string t729, .int .i64 t724, .slice none 0 0, .slice Ao56 x735003_2.length co56, .slice Ao57 x735004_2.length co57] (0, 0) _ rfl (by (with_reducible repeat (first | refine blk_drewN ?_ _ | refine blk_drew ?_ | refine blk_alloc ?_ _)); refine blk_put (cs := #[.string t729, .int .i64 t724, .slice none 0 0, .slice Ao56 x735003_2.length co56, .slice none 0 0]) ?_ 4 _ rfl; (with_reducible repeat (first | refine blk_drewN ?_ _ | refine blk_drew ?_ | refine blk_alloc ?_ _)); refine blk_put (cs := #[.string t729, .int .i64 t724, .slice none 0 0, .slice none 0 0, .slice none 0 0]) ?_ 3 _ rfl; (with_reducible repeat (first | refine blk_drewN ?_ _ | refine blk_drew ?_ | refine blk_alloc ?_ _)); refine blk_put (cs := #[.string t729, .int .i64 t724, .slice none 0 0, .slice none 0 0, .slice none 0 0]) ?_ 2 _ rfl; (with_reducible repeat (first | refine blk_drewN ?_ _ | refine blk_drew ?_ | refine blk_alloc ?_ _)); refine blk_put (cs := #[.string t729, .int .i64 0, .slice none 0 0, .slice none 0 0, .slice none 0 0]) ?_ 1 _ rfl; (with_reducible repeat (first | refine blk_drewN ?_ _ | refine blk_drew ?_ | refine blk_alloc ?_ _)); refine blk_put (cs := #[.string (⟨#[]⟩ : ByteArray), .int .i64 0, .slice none 0 0, .slice none 0 0, .slice none 0 0]) ?_ 0 _ rfl; (with_reducible repeat (first | refine blk_drewN ?_ _ | refine blk_drew ?_ | refine blk_alloc ?_ _)); exact BK719.out) Try.underlying39 rfl zq12) rfl ?_
         exact ⟨_, _, _, zq14, zq29, by (with_reducible repeat (first | apply Kd.R_alloc | apply Kd.R_drewN | apply Kd.R_drew)); exact Kd.R_mono (Kd.R_far (p := ⟨gb719, 4, none⟩) (Kd.R_far (p := ⟨gb719, 3, none⟩) (Kd.R_far (p := ⟨gb719, 2, none⟩) (Kd.R_far (p := ⟨gb719, 1, none⟩) (Kd.R_far (p := ⟨gb719, 0, none⟩) (Kd.R_types HO_735003.out BK719.out (by decide)) (fun _ hk => hk.2) (.string t729)) (fun _ hk => hk.2) (.int .i64 t724)) (fun _ hk => hk.2) (.slice none 0 0)) (fun _ hk => hk.2) (.slice Ao56 x735003_2.length co56)) (fun _ hk => hk.2) (.slice Ao57 x735004_2.length co57)) (fun _ hk => trivial), by (with_reducible repeat (first | apply Kd.R_alloc | apply Kd.R_drewN | apply Kd.R_drew)); exact Kd.R_mono (Kd.R_far (p := ⟨gb719, 4, none⟩) (Kd.R_far (p := ⟨gb719, 3, none⟩) (Kd.R_far (p := ⟨gb719, 2, none⟩) (Kd.R_far (p := ⟨gb719, 1, none⟩) (Kd.R_far (p := ⟨gb719, 0, none⟩) (Kd.R_types HO_735004.out BK719.out (by decide)) (fun _ hk => hk.2) (.string t729)) (fun _ hk => hk.2) (.int .i64 t724)) (fun _ hk => hk.2) (.slice none 0 0)) (fun _ hk => hk.2) (.slice Ao56 x735003_2.length co56)) (fun _ hk => hk.2) (.slice Ao57 x735004_2.length co57)) (fun _ hk => trivial), zq10, zq18, zq15⟩
end Go.Proofs.Ytcjnhnnfoadklaa.QRunCounts
