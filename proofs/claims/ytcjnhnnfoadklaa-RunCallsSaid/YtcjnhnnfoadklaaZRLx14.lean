import Derived.Test.YtcjnhnnfoadklaaZRLx13
namespace Go.Proofs.Ytcjnhnnfoadklaa.QRunCalls
open Go.RowKit Go.Proofs.YtcjnhnnfoadklaaW.PrintWords Go.Proofs.YtcjnhnnfoadklaaW.PrintLast Go.Proofs.YtcjnhnnfoadklaaW.PrintMore
attribute [local go_sem] max2_int min2_int max_two min_two max_three min_three max_four min_four
set_option linter.unusedVariables false
set_option linter.unusedSimpArgs false
mutual
def rr_module.l0 : Nat → List (S110) → Int → Int → Int → Int → ByteArray → Int → List (S116) → Option (ByteArray × Int × (List (S116)) × (List (S64)) × (List (S44)) × Int × Int × Int × Int)
 | 0, _, _, _, _, _, _, _, _ => none
 | k + 1, x1000, x1001, x1002, x1003, x1004, x727000, x727001, x727002 => (rr_take.f x1000 x1001 x1002 x1003 x1004 (⟨#[105, 109, 112, 111, 114, 116]⟩ : ByteArray)).bind fun bt731 => (if bt731.1 = true then ((rr_here.f x1000 bt731.2.1 bt731.2.2.1 bt731.2.2.2.1 bt731.2.2.2.2).bind fun bt736 => ((rr_name.f x1000 bt736.2.1 bt736.2.2.1 bt736.2.2.2.1 bt736.2.2.2.2).bind fun bt741 => (if x727002.length < 5864062014805 then ((rr_want.f x1000 bt741.2.1 bt741.2.2.1 bt741.2.2.2.1 bt741.2.2.2.2 (⟨#[59]⟩ : ByteArray)).bind fun bt749 => (rr_module.l0 k x1000 bt749.1 bt749.2.1 bt749.2.2.1 bt749.2.2.2 x727000 x727001 (x727002 ++ [(⟨bt741.1, bt736.1⟩ : S116)]))) else (none)))) else (rr_module.l1 k x1000 bt731.2.1 bt731.2.2.1 bt731.2.2.2.1 bt731.2.2.2.2 x727000 x727001 x727002 ([] : List (S44))))
def rr_module.l1 : Nat → List (S110) → Int → Int → Int → Int → ByteArray → Int → List (S116) → List (S44) → Option (ByteArray × Int × (List (S116)) × (List (S64)) × (List (S44)) × Int × Int × Int × Int)
 | 0, _, _, _, _, _, _, _, _, _ => none
 | k + 1, x1000, x1001, x1002, x1003, x1004, x727000, x727001, x727002, x727004 => if x1003 = 0 then (if 0 ≤ x1001 then (if x1001 < (x1000.length : Int) then (rr_module.j2 k (((rd_T110 x1000 x1001).f0) != 0) x1000 x1001 x1002 x1003 x1004 x727000 x727001 x727002 x727004) else (none)) else (none)) else (rr_module.j2 k false x1000 x1001 x1002 x1003 x1004 x727000 x727001 x727002 x727004)
def rr_module.j2 : Nat → Bool → List (S110) → Int → Int → Int → Int → ByteArray → Int → List (S116) → List (S44) → Option (ByteArray × Int × (List (S116)) × (List (S64)) × (List (S44)) × Int × Int × Int × Int)
 | 0, _, _, _, _, _, _, _, _, _, _ => none
 | k + 1, x45, x1000, x1001, x1002, x1003, x1004, x727000, x727001, x727002, x727004 => if x45 = true then ((rr_take.f x1000 x1001 x1002 x1003 x1004 (⟨#[118, 97, 114]⟩ : ByteArray)).bind fun bt754 => (if bt754.1 = true then (none) else ((rr_take.f x1000 bt754.2.1 bt754.2.2.1 bt754.2.2.2.1 bt754.2.2.2.2 (⟨#[112, 114, 111, 99]⟩ : ByteArray)).bind fun bt759 => (if bt759.1 = true then ((rr_proc.f k x1000 bt759.2.1 bt759.2.2.1 bt759.2.2.2.1 bt759.2.2.2.2).bind fun bt764 => (if x727004.length < 1034834473200 then (rr_module.l1 k x1000 bt764.2.2.2.2.2.2.2.2.1 bt764.2.2.2.2.2.2.2.2.2.1 bt764.2.2.2.2.2.2.2.2.2.2.1 bt764.2.2.2.2.2.2.2.2.2.2.2 x727000 x727001 x727002 (x727004 ++ [(⟨bt764.1, bt764.2.1, bt764.2.2.1, bt764.2.2.2.1, bt764.2.2.2.2.1, bt764.2.2.2.2.2.1, bt764.2.2.2.2.2.2.1, bt764.2.2.2.2.2.2.2.1⟩ : S44)])) else (none))) else (none))))) else (some (x727000, x727001, x727002, ([] : List (S64)), x727004, x1001, x1002, x1003, x1004))
end
def rr_module.f (k : Nat) (s0_0 : List (S110)) (s0_1 : Int) (s0_2 : Int) (s0_3 : Int) (s0_4 : Int) : Option (ByteArray × Int × (List (S116)) × (List (S64)) × (List (S44)) × Int × Int × Int × Int) := (rr_want.f s0_0 s0_1 s0_2 s0_3 s0_4 (⟨#[109, 111, 100, 117, 108, 101]⟩ : ByteArray)).bind fun bt712 => ((rr_here.f s0_0 bt712.1 bt712.2.1 bt712.2.2.1 bt712.2.2.2).bind fun bt716 => ((rr_name.f s0_0 bt716.2.1 bt716.2.2.1 bt716.2.2.2.1 bt716.2.2.2.2).bind fun bt721 => ((rr_want.f s0_0 bt721.2.1 bt721.2.2.1 bt721.2.2.2.1 bt721.2.2.2.2 (⟨#[59]⟩ : ByteArray)).bind fun bt727 => (rr_module.l0 k s0_0 bt727.1 bt727.2.1 bt727.2.2.1 bt727.2.2.2 bt721.1 bt716.1 ([] : List (S116))))))
theorem rr_module.mono_l : ∀ k, (∀ y0 y1 y2 y3 y4 y5 y6 y7, LeO (rr_module.l0 k y0 y1 y2 y3 y4 y5 y6 y7) (rr_module.l0 (k + 1) y0 y1 y2 y3 y4 y5 y6 y7)) ∧ (∀ y0 y1 y2 y3 y4 y5 y6 y7 y8, LeO (rr_module.l1 k y0 y1 y2 y3 y4 y5 y6 y7 y8) (rr_module.l1 (k + 1) y0 y1 y2 y3 y4 y5 y6 y7 y8)) ∧ (∀ y0 y1 y2 y3 y4 y5 y6 y7 y8 y9, LeO (rr_module.j2 k y0 y1 y2 y3 y4 y5 y6 y7 y8 y9) (rr_module.j2 (k + 1) y0 y1 y2 y3 y4 y5 y6 y7 y8 y9))
 | 0 => ⟨fun _ _ _ _ _ _ _ _ r h => by simp [rr_module.l0] at h, fun _ _ _ _ _ _ _ _ _ r h => by simp [rr_module.l1] at h, fun _ _ _ _ _ _ _ _ _ _ r h => by simp [rr_module.j2] at h⟩
 | k + 1 => by
  obtain ⟨ih0, ih1, ih2⟩ := rr_module.mono_l k
  refine ⟨?_, ?_, ?_⟩
  ·
   intro y0 y1 y2 y3 y4 y5 y6 y7
   unfold rr_module.l0
   repeat' with_reducible first | apply ih0 | apply ih1 | apply ih2 | apply rr_proc.mono | exact LeO.refl _ | exact LeO.none _ | refine LeO.ite ?_ ?_ | refine LeO.bind ?_ (fun _ => ?_)
  ·
   intro y0 y1 y2 y3 y4 y5 y6 y7 y8
   unfold rr_module.l1
   repeat' with_reducible first | apply ih0 | apply ih1 | apply ih2 | apply rr_proc.mono | exact LeO.refl _ | exact LeO.none _ | refine LeO.ite ?_ ?_ | refine LeO.bind ?_ (fun _ => ?_)
  ·
   intro y0 y1 y2 y3 y4 y5 y6 y7 y8 y9
   unfold rr_module.j2
   repeat' with_reducible first | apply ih0 | apply ih1 | apply ih2 | apply rr_proc.mono | exact LeO.refl _ | exact LeO.none _ | refine LeO.ite ?_ ?_ | refine LeO.bind ?_ (fun _ => ?_)
theorem rr_module.mono : ∀ a0 a1 a2 a3 a4 k, LeO (rr_module.f k a0 a1 a2 a3 a4) (rr_module.f (k + 1) a0 a1 a2 a3 a4) := by
 intro a0 a1 a2 a3 a4 k
 obtain ⟨ih0, ih1, ih2⟩ := rr_module.mono_l k
 unfold rr_module.f
 repeat' with_reducible first | apply ih0 | apply ih1 | apply ih2 | apply rr_proc.mono | exact LeO.refl _ | exact LeO.none _ | refine LeO.ite ?_ ?_ | refine LeO.bind ?_ (fun _ => ?_)
def rr_module.T5 : Bool × List (List Nat × List Nat) := (true, [([], []), ([0], [0]), ([], []), ([2], [2]), ([], []), ([4, 3], [4]), ([3, 5], [3, 5]), ([6], [6]), ([1, 7, 5], [1, 7]), ([0, 1, 2, 3, 4, 5, 6, 7, 8], []), ([9, 8, 8, 0, 1, 2, 3, 4, 5, 6, 7, 8], [8, 9])])
def rr_module.B5 : List Nat := [0, 1, 0, 4, 0, 28, 60, 124, 255, 511, 1023]
theorem rr_module.tab5 : rtab .any (opsOf Try.f32 5) = rr_module.T5 := by kernel_rfl
theorem rr_module.bits5 : waitsOk rr_module.T5.2 rr_module.B5 = true := by kernel_rfl
def rr_module.T7 : Bool × List (List Nat × List Nat) := (true, [([], []), ([0], [0]), ([1], [1]), ([2], [2]), ([3], [3]), ([4], [4]), ([5], [5]), ([6, 5], [5, 6]), ([7, 5], [5, 7]), ([8, 5], [5, 8]), ([5], [5]), ([10, 5], [5, 10]), ([11, 5], [5, 11]), ([12, 5], [5, 12]), ([9, 13, 5], [5, 9, 13]), ([14, 5], [5, 14]), ([15, 5], [5, 15]), ([16, 5], [5, 16]), ([5, 17], [5, 17])])
def rr_module.B7 : List Nat := [0, 1, 3, 7, 15, 31, 63, 127, 255, 511, 63, 1087, 3135, 7231, 16383, 32767, 65535, 131071, 262143]
theorem rr_module.tab7 : rtab .any (opsOf Try.f32 7) = rr_module.T7 := by kernel_rfl
theorem rr_module.bits7 : waitsOk rr_module.T7.2 rr_module.B7 = true := by kernel_rfl
def rr_module.T11 : Bool × List (List Nat × List Nat) := (true, [([], []), ([0], [0]), ([], []), ([2], [2]), ([3], [3]), ([1, 4, 3], [1, 4]), ([0, 1, 2, 3, 4, 5], []), ([6, 5, 5, 0, 1, 2, 3, 4, 5], [5, 6])])
def rr_module.B11 : List Nat := [0, 1, 0, 4, 12, 31, 63, 127]
theorem rr_module.tab11 : rtab .any (opsOf Try.f32 11) = rr_module.T11 := by kernel_rfl
theorem rr_module.bits11 : waitsOk rr_module.T11.2 rr_module.B11 = true := by kernel_rfl
set_option maxHeartbeats 8000000 in
set_option maxRecDepth 100000 in
theorem rr_module.calls (k : Nat) (g : Nat) (s0_0 : List (S110)) (s0_1 : Int) (s0_2 : Int) (s0_3 : Int) (s0_4 : Int) (r1 : ByteArray) (r2 : Int) (r3 : List (S116)) (r4 : List (S64)) (r5 : List (S44)) (r6 : Int) (r7 : Int) (r8 : Int) (r9 : Int) (w0 w : World) (hI : IsS83 w0 w g s0_0 s0_1 s0_2 s0_3 s0_4) (hB : Below w0.heap.size w0 w) (h : rr_module.f k s0_0 s0_1 s0_2 s0_3 s0_4 = some (r1, r2, r3, r4, r5, r6, r7, r8, r9)) :
  Calls Try.prog 32 #[.pointer (some ⟨g, 0, none⟩)] w fun e w' => ∃ v2_ v3_ v4_ : Value, e = .returned (.agg #[.string r1, .int .i64 r2, v2_, v3_, v4_]) ∧ Kd.R k116 116 w' w.heap.size (fun _ => True) v2_ r3 ∧ Kd.R k64 64 w' w.heap.size (fun _ => True) v3_ r4 ∧ Kd.R k44 44 w' w.heap.size (fun _ => True) v4_ r5 ∧ IsS83 w0 w' g s0_0 r6 r7 r8 r9 ∧ Below w0.heap.size w0 w' ∧ KeepBut w w' g none := by
 have hu39 := Try.underlying39
 have hu116 := Try.underlying116
 have HI0 := za hI
 have HK := za (KeepBut.refl w g none)
 have HL := za hB.size
 clear hI
 have HW0 := za hB.size
 have HB := za hB
 clear hB
 have H : ((rr_want.f s0_0 s0_1 s0_2 s0_3 s0_4 (⟨#[109, 111, 100, 117, 108, 101]⟩ : ByteArray)).bind fun bt712 => ((rr_here.f s0_0 bt712.1 bt712.2.1 bt712.2.2.1 bt712.2.2.2).bind fun bt716 => ((rr_name.f s0_0 bt716.2.1 bt716.2.2.1 bt716.2.2.2.1 bt716.2.2.2.2).bind fun bt721 => ((rr_want.f s0_0 bt721.2.1 bt721.2.2.1 bt721.2.2.2.1 bt721.2.2.2.2 (⟨#[59]⟩ : ByteArray)).bind fun bt727 => (rr_module.l0 k s0_0 bt727.1 bt727.2.1 bt727.2.2.1 bt727.2.2.2 bt721.1 bt716.1 ([] : List (S116))))))) = some (r1, r2, r3, r4, r5, r6, r7, r8, r9) := h
 clear h
 replace H := Option.bind_eq_some_iff.mp H
 obtain ⟨⟨t712, t713, t714, t715⟩, A20, H⟩ := H
 (try dsimp only at H)
 have A2 := za A20
 clear A20
 replace H := Option.bind_eq_some_iff.mp H
 obtain ⟨⟨t716, t717, t718, t719, t720⟩, A30, H⟩ := H
 (try dsimp only at H)
 have A3 := za A30
 clear A30
 replace H := Option.bind_eq_some_iff.mp H
 obtain ⟨⟨t721, t722, t723, t724, t725⟩, A40, H⟩ := H
 (try dsimp only at H)
 have A4 := za A40
 clear A40
 replace H := Option.bind_eq_some_iff.mp H
 obtain ⟨⟨t727, t728, t729, t730⟩, A50, H⟩ := H
 (try dsimp only at H)
 have A5 := za A50
 clear A50
 have H' := za H
 clear H
 go_enter Try.func32, Try.ntmps32
 go_wp2_with (first | ((with_reducible refine gate_dst (N := 2) rfl ?_); refine box_event ?hg (N := 2) ?hd (cs := #[.string (⟨#[]⟩ : ByteArray), .int .i64 0, .slice none 0 0, .slice none 0 0, .slice none 0 0]) (t := 39) ?hr ?_; (case hd => rfl); (case hg => rfl); (case hr => exact zq21); intro gb711 hg w6 hbox hb; replace HB := za (below_step zq2 hb); have BK711 := za (hbox); have GW711 := za ((by rw [hg]; exact (keep_size (w := w) (g := g) (row := none) zq5) : w.heap.size ≤ gb711)); have GE711 := za ((Nat.le_trans HW0.out (by rw [hg]; exact (keep_size (w := w) (g := g) (row := none) zq5) : w.heap.size ≤ gb711) : w0.heap.size ≤ gb711)); replace HK := za (KeepBut.trans zq5 (KeepBut.of_below hb g none) (.inl rfl)); have NB0_711 := za ((by rw [hg]; exact Nat.ne_of_lt (IsS83.lt (show IsS83 w0 _ g s0_0 s0_1 s0_2 s0_3 s0_4 from zq0)) : g ≠ gb711)); have NB711_0 := za ((by rw [hg]; exact Nat.ne_of_gt (IsS83.lt (show IsS83 w0 _ g s0_0 s0_1 s0_2 s0_3 s0_4 from zq0)) : gb711 ≠ g)); replace HI0 := za (IsS83.below zq0 hb); clear hb hbox hg) | ((with_reducible refine gate_callee (f := 45) rfl ?_); refine goesL_ (some 5) rfl rfl Try.func45 zq13 rfl #[.pointer (some ⟨g, 0, none⟩), .string (⟨#[109, 111, 100, 117, 108, 101]⟩ : ByteArray)] rfl zq1 ?_; (with_reducible refine (rr_want.calls g s0_0 s0_1 s0_2 s0_3 s0_4 (⟨#[109, 111, 100, 117, 108, 101]⟩ : ByteArray) t712 t713 t714 t715 w0 _ ?side1 ?side2 A2.out).mono ?_); (case side1 => exact zq37); (case side2 => exact zq51); rintro e w7 ⟨rfl, hi, hb, hk⟩; refine ⟨_, rfl, ?_⟩; replace BK711 := za (KeepBut.blk hk (g' := gb711) (zb BK711.out) NB711_0.out (by simp)); replace HK := za (KeepBut.trans zq44 hk (.inl rfl)); replace HB := za (hb); replace HI0 := za (hi); (try clear hb hk hi)) | ((with_reducible refine gate_callee (f := 46) rfl ?_); refine goesL_ (some 7) rfl rfl Try.func46 zq13 rfl #[.pointer (some ⟨g, 0, none⟩)] rfl zq1 ?_; (with_reducible refine (rr_here.calls g s0_0 t712 t713 t714 t715 t716 t717 t718 t719 t720 w0 _ ?side1 ?side2 A3.out).mono ?_); (case side1 => exact zq37); (case side2 => exact zq51); rintro e w8 ⟨rfl, hi, hb, hk⟩; refine ⟨_, rfl, ?_⟩; replace BK711 := za (KeepBut.blk hk (g' := gb711) (zb BK711.out) NB711_0.out (by simp)); replace HK := za (KeepBut.trans zq44 hk (.inl rfl)); replace HB := za (hb); replace HI0 := za (hi); (try clear hb hk hi)) | ((with_reducible refine gate_callee (f := 47) rfl ?_); refine goesL_ (some 9) rfl rfl Try.func47 zq13 rfl #[.pointer (some ⟨g, 0, none⟩)] rfl zq1 ?_; (with_reducible refine (rr_name.calls g s0_0 t717 t718 t719 t720 t721 t722 t723 t724 t725 w0 _ ?side1 ?side2 A4.out).mono ?_); (case side1 => exact zq37); (case side2 => exact zq51); rintro e w9 ⟨rfl, hi, hb, hk⟩; refine ⟨_, rfl, ?_⟩; replace BK711 := za (KeepBut.blk hk (g' := gb711) (zb BK711.out) NB711_0.out (by simp)); replace HK := za (KeepBut.trans zq44 hk (.inl rfl)); replace HB := za (hb); replace HI0 := za (hi); (try clear hb hk hi)) | ((with_reducible refine gate_dst (N := 3) rfl ?_); refine box_event ?hg (N := 3) ?hd (cs := #[.string (⟨#[]⟩ : ByteArray), .int .i64 0, .slice none 0 0, .slice none 0 0, .slice none 0 0]) (t := 39) ?hr ?_; (case hd => rfl); (case hg => rfl); (case hr => exact zq21); intro gb726 hg w10 hbox hb; replace HB := za (below_step zq51 hb); have BK726 := za (hbox); have GW726 := za ((by rw [hg]; exact (keep_size (w := w) (g := g) (row := none) zq44) : w.heap.size ≤ gb726)); have GE726 := za ((Nat.le_trans HW0.out (by rw [hg]; exact (keep_size (w := w) (g := g) (row := none) zq44) : w.heap.size ≤ gb726) : w0.heap.size ≤ gb726)); replace HK := za (KeepBut.trans zq44 (KeepBut.of_below hb g none) (.inl rfl)); have NB711_726 := za ((by rw [hg]; exact Nat.ne_of_lt (blk_lt (g := gb711) (zb BK711.out)) : gb711 ≠ gb726)); have NB726_711 := za ((by rw [hg]; exact Nat.ne_of_gt (blk_lt (g := gb711) (zb BK711.out)) : gb726 ≠ gb711)); replace BK711 := za (blk_below (g := gb711) (zb BK711.out) hb); have NB0_726 := za ((by rw [hg]; exact Nat.ne_of_lt (IsS83.lt (show IsS83 w0 _ g s0_0 t722 t723 t724 t725 from zq37)) : g ≠ gb726)); have NB726_0 := za ((by rw [hg]; exact Nat.ne_of_gt (IsS83.lt (show IsS83 w0 _ g s0_0 t722 t723 t724 t725 from zq37)) : gb726 ≠ g)); replace HI0 := za (IsS83.below zq37 hb); clear hb hbox hg; have hnb11 := NB726_711.out; have hnc11 := NB711_726.out; have hnb12 := NB726_0.out; have hnc12 := NB0_726.out; obtain ⟨hcz13_0, hcz13_1, hcz13_2, hcz13_3, hcz13_4⟩ := zc5 BK726.out; obtain ⟨hfz13_0, hfz13_1, hfz13_2, hfz13_3⟩ := zf4 BK726.out; have hfz13_4 := blk_frozen BK726.out 4) | ((with_reducible refine gate_callee (f := 45) rfl ?_); refine goesL_ (some 12) rfl rfl Try.func45 zq13 rfl #[.pointer (some ⟨g, 0, none⟩), .string (⟨#[59]⟩ : ByteArray)] rfl zq1 ?_; (with_reducible refine (rr_want.calls g s0_0 t722 t723 t724 t725 (⟨#[59]⟩ : ByteArray) t727 t728 t729 t730 w0 _ ?side1 ?side2 A5.out).mono ?_); (case side1 => exact zq6); (case side2 => exact zq17); rintro e w14 ⟨rfl, hi, hb, hk⟩; refine ⟨_, rfl, ?_⟩; replace BK711 := za (KeepBut.blk hk (g' := gb711) (o := .cells #[.string (⟨#[]⟩ : ByteArray), .int .i64 0, .slice none 0 0, .slice none 0 0, .slice none 0 0] 39 (0, 0)) (by (with_reducible repeat (first | refine blk_drewN ?_ _ | refine blk_drew ?_ | refine blk_alloc ?_ _)); refine blk_far ?_ NB711_726.out _; (with_reducible repeat (first | refine blk_drewN ?_ _ | refine blk_drew ?_ | refine blk_alloc ?_ _)); refine blk_far ?_ NB711_726.out _; (with_reducible repeat (first | refine blk_drewN ?_ _ | refine blk_drew ?_ | refine blk_alloc ?_ _)); refine blk_far ?_ NB711_726.out _; (with_reducible repeat (first | refine blk_drewN ?_ _ | refine blk_drew ?_ | refine blk_alloc ?_ _)); refine blk_far ?_ NB711_726.out _; (with_reducible repeat (first | refine blk_drewN ?_ _ | refine blk_drew ?_ | refine blk_alloc ?_ _)); refine blk_far ?_ NB711_726.out _; (with_reducible repeat (first | refine blk_drewN ?_ _ | refine blk_drew ?_ | refine blk_alloc ?_ _)); exact BK711.out) NB711_0.out (by simp)); replace BK726 := za (KeepBut.blk hk (g' := gb726) (o := .cells #[.string t721, .int .i64 t716, .slice none 0 0, .slice none 0 0, .slice none 0 0] 39 (0, 0)) (by (with_reducible repeat (first | refine blk_drewN ?_ _ | refine blk_drew ?_ | refine blk_alloc ?_ _)); refine blk_put (cs := #[.string t721, .int .i64 t716, .slice none 0 0, .slice none 0 0, .slice none 0 0]) ?_ 4 _ rfl; (with_reducible repeat (first | refine blk_drewN ?_ _ | refine blk_drew ?_ | refine blk_alloc ?_ _)); refine blk_put (cs := #[.string t721, .int .i64 t716, .slice none 0 0, .slice none 0 0, .slice none 0 0]) ?_ 3 _ rfl; (with_reducible repeat (first | refine blk_drewN ?_ _ | refine blk_drew ?_ | refine blk_alloc ?_ _)); refine blk_put (cs := #[.string t721, .int .i64 t716, .slice none 0 0, .slice none 0 0, .slice none 0 0]) ?_ 2 _ rfl; (with_reducible repeat (first | refine blk_drewN ?_ _ | refine blk_drew ?_ | refine blk_alloc ?_ _)); refine blk_put (cs := #[.string t721, .int .i64 0, .slice none 0 0, .slice none 0 0, .slice none 0 0]) ?_ 1 _ rfl; (with_reducible repeat (first | refine blk_drewN ?_ _ | refine blk_drew ?_ | refine blk_alloc ?_ _)); refine blk_put (cs := #[.string (⟨#[]⟩ : ByteArray), .int .i64 0, .slice none 0 0, .slice none 0 0, .slice none 0 0]) ?_ 0 _ rfl; (with_reducible repeat (first | refine blk_drewN ?_ _ | refine blk_drew ?_ | refine blk_alloc ?_ _)); exact BK726.out) NB726_0.out (by simp)); replace HK := za (KeepBut.trans zq15 hk (.inl rfl)); replace HB := za (hb); replace HI0 := za (hi); (try clear hb hk hi)))
 (try simp only [Act.put, List.setIfInBounds_toArray, List.set_cons_zero, List.set_cons_succ])
 go_loopg [] k (fun kq w' => ∃ (x1001_1 : Int) (x1002_1 : Int) (x1003_1 : Int) (x1004_1 : Int) (x727002_1 : List (S116)) (u727002 : Value), Aside0 (rr_module.l0 kq s0_0 x1001_1 x1002_1 x1003_1 x1004_1 t721 t716 x727002_1 = some (r1, r2, r3, r4, r5, r6, r7, r8, r9)) ∧ Aside0 (kq ≤ k) ∧ Aside0 (Kd.R k116 116 w' w.heap.size (fun _ => True) u727002 x727002_1) ∧ Aside0 (w'.heap[gb711]? = some (.cells #[.string (⟨#[]⟩ : ByteArray), .int .i64 0, (.slice none 0 0), (.slice none 0 0), (.slice none 0 0)] 39 (0, 0))) ∧ Aside0 (w'.heap[gb726]? = some (.cells #[.string t721, .int .i64 t716, u727002, (.slice none 0 0), (.slice none 0 0)] 39 (0, 0))) ∧ Aside0 (IsS83 w0 w' g s0_0 x1001_1 x1002_1 x1003_1 x1004_1) ∧ Aside0 (KeepBut w w' g none) ∧ Aside0 (Below w0.heap.size w0 w'))
 case atStart => exact ⟨(t727), (t728), (t729), (t730), (([] : List (S116))), (.slice none 0 0), H', ⟨Nat.le_refl _⟩, ⟨zq36⟩, ⟨zq60⟩, ⟨zq61⟩, ⟨zq6⟩, ⟨zq15⟩, ⟨zq17⟩⟩
 case round =>
  clear H'
  obtain ⟨x1001_1, x1002_1, x1003_1, x1004_1, x727002_1, u727002, HA, HK1, HO_727002, BK711, BK726, HI0, HK, HB⟩ := hrel
  cases gk with
  | zero => exact absurd HA.out (by simp [rr_module.l0])
  | succ k1 =>
   have H := HA.out
   clear HA
   simp only [rr_module.l0] at H
   replace H := Option.bind_eq_some_iff.mp H
   obtain ⟨⟨t731, t732, t733, t734, t735⟩, A150, H⟩ := H
   (try dsimp only at H)
   have A15 := za A150
   clear A150
   by_cases c16 : t731 = true
   ·
    subst c16
    rw [if_pos rfl] at H
    replace H := Option.bind_eq_some_iff.mp H
    obtain ⟨⟨t736, t737, t738, t739, t740⟩, A170, H⟩ := H
    (try dsimp only at H)
    have A17 := za A170
    clear A170
    replace H := Option.bind_eq_some_iff.mp H
    obtain ⟨⟨t741, t742, t743, t744, t745⟩, A180, H⟩ := H
    (try dsimp only at H)
    have A18 := za A180
    clear A180
    by_cases c19 : x727002_1.length < 5864062014805
    ·
     rw [if_pos c19] at H
     have LMc19 := za c19
     clear c19
     obtain ⟨y746, hy746⟩ : ∃ y_ : List (S116), y_ = (x727002_1 ++ [(⟨t741, t736⟩ : S116)]) := ⟨_, rfl⟩
     replace H : ((rr_want.f s0_0 t742 t743 t744 t745 (⟨#[59]⟩ : ByteArray)).bind fun bt749 => (rr_module.l0 k1 s0_0 bt749.1 bt749.2.1 bt749.2.2.1 bt749.2.2.2 t721 t716 y746)) = some (r1, r2, r3, r4, r5, r6, r7, r8, r9) := by first | (rw [hy746]; with_reducible exact H) | (have H2_ := (Option.bind_some _ _).symm.trans H; rw [hy746]; with_reducible exact H2_) | (have H2_ := (Option.bind_some _ _).symm.trans H; with_reducible exact H2_) | with_reducible exact H | (rw [hy746]; exact H) | exact H
     have Ny746 := za hy746
     clear hy746
     replace H := Option.bind_eq_some_iff.mp H
     obtain ⟨⟨t749, t750, t751, t752⟩, A200, H⟩ := H
     (try dsimp only at H)
     have A20 := za A200
     clear A200
     have H' := za H
     clear H
     try go_wp2_with (first | ((with_reducible refine gate_callee (f := 48) rfl ?_); refine goesL_ (some 14) rfl rfl Try.func48 zq13 rfl #[.pointer (some ⟨g, 0, none⟩), .string (⟨#[105, 109, 112, 111, 114, 116]⟩ : ByteArray)] rfl zq1 ?_; (with_reducible refine (rr_take.calls g s0_0 x1001_1 x1002_1 x1003_1 x1004_1 (⟨#[105, 109, 112, 111, 114, 116]⟩ : ByteArray) true t732 t733 t734 t735 w0 _ ?side1 ?side2 A15.out).mono ?_); (case side1 => exact zq6); (case side2 => exact zq17); rintro e w21 ⟨rfl, hi, hb, hk⟩; refine ⟨_, rfl, ?_⟩; replace HO_727002 := za (Kd.R_mono (Kd.R_keep (IsS83.apart (show IsS83 w0 _ g s0_0 x1001_1 x1002_1 x1003_1 x1004_1 from zq6) (zr HO_727002.out) (by decide)) hk (fun _ h => h.2)) (fun _ h => h.1)); replace BK711 := za (KeepBut.blk hk (g' := gb711) (zb BK711.out) NB711_0.out (by simp)); replace BK726 := za (KeepBut.blk hk (g' := gb726) (zb BK726.out) NB726_0.out (by simp)); replace HK := za (KeepBut.trans zq15 hk (.inl rfl)); replace HB := za (hb); replace HI0 := za (hi); (try clear hb hk hi)))
     replace HO_727002 := za (Kd.R_drew HO_727002.out)
     replace BK711 := za (blk_drew BK711.out)
     replace BK726 := za (blk_drew BK726.out)
     replace HI0 := za (IsS83.drew HI0.out)
     replace HK := za (keep_drew HK.out)
     replace HB := za (below_drew1 HB.out)
     refine start_ (n := 11) (S := fun w' => w'.cell? ⟨gb726, 0, none⟩ = some (.string t721) ∧ w'.cell? ⟨gb726, 1, none⟩ = some (.int .i64 t716) ∧ w'.cell? ⟨gb726, 2, none⟩ = some (u727002) ∧ w'.cell? ⟨gb726, 3, none⟩ = some (.slice none 0 0) ∧ w'.cell? ⟨gb726, 4, none⟩ = some (.slice none 0 0)) (ds := [10]) #[false, false, false, false, false, false, false, false, false, false, false] zq13 rfl rfl ⟨(blk_cell BK726.out 0).trans rfl, (blk_cell BK726.out 1).trans rfl, (blk_cell BK726.out 2).trans rfl, (blk_cell BK726.out 3).trans rfl, (blk_cell BK726.out 4).trans rfl⟩ (fun hHeld => ?_); refine with_tabW rr_module.tab5 rr_module.bits5 (fun HT_ HW_ => ?_)
     generalize w21.drew = w22 at HO_727002 BK711 BK726 HI0 HK HB hHeld ⊢
     refine pure_ (i := 0) (N := some 15) #[true, false, false, false, false, false, false, false, false, false, false] rfl rfl (any_of HT_.out zq13) (fun _ _ _ h => h) (Or.inl ⟨by rfl, zpv⟩) zpw ?_
     refine pure_ (i := 2) (N := some 17) #[true, false, true, false, false, false, false, false, false, false, false] rfl rfl (any_of HT_.out zq13) (fun _ _ _ h => h) (Or.inl ⟨by rfl, zpv⟩) zpw ?_
     refine pure_ (i := 4) (N := some 19) #[true, false, true, false, true, false, false, false, false, false, false] rfl rfl (any_of HT_.out zq13) (fun _ _ _ h => h) (Or.inl ⟨by rfl, zpv⟩) zpw ?_
     refine take_ (i := 1) (N := some 16) (v := ?_) (a' := ?_) #[true, true, true, false, true, false, false, false, false, false, false] rfl rfl (take_ofW HT_.out HW_.out zq13) (fun _ _ _ h => h) (Or.inl ⟨by rfl, ?_⟩) hHeld ?_ ?_
     rotate_left
     ·
      rintro w' ⟨s0, s1, s2, s3, s4⟩
      go_simp
      with_reducible rfl
     rotate_left
     ·
      simp only [Act.put, List.setIfInBounds_toArray, List.set_cons_zero, List.set_cons_succ, i64_w, i32_w]
      rfl
     refine one_ (i := 3) (N := some 18) #[true, true, true, true, true, false, false, false, false, false, false] rfl rfl (one_of HT_.out zq13) (by decide) (fun K hK => ?_)
     refine goes_ Try.func46 zq13 rfl #[.pointer (some ⟨g, 0, none⟩)] (by rfl) rfl rfl zq1 ?_
     with_reducible refine (rr_here.calls g s0_0 t732 t733 t734 t735 t736 t737 t738 t739 t740 w0 _ ?side1 ?side2 A17.out).mono ?_
     (case side1 => exact zq6)
     (case side2 => exact zq17)
     rintro e w23 ⟨rfl, hi, hb, hk⟩
     refine ⟨_, rfl, ?_⟩
     replace HO_727002 := za (Kd.R_mono (Kd.R_keep (IsS83.apart (show IsS83 w0 _ g s0_0 t732 t733 t734 t735 from zq6) (zr HO_727002.out) (by decide)) hk (fun _ h => h.2)) (fun _ h => h.1))
     replace BK711 := za (KeepBut.blk hk (g' := gb711) (zb BK711.out) NB711_0.out (by simp))
     replace BK726 := za (KeepBut.blk hk (g' := gb726) (zb BK726.out) NB726_0.out (by simp))
     replace HK := za (KeepBut.trans zq15 hk (.inl rfl))
     replace HB := za (hb)
     replace HI0 := za (hi)
     refine hK.out _ _ ⟨(blk_cell BK726.out 0).trans rfl, (blk_cell BK726.out 1).trans rfl, (blk_cell BK726.out 2).trans rfl, (blk_cell BK726.out 3).trans rfl, (blk_cell BK726.out 4).trans rfl⟩ (fun hHeld => ?_)
     clear hK K
     refine norm_ (a' := ?_) ?_ ?_
     rotate_left
     ·
      show Act.put _ (some 18) _ = _
      simp only [Act.put, List.setIfInBounds_toArray, List.set_cons_zero, List.set_cons_succ, i64_w, i32_w]
      rfl
     refine one_ (i := 5) (N := some 20) #[true, true, true, true, true, true, false, false, false, false, false] rfl rfl (one_of HT_.out zq13) (by decide) (fun K hK => ?_)
     refine goes_ Try.func47 zq13 rfl #[.pointer (some ⟨g, 0, none⟩)] (by rfl) rfl rfl zq1 ?_
     with_reducible refine (rr_name.calls g s0_0 t737 t738 t739 t740 t741 t742 t743 t744 t745 w0 _ ?side1 ?side2 A18.out).mono ?_
     (case side1 => exact zq6)
     (case side2 => exact zq17)
     rintro e w24 ⟨rfl, hi, hb, hk⟩
     refine ⟨_, rfl, ?_⟩
     replace HO_727002 := za (Kd.R_mono (Kd.R_keep (IsS83.apart (show IsS83 w0 _ g s0_0 t737 t738 t739 t740 from zq6) (zr HO_727002.out) (by decide)) hk (fun _ h => h.2)) (fun _ h => h.1))
     replace BK711 := za (KeepBut.blk hk (g' := gb711) (zb BK711.out) NB711_0.out (by simp))
     replace BK726 := za (KeepBut.blk hk (g' := gb726) (zb BK726.out) NB726_0.out (by simp))
     replace HK := za (KeepBut.trans zq15 hk (.inl rfl))
     replace HB := za (hb)
     replace HI0 := za (hi)
     refine hK.out _ _ ⟨(blk_cell BK726.out 0).trans rfl, (blk_cell BK726.out 1).trans rfl, (blk_cell BK726.out 2).trans rfl, (blk_cell BK726.out 3).trans rfl, (blk_cell BK726.out 4).trans rfl⟩ (fun hHeld => ?_)
     clear hK K
     refine norm_ (a' := ?_) ?_ ?_
     rotate_left
     ·
      show Act.put _ (some 20) _ = _
      simp only [Act.put, List.setIfInBounds_toArray, List.set_cons_zero, List.set_cons_succ, i64_w, i32_w]
      rfl
     refine pure_ (i := 6) (N := some 21) #[true, true, true, true, true, true, true, false, false, false, false] rfl rfl (any_of HT_.out zq13) (fun _ _ _ h => h) (Or.inl ⟨by rfl, zpv⟩) zpw ?_
     refine one_ (i := 7) (N := some 22) #[true, true, true, true, true, true, true, true, false, false, false] rfl rfl (one_of HT_.out zq13) (by decide) (fun K hK => ?_)
     refine value_ (w1 := ?_) (v := ?_) (by rfl) rfl ?_ ?_
     rotate_left 2
     ·
      go_simp
      constructor
      ·
       rfl
      ·
       rfl
     refine hK.out _ _ ⟨(blk_cell (blk_alloc BK726.out _) 0).trans rfl, (blk_cell (blk_alloc BK726.out _) 1).trans rfl, (blk_cell (blk_alloc BK726.out _) 2).trans rfl, (blk_cell (blk_alloc BK726.out _) 3).trans rfl, (blk_cell (blk_alloc BK726.out _) 4).trans rfl⟩ (fun hHeld => ?_)
     clear hK K
     refine norm_ (a' := ?_) ?_ ?_
     rotate_left
     ·
      show Act.put _ (some 22) _ = _
      simp only [Act.put, List.setIfInBounds_toArray, List.set_cons_zero, List.set_cons_succ, i64_w, i32_w]
      rfl
     refine one_ (i := 8) (N := some 23) #[true, true, true, true, true, true, true, true, true, false, false] rfl rfl (one_of HT_.out zq13) (by decide) (fun K hK => ?_)
     refine Kd.R_append_step k116 w.heap.size (by rfl) (.tmp 16) (.tmp 22) 35 116 (.agg #[(.string ⟨#[]⟩), (.int .i64 0)]) 24 rfl Try.underlying35 info116 rfl (by decide) (by omega) u727002 x727002_1 (⟨t741, t736⟩ : S116) [.string t741, .int .i64 t736] (fun _ => True) (fun _ => False) rfl rfl ?aP (fun _ hk => hk.elim) ?aF ?aO (Below.refl _ _) ?aS ?aL ?_
     (case aP => exact k116_mkM _ _ _ (⟨t741, t736⟩ : S116))
     (case aF => exact (fun _ _ => trivial))
     (case aO => exact (zr HO_727002.out))
     (case aS => exact (keep_size (w := w) (g := g) (row := none) zq15))
     (case aL => have := LMc19.out; omega)
     intro v747 w25 ho hb hg hat
     rw [← Ny746.out] at ho
     replace BK711 := za (blk_grown (g := gb711) (zb BK711.out) hg (Kd.R_ne HO_727002.out BK711.out (by decide)))
     replace BK726 := za (blk_grown (g := gb726) (zb BK726.out) hg (Kd.R_ne HO_727002.out BK726.out (by decide)))
     replace HB := za (below_weaken zq17 HL.out hb)
     replace HI0 := za (IsS83.grown zq6 hg (IsS83.own_ne HI0.out HO_727002.out (by decide)))
     replace HK := za (KeepBut.trans zq15 (KeepBut.of_grown hg g) (Kd.R_base2 HO_727002.out))
     have HO748 := za (ho)
     clear HO_727002
     clear ho hb hg hat
     obtain ⟨Ao26, co26, eo26⟩ := Kd.R_slice HO748.out
     (first | subst eo26 | (injection eo26 with f1_ f2_ f3_; have f4_ := f1_.symm; have f5_ := f3_.symm; clear f1_ f2_ f3_; subst f4_; subst f5_))
     refine hK.out _ _ ⟨(blk_cell BK726.out 0).trans rfl, (blk_cell BK726.out 1).trans rfl, (blk_cell BK726.out 2).trans rfl, (blk_cell BK726.out 3).trans rfl, (blk_cell BK726.out 4).trans rfl⟩ (fun hHeld => ?_)
     clear hK K
     refine norm_ (a' := ?_) ?_ ?_
     rotate_left
     ·
      show Act.put _ (some 23) _ = _
      simp only [Act.put, List.setIfInBounds_toArray, List.set_cons_zero, List.set_cons_succ, i64_w, i32_w]
      rfl
     refine pure_ (i := 9) (N := some 24) #[true, true, true, true, true, true, true, true, true, true, false] rfl rfl (any_of HT_.out zq13) (fun _ _ _ h => h) (Or.inl ⟨by rfl, zpv⟩) zpw ?_
     refine last_ (i := 10) (N := none) #[true, true, true, true, true, true, true, true, true, true, true] rfl rfl (one_of HT_.out zq13) (by decide) (fun K hK => ?_)
     have hs27 : w25.cell? ⟨gb726, 2, none⟩ = some (u727002) := (blk_cell BK726.out 2).trans rfl
     have hfs27 := blk_frozen BK726.out 2
     have hns27_0 := NB711_726.out
     have hms27_0 := NB726_711.out
     refine skip_ (w1 := ?_) (by rfl) rfl ?_ ?_
     rotate_left
     ·
      go_simp
      rfl
     refine hK.out _ _ ?_
     clear hK K
     refine done_ (done_of HT_.out zq13) ?_
     try go_wp2_with (first | ((with_reducible refine gate_callee (f := 45) rfl ?_); refine goesL_ (some 26) rfl rfl Try.func45 zq13 rfl #[.pointer (some ⟨g, 0, none⟩), .string (⟨#[59]⟩ : ByteArray)] rfl zq1 ?_; (with_reducible refine (rr_want.calls g s0_0 t742 t743 t744 t745 (⟨#[59]⟩ : ByteArray) t749 t750 t751 t752 w0 _ ?side1 ?side2 A20.out).mono ?_); (case side1 => exact zq6); (case side2 => exact zq17); rintro e w28 ⟨rfl, hi, hb, hk⟩; refine ⟨_, rfl, ?_⟩; replace BK711 := za (KeepBut.blk hk (g' := gb711) (o := .cells #[.string (⟨#[]⟩ : ByteArray), .int .i64 0, .slice none 0 0, .slice none 0 0, .slice none 0 0] 39 (0, 0)) zq68 NB711_0.out (by simp)); replace HO748 := za (Kd.R_mono (Kd.R_keep (IsS83.apart (show IsS83 w0 _ g s0_0 t742 t743 t744 t745 from zq6) (by (with_reducible repeat (first | apply Kd.R_alloc | apply Kd.R_drewN | apply Kd.R_drew)); exact (Kd.R_mono (Kd.R_far (p := ⟨gb726, 2, none⟩) (Kd.R_types HO748.out BK726.out (by decide)) (fun _ hk => hk.2) (.slice Ao26 y746.length co26)) (fun _ h_ => h_.1))) (by decide)) hk (fun _ h => h.2)) (fun _ h => h.1)); replace BK726 := za (KeepBut.blk hk (g' := gb726) (o := .cells #[.string t721, .int .i64 t716, .slice Ao26 y746.length co26, .slice none 0 0, .slice none 0 0] 39 (0, 0)) (by (with_reducible repeat (first | refine blk_drewN ?_ _ | refine blk_drew ?_ | refine blk_alloc ?_ _)); refine blk_put (cs := #[.string t721, .int .i64 t716, u727002, .slice none 0 0, .slice none 0 0]) ?_ 2 _ rfl; (with_reducible repeat (first | refine blk_drewN ?_ _ | refine blk_drew ?_ | refine blk_alloc ?_ _)); exact BK726.out) NB726_0.out (by simp)); replace HK := za (KeepBut.trans zq15 hk (.inl rfl)); replace HB := za (hb); replace HI0 := za (hi); (try clear hb hk hi)))
     go_roundg k1
     case measure => have := HK1.out; omega
     case rel => exact ⟨(t749), (t750), (t751), (t752), (y746), (.slice Ao26 y746.length co26), H', ⟨by have := HK1.out; omega⟩, ⟨by (with_reducible repeat (first | apply Kd.R_alloc | apply Kd.R_drewN | apply Kd.R_drew)); exact HO748.out⟩, ⟨zq60⟩, ⟨zq61⟩, ⟨zq6⟩, ⟨zq15⟩, ⟨zq17⟩⟩
    ·
     rw [if_neg c19] at H
     exact absurd H (by simp)
   ·
    replace c16 := Bool.eq_false_iff.mpr c16
    subst c16
    rw [if_neg (show ¬ (false = true) by decide)] at H
    have H' := za H
    clear H
    go_wp2_with (first | ((with_reducible refine gate_callee (f := 48) rfl ?_); refine goesL_ (some 14) rfl rfl Try.func48 zq13 rfl #[.pointer (some ⟨g, 0, none⟩), .string (⟨#[105, 109, 112, 111, 114, 116]⟩ : ByteArray)] rfl zq1 ?_; (with_reducible refine (rr_take.calls g s0_0 x1001_1 x1002_1 x1003_1 x1004_1 (⟨#[105, 109, 112, 111, 114, 116]⟩ : ByteArray) false t732 t733 t734 t735 w0 _ ?side1 ?side2 A15.out).mono ?_); (case side1 => exact zq6); (case side2 => exact zq17); rintro e w29 ⟨rfl, hi, hb, hk⟩; refine ⟨_, rfl, ?_⟩; replace HO_727002 := za (Kd.R_mono (Kd.R_keep (IsS83.apart (show IsS83 w0 _ g s0_0 x1001_1 x1002_1 x1003_1 x1004_1 from zq6) (zr HO_727002.out) (by decide)) hk (fun _ h => h.2)) (fun _ h => h.1)); replace BK711 := za (KeepBut.blk hk (g' := gb711) (zb BK711.out) NB711_0.out (by simp)); replace BK726 := za (KeepBut.blk hk (g' := gb726) (zb BK726.out) NB726_0.out (by simp)); replace HK := za (KeepBut.trans zq15 hk (.inl rfl)); replace HB := za (hb); replace HI0 := za (hi); (try clear hb hk hi)))
    (try simp only [Act.put, List.setIfInBounds_toArray, List.set_cons_zero, List.set_cons_succ])
    go_loopg [] k1 (fun kq w' => ∃ (x1001_2 : Int) (x1002_2 : Int) (x1003_2 : Int) (x1004_2 : Int) (x727004_2 : List (S44)) (u727004 : Value), Aside0 (rr_module.l1 kq s0_0 x1001_2 x1002_2 x1003_2 x1004_2 t721 t716 x727002_1 x727004_2 = some (r1, r2, r3, r4, r5, r6, r7, r8, r9)) ∧ Aside0 (kq ≤ k1) ∧ Aside0 (Kd.R k116 116 w' w.heap.size (fun _ => True) u727002 x727002_1) ∧ Aside0 (Kd.R k44 44 w' w.heap.size (fun _ => True) u727004 x727004_2) ∧ Aside0 (w'.heap[gb711]? = some (.cells #[.string (⟨#[]⟩ : ByteArray), .int .i64 0, (.slice none 0 0), (.slice none 0 0), (.slice none 0 0)] 39 (0, 0))) ∧ Aside0 (w'.heap[gb726]? = some (.cells #[.string t721, .int .i64 t716, u727002, (.slice none 0 0), u727004] 39 (0, 0))) ∧ Aside0 (IsS83 w0 w' g s0_0 x1001_2 x1002_2 x1003_2 x1004_2) ∧ Aside0 (KeepBut w w' g none) ∧ Aside0 (Below w0.heap.size w0 w'))
    case atStart => exact ⟨(t732), (t733), (t734), (t735), (([] : List (S44))), (.slice none 0 0), H', ⟨Nat.le_refl _⟩, ⟨zq81⟩, ⟨zq36⟩, ⟨zq60⟩, ⟨zq61⟩, ⟨zq6⟩, ⟨zq15⟩, ⟨zq17⟩⟩
    case round =>
     clear H'
     obtain ⟨x1001_2, x1002_2, x1003_2, x1004_2, x727004_2, u727004, HA, HK2, HO_727002, HO_727004, BK711, BK726, HI0, HK, HB⟩ := hrel
     cases gk with
     | zero => exact absurd HA.out (by simp [rr_module.l1])
     | succ k2 =>
      have H := HA.out
      clear HA
      simp only [rr_module.l1] at H
      have HC30 := za H
      clear H
      go_upto_region 7 with (fail)
      go_cut [45] (fun v45 wc => ∃ (kq : Nat) (x45_29 : Bool), v45 = .bool x45_29 ∧ Aside0 (rr_module.j2 kq x45_29 s0_0 x1001_2 x1002_2 x1003_2 x1004_2 t721 t716 x727002_1 x727004_2 = some (r1, r2, r3, r4, r5, r6, r7, r8, r9)) ∧ Aside0 (kq ≤ k2) ∧ Aside0 (Kd.R k116 116 wc w.heap.size (fun _ => True) u727002 x727002_1) ∧ Aside0 (Kd.R k44 44 wc w.heap.size (fun _ => True) u727004 x727004_2) ∧ Aside0 (wc.heap[gb711]? = some (.cells #[.string (⟨#[]⟩ : ByteArray), .int .i64 0, (.slice none 0 0), (.slice none 0 0), (.slice none 0 0)] 39 (0, 0))) ∧ Aside0 (wc.heap[gb726]? = some (.cells #[.string t721, .int .i64 t716, u727002, (.slice none 0 0), u727004] 39 (0, 0))) ∧ Aside0 (IsS83 w0 wc g s0_0 x1001_2 x1002_2 x1003_2 x1004_2) ∧ Aside0 (KeepBut w wc g none) ∧ Aside0 (Below w0.heap.size w0 wc))
      case first =>
       have H := HC30.out
       clear HC30
       by_cases c31 : x1003_2 = 0
       ·
        rw [if_pos c31] at H
        have c31b0 := beq_iff_eq.mpr c31
        have c31b1 := bne_eq_false_iff_eq.mpr c31
        clear c31
        (first | rw [c31b0] | (simp only [i64_w, i32_w]; rw [c31b0]) | skip)
        by_cases c32 : 0 ≤ x1001_2
        ·
         rw [if_pos c32] at H
         have c32b0 := decide_eq_true c32
         clear c32
         by_cases c33 : x1001_2 < (s0_0.length : Int)
         ·
          rw [if_pos c33] at H
          have c33b0 := decide_eq_true c33
          clear c33
          have H' := za H
          clear H
          try go_wp2
          replace HO_727002 := za (Kd.R_drew HO_727002.out)
          replace HO_727004 := za (Kd.R_drew HO_727004.out)
          replace BK711 := za (blk_drew BK711.out)
          replace BK726 := za (blk_drew BK726.out)
          replace HI0 := za (IsS83.drew HI0.out)
          replace HK := za (keep_drew HK.out)
          replace HB := za (below_drew1 HB.out)
          obtain ⟨ASz35_0, cSz35_0, HGz35, hgz35, HSz35_0⟩ := HI0.out
          have hx35_0 := cellS83_0 HGz35
          have hx35_1 := cellS83_1 HGz35
          have hx35_2 := cellS83_2 HGz35
          have hx35_3 := cellS83_3 HGz35
          have hx35_4 := cellS83_4 HGz35
          clear HGz35 hgz35
          have p753 : 0 ≤ (x1001_2 : Int) := of_decide_eq_true zq9
          have q753 : x1001_2 < (s0_0.length : Int) := of_decide_eq_true zq9
          obtain ⟨ad753, e753, hx753_0, hx753_1, hx753_2⟩ := at_T110 HSz35_0 x1001_2 p753 q753
          have hw753_2 := hx753_2
          have hw753_1 := hx753_1
          have hw753_0 := hx753_0
          cases e753
          replace hx753_0 := pw_cell_below HB.out hx753_0
          replace hx753_1 := pw_cell_below HB.out hx753_1
          replace hx753_2 := pw_cell_below HB.out hx753_2
          replace p753 := eq_true p753
          replace q753 := eq_true q753
          refine start_ (n := 19) (S := fun w' => w'.cell? ⟨g, 0, none⟩ = some (.slice (some ad753) s0_0.length cSz35_0) ∧ w'.cell? ⟨g, 1, none⟩ = some (.int .i64 x1001_2) ∧ w'.cell? ⟨g, 2, none⟩ = some (.int .i64 x1002_2) ∧ w'.cell? ⟨g, 3, none⟩ = some (.int .i64 x1003_2) ∧ w'.cell? ⟨g, 4, none⟩ = some (.int .i64 x1004_2) ∧ w'.cell? (ad753.add ((x1001_2).toNat * 3)) = some (.int .i64 ((rd_T110 s0_0 x1001_2).f0)) ∧ w'.cell? ⟨(ad753.add ((x1001_2).toNat * 3)).block, (ad753.add ((x1001_2).toNat * 3)).off + 1, none⟩ = some (.string ((rd_T110 s0_0 x1001_2).f1)) ∧ w'.cell? ⟨(ad753.add ((x1001_2).toNat * 3)).block, (ad753.add ((x1001_2).toNat * 3)).off + 2, none⟩ = some (.int .i64 ((rd_T110 s0_0 x1001_2).f2))) (ds := []) #[false, false, false, false, false, false, false, false, false, false, false, false, false, false, false, false, false, false, false] zq13 rfl rfl ⟨hx35_0, hx35_1, hx35_2, hx35_3, hx35_4, hx753_0, hx753_1, hx753_2⟩ (fun hHeld => ?_); refine with_tabW rr_module.tab7 rr_module.bits7 (fun HT_ HW_ => ?_)
          generalize wr.drew = w34 at HO_727002 HO_727004 BK711 BK726 HI0 HK HB hx35_0 hx35_1 hx35_2 hx35_3 hx35_4 hx753_0 hx753_1 hx753_2 hHeld ⊢
          refine pure_ (i := 0) (N := some 27) #[true, false, false, false, false, false, false, false, false, false, false, false, false, false, false, false, false, false, false] rfl rfl (any_of HT_.out zq13) (fun _ _ _ h => h) (Or.inl ⟨by rfl, zpv⟩) zpw ?_
          refine pure_ (i := 1) (N := some 28) #[true, true, false, false, false, false, false, false, false, false, false, false, false, false, false, false, false, false, false] rfl rfl (any_of HT_.out zq13) (fun _ _ _ h => h) (Or.inl ⟨by rfl, zpv⟩) zpw ?_
          refine pure_ (i := 2) (N := some 29) #[true, true, true, false, false, false, false, false, false, false, false, false, false, false, false, false, false, false, false] rfl rfl (any_of HT_.out zq13) (fun _ _ _ h => h) (Or.inl ⟨by rfl, zpv⟩) zpw ?_
          refine take_ (i := 3) (N := some 30) (v := ?_) (a' := ?_) #[true, true, true, true, false, false, false, false, false, false, false, false, false, false, false, false, false, false, false] rfl rfl (take_ofW HT_.out HW_.out zq13) (fun _ _ _ h => h) (Or.inl ⟨by rfl, ?_⟩) hHeld ?_ ?_
          rotate_left
          ·
           rintro w' ⟨s0, s1, s2, s3, s4, s5, s6, s7⟩
           go_simp
           with_reducible rfl
          rotate_left
          ·
           simp only [Act.put, List.setIfInBounds_toArray, List.set_cons_zero, List.set_cons_succ, i64_w, i32_w]
           rfl
          refine pure_ (i := 4) (N := some 31) #[true, true, true, true, true, false, false, false, false, false, false, false, false, false, false, false, false, false, false] rfl rfl (any_of HT_.out zq13) (fun _ _ _ h => h) (Or.inl ⟨by rfl, zpv⟩) zpw ?_
          refine pure_ (i := 5) (N := some 32) #[true, true, true, true, true, true, false, false, false, false, false, false, false, false, false, false, false, false, false] rfl rfl (any_of HT_.out zq13) (fun _ _ _ h => h) (Or.inl ⟨by rfl, zpv⟩) zpw ?_
          refine pure_ (i := 6) (N := some 33) #[true, true, true, true, true, true, true, false, false, false, false, false, false, false, false, false, false, false, false] rfl rfl (any_of HT_.out zq13) (fun _ _ _ h => h) (Or.inl ⟨by rfl, zpv⟩) zpw ?_
          refine pure_ (i := 7) (N := some 34) #[true, true, true, true, true, true, true, true, false, false, false, false, false, false, false, false, false, false, false] rfl rfl (any_of HT_.out zq13) (fun _ _ _ h => h) (Or.inl ⟨by rfl, zpv⟩) zpw ?_
          refine pure_ (i := 8) (N := some 35) #[true, true, true, true, true, true, true, true, true, false, false, false, false, false, false, false, false, false, false] rfl rfl (any_of HT_.out zq13) (fun _ _ _ h => h) (Or.inl ⟨by rfl, zpv⟩) zpw ?_
          refine pure_ (i := 10) (N := some 37) #[true, true, true, true, true, true, true, true, true, false, true, false, false, false, false, false, false, false, false] rfl rfl (any_of HT_.out zq13) (fun _ _ _ h => h) (Or.inl ⟨by rfl, zpv⟩) zpw ?_
          refine pure_ (i := 11) (N := some 38) #[true, true, true, true, true, true, true, true, true, false, true, true, false, false, false, false, false, false, false] rfl rfl (any_of HT_.out zq13) (fun _ _ _ h => h) (Or.inl ⟨by rfl, zpv⟩) zpw ?_
          refine pure_ (i := 12) (N := some 39) #[true, true, true, true, true, true, true, true, true, false, true, true, true, false, false, false, false, false, false] rfl rfl (any_of HT_.out zq13) (fun _ _ _ h => h) (Or.inl ⟨by rfl, zpv⟩) zpw ?_
          refine take_ (i := 9) (N := some 36) (v := ?_) (a' := ?_) #[true, true, true, true, true, true, true, true, true, true, true, true, true, false, false, false, false, false, false] rfl rfl (take_ofW HT_.out HW_.out zq13) (fun _ _ _ h => h) (Or.inl ⟨by rfl, ?_⟩) hHeld ?_ ?_
          rotate_left
          ·
           rintro w' ⟨s0, s1, s2, s3, s4, s5, s6, s7⟩
           go_simp
           with_reducible rfl
          rotate_left
          ·
           simp only [Act.put, List.setIfInBounds_toArray, List.set_cons_zero, List.set_cons_succ, i64_w, i32_w]
           rfl
          refine take_ (i := 13) (N := some 40) (v := ?_) (a' := ?_) #[true, true, true, true, true, true, true, true, true, true, true, true, true, true, false, false, false, false, false] rfl rfl (take_ofW HT_.out HW_.out zq13) (fun _ _ _ h => h) (Or.inl ⟨by rfl, ?_⟩) hHeld ?_ ?_
          rotate_left
          ·
           rintro w' ⟨s0, s1, s2, s3, s4, s5, s6, s7⟩
           go_simp
           with_reducible rfl
          rotate_left
          ·
           simp only [Act.put, List.setIfInBounds_toArray, List.set_cons_zero, List.set_cons_succ, i64_w, i32_w]
           rfl
          refine pure_ (i := 14) (N := some 41) #[true, true, true, true, true, true, true, true, true, true, true, true, true, true, true, false, false, false, false] rfl rfl (any_of HT_.out zq13) (fun _ _ _ h => h) (Or.inl ⟨by rfl, zpv⟩) zpw ?_
          refine pure_ (i := 15) (N := some 42) #[true, true, true, true, true, true, true, true, true, true, true, true, true, true, true, true, false, false, false] rfl rfl (any_of HT_.out zq13) (fun _ _ _ h => h) (Or.inl ⟨by rfl, zpv⟩) zpw ?_
          refine take_ (i := 16) (N := some 43) (v := ?_) (a' := ?_) #[true, true, true, true, true, true, true, true, true, true, true, true, true, true, true, true, true, false, false] rfl rfl (take_ofW HT_.out HW_.out zq13) (fun _ _ _ h => h) (Or.inl ⟨by rfl, ?_⟩) hHeld ?_ ?_
          rotate_left
          ·
           rintro w' ⟨s0, s1, s2, s3, s4, s5, s6, s7⟩
           go_simp
           with_reducible rfl
          rotate_left
          ·
           simp only [Act.put, List.setIfInBounds_toArray, List.set_cons_zero, List.set_cons_succ, i64_w, i32_w]
           rfl
          refine pure_ (i := 17) (N := some 44) #[true, true, true, true, true, true, true, true, true, true, true, true, true, true, true, true, true, true, false] rfl rfl (any_of HT_.out zq13) (fun _ _ _ h => h) (Or.inl ⟨by rfl, zpv⟩) zpw ?_
          refine pure_ (i := 18) (N := some 45) #[true, true, true, true, true, true, true, true, true, true, true, true, true, true, true, true, true, true, true] rfl rfl (any_of HT_.out zq13) (fun _ _ _ h => h) (Or.inl ⟨by rfl, zpv⟩) zpw ?_
          refine done_ (done_of HT_.out zq13) ?_
          try go_wp2
          go_meet
          case rel => exact ⟨_, ((((rd_T110 s0_0 x1001_2).f0) != 0)), zq26, H', ⟨by have := HK1.out; have := HK2.out; first | omega | exact Nat.le_refl _⟩, ⟨zq81⟩, ⟨by (with_reducible repeat (first | apply Kd.R_alloc | apply Kd.R_drewN | apply Kd.R_drew)); exact HO_727004.out⟩, ⟨zq60⟩, ⟨zq61⟩, ⟨zq6⟩, ⟨zq15⟩, ⟨zq17⟩⟩
         ·
          rw [if_neg c33] at H
          exact absurd H (by simp)
        ·
         rw [if_neg c32] at H
         exact absurd H (by simp)
       ·
        rw [if_neg c31] at H
        have c31b0 := beq_eq_false_iff_ne.mpr c31
        have c31b1 := bne_iff_ne.mpr c31
        (first | rw [c31b0] | (simp only [i64_w, i32_w]; rw [c31b0]) | skip)
        have H' := za H
        clear H
        try go_wp2
        replace HO_727002 := za (Kd.R_drew HO_727002.out)
        replace HO_727004 := za (Kd.R_drew HO_727004.out)
        replace BK711 := za (blk_drew BK711.out)
        replace BK726 := za (blk_drew BK726.out)
        replace HI0 := za (IsS83.drew HI0.out)
        replace HK := za (keep_drew HK.out)
        replace HB := za (below_drew1 HB.out)
        obtain ⟨ASz37_0, cSz37_0, HGz37, hgz37, HSz37_0⟩ := HI0.out
        have hx37_0 := cellS83_0 HGz37
        have hx37_1 := cellS83_1 HGz37
        have hx37_2 := cellS83_2 HGz37
        have hx37_3 := cellS83_3 HGz37
        have hx37_4 := cellS83_4 HGz37
        clear HGz37 hgz37
        refine start_ (n := 19) (S := fun w' => w'.cell? ⟨g, 0, none⟩ = some (.slice ASz37_0 s0_0.length cSz37_0) ∧ w'.cell? ⟨g, 1, none⟩ = some (.int .i64 x1001_2) ∧ w'.cell? ⟨g, 2, none⟩ = some (.int .i64 x1002_2) ∧ w'.cell? ⟨g, 3, none⟩ = some (.int .i64 x1003_2) ∧ w'.cell? ⟨g, 4, none⟩ = some (.int .i64 x1004_2)) (ds := []) #[false, false, false, false, false, false, false, false, false, false, false, false, false, false, false, false, false, false, false] zq13 rfl rfl ⟨hx37_0, hx37_1, hx37_2, hx37_3, hx37_4⟩ (fun hHeld => ?_); refine with_tabW rr_module.tab7 rr_module.bits7 (fun HT_ HW_ => ?_)
        generalize wr.drew = w36 at HO_727002 HO_727004 BK711 BK726 HI0 HK HB hx37_0 hx37_1 hx37_2 hx37_3 hx37_4 hHeld ⊢
        refine pure_ (i := 0) (N := some 27) #[true, false, false, false, false, false, false, false, false, false, false, false, false, false, false, false, false, false, false] rfl rfl (any_of HT_.out zq13) (fun _ _ _ h => h) (Or.inl ⟨by rfl, zpv⟩) zpw ?_
        refine pure_ (i := 1) (N := some 28) #[true, true, false, false, false, false, false, false, false, false, false, false, false, false, false, false, false, false, false] rfl rfl (any_of HT_.out zq13) (fun _ _ _ h => h) (Or.inl ⟨by rfl, zpv⟩) zpw ?_
        refine pure_ (i := 2) (N := some 29) #[true, true, true, false, false, false, false, false, false, false, false, false, false, false, false, false, false, false, false] rfl rfl (any_of HT_.out zq13) (fun _ _ _ h => h) (Or.inl ⟨by rfl, zpv⟩) zpw ?_
        refine take_ (i := 3) (N := some 30) (v := ?_) (a' := ?_) #[true, true, true, true, false, false, false, false, false, false, false, false, false, false, false, false, false, false, false] rfl rfl (take_ofW HT_.out HW_.out zq13) (fun _ _ _ h => h) (Or.inl ⟨by rfl, ?_⟩) hHeld ?_ ?_
        rotate_left
        ·
         rintro w' ⟨s0, s1, s2, s3, s4⟩
         go_simp
         with_reducible rfl
        rotate_left
        ·
         simp only [Act.put, List.setIfInBounds_toArray, List.set_cons_zero, List.set_cons_succ, i64_w, i32_w]
         rfl
        refine pure_ (i := 4) (N := some 31) #[true, true, true, true, true, false, false, false, false, false, false, false, false, false, false, false, false, false, false] rfl rfl (any_of HT_.out zq13) (fun _ _ _ h => h) (Or.inl ⟨by rfl, zpv⟩) zpw ?_
        refine pure_ (i := 5) (N := some 32) #[true, true, true, true, true, true, false, false, false, false, false, false, false, false, false, false, false, false, false] rfl rfl (any_of HT_.out zq13) (fun _ _ _ h => h) (Or.inl ⟨by rfl, zpv⟩) zpw ?_
        refine pure_ (i := 6) (N := some 33) (v := undef) (a' := ?_) #[true, true, true, true, true, true, true, false, false, false, false, false, false, false, false, false, false, false, false] rfl rfl (any_of HT_.out zq13) (fun _ _ _ h => h) (Or.inr ⟨by rfl, rfl⟩) ?_ ?_
        rotate_left
        ·
         simp only [Act.put, List.setIfInBounds_toArray, List.set_cons_zero, List.set_cons_succ, i64_w, i32_w]
         rfl
        refine pure_ (i := 7) (N := some 34) (v := undef) (a' := ?_) #[true, true, true, true, true, true, true, true, false, false, false, false, false, false, false, false, false, false, false] rfl rfl (any_of HT_.out zq13) (fun _ _ _ h => h) (Or.inr ⟨by rfl, rfl⟩) ?_ ?_
        rotate_left
        ·
         simp only [Act.put, List.setIfInBounds_toArray, List.set_cons_zero, List.set_cons_succ, i64_w, i32_w]
         rfl
        refine pure_ (i := 8) (N := some 35) (v := undef) (a' := ?_) #[true, true, true, true, true, true, true, true, true, false, false, false, false, false, false, false, false, false, false] rfl rfl (any_of HT_.out zq13) (fun _ _ _ h => h) (Or.inr ⟨by rfl, rfl⟩) ?_ ?_
        rotate_left
        ·
         simp only [Act.put, List.setIfInBounds_toArray, List.set_cons_zero, List.set_cons_succ, i64_w, i32_w]
         rfl
        refine pure_ (i := 9) (N := some 36) (v := undef) (a' := ?_) #[true, true, true, true, true, true, true, true, true, true, false, false, false, false, false, false, false, false, false] rfl rfl (any_of HT_.out zq13) (fun _ _ _ h => h) (Or.inr ⟨by rfl, rfl⟩) ?_ ?_
        rotate_left
        ·
         simp only [Act.put, List.setIfInBounds_toArray, List.set_cons_zero, List.set_cons_succ, i64_w, i32_w]
         rfl
        refine pure_ (i := 10) (N := some 37) (v := undef) (a' := ?_) #[true, true, true, true, true, true, true, true, true, true, true, false, false, false, false, false, false, false, false] rfl rfl (any_of HT_.out zq13) (fun _ _ _ h => h) (Or.inr ⟨by rfl, rfl⟩) ?_ ?_
        rotate_left
        ·
         simp only [Act.put, List.setIfInBounds_toArray, List.set_cons_zero, List.set_cons_succ, i64_w, i32_w]
         rfl
        refine pure_ (i := 11) (N := some 38) (v := undef) (a' := ?_) #[true, true, true, true, true, true, true, true, true, true, true, true, false, false, false, false, false, false, false] rfl rfl (any_of HT_.out zq13) (fun _ _ _ h => h) (Or.inr ⟨by rfl, rfl⟩) ?_ ?_
        rotate_left
        ·
         simp only [Act.put, List.setIfInBounds_toArray, List.set_cons_zero, List.set_cons_succ, i64_w, i32_w]
         rfl
        refine pure_ (i := 12) (N := some 39) (v := undef) (a' := ?_) #[true, true, true, true, true, true, true, true, true, true, true, true, true, false, false, false, false, false, false] rfl rfl (any_of HT_.out zq13) (fun _ _ _ h => h) (Or.inr ⟨by rfl, rfl⟩) ?_ ?_
        rotate_left
        ·
         simp only [Act.put, List.setIfInBounds_toArray, List.set_cons_zero, List.set_cons_succ, i64_w, i32_w]
         rfl
        refine pure_ (i := 13) (N := some 40) (v := undef) (a' := ?_) #[true, true, true, true, true, true, true, true, true, true, true, true, true, true, false, false, false, false, false] rfl rfl (any_of HT_.out zq13) (fun _ _ _ h => h) (Or.inr ⟨by rfl, rfl⟩) ?_ ?_
        rotate_left
        ·
         simp only [Act.put, List.setIfInBounds_toArray, List.set_cons_zero, List.set_cons_succ, i64_w, i32_w]
         rfl
        refine pure_ (i := 14) (N := some 41) (v := undef) (a' := ?_) #[true, true, true, true, true, true, true, true, true, true, true, true, true, true, true, false, false, false, false] rfl rfl (any_of HT_.out zq13) (fun _ _ _ h => h) (Or.inr ⟨by rfl, rfl⟩) ?_ ?_
        rotate_left
        ·
         simp only [Act.put, List.setIfInBounds_toArray, List.set_cons_zero, List.set_cons_succ, i64_w, i32_w]
         rfl
        refine pure_ (i := 15) (N := some 42) (v := undef) (a' := ?_) #[true, true, true, true, true, true, true, true, true, true, true, true, true, true, true, true, false, false, false] rfl rfl (any_of HT_.out zq13) (fun _ _ _ h => h) (Or.inr ⟨by rfl, rfl⟩) ?_ ?_
        rotate_left
        ·
         simp only [Act.put, List.setIfInBounds_toArray, List.set_cons_zero, List.set_cons_succ, i64_w, i32_w]
         rfl
        refine pure_ (i := 16) (N := some 43) (v := undef) (a' := ?_) #[true, true, true, true, true, true, true, true, true, true, true, true, true, true, true, true, true, false, false] rfl rfl (any_of HT_.out zq13) (fun _ _ _ h => h) (Or.inr ⟨by rfl, rfl⟩) ?_ ?_
        rotate_left
        ·
         simp only [Act.put, List.setIfInBounds_toArray, List.set_cons_zero, List.set_cons_succ, i64_w, i32_w]
         rfl
        refine pure_ (i := 17) (N := some 44) (v := undef) (a' := ?_) #[true, true, true, true, true, true, true, true, true, true, true, true, true, true, true, true, true, true, false] rfl rfl (any_of HT_.out zq13) (fun _ _ _ h => h) (Or.inr ⟨by rfl, rfl⟩) ?_ ?_
        rotate_left
        ·
         simp only [Act.put, List.setIfInBounds_toArray, List.set_cons_zero, List.set_cons_succ, i64_w, i32_w]
         rfl
        refine pure_ (i := 18) (N := some 45) #[true, true, true, true, true, true, true, true, true, true, true, true, true, true, true, true, true, true, true] rfl rfl (any_of HT_.out zq13) (fun _ _ _ h => h) (Or.inl ⟨by rfl, zpv⟩) zpw ?_
        refine done_ (done_of HT_.out zq13) ?_
        try go_wp2
        go_meet
        case rel => exact ⟨_, (false), zq26, H', ⟨by have := HK1.out; have := HK2.out; first | omega | exact Nat.le_refl _⟩, ⟨zq81⟩, ⟨by (with_reducible repeat (first | apply Kd.R_alloc | apply Kd.R_drewN | apply Kd.R_drew)); exact HO_727004.out⟩, ⟨zq60⟩, ⟨zq61⟩, ⟨zq6⟩, ⟨zq15⟩, ⟨zq17⟩⟩
      case rest =>
       clear HC30
       obtain ⟨kq, x45_29, rfl, HA, HJ29, HO_727002, HO_727004, BK711, BK726, HI0, HK, HB⟩ := hcut
       cases kq with
       | zero => exact absurd HA.out (by simp [rr_module.j2])
       | succ kj29 =>
        have H := HA.out
        clear HA
        simp only [rr_module.j2] at H
        by_cases c38 : x45_29 = true
        ·
         subst c38
         rw [if_pos rfl] at H
         replace H := Option.bind_eq_some_iff.mp H
         obtain ⟨⟨t754, t755, t756, t757, t758⟩, A390, H⟩ := H
         (try dsimp only at H)
         have A39 := za A390
         clear A390
         by_cases c40 : t754 = true
         ·
          subst c40
          rw [if_pos rfl] at H
          exact absurd H (by simp)
         ·
          replace c40 := Bool.eq_false_iff.mpr c40
          subst c40
          rw [if_neg (show ¬ (false = true) by decide)] at H
          replace H := Option.bind_eq_some_iff.mp H
          obtain ⟨⟨t759, t760, t761, t762, t763⟩, A410, H⟩ := H
          (try dsimp only at H)
          have A41 := za A410
          clear A410
          by_cases c42 : t759 = true
          ·
           subst c42
           rw [if_pos rfl] at H
           replace H := Option.bind_eq_some_iff.mp H
           obtain ⟨⟨t764, t765, t768, t769, t770, t771, t774, t777, t778, t779, t780, t781⟩, A430, H⟩ := H
           (try dsimp only at H)
           have A43 := za A430
           clear A430
           by_cases c44 : x727004_2.length < 1034834473200
           ·
            rw [if_pos c44] at H
            have LMc44 := za c44
            clear c44
            obtain ⟨y782, hy782⟩ : ∃ y_ : List (S44), y_ = (x727004_2 ++ [(⟨t764, t765, t768, t769, t770, t771, t774, t777⟩ : S44)]) := ⟨_, rfl⟩
            replace H : (rr_module.l1 kj29 s0_0 t778 t779 t780 t781 t721 t716 x727002_1 y782) = some (r1, r2, r3, r4, r5, r6, r7, r8, r9) := by first | (rw [hy782]; with_reducible exact H) | (have H2_ := (Option.bind_some _ _).symm.trans H; rw [hy782]; with_reducible exact H2_) | (have H2_ := (Option.bind_some _ _).symm.trans H; with_reducible exact H2_) | with_reducible exact H | (rw [hy782]; exact H) | exact H
            have Ny782 := za hy782
            clear hy782
            have H' := za H
            clear H
            try go_wp2_with (first | ((with_reducible refine gate_callee (f := 48) rfl ?_); refine goesL_ (some 47) rfl rfl Try.func48 zq13 rfl #[.pointer (some ⟨g, 0, none⟩), .string (⟨#[118, 97, 114]⟩ : ByteArray)] rfl zq1 ?_; (with_reducible refine (rr_take.calls g s0_0 x1001_2 x1002_2 x1003_2 x1004_2 (⟨#[118, 97, 114]⟩ : ByteArray) false t755 t756 t757 t758 w0 _ ?side1 ?side2 A39.out).mono ?_); (case side1 => exact zq6); (case side2 => exact zq17); rintro e w45 ⟨rfl, hi, hb, hk⟩; refine ⟨_, rfl, ?_⟩; replace HO_727002 := za (Kd.R_mono (Kd.R_keep (IsS83.apart (show IsS83 w0 _ g s0_0 x1001_2 x1002_2 x1003_2 x1004_2 from zq6) (zr HO_727002.out) (by decide)) hk (fun _ h => h.2)) (fun _ h => h.1)); replace HO_727004 := za (Kd.R_mono (Kd.R_keep (IsS83.apart (show IsS83 w0 _ g s0_0 x1001_2 x1002_2 x1003_2 x1004_2 from zq6) (zr HO_727004.out) (by decide)) hk (fun _ h => h.2)) (fun _ h => h.1)); replace BK711 := za (KeepBut.blk hk (g' := gb711) (zb BK711.out) NB711_0.out (by simp)); replace BK726 := za (KeepBut.blk hk (g' := gb726) (zb BK726.out) NB726_0.out (by simp)); replace HK := za (KeepBut.trans zq15 hk (.inl rfl)); replace HB := za (hb); replace HI0 := za (hi); (try clear hb hk hi)) | ((with_reducible refine gate_callee (f := 48) rfl ?_); refine goesL_ (some 56) rfl rfl Try.func48 zq13 rfl #[.pointer (some ⟨g, 0, none⟩), .string (⟨#[112, 114, 111, 99]⟩ : ByteArray)] rfl zq1 ?_; (with_reducible refine (rr_take.calls g s0_0 t755 t756 t757 t758 (⟨#[112, 114, 111, 99]⟩ : ByteArray) true t760 t761 t762 t763 w0 _ ?side1 ?side2 A41.out).mono ?_); (case side1 => exact zq6); (case side2 => exact zq17); rintro e w46 ⟨rfl, hi, hb, hk⟩; refine ⟨_, rfl, ?_⟩; replace HO_727002 := za (Kd.R_mono (Kd.R_keep (IsS83.apart (show IsS83 w0 _ g s0_0 t755 t756 t757 t758 from zq6) (zr HO_727002.out) (by decide)) hk (fun _ h => h.2)) (fun _ h => h.1)); replace HO_727004 := za (Kd.R_mono (Kd.R_keep (IsS83.apart (show IsS83 w0 _ g s0_0 t755 t756 t757 t758 from zq6) (zr HO_727004.out) (by decide)) hk (fun _ h => h.2)) (fun _ h => h.1)); replace BK711 := za (KeepBut.blk hk (g' := gb711) (zb BK711.out) NB711_0.out (by simp)); replace BK726 := za (KeepBut.blk hk (g' := gb726) (zb BK726.out) NB726_0.out (by simp)); replace HK := za (KeepBut.trans zq15 hk (.inl rfl)); replace HB := za (hb); replace HI0 := za (hi); (try clear hb hk hi)))
            replace HO_727002 := za (Kd.R_drew HO_727002.out)
            replace HO_727004 := za (Kd.R_drew HO_727004.out)
            replace BK711 := za (blk_drew BK711.out)
            replace BK726 := za (blk_drew BK726.out)
            replace HI0 := za (IsS83.drew HI0.out)
            replace HK := za (keep_drew HK.out)
            replace HB := za (below_drew1 HB.out)
            refine start_ (n := 8) (S := fun w' => w'.cell? ⟨gb726, 0, none⟩ = some (.string t721) ∧ w'.cell? ⟨gb726, 1, none⟩ = some (.int .i64 t716) ∧ w'.cell? ⟨gb726, 2, none⟩ = some (u727002) ∧ w'.cell? ⟨gb726, 3, none⟩ = some (.slice none 0 0) ∧ w'.cell? ⟨gb726, 4, none⟩ = some (u727004)) (ds := [7]) #[false, false, false, false, false, false, false, false] zq13 rfl rfl ⟨(blk_cell BK726.out 0).trans rfl, (blk_cell BK726.out 1).trans rfl, (blk_cell BK726.out 2).trans rfl, (blk_cell BK726.out 3).trans rfl, (blk_cell BK726.out 4).trans rfl⟩ (fun hHeld => ?_); refine with_tabW rr_module.tab11 rr_module.bits11 (fun HT_ HW_ => ?_)
            generalize w46.drew = w47 at HO_727002 HO_727004 BK711 BK726 HI0 HK HB hHeld ⊢
            refine pure_ (i := 0) (N := some 57) #[true, false, false, false, false, false, false, false] rfl rfl (any_of HT_.out zq13) (fun _ _ _ h => h) (Or.inl ⟨by rfl, zpv⟩) zpw ?_
            refine pure_ (i := 2) (N := some 59) #[true, false, true, false, false, false, false, false] rfl rfl (any_of HT_.out zq13) (fun _ _ _ h => h) (Or.inl ⟨by rfl, zpv⟩) zpw ?_
            refine take_ (i := 1) (N := some 58) (v := ?_) (a' := ?_) #[true, true, true, false, false, false, false, false] rfl rfl (take_ofW HT_.out HW_.out zq13) (fun _ _ _ h => h) (Or.inl ⟨by rfl, ?_⟩) hHeld ?_ ?_
            rotate_left
            ·
             rintro w' ⟨s0, s1, s2, s3, s4⟩
             go_simp
             with_reducible rfl
            rotate_left
            ·
             simp only [Act.put, List.setIfInBounds_toArray, List.set_cons_zero, List.set_cons_succ, i64_w, i32_w]
             rfl
            refine one_ (i := 3) (N := some 60) #[true, true, true, true, false, false, false, false] rfl rfl (one_of HT_.out zq13) (by decide) (fun K hK => ?_)
            refine goes_ Try.func50 zq13 rfl #[.pointer (some ⟨g, 0, none⟩)] (by rfl) rfl rfl zq1 ?_
            with_reducible refine (rr_proc.calls kj29 g s0_0 t760 t761 t762 t763 t764 t765 t768 t769 t770 t771 t774 t777 t778 t779 t780 t781 w0 _ ?side1 ?side2 A43.out).mono ?_
            (case side1 => exact zq6)
            (case side2 => exact zq17)
            rintro e w48 ⟨v766, v772, v775, rfl, ho0, ho1, ho2, hi, hb, hk⟩
            refine ⟨_, rfl, ?_⟩
            replace HO_727002 := za (Kd.R_mono (Kd.R_keep (IsS83.apart (show IsS83 w0 _ g s0_0 t760 t761 t762 t763 from zq6) (zr HO_727002.out) (by decide)) hk (fun _ h => h.2)) (fun _ h => h.1))
            replace HO_727004 := za (Kd.R_mono (Kd.R_told (Kd.R_told (Kd.R_told (Kd.R_oldK (IsS83.apart (show IsS83 w0 _ g s0_0 t760 t761 t762 t763 from zq6) (zr HO_727004.out) (by decide)) hk) (Kd.R_base ho0)) (Kd.R_base ho1)) (Kd.R_base ho2)) (fun _ h_ => h_.1))
            replace BK711 := za (KeepBut.blk hk (g' := gb711) (zb BK711.out) NB711_0.out (by simp))
            replace BK726 := za (KeepBut.blk hk (g' := gb726) (zb BK726.out) NB726_0.out (by simp))
            have HO767 := za (Kd.R_lower ho0 (keep_size (w := w) (g := g) (row := none) zq15))
            have HO773 := za (Kd.R_lower ho1 (keep_size (w := w) (g := g) (row := none) zq15))
            have HO776 := za (Kd.R_lower ho2 (keep_size (w := w) (g := g) (row := none) zq15))
            replace HK := za (KeepBut.trans zq15 hk (.inl rfl))
            replace HB := za (hb)
            replace HI0 := za (hi)
            obtain ⟨Ao50, co50, eo50⟩ := Kd.R_slice HO767.out
            (first | subst eo50 | (injection eo50 with f1_ f2_ f3_; have f4_ := f1_.symm; have f5_ := f3_.symm; clear f1_ f2_ f3_; subst f4_; subst f5_))
            obtain ⟨Ao51, co51, eo51⟩ := Kd.R_slice HO773.out
            (first | subst eo51 | (injection eo51 with f1_ f2_ f3_; have f4_ := f1_.symm; have f5_ := f3_.symm; clear f1_ f2_ f3_; subst f4_; subst f5_))
            obtain ⟨Ao52, co52, eo52⟩ := Kd.R_slice HO776.out
            (first | subst eo52 | (injection eo52 with f1_ f2_ f3_; have f4_ := f1_.symm; have f5_ := f3_.symm; clear f1_ f2_ f3_; subst f4_; subst f5_))
            refine hK.out _ _ ⟨(blk_cell BK726.out 0).trans rfl, (blk_cell BK726.out 1).trans rfl, (blk_cell BK726.out 2).trans rfl, (blk_cell BK726.out 3).trans rfl, (blk_cell BK726.out 4).trans rfl⟩ (fun hHeld => ?_)
            clear hK K
            refine norm_ (a' := ?_) ?_ ?_
            rotate_left
            ·
             show Act.put _ (some 60) _ = _
             simp only [Act.put, List.setIfInBounds_toArray, List.set_cons_zero, List.set_cons_succ, i64_w, i32_w]
             rfl
            refine one_ (i := 4) (N := some 61) #[true, true, true, true, true, false, false, false] rfl rfl (one_of HT_.out zq13) (by decide) (fun K hK => ?_)
            refine value_ (w1 := ?_) (v := ?_) (by rfl) rfl ?_ ?_
            rotate_left 2
            ·
             go_simp
             constructor
             ·
              rfl
             ·
              rfl
            refine hK.out _ _ ⟨(blk_cell (blk_alloc BK726.out _) 0).trans rfl, (blk_cell (blk_alloc BK726.out _) 1).trans rfl, (blk_cell (blk_alloc BK726.out _) 2).trans rfl, (blk_cell (blk_alloc BK726.out _) 3).trans rfl, (blk_cell (blk_alloc BK726.out _) 4).trans rfl⟩ (fun hHeld => ?_)
            clear hK K
            refine norm_ (a' := ?_) ?_ ?_
            rotate_left
            ·
             show Act.put _ (some 61) _ = _
             simp only [Act.put, List.setIfInBounds_toArray, List.set_cons_zero, List.set_cons_succ, i64_w, i32_w]
             rfl
            refine one_ (i := 5) (N := some 62) #[true, true, true, true, true, true, false, false] rfl rfl (one_of HT_.out zq13) (by decide) (fun K hK => ?_)
            refine Kd.R_append_step k44 w.heap.size (by rfl) (.tmp 58) (.tmp 61) 37 44 (.agg #[(.string ⟨#[]⟩), (.slice none 0 0), (.bool false), (.string ⟨#[]⟩), (.string ⟨#[]⟩), (.slice none 0 0), (.slice none 0 0), (.int .i64 0)]) 136 rfl Try.underlying37 info44 rfl (by decide) (by omega) u727004 x727004_2 (⟨t764, t765, t768, t769, t770, t771, t774, t777⟩ : S44) [.string t764, .slice Ao50 t765.length co50, .bool t768, .string t769, .string t770, .slice Ao51 t771.length co51, .slice Ao52 t774.length co52, .int .i64 t777] (fun _ => True) (fun k_ => ((fun _ => True)) k_ ∧ some k_ ≠ (u727004 : Value).ownBlock) rfl rfl ?aP (fun _ hk => hk) ?aF ?aO (Below.refl _ _) ?aS ?aL ?_
            (case aP => exact k44_mkM _ _ _ (⟨t764, t765, t768, t769, t770, t771, t774, t777⟩ : S44) (Kd.R_mono (Kd.R_apart' (HO767.out) (Kd.R_typed HO_727004.out) (by decide)) (fun k_ hk => ⟨trivial, hk.2⟩)) (Kd.R_mono (Kd.R_apart' (HO773.out) (Kd.R_typed HO_727004.out) (by decide)) (fun k_ hk => ⟨trivial, hk.2⟩)) (Kd.R_mono (Kd.R_apart' (HO776.out) (Kd.R_typed HO_727004.out) (by decide)) (fun k_ hk => ⟨trivial, hk.2⟩)))
            (case aF => exact (fun _ _ => trivial))
            (case aO => exact (by (with_reducible repeat (first | apply Kd.R_alloc | apply Kd.R_drewN | apply Kd.R_drew)); exact Kd.R_mono HO_727004.out (fun _ hk => trivial)))
            (case aS => exact (keep_size (w := w) (g := g) (row := none) zq15))
            (case aL => have := LMc44.out; omega)
            intro v783 w49 ho hb hg hat
            rw [← Ny782.out] at ho
            replace HO_727002 := za (Kd.R_over' (zr HO_727002.out) (Kd.R_typed (zr HO_727004.out)) (by decide) hg)
            replace BK711 := za (blk_grown (g := gb711) (zb BK711.out) hg (Kd.R_ne HO_727004.out BK711.out (by decide)))
            replace BK726 := za (blk_grown (g := gb726) (zb BK726.out) hg (Kd.R_ne HO_727004.out BK726.out (by decide)))
            replace HB := za (below_weaken zq17 HL.out hb)
            replace HI0 := za (IsS83.grown zq6 hg (IsS83.own_ne HI0.out HO_727004.out (by decide)))
            replace HK := za (KeepBut.trans zq15 (KeepBut.of_grown hg g) (Kd.R_base2 HO_727004.out))
            have HO784 := za (ho)
            clear HO_727004 HO767 HO773 HO776
            clear ho hb hg hat
            obtain ⟨Ao53, co53, eo53⟩ := Kd.R_slice HO784.out
            (first | subst eo53 | (injection eo53 with f1_ f2_ f3_; have f4_ := f1_.symm; have f5_ := f3_.symm; clear f1_ f2_ f3_; subst f4_; subst f5_))
            refine hK.out _ _ ⟨(blk_cell BK726.out 0).trans rfl, (blk_cell BK726.out 1).trans rfl, (blk_cell BK726.out 2).trans rfl, (blk_cell BK726.out 3).trans rfl, (blk_cell BK726.out 4).trans rfl⟩ (fun hHeld => ?_)
            clear hK K
            refine norm_ (a' := ?_) ?_ ?_
            rotate_left
            ·
             show Act.put _ (some 62) _ = _
             simp only [Act.put, List.setIfInBounds_toArray, List.set_cons_zero, List.set_cons_succ, i64_w, i32_w]
             rfl
            refine pure_ (i := 6) (N := some 63) #[true, true, true, true, true, true, true, false] rfl rfl (any_of HT_.out zq13) (fun _ _ _ h => h) (Or.inl ⟨by rfl, zpv⟩) zpw ?_
            refine last_ (i := 7) (N := none) #[true, true, true, true, true, true, true, true] rfl rfl (one_of HT_.out zq13) (by decide) (fun K hK => ?_)
            have hs54 : w49.cell? ⟨gb726, 4, none⟩ = some (u727004) := (blk_cell BK726.out 4).trans rfl
            have hfs54 := blk_frozen BK726.out 4
            have hns54_0 := NB711_726.out
            have hms54_0 := NB726_711.out
            refine skip_ (w1 := ?_) (by rfl) rfl ?_ ?_
            rotate_left
            ·
             go_simp
             rfl
            refine hK.out _ _ ?_
            clear hK K
            refine done_ (done_of HT_.out zq13) ?_
            try go_wp2
            go_roundg kj29
            case measure => have := HK1.out; have := HK2.out; have := HJ29.out; omega
            case rel => exact ⟨(t778), (t779), (t780), (t781), (y782), (.slice Ao53 y782.length co53), H', ⟨by have := HK1.out; have := HK2.out; have := HJ29.out; omega⟩, ⟨by (with_reducible repeat (first | apply Kd.R_alloc | apply Kd.R_drewN | apply Kd.R_drew)); exact Kd.R_mono (Kd.R_far (p := ⟨gb726, 4, none⟩) (Kd.R_types HO_727002.out BK726.out (by decide)) (fun _ hk => hk.2) (.slice Ao53 y782.length co53)) (fun _ hk => trivial)⟩, ⟨by (with_reducible repeat (first | apply Kd.R_alloc | apply Kd.R_drewN | apply Kd.R_drew)); exact Kd.R_mono (Kd.R_far (p := ⟨gb726, 4, none⟩) (Kd.R_types HO784.out BK726.out (by decide)) (fun _ hk => hk.2) (.slice Ao53 y782.length co53)) (fun _ hk => trivial)⟩, ⟨zq68⟩, ⟨by (with_reducible repeat (first | refine blk_drewN ?_ _ | refine blk_drew ?_ | refine blk_alloc ?_ _)); refine blk_put (cs := #[.string t721, .int .i64 t716, u727002, .slice none 0 0, u727004]) ?_ 4 _ rfl; (with_reducible repeat (first | refine blk_drewN ?_ _ | refine blk_drew ?_ | refine blk_alloc ?_ _)); exact BK726.out⟩, ⟨zq6⟩, ⟨zq15⟩, ⟨zq17⟩⟩
           ·
            rw [if_neg c44] at H
            exact absurd H (by simp)
          ·
           replace c42 := Bool.eq_false_iff.mpr c42
           subst c42
           rw [if_neg (show ¬ (false = true) by decide)] at H
           exact absurd H (by simp)
        ·
         replace c38 := Bool.eq_false_iff.mpr c38
         subst c38
         rw [if_neg (show ¬ (false = true) by decide)] at H
         simp only [Option.some.injEq, Prod.mk.injEq] at H
         obtain ⟨rfl, rfl, rfl, rfl, rfl, rfl, rfl, rfl, rfl⟩ := H
         have hnb55 := NB726_711.out
         have hnc55 := NB711_726.out
         have hnb56 := NB726_0.out
         have hnc56 := NB0_726.out
         obtain ⟨hcz57_0, hcz57_1, hcz57_2, hcz57_3, hcz57_4⟩ := zc5 BK726.out
         obtain ⟨hfz57_0, hfz57_1, hfz57_2, hfz57_3, hfz57_4⟩ := zf5 BK726.out
         have hnb58 := NB711_0.out
         have hnc58 := NB0_711.out
         obtain ⟨hcz59_0, hcz59_1, hcz59_2, hcz59_3, hcz59_4⟩ := zc5 BK711.out
         obtain ⟨hfz59_0, hfz59_1, hfz59_2, hfz59_3, hfz59_4⟩ := zf5 BK711.out
         obtain ⟨Ao60, co60, eo60⟩ := Kd.R_slice HO_727002.out
         subst eo60
         obtain ⟨Ao61, co61, eo61⟩ := Kd.R_slice HO_727004.out
         subst eo61
         go_wp2
         refine bodyPost_ret (results_cell_row rfl _ _ gb711 39 #[.string t721, .int .i64 t716, .slice Ao60 x727002_1.length co60, .slice none 0 0, .slice Ao61 x727004_2.length co61] (0, 0) _ rfl (by (with_reducible repeat (first | refine blk_drewN ?_ _ | refine blk_drew ?_ | refine blk_alloc ?_ _)); refine blk_put (cs := #[.string t721, .int .i64 t716, .slice Ao60 x727002_1.length co60, .slice none 0 0, .slice none 0 0]) ?_ 4 _ rfl; (with_reducible repeat (first | refine blk_drewN ?_ _ | refine blk_drew ?_ | refine blk_alloc ?_ _)); refine blk_put (cs := #[.string t721, .int .i64 t716, .slice Ao60 x727002_1.length co60, .slice none 0 0, .slice none 0 0]) ?_ 3 _ rfl; (with_reducible repeat (first | refine blk_drewN ?_ _ | refine blk_drew ?_ | refine blk_alloc ?_ _)); refine blk_put (cs := #[.string t721, .int .i64 t716, .slice none 0 0, .slice none 0 0, .slice none 0 0]) ?_ 2 _ rfl; (with_reducible repeat (first | refine blk_drewN ?_ _ | refine blk_drew ?_ | refine blk_alloc ?_ _)); refine blk_put (cs := #[.string t721, .int .i64 0, .slice none 0 0, .slice none 0 0, .slice none 0 0]) ?_ 1 _ rfl; (with_reducible repeat (first | refine blk_drewN ?_ _ | refine blk_drew ?_ | refine blk_alloc ?_ _)); refine blk_put (cs := #[.string (⟨#[]⟩ : ByteArray), .int .i64 0, .slice none 0 0, .slice none 0 0, .slice none 0 0]) ?_ 0 _ rfl; (with_reducible repeat (first | refine blk_drewN ?_ _ | refine blk_drew ?_ | refine blk_alloc ?_ _)); exact BK711.out) Try.underlying39 rfl zq13) rfl ?_
         exact ⟨_, _, _, zq19, by (with_reducible repeat (first | apply Kd.R_alloc | apply Kd.R_drewN | apply Kd.R_drew)); exact Kd.R_mono (Kd.R_far (p := ⟨gb711, 4, none⟩) (Kd.R_far (p := ⟨gb711, 3, none⟩) (Kd.R_far (p := ⟨gb711, 2, none⟩) (Kd.R_far (p := ⟨gb711, 1, none⟩) (Kd.R_far (p := ⟨gb711, 0, none⟩) (Kd.R_types HO_727002.out BK711.out (by decide)) (fun _ hk => hk.2) (.string t721)) (fun _ hk => hk.2) (.int .i64 t716)) (fun _ hk => hk.2) (.slice Ao60 x727002_1.length co60)) (fun _ hk => hk.2) (.slice none 0 0)) (fun _ hk => hk.2) (.slice Ao61 x727004_2.length co61)) (fun _ hk => trivial), zq36, by (with_reducible repeat (first | apply Kd.R_alloc | apply Kd.R_drewN | apply Kd.R_drew)); exact Kd.R_mono (Kd.R_far (p := ⟨gb711, 4, none⟩) (Kd.R_far (p := ⟨gb711, 3, none⟩) (Kd.R_far (p := ⟨gb711, 2, none⟩) (Kd.R_far (p := ⟨gb711, 1, none⟩) (Kd.R_far (p := ⟨gb711, 0, none⟩) (Kd.R_types HO_727004.out BK711.out (by decide)) (fun _ hk => hk.2) (.string t721)) (fun _ hk => hk.2) (.int .i64 t716)) (fun _ hk => hk.2) (.slice Ao60 x727002_1.length co60)) (fun _ hk => hk.2) (.slice none 0 0)) (fun _ hk => hk.2) (.slice Ao61 x727004_2.length co61)) (fun _ hk => trivial), zq6, zq17, zq15⟩
end Go.Proofs.Ytcjnhnnfoadklaa.QRunCalls
