import Derived.Test.YtcmpmlklednhbaaZEJx14
namespace Go.Proofs.Ytcmpmlklednhbaa.QEvalJoins
open Go.RowKit Go.Proofs.YtcmpmlklednhbaaW.PrintWords Go.Proofs.YtcmpmlklednhbaaW.PrintLast Go.Proofs.YtcmpmlklednhbaaW.PrintMore
set_option maxHeartbeats 8000000
set_option maxRecDepth 100000
attribute [local go_sem] max2_int min2_int max_two min_two max_three min_three max_four min_four
set_option linter.unusedVariables false
set_option linter.unusedSimpArgs false
mutual
def rr_module.l0 : Nat → List (S69) → Int → Int → Int → Int → ByteArray → Int → List (S75) → Option (ByteArray × Int × (List (S75)) × (List (S77)) × (List (S42)) × Int × Int × Int × Int)
 | 0, _, _, _, _, _, _, _, _ => none
 | k + 1, x1000, x1001, x1002, x1003, x1004, x888000, x888001, x888002 => (rr_take.f x1000 x1001 x1002 x1003 x1004 (⟨#[105, 109, 112, 111, 114, 116]⟩ : ByteArray)).bind fun bt892 => (if bt892.1 = true then ((rr_here.f x1000 bt892.2.1 bt892.2.2.1 bt892.2.2.2.1 bt892.2.2.2.2).bind fun bt897 => ((rr_name.f x1000 bt897.2.1 bt897.2.2.1 bt897.2.2.2.1 bt897.2.2.2.2).bind fun bt902 => (if x888002.length < 5864062014805 then ((rr_want.f x1000 bt902.2.1 bt902.2.2.1 bt902.2.2.2.1 bt902.2.2.2.2 (⟨#[59]⟩ : ByteArray)).bind fun bt910 => (rr_module.l0 k x1000 bt910.1 bt910.2.1 bt910.2.2.1 bt910.2.2.2 x888000 x888001 (x888002 ++ [(⟨bt902.1, bt897.1⟩ : S75)]))) else (none)))) else (rr_module.l1 k x1000 bt892.2.1 bt892.2.2.1 bt892.2.2.2.1 bt892.2.2.2.2 x888000 x888001 x888002 ([] : List (S77)) ([] : List (S42))))
def rr_module.l1 : Nat → List (S69) → Int → Int → Int → Int → ByteArray → Int → List (S75) → List (S77) → List (S42) → Option (ByteArray × Int × (List (S75)) × (List (S77)) × (List (S42)) × Int × Int × Int × Int)
 | 0, _, _, _, _, _, _, _, _, _, _ => none
 | k + 1, x1000, x1001, x1002, x1003, x1004, x888000, x888001, x888002, x888003, x888004 => if x1003 = 0 then (if 0 ≤ x1001 then (if x1001 < (x1000.length : Int) then (rr_module.j2 k (((rd_T69 x1000 x1001).f0) != 0) x1000 x1001 x1002 x1003 x1004 x888000 x888001 x888002 x888003 x888004) else (none)) else (none)) else (rr_module.j2 k false x1000 x1001 x1002 x1003 x1004 x888000 x888001 x888002 x888003 x888004)
def rr_module.j2 : Nat → Bool → List (S69) → Int → Int → Int → Int → ByteArray → Int → List (S75) → List (S77) → List (S42) → Option (ByteArray × Int × (List (S75)) × (List (S77)) × (List (S42)) × Int × Int × Int × Int)
 | 0, _, _, _, _, _, _, _, _, _, _, _ => none
 | k + 1, x45, x1000, x1001, x1002, x1003, x1004, x888000, x888001, x888002, x888003, x888004 => if x45 = true then ((rr_take.f x1000 x1001 x1002 x1003 x1004 (⟨#[118, 97, 114]⟩ : ByteArray)).bind fun bt915 => (if bt915.1 = true then ((rr_variable.f k x1000 bt915.2.1 bt915.2.2.1 bt915.2.2.2.1 bt915.2.2.2.2).bind fun bt920 => (if x888003.length < 2932031007402 then (rr_module.l1 k x1000 bt920.2.2.2.2.1 bt920.2.2.2.2.2.1 bt920.2.2.2.2.2.2.1 bt920.2.2.2.2.2.2.2 x888000 x888001 x888002 (x888003 ++ [(⟨bt920.1, bt920.2.1, bt920.2.2.1, bt920.2.2.2.1⟩ : S77)]) x888004) else (none))) else ((rr_take.f x1000 bt915.2.1 bt915.2.2.1 bt915.2.2.2.1 bt915.2.2.2.2 (⟨#[112, 114, 111, 99]⟩ : ByteArray)).bind fun bt931 => (if bt931.1 = true then ((rr_proc.f k x1000 bt931.2.1 bt931.2.2.1 bt931.2.2.2.1 bt931.2.2.2.2).bind fun bt936 => (if x888004.length < 1034834473200 then (rr_module.l1 k x1000 bt936.2.2.2.2.2.2.2.2.1 bt936.2.2.2.2.2.2.2.2.2.1 bt936.2.2.2.2.2.2.2.2.2.2.1 bt936.2.2.2.2.2.2.2.2.2.2.2 x888000 x888001 x888002 x888003 (x888004 ++ [(⟨bt936.1, bt936.2.1, bt936.2.2.1, bt936.2.2.2.1, bt936.2.2.2.2.1, bt936.2.2.2.2.2.1, bt936.2.2.2.2.2.2.1, bt936.2.2.2.2.2.2.2.1⟩ : S42)])) else (none))) else ((rr_fail.f x1000 bt931.2.1 bt931.2.2.1 bt931.2.2.2.1 bt931.2.2.2.2 11).bind fun bt957 => (rr_module.l1 k x1000 bt957.1 bt957.2.1 bt957.2.2.1 bt957.2.2.2 x888000 x888001 x888002 x888003 x888004)))))) else (some (x888000, x888001, x888002, x888003, x888004, x1001, x1002, x1003, x1004))
end
def rr_module.f (k : Nat) (s0_0 : List (S69)) (s0_1 : Int) (s0_2 : Int) (s0_3 : Int) (s0_4 : Int) : Option (ByteArray × Int × (List (S75)) × (List (S77)) × (List (S42)) × Int × Int × Int × Int) := (rr_want.f s0_0 s0_1 s0_2 s0_3 s0_4 (⟨#[109, 111, 100, 117, 108, 101]⟩ : ByteArray)).bind fun bt873 => ((rr_here.f s0_0 bt873.1 bt873.2.1 bt873.2.2.1 bt873.2.2.2).bind fun bt877 => ((rr_name.f s0_0 bt877.2.1 bt877.2.2.1 bt877.2.2.2.1 bt877.2.2.2.2).bind fun bt882 => ((rr_want.f s0_0 bt882.2.1 bt882.2.2.1 bt882.2.2.2.1 bt882.2.2.2.2 (⟨#[59]⟩ : ByteArray)).bind fun bt888 => (rr_module.l0 k s0_0 bt888.1 bt888.2.1 bt888.2.2.1 bt888.2.2.2 bt882.1 bt877.1 ([] : List (S75))))))
theorem rr_module.mono_l : ∀ k, (∀ y0 y1 y2 y3 y4 y5 y6 y7, LeO (rr_module.l0 k y0 y1 y2 y3 y4 y5 y6 y7) (rr_module.l0 (k + 1) y0 y1 y2 y3 y4 y5 y6 y7)) ∧ (∀ y0 y1 y2 y3 y4 y5 y6 y7 y8 y9, LeO (rr_module.l1 k y0 y1 y2 y3 y4 y5 y6 y7 y8 y9) (rr_module.l1 (k + 1) y0 y1 y2 y3 y4 y5 y6 y7 y8 y9)) ∧ (∀ y0 y1 y2 y3 y4 y5 y6 y7 y8 y9 y10, LeO (rr_module.j2 k y0 y1 y2 y3 y4 y5 y6 y7 y8 y9 y10) (rr_module.j2 (k + 1) y0 y1 y2 y3 y4 y5 y6 y7 y8 y9 y10))
 | 0 => ⟨fun _ _ _ _ _ _ _ _ r h => by simp [rr_module.l0] at h, fun _ _ _ _ _ _ _ _ _ _ r h => by simp [rr_module.l1] at h, fun _ _ _ _ _ _ _ _ _ _ _ r h => by simp [rr_module.j2] at h⟩
 | k + 1 => by
  obtain ⟨ih0, ih1, ih2⟩ := rr_module.mono_l k
  refine ⟨?_, ?_, ?_⟩
  ·
   intro y0 y1 y2 y3 y4 y5 y6 y7
   unfold rr_module.l0
   repeat' with_reducible first | apply ih0 | apply ih1 | apply ih2 | apply rr_proc.mono | apply rr_variable.mono | exact LeO.refl _ | exact LeO.none _ | refine LeO.ite ?_ ?_ | refine LeO.bind ?_ (fun _ => ?_)
  ·
   intro y0 y1 y2 y3 y4 y5 y6 y7 y8 y9
   unfold rr_module.l1
   repeat' with_reducible first | apply ih0 | apply ih1 | apply ih2 | apply rr_proc.mono | apply rr_variable.mono | exact LeO.refl _ | exact LeO.none _ | refine LeO.ite ?_ ?_ | refine LeO.bind ?_ (fun _ => ?_)
  ·
   intro y0 y1 y2 y3 y4 y5 y6 y7 y8 y9 y10
   unfold rr_module.j2
   repeat' with_reducible first | apply ih0 | apply ih1 | apply ih2 | apply rr_proc.mono | apply rr_variable.mono | exact LeO.refl _ | exact LeO.none _ | refine LeO.ite ?_ ?_ | refine LeO.bind ?_ (fun _ => ?_)
theorem rr_module.mono : ∀ a0 a1 a2 a3 a4 k, LeO (rr_module.f k a0 a1 a2 a3 a4) (rr_module.f (k + 1) a0 a1 a2 a3 a4) := by
 intro a0 a1 a2 a3 a4 k
 obtain ⟨ih0, ih1, ih2⟩ := rr_module.mono_l k
 unfold rr_module.f
 repeat' with_reducible first | apply ih0 | apply ih1 | apply ih2 | apply rr_proc.mono | apply rr_variable.mono | exact LeO.refl _ | exact LeO.none _ | refine LeO.ite ?_ ?_ | refine LeO.bind ?_ (fun _ => ?_)
def rr_module.T5 : Bool × List (List Nat × List Nat) := (true, [([], []), ([0], [0]), ([], []), ([2], [2]), ([], []), ([4, 3], [4]), ([3, 5], [3, 5]), ([6], [6]), ([1, 7, 5], [1, 7]), ([0, 1, 2, 3, 4, 5, 6, 7, 8], []), ([9, 8, 8, 0, 1, 2, 3, 4, 5, 6, 7, 8], [8, 9])])
def rr_module.B5 : List Nat := [0, 1, 0, 4, 0, 28, 60, 124, 255, 511, 1023]
theorem rr_module.tab5 : rtab .any (opsOf Try.f14 5) = rr_module.T5 := by kernel_rfl
theorem rr_module.bits5 : waitsOk rr_module.T5.2 rr_module.B5 = true := by kernel_rfl
def rr_module.T7 : Bool × List (List Nat × List Nat) := (true, [([], []), ([0], [0]), ([1], [1]), ([2], [2]), ([3], [3]), ([4], [4]), ([5], [5]), ([6, 5], [5, 6]), ([7, 5], [5, 7]), ([8, 5], [5, 8]), ([5], [5]), ([10, 5], [5, 10]), ([11, 5], [5, 11]), ([12, 5], [5, 12]), ([9, 13, 5], [5, 9, 13]), ([14, 5], [5, 14]), ([15, 5], [5, 15]), ([16, 5], [5, 16]), ([5, 17], [5, 17])])
def rr_module.B7 : List Nat := [0, 1, 3, 7, 15, 31, 63, 127, 255, 511, 63, 1087, 3135, 7231, 16383, 32767, 65535, 131071, 262143]
theorem rr_module.tab7 : rtab .any (opsOf Try.f14 7) = rr_module.T7 := by kernel_rfl
theorem rr_module.bits7 : waitsOk rr_module.T7.2 rr_module.B7 = true := by kernel_rfl
def rr_module.T9 : Bool × List (List Nat × List Nat) := (true, [([], []), ([0], [0]), ([], []), ([2], [2]), ([3], [3]), ([1, 4, 3], [1, 4]), ([0, 1, 2, 3, 4, 5], []), ([6, 5, 5, 0, 1, 2, 3, 4, 5], [5, 6])])
def rr_module.B9 : List Nat := [0, 1, 0, 4, 12, 31, 63, 127]
theorem rr_module.tab9 : rtab .any (opsOf Try.f14 9) = rr_module.T9 := by kernel_rfl
theorem rr_module.bits9 : waitsOk rr_module.T9.2 rr_module.B9 = true := by kernel_rfl
def rr_module.T11 : Bool × List (List Nat × List Nat) := (true, [([], []), ([0], [0]), ([], []), ([2], [2]), ([3], [3]), ([1, 4, 3], [1, 4]), ([0, 1, 2, 3, 4, 5], []), ([6, 5, 5, 0, 1, 2, 3, 4, 5], [5, 6])])
def rr_module.B11 : List Nat := [0, 1, 0, 4, 12, 31, 63, 127]
theorem rr_module.tab11 : rtab .any (opsOf Try.f14 11) = rr_module.T11 := by kernel_rfl
theorem rr_module.bits11 : waitsOk rr_module.T11.2 rr_module.B11 = true := by kernel_rfl
theorem rr_module.calls (k : Nat) (g : Nat) (s0_0 : List (S69)) (s0_1 : Int) (s0_2 : Int) (s0_3 : Int) (s0_4 : Int) (r1 : ByteArray) (r2 : Int) (r3 : List (S75)) (r4 : List (S77)) (r5 : List (S42)) (r6 : Int) (r7 : Int) (r8 : Int) (r9 : Int) (w0 w : World) (hI : IsS57 w0 w g s0_0 s0_1 s0_2 s0_3 s0_4) (hB : Below w0.heap.size w0 w) (h : rr_module.f k s0_0 s0_1 s0_2 s0_3 s0_4 = some (r1, r2, r3, r4, r5, r6, r7, r8, r9)) :
  Calls Try.prog 14 #[.pointer (some ⟨g, 0, none⟩)] w fun e w' => ∃ v2_ v3_ v4_ : Value, e = .returned (.agg #[.string r1, .int .i64 r2, v2_, v3_, v4_]) ∧ Kd.R k75 75 w' w.heap.size (fun _ => True) v2_ r3 ∧ Kd.R k77 77 w' w.heap.size (fun _ => True) v3_ r4 ∧ Kd.R k42 42 w' w.heap.size (fun _ => True) v4_ r5 ∧ IsS57 w0 w' g s0_0 r6 r7 r8 r9 ∧ Below w0.heap.size w0 w' ∧ KeepBut w w' g none := by
 have hu36 := Try.underlying36
 have hu75 := Try.underlying75
 have HI0 := za hI
 have HK := za (KeepBut.refl w g none)
 have HL := za hB.size
 clear hI
 have HW0 := za hB.size
 have HB := za hB
 clear hB
 have H : ((rr_want.f s0_0 s0_1 s0_2 s0_3 s0_4 (⟨#[109, 111, 100, 117, 108, 101]⟩ : ByteArray)).bind fun bt873 => ((rr_here.f s0_0 bt873.1 bt873.2.1 bt873.2.2.1 bt873.2.2.2).bind fun bt877 => ((rr_name.f s0_0 bt877.2.1 bt877.2.2.1 bt877.2.2.2.1 bt877.2.2.2.2).bind fun bt882 => ((rr_want.f s0_0 bt882.2.1 bt882.2.2.1 bt882.2.2.2.1 bt882.2.2.2.2 (⟨#[59]⟩ : ByteArray)).bind fun bt888 => (rr_module.l0 k s0_0 bt888.1 bt888.2.1 bt888.2.2.1 bt888.2.2.2 bt882.1 bt877.1 ([] : List (S75))))))) = some (r1, r2, r3, r4, r5, r6, r7, r8, r9) := h
 clear h
 replace H := Option.bind_eq_some_iff.mp H
 obtain ⟨⟨t873, t874, t875, t876⟩, A20, H⟩ := H
 (try dsimp only at H)
 have A2 := za A20
 clear A20
 replace H := Option.bind_eq_some_iff.mp H
 obtain ⟨⟨t877, t878, t879, t880, t881⟩, A30, H⟩ := H
 (try dsimp only at H)
 have A3 := za A30
 clear A30
 replace H := Option.bind_eq_some_iff.mp H
 obtain ⟨⟨t882, t883, t884, t885, t886⟩, A40, H⟩ := H
 (try dsimp only at H)
 have A4 := za A40
 clear A40
 replace H := Option.bind_eq_some_iff.mp H
 obtain ⟨⟨t888, t889, t890, t891⟩, A50, H⟩ := H
 (try dsimp only at H)
 have A5 := za A50
 clear A50
 have H' := za H
 clear H
 go_enter Try.func14, Try.ntmps14
 go_wp2_with (first | ((with_reducible refine gate_dst (N := 2) rfl ?_); refine box_event ?hg (N := 2) ?hd (cs := #[.string (⟨#[]⟩ : ByteArray), .int .i64 0, .slice none 0 0, .slice none 0 0, .slice none 0 0]) (t := 36) ?hr ?_; (case hd => rfl); (case hg => rfl); (case hr => exact zq39); intro gb872 hg w6 hbox hb; replace HB := za (below_step zq3 hb); have BK872 := za (hbox); have GW872 := za ((by rw [hg]; exact (keep_size (w := w) (g := g) (row := none) zq7) : w.heap.size ≤ gb872)); have GE872 := za ((Nat.le_trans HW0.out (by rw [hg]; exact (keep_size (w := w) (g := g) (row := none) zq7) : w.heap.size ≤ gb872) : w0.heap.size ≤ gb872)); replace HK := za (KeepBut.trans zq7 (KeepBut.of_below hb g none) (.inl rfl)); have NB0_872 := za ((by rw [hg]; exact Nat.ne_of_lt (IsS57.lt (show IsS57 w0 _ g s0_0 s0_1 s0_2 s0_3 s0_4 from zq0)) : g ≠ gb872)); have NB872_0 := za ((by rw [hg]; exact Nat.ne_of_gt (IsS57.lt (show IsS57 w0 _ g s0_0 s0_1 s0_2 s0_3 s0_4 from zq0)) : gb872 ≠ g)); replace HI0 := za (IsS57.below zq0 hb); clear hb hbox hg) | ((with_reducible refine gate_callee (f := 21) rfl ?_); refine goesL_ (some 5) rfl rfl Try.func21 zq18 rfl #[.pointer (some ⟨g, 0, none⟩), .string (⟨#[109, 111, 100, 117, 108, 101]⟩ : ByteArray)] rfl zq1 ?_; (with_reducible refine (rr_want.calls g s0_0 s0_1 s0_2 s0_3 s0_4 (⟨#[109, 111, 100, 117, 108, 101]⟩ : ByteArray) t873 t874 t875 t876 w0 _ ?side1 ?side2 A2.out).mono ?_); (case side1 => exact zq41); (case side2 => exact zq62); rintro e w7 ⟨rfl, hi, hb, hk⟩; refine ⟨_, rfl, ?_⟩; replace BK872 := za (KeepBut.blk hk (g' := gb872) (zb BK872.out) NB872_0.out (by simp)); replace HK := za (KeepBut.trans zq49 hk (.inl rfl)); replace HB := za (hb); replace HI0 := za (hi)) | ((with_reducible refine gate_callee (f := 22) rfl ?_); refine goesL_ (some 7) rfl rfl Try.func22 zq18 rfl #[.pointer (some ⟨g, 0, none⟩)] rfl zq1 ?_; (with_reducible refine (rr_here.calls g s0_0 t873 t874 t875 t876 t877 t878 t879 t880 t881 w0 _ ?side1 ?side2 A3.out).mono ?_); (case side1 => exact zq41); (case side2 => exact zq62); rintro e w8 ⟨rfl, hi, hb, hk⟩; refine ⟨_, rfl, ?_⟩; replace BK872 := za (KeepBut.blk hk (g' := gb872) (zb BK872.out) NB872_0.out (by simp)); replace HK := za (KeepBut.trans zq49 hk (.inl rfl)); replace HB := za (hb); replace HI0 := za (hi)) | ((with_reducible refine gate_callee (f := 23) rfl ?_); refine goesL_ (some 9) rfl rfl Try.func23 zq18 rfl #[.pointer (some ⟨g, 0, none⟩)] rfl zq1 ?_; (with_reducible refine (rr_name.calls g s0_0 t878 t879 t880 t881 t882 t883 t884 t885 t886 w0 _ ?side1 ?side2 A4.out).mono ?_); (case side1 => exact zq41); (case side2 => exact zq62); rintro e w9 ⟨rfl, hi, hb, hk⟩; refine ⟨_, rfl, ?_⟩; replace BK872 := za (KeepBut.blk hk (g' := gb872) (zb BK872.out) NB872_0.out (by simp)); replace HK := za (KeepBut.trans zq49 hk (.inl rfl)); replace HB := za (hb); replace HI0 := za (hi)) | ((with_reducible refine gate_dst (N := 3) rfl ?_); refine box_event ?hg (N := 3) ?hd (cs := #[.string (⟨#[]⟩ : ByteArray), .int .i64 0, .slice none 0 0, .slice none 0 0, .slice none 0 0]) (t := 36) ?hr ?_; (case hd => rfl); (case hg => rfl); (case hr => exact zq39); intro gb887 hg w10 hbox hb; replace HB := za (below_step zq62 hb); have BK887 := za (hbox); have GW887 := za ((by rw [hg]; exact (keep_size (w := w) (g := g) (row := none) zq49) : w.heap.size ≤ gb887)); have GE887 := za ((Nat.le_trans HW0.out (by rw [hg]; exact (keep_size (w := w) (g := g) (row := none) zq49) : w.heap.size ≤ gb887) : w0.heap.size ≤ gb887)); replace HK := za (KeepBut.trans zq49 (KeepBut.of_below hb g none) (.inl rfl)); have NB872_887 := za ((by rw [hg]; exact Nat.ne_of_lt (blk_lt (g := gb872) (zb BK872.out)) : gb872 ≠ gb887)); have NB887_872 := za ((by rw [hg]; exact Nat.ne_of_gt (blk_lt (g := gb872) (zb BK872.out)) : gb887 ≠ gb872)); replace BK872 := za (blk_below (g := gb872) (zb BK872.out) hb); have NB0_887 := za ((by rw [hg]; exact Nat.ne_of_lt (IsS57.lt (show IsS57 w0 _ g s0_0 t883 t884 t885 t886 from zq41)) : g ≠ gb887)); have NB887_0 := za ((by rw [hg]; exact Nat.ne_of_gt (IsS57.lt (show IsS57 w0 _ g s0_0 t883 t884 t885 t886 from zq41)) : gb887 ≠ g)); replace HI0 := za (IsS57.below zq41 hb); clear hb hbox hg; have hnb11 := NB887_872.out; have hnc11 := NB872_887.out; have hnb12 := NB887_0.out; have hnc12 := NB0_887.out; obtain ⟨hcz13_0, hcz13_1, hcz13_2, hcz13_3, hcz13_4⟩ := zc5 BK887.out; obtain ⟨hfz13_0, hfz13_1, hfz13_2, hfz13_3⟩ := zf4 BK887.out; have hfz13_4 := blk_frozen BK887.out 4) | ((with_reducible refine gate_callee (f := 21) rfl ?_); refine goesL_ (some 12) rfl rfl Try.func21 zq18 rfl #[.pointer (some ⟨g, 0, none⟩), .string (⟨#[59]⟩ : ByteArray)] rfl zq1 ?_; (with_reducible refine (rr_want.calls g s0_0 t883 t884 t885 t886 (⟨#[59]⟩ : ByteArray) t888 t889 t890 t891 w0 _ ?side1 ?side2 A5.out).mono ?_); (case side1 => exact zq5); (case side2 => exact zq17); rintro e w14 ⟨rfl, hi, hb, hk⟩; refine ⟨_, rfl, ?_⟩; replace BK872 := za (KeepBut.blk hk (g' := gb872) (o := .cells #[.string (⟨#[]⟩ : ByteArray), .int .i64 0, .slice none 0 0, .slice none 0 0, .slice none 0 0] 36 (0, 0)) (by (with_reducible repeat (first | refine blk_drewN ?_ _ | refine blk_drew ?_ | refine blk_alloc ?_ _)); refine blk_far ?_ NB872_887.out _; (with_reducible repeat (first | refine blk_drewN ?_ _ | refine blk_drew ?_ | refine blk_alloc ?_ _)); refine blk_far ?_ NB872_887.out _; (with_reducible repeat (first | refine blk_drewN ?_ _ | refine blk_drew ?_ | refine blk_alloc ?_ _)); refine blk_far ?_ NB872_887.out _; (with_reducible repeat (first | refine blk_drewN ?_ _ | refine blk_drew ?_ | refine blk_alloc ?_ _)); refine blk_far ?_ NB872_887.out _; (with_reducible repeat (first | refine blk_drewN ?_ _ | refine blk_drew ?_ | refine blk_alloc ?_ _)); refine blk_far ?_ NB872_887.out _; (with_reducible repeat (first | refine blk_drewN ?_ _ | refine blk_drew ?_ | refine blk_alloc ?_ _)); exact BK872.out) NB872_0.out (by simp)); replace BK887 := za (KeepBut.blk hk (g' := gb887) (o := .cells #[.string t882, .int .i64 t877, .slice none 0 0, .slice none 0 0, .slice none 0 0] 36 (0, 0)) (by (with_reducible repeat (first | refine blk_drewN ?_ _ | refine blk_drew ?_ | refine blk_alloc ?_ _)); refine blk_put (cs := #[.string t882, .int .i64 t877, .slice none 0 0, .slice none 0 0, .slice none 0 0]) ?_ 4 _ rfl; (with_reducible repeat (first | refine blk_drewN ?_ _ | refine blk_drew ?_ | refine blk_alloc ?_ _)); refine blk_put (cs := #[.string t882, .int .i64 t877, .slice none 0 0, .slice none 0 0, .slice none 0 0]) ?_ 3 _ rfl; (with_reducible repeat (first | refine blk_drewN ?_ _ | refine blk_drew ?_ | refine blk_alloc ?_ _)); refine blk_put (cs := #[.string t882, .int .i64 t877, .slice none 0 0, .slice none 0 0, .slice none 0 0]) ?_ 2 _ rfl; (with_reducible repeat (first | refine blk_drewN ?_ _ | refine blk_drew ?_ | refine blk_alloc ?_ _)); refine blk_put (cs := #[.string t882, .int .i64 0, .slice none 0 0, .slice none 0 0, .slice none 0 0]) ?_ 1 _ rfl; (with_reducible repeat (first | refine blk_drewN ?_ _ | refine blk_drew ?_ | refine blk_alloc ?_ _)); refine blk_put (cs := #[.string (⟨#[]⟩ : ByteArray), .int .i64 0, .slice none 0 0, .slice none 0 0, .slice none 0 0]) ?_ 0 _ rfl; (with_reducible repeat (first | refine blk_drewN ?_ _ | refine blk_drew ?_ | refine blk_alloc ?_ _)); exact BK887.out) NB887_0.out (by simp)); replace HK := za (KeepBut.trans zq14 hk (.inl rfl)); replace HB := za (hb); replace HI0 := za (hi)))
 (try simp only [Act.put, List.setIfInBounds_toArray, List.set_cons_zero, List.set_cons_succ])
 go_loopg [] k (fun kq w' => ∃ (x1001_1 : Int) (x1002_1 : Int) (x1003_1 : Int) (x1004_1 : Int) (x888002_1 : List (S75)) (u888002 : Value), Aside0 (rr_module.l0 kq s0_0 x1001_1 x1002_1 x1003_1 x1004_1 t882 t877 x888002_1 = some (r1, r2, r3, r4, r5, r6, r7, r8, r9)) ∧ Aside0 (kq ≤ k) ∧ Aside0 (Kd.R k75 75 w' w.heap.size (fun _ => True) u888002 x888002_1) ∧ Aside0 (w'.heap[gb872]? = some (.cells #[.string (⟨#[]⟩ : ByteArray), .int .i64 0, (.slice none 0 0), (.slice none 0 0), (.slice none 0 0)] 36 (0, 0))) ∧ Aside0 (w'.heap[gb887]? = some (.cells #[.string t882, .int .i64 t877, u888002, (.slice none 0 0), (.slice none 0 0)] 36 (0, 0))) ∧ Aside0 (IsS57 w0 w' g s0_0 x1001_1 x1002_1 x1003_1 x1004_1) ∧ Aside0 (KeepBut w w' g none) ∧ Aside0 (Below w0.heap.size w0 w'))
 case atStart => exact ⟨(t888), (t889), (t890), (t891), (([] : List (S75))), (.slice none 0 0), H', ⟨Nat.le_refl _⟩, ⟨zq22⟩, ⟨zq70⟩, ⟨zq71⟩, ⟨zq5⟩, ⟨zq14⟩, ⟨zq17⟩⟩
 case round =>
  clear H'
  obtain ⟨x1001_1, x1002_1, x1003_1, x1004_1, x888002_1, u888002, HA, HK1, HO_888002, BK872, BK887, HI0, HK, HB⟩ := hrel
  cases gk with
  | zero => exact absurd HA.out (by simp [rr_module.l0])
  | succ k1 =>
   have H := HA.out
   clear HA
   simp only [rr_module.l0] at H
   replace H := Option.bind_eq_some_iff.mp H
   obtain ⟨⟨t892, t893, t894, t895, t896⟩, A150, H⟩ := H
   (try dsimp only at H)
   have A15 := za A150
   clear A150
   by_cases c16 : t892 = true
   ·
    subst c16
    rw [if_pos rfl] at H
    replace H := Option.bind_eq_some_iff.mp H
    obtain ⟨⟨t897, t898, t899, t900, t901⟩, A170, H⟩ := H
    (try dsimp only at H)
    have A17 := za A170
    clear A170
    replace H := Option.bind_eq_some_iff.mp H
    obtain ⟨⟨t902, t903, t904, t905, t906⟩, A180, H⟩ := H
    (try dsimp only at H)
    have A18 := za A180
    clear A180
    by_cases c19 : x888002_1.length < 5864062014805
    ·
     rw [if_pos c19] at H
     have LMc19 := za c19
     clear c19
     obtain ⟨y907, hy907⟩ : ∃ y_ : List (S75), y_ = (x888002_1 ++ [(⟨t902, t897⟩ : S75)]) := ⟨_, rfl⟩
     replace H : ((rr_want.f s0_0 t903 t904 t905 t906 (⟨#[59]⟩ : ByteArray)).bind fun bt910 => (rr_module.l0 k1 s0_0 bt910.1 bt910.2.1 bt910.2.2.1 bt910.2.2.2 t882 t877 y907)) = some (r1, r2, r3, r4, r5, r6, r7, r8, r9) := by first | (rw [hy907]; with_reducible exact H) | (have H2_ := (Option.bind_some _ _).symm.trans H; rw [hy907]; with_reducible exact H2_) | (have H2_ := (Option.bind_some _ _).symm.trans H; with_reducible exact H2_) | with_reducible exact H | (rw [hy907]; exact H) | exact H
     have Ny907 := za hy907
     clear hy907
     replace H := Option.bind_eq_some_iff.mp H
     obtain ⟨⟨t910, t911, t912, t913⟩, A200, H⟩ := H
     (try dsimp only at H)
     have A20 := za A200
     clear A200
     have H' := za H
     clear H
     try go_wp2_with (first | ((with_reducible refine gate_callee (f := 24) rfl ?_); refine goesL_ (some 14) rfl rfl Try.func24 zq18 rfl #[.pointer (some ⟨g, 0, none⟩), .string (⟨#[105, 109, 112, 111, 114, 116]⟩ : ByteArray)] rfl zq1 ?_; (with_reducible refine (rr_take.calls g s0_0 x1001_1 x1002_1 x1003_1 x1004_1 (⟨#[105, 109, 112, 111, 114, 116]⟩ : ByteArray) true t893 t894 t895 t896 w0 _ ?side1 ?side2 A15.out).mono ?_); (case side1 => exact zq5); (case side2 => exact zq17); rintro e w21 ⟨rfl, hi, hb, hk⟩; refine ⟨_, rfl, ?_⟩; replace HO_888002 := za (Kd.R_mono (Kd.R_keep (IsS57.apart (show IsS57 w0 _ g s0_0 x1001_1 x1002_1 x1003_1 x1004_1 from zq5) (zr HO_888002.out) (by decide)) hk (fun _ h => h.2)) (fun _ h => h.1)); replace BK872 := za (KeepBut.blk hk (g' := gb872) (zb BK872.out) NB872_0.out (by simp)); replace BK887 := za (KeepBut.blk hk (g' := gb887) (zb BK887.out) NB887_0.out (by simp)); replace HK := za (KeepBut.trans zq14 hk (.inl rfl)); replace HB := za (hb); replace HI0 := za (hi)))
     replace HO_888002 := za (Kd.R_drew HO_888002.out)
     replace BK872 := za (blk_drew BK872.out)
     replace BK887 := za (blk_drew BK887.out)
     replace HI0 := za (IsS57.drew HI0.out)
     replace HK := za (keep_drew HK.out)
     replace HB := za (below_drew1 HB.out)
     refine start_ (n := 11) (S := fun w' => w'.cell? ⟨gb887, 0, none⟩ = some (.string t882) ∧ w'.cell? ⟨gb887, 1, none⟩ = some (.int .i64 t877) ∧ w'.cell? ⟨gb887, 2, none⟩ = some (u888002) ∧ w'.cell? ⟨gb887, 3, none⟩ = some (.slice none 0 0) ∧ w'.cell? ⟨gb887, 4, none⟩ = some (.slice none 0 0)) (ds := [10]) #[false, false, false, false, false, false, false, false, false, false, false] zq18 rfl rfl ⟨(blk_cell BK887.out 0).trans rfl, (blk_cell BK887.out 1).trans rfl, (blk_cell BK887.out 2).trans rfl, (blk_cell BK887.out 3).trans rfl, (blk_cell BK887.out 4).trans rfl⟩ (fun hHeld => ?_); refine with_tabW rr_module.tab5 rr_module.bits5 (fun HT_ HW_ => ?_)
     generalize w21.drew = w22 at HO_888002 BK872 BK887 HI0 HK HB hHeld ⊢
     refine pure_ (i := 0) (N := some 15) #[true, false, false, false, false, false, false, false, false, false, false] rfl rfl (any_of HT_.out zq18) (fun _ _ _ h => h) (Or.inl ⟨by rfl, zpv⟩) zpw ?_
     refine pure_ (i := 2) (N := some 17) #[true, false, true, false, false, false, false, false, false, false, false] rfl rfl (any_of HT_.out zq18) (fun _ _ _ h => h) (Or.inl ⟨by rfl, zpv⟩) zpw ?_
     refine pure_ (i := 4) (N := some 19) #[true, false, true, false, true, false, false, false, false, false, false] rfl rfl (any_of HT_.out zq18) (fun _ _ _ h => h) (Or.inl ⟨by rfl, zpv⟩) zpw ?_
     refine take_ (i := 1) (N := some 16) (v := ?_) (a' := ?_) #[true, true, true, false, true, false, false, false, false, false, false] rfl rfl (take_ofW HT_.out HW_.out zq18) (fun _ _ _ h => h) (Or.inl ⟨by rfl, ?_⟩) hHeld ?_ ?_
     rotate_left
     ·
      rintro w' ⟨s0, s1, s2, s3, s4⟩
      go_simp
      with_reducible rfl
     rotate_left
     ·
      simp only [Act.put, List.setIfInBounds_toArray, List.set_cons_zero, List.set_cons_succ, i64_w, i32_w]
      rfl
     refine one_ (i := 3) (N := some 18) #[true, true, true, true, true, false, false, false, false, false, false] rfl rfl (one_of HT_.out zq18) (by decide) (fun K hK => ?_)
     refine goes_ Try.func22 zq18 rfl #[.pointer (some ⟨g, 0, none⟩)] (by rfl) rfl rfl zq1 ?_
     with_reducible refine (rr_here.calls g s0_0 t893 t894 t895 t896 t897 t898 t899 t900 t901 w0 _ ?side1 ?side2 A17.out).mono ?_
     (case side1 => exact zq5)
     (case side2 => exact zq17)
     rintro e w23 ⟨rfl, hi, hb, hk⟩
     refine ⟨_, rfl, ?_⟩
     replace HO_888002 := za (Kd.R_mono (Kd.R_keep (IsS57.apart (show IsS57 w0 _ g s0_0 t893 t894 t895 t896 from zq5) (zr HO_888002.out) (by decide)) hk (fun _ h => h.2)) (fun _ h => h.1))
     replace BK872 := za (KeepBut.blk hk (g' := gb872) (zb BK872.out) NB872_0.out (by simp))
     replace BK887 := za (KeepBut.blk hk (g' := gb887) (zb BK887.out) NB887_0.out (by simp))
     replace HK := za (KeepBut.trans zq14 hk (.inl rfl))
     replace HB := za (hb)
     replace HI0 := za (hi)
     refine hK.out _ _ ⟨(blk_cell BK887.out 0).trans rfl, (blk_cell BK887.out 1).trans rfl, (blk_cell BK887.out 2).trans rfl, (blk_cell BK887.out 3).trans rfl, (blk_cell BK887.out 4).trans rfl⟩ (fun hHeld => ?_)
     clear hK K
     refine norm_ (a' := ?_) ?_ ?_
     rotate_left
     ·
      show Act.put _ (some 18) _ = _
      simp only [Act.put, List.setIfInBounds_toArray, List.set_cons_zero, List.set_cons_succ, i64_w, i32_w]
      rfl
     refine one_ (i := 5) (N := some 20) #[true, true, true, true, true, true, false, false, false, false, false] rfl rfl (one_of HT_.out zq18) (by decide) (fun K hK => ?_)
     refine goes_ Try.func23 zq18 rfl #[.pointer (some ⟨g, 0, none⟩)] (by rfl) rfl rfl zq1 ?_
     with_reducible refine (rr_name.calls g s0_0 t898 t899 t900 t901 t902 t903 t904 t905 t906 w0 _ ?side1 ?side2 A18.out).mono ?_
     (case side1 => exact zq5)
     (case side2 => exact zq17)
     rintro e w24 ⟨rfl, hi, hb, hk⟩
     refine ⟨_, rfl, ?_⟩
     replace HO_888002 := za (Kd.R_mono (Kd.R_keep (IsS57.apart (show IsS57 w0 _ g s0_0 t898 t899 t900 t901 from zq5) (zr HO_888002.out) (by decide)) hk (fun _ h => h.2)) (fun _ h => h.1))
     replace BK872 := za (KeepBut.blk hk (g' := gb872) (zb BK872.out) NB872_0.out (by simp))
     replace BK887 := za (KeepBut.blk hk (g' := gb887) (zb BK887.out) NB887_0.out (by simp))
     replace HK := za (KeepBut.trans zq14 hk (.inl rfl))
     replace HB := za (hb)
     replace HI0 := za (hi)
     refine hK.out _ _ ⟨(blk_cell BK887.out 0).trans rfl, (blk_cell BK887.out 1).trans rfl, (blk_cell BK887.out 2).trans rfl, (blk_cell BK887.out 3).trans rfl, (blk_cell BK887.out 4).trans rfl⟩ (fun hHeld => ?_)
     clear hK K
     refine norm_ (a' := ?_) ?_ ?_
     rotate_left
     ·
      show Act.put _ (some 20) _ = _
      simp only [Act.put, List.setIfInBounds_toArray, List.set_cons_zero, List.set_cons_succ, i64_w, i32_w]
      rfl
     refine pure_ (i := 6) (N := some 21) #[true, true, true, true, true, true, true, false, false, false, false] rfl rfl (any_of HT_.out zq18) (fun _ _ _ h => h) (Or.inl ⟨by rfl, zpv⟩) zpw ?_
     refine one_ (i := 7) (N := some 22) #[true, true, true, true, true, true, true, true, false, false, false] rfl rfl (one_of HT_.out zq18) (by decide) (fun K hK => ?_)
     refine value_ (w1 := ?_) (v := ?_) (by rfl) rfl ?_ ?_
     rotate_left 2
     ·
      go_simp
      constructor
      ·
       rfl
      ·
       rfl
     refine hK.out _ _ ⟨(blk_cell (blk_alloc BK887.out _) 0).trans rfl, (blk_cell (blk_alloc BK887.out _) 1).trans rfl, (blk_cell (blk_alloc BK887.out _) 2).trans rfl, (blk_cell (blk_alloc BK887.out _) 3).trans rfl, (blk_cell (blk_alloc BK887.out _) 4).trans rfl⟩ (fun hHeld => ?_)
     clear hK K
     refine norm_ (a' := ?_) ?_ ?_
     rotate_left
     ·
      show Act.put _ (some 22) _ = _
      simp only [Act.put, List.setIfInBounds_toArray, List.set_cons_zero, List.set_cons_succ, i64_w, i32_w]
      rfl
     refine one_ (i := 8) (N := some 23) #[true, true, true, true, true, true, true, true, true, false, false] rfl rfl (one_of HT_.out zq18) (by decide) (fun K hK => ?_)
     refine Kd.R_append_step k75 w.heap.size (by rfl) (.tmp 16) (.tmp 22) 32 75 (.agg #[(.string ⟨#[]⟩), (.int .i64 0)]) 24 rfl Try.underlying32 info75 rfl (by decide) (by omega) u888002 x888002_1 (⟨t902, t897⟩ : S75) [.string t902, .int .i64 t897] (fun _ => True) (fun _ => False) rfl rfl ?aP (fun _ hk => hk.elim) ?aF ?aO (Below.refl _ _) ?aS ?aL ?_
     (case aP => exact k75_mkM _ _ _ (⟨t902, t897⟩ : S75))
     (case aF => exact (fun _ _ => trivial))
     (case aO => exact (zr HO_888002.out))
     (case aS => exact (keep_size (w := w) (g := g) (row := none) zq14))
     (case aL => have := LMc19.out; omega)
     intro v908 w25 ho hb hg hat
     rw [← Ny907.out] at ho
     replace BK872 := za (blk_grown (g := gb872) (zb BK872.out) hg (Kd.R_ne HO_888002.out BK872.out (by decide)))
     replace BK887 := za (blk_grown (g := gb887) (zb BK887.out) hg (Kd.R_ne HO_888002.out BK887.out (by decide)))
     replace HB := za (below_weaken zq17 HL.out hb)
     replace HI0 := za (IsS57.grown zq5 hg (IsS57.own_ne HI0.out HO_888002.out (by decide)))
     replace HK := za (KeepBut.trans zq14 (KeepBut.of_grown hg g) (Kd.R_base2 HO_888002.out))
     have HO909 := za (ho)
     clear HO_888002
     clear ho hb hg hat
     obtain ⟨Ao26, co26, eo26⟩ := Kd.R_slice HO909.out
     (first | subst eo26 | (injection eo26 with f1_ f2_ f3_; have f4_ := f1_.symm; have f5_ := f3_.symm; clear f1_ f2_ f3_; subst f4_; subst f5_))
     refine hK.out _ _ ⟨(blk_cell BK887.out 0).trans rfl, (blk_cell BK887.out 1).trans rfl, (blk_cell BK887.out 2).trans rfl, (blk_cell BK887.out 3).trans rfl, (blk_cell BK887.out 4).trans rfl⟩ (fun hHeld => ?_)
     clear hK K
     refine norm_ (a' := ?_) ?_ ?_
     rotate_left
     ·
      show Act.put _ (some 23) _ = _
      simp only [Act.put, List.setIfInBounds_toArray, List.set_cons_zero, List.set_cons_succ, i64_w, i32_w]
      rfl
     refine pure_ (i := 9) (N := some 24) #[true, true, true, true, true, true, true, true, true, true, false] rfl rfl (any_of HT_.out zq18) (fun _ _ _ h => h) (Or.inl ⟨by rfl, zpv⟩) zpw ?_
     refine last_ (i := 10) (N := none) #[true, true, true, true, true, true, true, true, true, true, true] rfl rfl (one_of HT_.out zq18) (by decide) (fun K hK => ?_)
     have hs27 : w25.cell? ⟨gb887, 2, none⟩ = some (u888002) := (blk_cell BK887.out 2).trans rfl
     have hfs27 := blk_frozen BK887.out 2
     have hns27_0 := NB872_887.out
     have hms27_0 := NB887_872.out
     refine skip_ (w1 := ?_) (by rfl) rfl ?_ ?_
     rotate_left
     ·
      go_simp
      rfl
     refine hK.out _ _ ?_
     clear hK K
     refine done_ (done_of HT_.out zq18) ?_
     try go_wp2_with (first | ((with_reducible refine gate_callee (f := 21) rfl ?_); refine goesL_ (some 26) rfl rfl Try.func21 zq18 rfl #[.pointer (some ⟨g, 0, none⟩), .string (⟨#[59]⟩ : ByteArray)] rfl zq1 ?_; (with_reducible refine (rr_want.calls g s0_0 t903 t904 t905 t906 (⟨#[59]⟩ : ByteArray) t910 t911 t912 t913 w0 _ ?side1 ?side2 A20.out).mono ?_); (case side1 => exact zq5); (case side2 => exact zq17); rintro e w28 ⟨rfl, hi, hb, hk⟩; refine ⟨_, rfl, ?_⟩; replace BK872 := za (KeepBut.blk hk (g' := gb872) (o := .cells #[.string (⟨#[]⟩ : ByteArray), .int .i64 0, .slice none 0 0, .slice none 0 0, .slice none 0 0] 36 (0, 0)) zq65 NB872_0.out (by simp)); replace HO909 := za (Kd.R_mono (Kd.R_keep (IsS57.apart (show IsS57 w0 _ g s0_0 t903 t904 t905 t906 from zq5) (by (with_reducible repeat (first | apply Kd.R_alloc | apply Kd.R_drewN | apply Kd.R_drew)); exact (Kd.R_mono (Kd.R_far (p := ⟨gb887, 2, none⟩) (Kd.R_types HO909.out BK887.out (by decide)) (fun _ hk => hk.2) (.slice Ao26 y907.length co26)) (fun _ h_ => h_.1))) (by decide)) hk (fun _ h => h.2)) (fun _ h => h.1)); replace BK887 := za (KeepBut.blk hk (g' := gb887) (o := .cells #[.string t882, .int .i64 t877, .slice Ao26 y907.length co26, .slice none 0 0, .slice none 0 0] 36 (0, 0)) (by (with_reducible repeat (first | refine blk_drewN ?_ _ | refine blk_drew ?_ | refine blk_alloc ?_ _)); refine blk_put (cs := #[.string t882, .int .i64 t877, u888002, .slice none 0 0, .slice none 0 0]) ?_ 2 _ rfl; (with_reducible repeat (first | refine blk_drewN ?_ _ | refine blk_drew ?_ | refine blk_alloc ?_ _)); exact BK887.out) NB887_0.out (by simp)); replace HK := za (KeepBut.trans zq14 hk (.inl rfl)); replace HB := za (hb); replace HI0 := za (hi)))
     go_roundg k1
     case measure => have := HK1.out; omega
     case rel => exact ⟨(t910), (t911), (t912), (t913), (y907), (.slice Ao26 y907.length co26), H', ⟨by have := HK1.out; omega⟩, ⟨by (with_reducible repeat (first | apply Kd.R_alloc | apply Kd.R_drewN | apply Kd.R_drew)); exact HO909.out⟩, ⟨zq70⟩, ⟨zq71⟩, ⟨zq5⟩, ⟨zq14⟩, ⟨zq17⟩⟩
    ·
     rw [if_neg c19] at H
     exact absurd H (by simp)
   ·
    replace c16 := Bool.eq_false_iff.mpr c16
    subst c16
    rw [if_neg (show ¬ (false = true) by decide)] at H
    have H' := za H
    clear H
    go_wp2_with (first | ((with_reducible refine gate_callee (f := 24) rfl ?_); refine goesL_ (some 14) rfl rfl Try.func24 zq18 rfl #[.pointer (some ⟨g, 0, none⟩), .string (⟨#[105, 109, 112, 111, 114, 116]⟩ : ByteArray)] rfl zq1 ?_; (with_reducible refine (rr_take.calls g s0_0 x1001_1 x1002_1 x1003_1 x1004_1 (⟨#[105, 109, 112, 111, 114, 116]⟩ : ByteArray) false t893 t894 t895 t896 w0 _ ?side1 ?side2 A15.out).mono ?_); (case side1 => exact zq5); (case side2 => exact zq17); rintro e w29 ⟨rfl, hi, hb, hk⟩; refine ⟨_, rfl, ?_⟩; replace HO_888002 := za (Kd.R_mono (Kd.R_keep (IsS57.apart (show IsS57 w0 _ g s0_0 x1001_1 x1002_1 x1003_1 x1004_1 from zq5) (zr HO_888002.out) (by decide)) hk (fun _ h => h.2)) (fun _ h => h.1)); replace BK872 := za (KeepBut.blk hk (g' := gb872) (zb BK872.out) NB872_0.out (by simp)); replace BK887 := za (KeepBut.blk hk (g' := gb887) (zb BK887.out) NB887_0.out (by simp)); replace HK := za (KeepBut.trans zq14 hk (.inl rfl)); replace HB := za (hb); replace HI0 := za (hi)))
    (try simp only [Act.put, List.setIfInBounds_toArray, List.set_cons_zero, List.set_cons_succ])
    go_loopg [] k1 (fun kq w' => ∃ (x1001_2 : Int) (x1002_2 : Int) (x1003_2 : Int) (x1004_2 : Int) (x888003_2 : List (S77)) (x888004_2 : List (S42)) (u888003 : Value) (u888004 : Value), Aside0 (rr_module.l1 kq s0_0 x1001_2 x1002_2 x1003_2 x1004_2 t882 t877 x888002_1 x888003_2 x888004_2 = some (r1, r2, r3, r4, r5, r6, r7, r8, r9)) ∧ Aside0 (kq ≤ k1) ∧ Aside0 (Kd.R k75 75 w' w.heap.size (fun _ => True) u888002 x888002_1) ∧ Aside0 (Kd.R k77 77 w' w.heap.size (fun _ => True) u888003 x888003_2) ∧ Aside0 (Kd.R k42 42 w' w.heap.size (fun _ => True) u888004 x888004_2) ∧ Aside0 (w'.heap[gb872]? = some (.cells #[.string (⟨#[]⟩ : ByteArray), .int .i64 0, (.slice none 0 0), (.slice none 0 0), (.slice none 0 0)] 36 (0, 0))) ∧ Aside0 (w'.heap[gb887]? = some (.cells #[.string t882, .int .i64 t877, u888002, u888003, u888004] 36 (0, 0))) ∧ Aside0 (IsS57 w0 w' g s0_0 x1001_2 x1002_2 x1003_2 x1004_2) ∧ Aside0 (KeepBut w w' g none) ∧ Aside0 (Below w0.heap.size w0 w'))
    case atStart => exact ⟨(t893), (t894), (t895), (t896), (([] : List (S77))), (([] : List (S42))), (.slice none 0 0), (.slice none 0 0), H', ⟨Nat.le_refl _⟩, ⟨zq87⟩, ⟨zq22⟩, ⟨zq22⟩, ⟨zq70⟩, ⟨zq71⟩, ⟨zq5⟩, ⟨zq14⟩, ⟨zq17⟩⟩
    case round =>
     clear H'
     obtain ⟨x1001_2, x1002_2, x1003_2, x1004_2, x888003_2, x888004_2, u888003, u888004, HA, HK2, HO_888002, HO_888003, HO_888004, BK872, BK887, HI0, HK, HB⟩ := hrel
     cases gk with
     | zero => exact absurd HA.out (by simp [rr_module.l1])
     | succ k2 =>
      have H := HA.out
      clear HA
      simp only [rr_module.l1] at H
      have HC30 := za H
      clear H
      go_upto_region 7 with (fail)
      go_cut [45] (fun v45 wc => ∃ (kq : Nat) (x45_29 : Bool), v45 = .bool x45_29 ∧ Aside0 (rr_module.j2 kq x45_29 s0_0 x1001_2 x1002_2 x1003_2 x1004_2 t882 t877 x888002_1 x888003_2 x888004_2 = some (r1, r2, r3, r4, r5, r6, r7, r8, r9)) ∧ Aside0 (kq ≤ k2) ∧ Aside0 (Kd.R k75 75 wc w.heap.size (fun _ => True) u888002 x888002_1) ∧ Aside0 (Kd.R k77 77 wc w.heap.size (fun _ => True) u888003 x888003_2) ∧ Aside0 (Kd.R k42 42 wc w.heap.size (fun _ => True) u888004 x888004_2) ∧ Aside0 (wc.heap[gb872]? = some (.cells #[.string (⟨#[]⟩ : ByteArray), .int .i64 0, (.slice none 0 0), (.slice none 0 0), (.slice none 0 0)] 36 (0, 0))) ∧ Aside0 (wc.heap[gb887]? = some (.cells #[.string t882, .int .i64 t877, u888002, u888003, u888004] 36 (0, 0))) ∧ Aside0 (IsS57 w0 wc g s0_0 x1001_2 x1002_2 x1003_2 x1004_2) ∧ Aside0 (KeepBut w wc g none) ∧ Aside0 (Below w0.heap.size w0 wc))
      case first =>
       have H := HC30.out
       clear HC30
       by_cases c31 : x1003_2 = 0
       ·
        rw [if_pos c31] at H
        have c31b0 := beq_iff_eq.mpr c31
        have c31b1 := bne_eq_false_iff_eq.mpr c31
        clear c31
        (first | rw [c31b0] | (simp only [i64_w, i32_w]; rw [c31b0]) | skip)
        by_cases c32 : 0 ≤ x1001_2
        ·
         rw [if_pos c32] at H
         have c32b0 := decide_eq_true c32
         clear c32
         by_cases c33 : x1001_2 < (s0_0.length : Int)
         ·
          rw [if_pos c33] at H
          have c33b0 := decide_eq_true c33
          clear c33
          have H' := za H
          clear H
          try go_wp2
          replace HO_888002 := za (Kd.R_drew HO_888002.out)
          replace HO_888003 := za (Kd.R_drew HO_888003.out)
          replace HO_888004 := za (Kd.R_drew HO_888004.out)
          replace BK872 := za (blk_drew BK872.out)
          replace BK887 := za (blk_drew BK887.out)
          replace HI0 := za (IsS57.drew HI0.out)
          replace HK := za (keep_drew HK.out)
          replace HB := za (below_drew1 HB.out)
          obtain ⟨ASz35_0, cSz35_0, HGz35, hgz35, HSz35_0⟩ := HI0.out
          have hx35_0 := cellS57_0 HGz35
          have hx35_1 := cellS57_1 HGz35
          have hx35_2 := cellS57_2 HGz35
          have hx35_3 := cellS57_3 HGz35
          have hx35_4 := cellS57_4 HGz35
          clear HGz35 hgz35
          have p914 : 0 ≤ (x1001_2 : Int) := of_decide_eq_true zq11
          have q914 : x1001_2 < (s0_0.length : Int) := of_decide_eq_true zq11
          obtain ⟨ad914, e914, hx914_0, hx914_1, hx914_2⟩ := at_T69 HSz35_0 x1001_2 p914 q914
          have hw914_2 := hx914_2
          have hw914_1 := hx914_1
          have hw914_0 := hx914_0
          cases e914
          replace hx914_0 := pw_cell_below HB.out hx914_0
          replace hx914_1 := pw_cell_below HB.out hx914_1
          replace hx914_2 := pw_cell_below HB.out hx914_2
          replace p914 := eq_true p914
          replace q914 := eq_true q914
          refine start_ (n := 19) (S := fun w' => w'.cell? ⟨g, 0, none⟩ = some (.slice (some ad914) s0_0.length cSz35_0) ∧ w'.cell? ⟨g, 1, none⟩ = some (.int .i64 x1001_2) ∧ w'.cell? ⟨g, 2, none⟩ = some (.int .i64 x1002_2) ∧ w'.cell? ⟨g, 3, none⟩ = some (.int .i64 x1003_2) ∧ w'.cell? ⟨g, 4, none⟩ = some (.int .i64 x1004_2) ∧ w'.cell? (ad914.add ((x1001_2).toNat * 3)) = some (.int .i64 ((rd_T69 s0_0 x1001_2).f0)) ∧ w'.cell? ⟨(ad914.add ((x1001_2).toNat * 3)).block, (ad914.add ((x1001_2).toNat * 3)).off + 1, none⟩ = some (.string ((rd_T69 s0_0 x1001_2).f1)) ∧ w'.cell? ⟨(ad914.add ((x1001_2).toNat * 3)).block, (ad914.add ((x1001_2).toNat * 3)).off + 2, none⟩ = some (.int .i64 ((rd_T69 s0_0 x1001_2).f2))) (ds := []) #[false, false, false, false, false, false, false, false, false, false, false, false, false, false, false, false, false, false, false] zq18 rfl rfl ⟨hx35_0, hx35_1, hx35_2, hx35_3, hx35_4, hx914_0, hx914_1, hx914_2⟩ (fun hHeld => ?_); refine with_tabW rr_module.tab7 rr_module.bits7 (fun HT_ HW_ => ?_)
          generalize wr.drew = w34 at HO_888002 HO_888003 HO_888004 BK872 BK887 HI0 HK HB hx35_0 hx35_1 hx35_2 hx35_3 hx35_4 hx914_0 hx914_1 hx914_2 hHeld ⊢
          refine pure_ (i := 0) (N := some 27) #[true, false, false, false, false, false, false, false, false, false, false, false, false, false, false, false, false, false, false] rfl rfl (any_of HT_.out zq18) (fun _ _ _ h => h) (Or.inl ⟨by rfl, zpv⟩) zpw ?_
          refine pure_ (i := 1) (N := some 28) #[true, true, false, false, false, false, false, false, false, false, false, false, false, false, false, false, false, false, false] rfl rfl (any_of HT_.out zq18) (fun _ _ _ h => h) (Or.inl ⟨by rfl, zpv⟩) zpw ?_
          refine pure_ (i := 2) (N := some 29) #[true, true, true, false, false, false, false, false, false, false, false, false, false, false, false, false, false, false, false] rfl rfl (any_of HT_.out zq18) (fun _ _ _ h => h) (Or.inl ⟨by rfl, zpv⟩) zpw ?_
          refine take_ (i := 3) (N := some 30) (v := ?_) (a' := ?_) #[true, true, true, true, false, false, false, false, false, false, false, false, false, false, false, false, false, false, false] rfl rfl (take_ofW HT_.out HW_.out zq18) (fun _ _ _ h => h) (Or.inl ⟨by rfl, ?_⟩) hHeld ?_ ?_
          rotate_left
          ·
           rintro w' ⟨s0, s1, s2, s3, s4, s5, s6, s7⟩
           go_simp
           with_reducible rfl
          rotate_left
          ·
           simp only [Act.put, List.setIfInBounds_toArray, List.set_cons_zero, List.set_cons_succ, i64_w, i32_w]
           rfl
          refine pure_ (i := 4) (N := some 31) #[true, true, true, true, true, false, false, false, false, false, false, false, false, false, false, false, false, false, false] rfl rfl (any_of HT_.out zq18) (fun _ _ _ h => h) (Or.inl ⟨by rfl, zpv⟩) zpw ?_
          refine pure_ (i := 5) (N := some 32) #[true, true, true, true, true, true, false, false, false, false, false, false, false, false, false, false, false, false, false] rfl rfl (any_of HT_.out zq18) (fun _ _ _ h => h) (Or.inl ⟨by rfl, zpv⟩) zpw ?_
          refine pure_ (i := 6) (N := some 33) #[true, true, true, true, true, true, true, false, false, false, false, false, false, false, false, false, false, false, false] rfl rfl (any_of HT_.out zq18) (fun _ _ _ h => h) (Or.inl ⟨by rfl, zpv⟩) zpw ?_
          refine pure_ (i := 7) (N := some 34) #[true, true, true, true, true, true, true, true, false, false, false, false, false, false, false, false, false, false, false] rfl rfl (any_of HT_.out zq18) (fun _ _ _ h => h) (Or.inl ⟨by rfl, zpv⟩) zpw ?_
          refine pure_ (i := 8) (N := some 35) #[true, true, true, true, true, true, true, true, true, false, false, false, false, false, false, false, false, false, false] rfl rfl (any_of HT_.out zq18) (fun _ _ _ h => h) (Or.inl ⟨by rfl, zpv⟩) zpw ?_
          refine pure_ (i := 10) (N := some 37) #[true, true, true, true, true, true, true, true, true, false, true, false, false, false, false, false, false, false, false] rfl rfl (any_of HT_.out zq18) (fun _ _ _ h => h) (Or.inl ⟨by rfl, zpv⟩) zpw ?_
          refine pure_ (i := 11) (N := some 38) #[true, true, true, true, true, true, true, true, true, false, true, true, false, false, false, false, false, false, false] rfl rfl (any_of HT_.out zq18) (fun _ _ _ h => h) (Or.inl ⟨by rfl, zpv⟩) zpw ?_
          refine pure_ (i := 12) (N := some 39) #[true, true, true, true, true, true, true, true, true, false, true, true, true, false, false, false, false, false, false] rfl rfl (any_of HT_.out zq18) (fun _ _ _ h => h) (Or.inl ⟨by rfl, zpv⟩) zpw ?_
          refine take_ (i := 9) (N := some 36) (v := ?_) (a' := ?_) #[true, true, true, true, true, true, true, true, true, true, true, true, true, false, false, false, false, false, false] rfl rfl (take_ofW HT_.out HW_.out zq18) (fun _ _ _ h => h) (Or.inl ⟨by rfl, ?_⟩) hHeld ?_ ?_
          rotate_left
          ·
           rintro w' ⟨s0, s1, s2, s3, s4, s5, s6, s7⟩
           go_simp
           with_reducible rfl
          rotate_left
          ·
           simp only [Act.put, List.setIfInBounds_toArray, List.set_cons_zero, List.set_cons_succ, i64_w, i32_w]
           rfl
          refine take_ (i := 13) (N := some 40) (v := ?_) (a' := ?_) #[true, true, true, true, true, true, true, true, true, true, true, true, true, true, false, false, false, false, false] rfl rfl (take_ofW HT_.out HW_.out zq18) (fun _ _ _ h => h) (Or.inl ⟨by rfl, ?_⟩) hHeld ?_ ?_
          rotate_left
          ·
           rintro w' ⟨s0, s1, s2, s3, s4, s5, s6, s7⟩
           go_simp
           with_reducible rfl
          rotate_left
          ·
           simp only [Act.put, List.setIfInBounds_toArray, List.set_cons_zero, List.set_cons_succ, i64_w, i32_w]
           rfl
          refine pure_ (i := 14) (N := some 41) #[true, true, true, true, true, true, true, true, true, true, true, true, true, true, true, false, false, false, false] rfl rfl (any_of HT_.out zq18) (fun _ _ _ h => h) (Or.inl ⟨by rfl, zpv⟩) zpw ?_
          refine pure_ (i := 15) (N := some 42) #[true, true, true, true, true, true, true, true, true, true, true, true, true, true, true, true, false, false, false] rfl rfl (any_of HT_.out zq18) (fun _ _ _ h => h) (Or.inl ⟨by rfl, zpv⟩) zpw ?_
          refine take_ (i := 16) (N := some 43) (v := ?_) (a' := ?_) #[true, true, true, true, true, true, true, true, true, true, true, true, true, true, true, true, true, false, false] rfl rfl (take_ofW HT_.out HW_.out zq18) (fun _ _ _ h => h) (Or.inl ⟨by rfl, ?_⟩) hHeld ?_ ?_
          rotate_left
          ·
           rintro w' ⟨s0, s1, s2, s3, s4, s5, s6, s7⟩
           go_simp
           with_reducible rfl
          rotate_left
          ·
           simp only [Act.put, List.setIfInBounds_toArray, List.set_cons_zero, List.set_cons_succ, i64_w, i32_w]
           rfl
          refine pure_ (i := 17) (N := some 44) #[true, true, true, true, true, true, true, true, true, true, true, true, true, true, true, true, true, true, false] rfl rfl (any_of HT_.out zq18) (fun _ _ _ h => h) (Or.inl ⟨by rfl, zpv⟩) zpw ?_
          refine pure_ (i := 18) (N := some 45) #[true, true, true, true, true, true, true, true, true, true, true, true, true, true, true, true, true, true, true] rfl rfl (any_of HT_.out zq18) (fun _ _ _ h => h) (Or.inl ⟨by rfl, zpv⟩) zpw ?_
          refine done_ (done_of HT_.out zq18) ?_
          try go_wp2
          go_meet
          case rel => exact ⟨_, ((((rd_T69 s0_0 x1001_2).f0) != 0)), zq29, H', ⟨by have := HK1.out; have := HK2.out; first | omega | exact Nat.le_refl _⟩, ⟨zq87⟩, ⟨zq92⟩, ⟨zq93⟩, ⟨zq70⟩, ⟨zq71⟩, ⟨zq5⟩, ⟨zq14⟩, ⟨zq17⟩⟩
         ·
          rw [if_neg c33] at H
          exact absurd H (by simp)
        ·
         rw [if_neg c32] at H
         exact absurd H (by simp)
       ·
        rw [if_neg c31] at H
        have c31b0 := beq_eq_false_iff_ne.mpr c31
        have c31b1 := bne_iff_ne.mpr c31
        (first | rw [c31b0] | (simp only [i64_w, i32_w]; rw [c31b0]) | skip)
        have H' := za H
        clear H
        try go_wp2
        replace HO_888002 := za (Kd.R_drew HO_888002.out)
        replace HO_888003 := za (Kd.R_drew HO_888003.out)
        replace HO_888004 := za (Kd.R_drew HO_888004.out)
        replace BK872 := za (blk_drew BK872.out)
        replace BK887 := za (blk_drew BK887.out)
        replace HI0 := za (IsS57.drew HI0.out)
        replace HK := za (keep_drew HK.out)
        replace HB := za (below_drew1 HB.out)
        obtain ⟨ASz37_0, cSz37_0, HGz37, hgz37, HSz37_0⟩ := HI0.out
        have hx37_0 := cellS57_0 HGz37
        have hx37_1 := cellS57_1 HGz37
        have hx37_2 := cellS57_2 HGz37
        have hx37_3 := cellS57_3 HGz37
        have hx37_4 := cellS57_4 HGz37
        clear HGz37 hgz37
        refine start_ (n := 19) (S := fun w' => w'.cell? ⟨g, 0, none⟩ = some (.slice ASz37_0 s0_0.length cSz37_0) ∧ w'.cell? ⟨g, 1, none⟩ = some (.int .i64 x1001_2) ∧ w'.cell? ⟨g, 2, none⟩ = some (.int .i64 x1002_2) ∧ w'.cell? ⟨g, 3, none⟩ = some (.int .i64 x1003_2) ∧ w'.cell? ⟨g, 4, none⟩ = some (.int .i64 x1004_2)) (ds := []) #[false, false, false, false, false, false, false, false, false, false, false, false, false, false, false, false, false, false, false] zq18 rfl rfl ⟨hx37_0, hx37_1, hx37_2, hx37_3, hx37_4⟩ (fun hHeld => ?_); refine with_tabW rr_module.tab7 rr_module.bits7 (fun HT_ HW_ => ?_)
        generalize wr.drew = w36 at HO_888002 HO_888003 HO_888004 BK872 BK887 HI0 HK HB hx37_0 hx37_1 hx37_2 hx37_3 hx37_4 hHeld ⊢
        refine pure_ (i := 0) (N := some 27) #[true, false, false, false, false, false, false, false, false, false, false, false, false, false, false, false, false, false, false] rfl rfl (any_of HT_.out zq18) (fun _ _ _ h => h) (Or.inl ⟨by rfl, zpv⟩) zpw ?_
        refine pure_ (i := 1) (N := some 28) #[true, true, false, false, false, false, false, false, false, false, false, false, false, false, false, false, false, false, false] rfl rfl (any_of HT_.out zq18) (fun _ _ _ h => h) (Or.inl ⟨by rfl, zpv⟩) zpw ?_
        refine pure_ (i := 2) (N := some 29) #[true, true, true, false, false, false, false, false, false, false, false, false, false, false, false, false, false, false, false] rfl rfl (any_of HT_.out zq18) (fun _ _ _ h => h) (Or.inl ⟨by rfl, zpv⟩) zpw ?_
        refine take_ (i := 3) (N := some 30) (v := ?_) (a' := ?_) #[true, true, true, true, false, false, false, false, false, false, false, false, false, false, false, false, false, false, false] rfl rfl (take_ofW HT_.out HW_.out zq18) (fun _ _ _ h => h) (Or.inl ⟨by rfl, ?_⟩) hHeld ?_ ?_
        rotate_left
        ·
         rintro w' ⟨s0, s1, s2, s3, s4⟩
         go_simp
         with_reducible rfl
        rotate_left
        ·
         simp only [Act.put, List.setIfInBounds_toArray, List.set_cons_zero, List.set_cons_succ, i64_w, i32_w]
         rfl
        refine pure_ (i := 4) (N := some 31) #[true, true, true, true, true, false, false, false, false, false, false, false, false, false, false, false, false, false, false] rfl rfl (any_of HT_.out zq18) (fun _ _ _ h => h) (Or.inl ⟨by rfl, zpv⟩) zpw ?_
        refine pure_ (i := 5) (N := some 32) #[true, true, true, true, true, true, false, false, false, false, false, false, false, false, false, false, false, false, false] rfl rfl (any_of HT_.out zq18) (fun _ _ _ h => h) (Or.inl ⟨by rfl, zpv⟩) zpw ?_
        refine pure_ (i := 6) (N := some 33) (v := undef) (a' := ?_) #[true, true, true, true, true, true, true, false, false, false, false, false, false, false, false, false, false, false, false] rfl rfl (any_of HT_.out zq18) (fun _ _ _ h => h) (Or.inr ⟨by rfl, rfl⟩) ?_ ?_
        rotate_left
        ·
         simp only [Act.put, List.setIfInBounds_toArray, List.set_cons_zero, List.set_cons_succ, i64_w, i32_w]
         rfl
        refine pure_ (i := 7) (N := some 34) (v := undef) (a' := ?_) #[true, true, true, true, true, true, true, true, false, false, false, false, false, false, false, false, false, false, false] rfl rfl (any_of HT_.out zq18) (fun _ _ _ h => h) (Or.inr ⟨by rfl, rfl⟩) ?_ ?_
        rotate_left
        ·
         simp only [Act.put, List.setIfInBounds_toArray, List.set_cons_zero, List.set_cons_succ, i64_w, i32_w]
         rfl
        refine pure_ (i := 8) (N := some 35) (v := undef) (a' := ?_) #[true, true, true, true, true, true, true, true, true, false, false, false, false, false, false, false, false, false, false] rfl rfl (any_of HT_.out zq18) (fun _ _ _ h => h) (Or.inr ⟨by rfl, rfl⟩) ?_ ?_
        rotate_left
        ·
         simp only [Act.put, List.setIfInBounds_toArray, List.set_cons_zero, List.set_cons_succ, i64_w, i32_w]
         rfl
        refine pure_ (i := 9) (N := some 36) (v := undef) (a' := ?_) #[true, true, true, true, true, true, true, true, true, true, false, false, false, false, false, false, false, false, false] rfl rfl (any_of HT_.out zq18) (fun _ _ _ h => h) (Or.inr ⟨by rfl, rfl⟩) ?_ ?_
        rotate_left
        ·
         simp only [Act.put, List.setIfInBounds_toArray, List.set_cons_zero, List.set_cons_succ, i64_w, i32_w]
         rfl
        refine pure_ (i := 10) (N := some 37) (v := undef) (a' := ?_) #[true, true, true, true, true, true, true, true, true, true, true, false, false, false, false, false, false, false, false] rfl rfl (any_of HT_.out zq18) (fun _ _ _ h => h) (Or.inr ⟨by rfl, rfl⟩) ?_ ?_
        rotate_left
        ·
         simp only [Act.put, List.setIfInBounds_toArray, List.set_cons_zero, List.set_cons_succ, i64_w, i32_w]
         rfl
        refine pure_ (i := 11) (N := some 38) (v := undef) (a' := ?_) #[true, true, true, true, true, true, true, true, true, true, true, true, false, false, false, false, false, false, false] rfl rfl (any_of HT_.out zq18) (fun _ _ _ h => h) (Or.inr ⟨by rfl, rfl⟩) ?_ ?_
        rotate_left
        ·
         simp only [Act.put, List.setIfInBounds_toArray, List.set_cons_zero, List.set_cons_succ, i64_w, i32_w]
         rfl
        refine pure_ (i := 12) (N := some 39) (v := undef) (a' := ?_) #[true, true, true, true, true, true, true, true, true, true, true, true, true, false, false, false, false, false, false] rfl rfl (any_of HT_.out zq18) (fun _ _ _ h => h) (Or.inr ⟨by rfl, rfl⟩) ?_ ?_
        rotate_left
        ·
         simp only [Act.put, List.setIfInBounds_toArray, List.set_cons_zero, List.set_cons_succ, i64_w, i32_w]
         rfl
        refine pure_ (i := 13) (N := some 40) (v := undef) (a' := ?_) #[true, true, true, true, true, true, true, true, true, true, true, true, true, true, false, false, false, false, false] rfl rfl (any_of HT_.out zq18) (fun _ _ _ h => h) (Or.inr ⟨by rfl, rfl⟩) ?_ ?_
        rotate_left
        ·
         simp only [Act.put, List.setIfInBounds_toArray, List.set_cons_zero, List.set_cons_succ, i64_w, i32_w]
         rfl
        refine pure_ (i := 14) (N := some 41) (v := undef) (a' := ?_) #[true, true, true, true, true, true, true, true, true, true, true, true, true, true, true, false, false, false, false] rfl rfl (any_of HT_.out zq18) (fun _ _ _ h => h) (Or.inr ⟨by rfl, rfl⟩) ?_ ?_
        rotate_left
        ·
         simp only [Act.put, List.setIfInBounds_toArray, List.set_cons_zero, List.set_cons_succ, i64_w, i32_w]
         rfl
        refine pure_ (i := 15) (N := some 42) (v := undef) (a' := ?_) #[true, true, true, true, true, true, true, true, true, true, true, true, true, true, true, true, false, false, false] rfl rfl (any_of HT_.out zq18) (fun _ _ _ h => h) (Or.inr ⟨by rfl, rfl⟩) ?_ ?_
        rotate_left
        ·
         simp only [Act.put, List.setIfInBounds_toArray, List.set_cons_zero, List.set_cons_succ, i64_w, i32_w]
         rfl
        refine pure_ (i := 16) (N := some 43) (v := undef) (a' := ?_) #[true, true, true, true, true, true, true, true, true, true, true, true, true, true, true, true, true, false, false] rfl rfl (any_of HT_.out zq18) (fun _ _ _ h => h) (Or.inr ⟨by rfl, rfl⟩) ?_ ?_
        rotate_left
        ·
         simp only [Act.put, List.setIfInBounds_toArray, List.set_cons_zero, List.set_cons_succ, i64_w, i32_w]
         rfl
        refine pure_ (i := 17) (N := some 44) (v := undef) (a' := ?_) #[true, true, true, true, true, true, true, true, true, true, true, true, true, true, true, true, true, true, false] rfl rfl (any_of HT_.out zq18) (fun _ _ _ h => h) (Or.inr ⟨by rfl, rfl⟩) ?_ ?_
        rotate_left
        ·
         simp only [Act.put, List.setIfInBounds_toArray, List.set_cons_zero, List.set_cons_succ, i64_w, i32_w]
         rfl
        refine pure_ (i := 18) (N := some 45) #[true, true, true, true, true, true, true, true, true, true, true, true, true, true, true, true, true, true, true] rfl rfl (any_of HT_.out zq18) (fun _ _ _ h => h) (Or.inl ⟨by rfl, zpv⟩) zpw ?_
        refine done_ (done_of HT_.out zq18) ?_
        try go_wp2
        go_meet
        case rel => exact ⟨_, (false), zq29, H', ⟨by have := HK1.out; have := HK2.out; first | omega | exact Nat.le_refl _⟩, ⟨zq87⟩, ⟨zq92⟩, ⟨zq93⟩, ⟨zq70⟩, ⟨zq71⟩, ⟨zq5⟩, ⟨zq14⟩, ⟨zq17⟩⟩
      case rest =>
       clear HC30
       obtain ⟨kq, x45_29, rfl, HA, HJ29, HO_888002, HO_888003, HO_888004, BK872, BK887, HI0, HK, HB⟩ := hcut
       cases kq with
       | zero => exact absurd HA.out (by simp [rr_module.j2])
       | succ kj29 =>
        have H := HA.out
        clear HA
        simp only [rr_module.j2] at H
        by_cases c38 : x45_29 = true
        ·
         subst c38
         rw [if_pos rfl] at H
         replace H := Option.bind_eq_some_iff.mp H
         obtain ⟨⟨t915, t916, t917, t918, t919⟩, A390, H⟩ := H
         (try dsimp only at H)
         have A39 := za A390
         clear A390
         by_cases c40 : t915 = true
         ·
          subst c40
          rw [if_pos rfl] at H
          replace H := Option.bind_eq_some_iff.mp H
          obtain ⟨⟨t920, t921, t922, t923, t924, t925, t926, t927⟩, A410, H⟩ := H
          (try dsimp only at H)
          have A41 := za A410
          clear A410
          by_cases c42 : x888003_2.length < 2932031007402
          ·
           rw [if_pos c42] at H
           have LMc42 := za c42
           clear c42
           obtain ⟨y928, hy928⟩ : ∃ y_ : List (S77), y_ = (x888003_2 ++ [(⟨t920, t921, t922, t923⟩ : S77)]) := ⟨_, rfl⟩
           replace H : (rr_module.l1 kj29 s0_0 t924 t925 t926 t927 t882 t877 x888002_1 y928 x888004_2) = some (r1, r2, r3, r4, r5, r6, r7, r8, r9) := by first | (rw [hy928]; with_reducible exact H) | (have H2_ := (Option.bind_some _ _).symm.trans H; rw [hy928]; with_reducible exact H2_) | (have H2_ := (Option.bind_some _ _).symm.trans H; with_reducible exact H2_) | with_reducible exact H | (rw [hy928]; exact H) | exact H
           have Ny928 := za hy928
           clear hy928
           have H' := za H
           clear H
           try go_wp2_with (first | ((with_reducible refine gate_callee (f := 24) rfl ?_); refine goesL_ (some 47) rfl rfl Try.func24 zq18 rfl #[.pointer (some ⟨g, 0, none⟩), .string (⟨#[118, 97, 114]⟩ : ByteArray)] rfl zq1 ?_; (with_reducible refine (rr_take.calls g s0_0 x1001_2 x1002_2 x1003_2 x1004_2 (⟨#[118, 97, 114]⟩ : ByteArray) true t916 t917 t918 t919 w0 _ ?side1 ?side2 A39.out).mono ?_); (case side1 => exact zq5); (case side2 => exact zq17); rintro e w43 ⟨rfl, hi, hb, hk⟩; refine ⟨_, rfl, ?_⟩; replace HO_888002 := za (Kd.R_mono (Kd.R_keep (IsS57.apart (show IsS57 w0 _ g s0_0 x1001_2 x1002_2 x1003_2 x1004_2 from zq5) (zr HO_888002.out) (by decide)) hk (fun _ h => h.2)) (fun _ h => h.1)); replace HO_888003 := za (Kd.R_mono (Kd.R_keep (IsS57.apart (show IsS57 w0 _ g s0_0 x1001_2 x1002_2 x1003_2 x1004_2 from zq5) (zr HO_888003.out) (by decide)) hk (fun _ h => h.2)) (fun _ h => h.1)); replace HO_888004 := za (Kd.R_mono (Kd.R_keep (IsS57.apart (show IsS57 w0 _ g s0_0 x1001_2 x1002_2 x1003_2 x1004_2 from zq5) (zr HO_888004.out) (by decide)) hk (fun _ h => h.2)) (fun _ h => h.1)); replace BK872 := za (KeepBut.blk hk (g' := gb872) (zb BK872.out) NB872_0.out (by simp)); replace BK887 := za (KeepBut.blk hk (g' := gb887) (zb BK887.out) NB887_0.out (by simp)); replace HK := za (KeepBut.trans zq14 hk (.inl rfl)); replace HB := za (hb); replace HI0 := za (hi)))
           replace HO_888002 := za (Kd.R_drew HO_888002.out)
           replace HO_888003 := za (Kd.R_drew HO_888003.out)
           replace HO_888004 := za (Kd.R_drew HO_888004.out)
           replace BK872 := za (blk_drew BK872.out)
           replace BK887 := za (blk_drew BK887.out)
           replace HI0 := za (IsS57.drew HI0.out)
           replace HK := za (keep_drew HK.out)
           replace HB := za (below_drew1 HB.out)
           refine start_ (n := 8) (S := fun w' => w'.cell? ⟨gb887, 0, none⟩ = some (.string t882) ∧ w'.cell? ⟨gb887, 1, none⟩ = some (.int .i64 t877) ∧ w'.cell? ⟨gb887, 2, none⟩ = some (u888002) ∧ w'.cell? ⟨gb887, 3, none⟩ = some (u888003) ∧ w'.cell? ⟨gb887, 4, none⟩ = some (u888004)) (ds := [7]) #[false, false, false, false, false, false, false, false] zq18 rfl rfl ⟨(blk_cell BK887.out 0).trans rfl, (blk_cell BK887.out 1).trans rfl, (blk_cell BK887.out 2).trans rfl, (blk_cell BK887.out 3).trans rfl, (blk_cell BK887.out 4).trans rfl⟩ (fun hHeld => ?_); refine with_tabW rr_module.tab9 rr_module.bits9 (fun HT_ HW_ => ?_)
           generalize w43.drew = w44 at HO_888002 HO_888003 HO_888004 BK872 BK887 HI0 HK HB hHeld ⊢
           refine pure_ (i := 0) (N := some 48) #[true, false, false, false, false, false, false, false] rfl rfl (any_of HT_.out zq18) (fun _ _ _ h => h) (Or.inl ⟨by rfl, zpv⟩) zpw ?_
           refine pure_ (i := 2) (N := some 50) #[true, false, true, false, false, false, false, false] rfl rfl (any_of HT_.out zq18) (fun _ _ _ h => h) (Or.inl ⟨by rfl, zpv⟩) zpw ?_
           refine take_ (i := 1) (N := some 49) (v := ?_) (a' := ?_) #[true, true, true, false, false, false, false, false] rfl rfl (take_ofW HT_.out HW_.out zq18) (fun _ _ _ h => h) (Or.inl ⟨by rfl, ?_⟩) hHeld ?_ ?_
           rotate_left
           ·
            rintro w' ⟨s0, s1, s2, s3, s4⟩
            go_simp
            with_reducible rfl
           rotate_left
           ·
            simp only [Act.put, List.setIfInBounds_toArray, List.set_cons_zero, List.set_cons_succ, i64_w, i32_w]
            rfl
           refine one_ (i := 3) (N := some 51) #[true, true, true, true, false, false, false, false] rfl rfl (one_of HT_.out zq18) (by decide) (fun K hK => ?_)
           refine goes_ Try.func25 zq18 rfl #[.pointer (some ⟨g, 0, none⟩)] (by rfl) rfl rfl zq1 ?_
           with_reducible refine (rr_variable.calls kj29 g s0_0 t916 t917 t918 t919 t920 t921 t922 t923 t924 t925 t926 t927 w0 _ ?side1 ?side2 A41.out).mono ?_
           (case side1 => exact zq5)
           (case side2 => exact zq17)
           rintro e w45 ⟨rfl, hi, hb, hk⟩
           refine ⟨_, rfl, ?_⟩
           replace HO_888002 := za (Kd.R_mono (Kd.R_keep (IsS57.apart (show IsS57 w0 _ g s0_0 t916 t917 t918 t919 from zq5) (zr HO_888002.out) (by decide)) hk (fun _ h => h.2)) (fun _ h => h.1))
           replace HO_888003 := za (Kd.R_mono (Kd.R_keep (IsS57.apart (show IsS57 w0 _ g s0_0 t916 t917 t918 t919 from zq5) (zr HO_888003.out) (by decide)) hk (fun _ h => h.2)) (fun _ h => h.1))
           replace HO_888004 := za (Kd.R_mono (Kd.R_keep (IsS57.apart (show IsS57 w0 _ g s0_0 t916 t917 t918 t919 from zq5) (zr HO_888004.out) (by decide)) hk (fun _ h => h.2)) (fun _ h => h.1))
           replace BK872 := za (KeepBut.blk hk (g' := gb872) (zb BK872.out) NB872_0.out (by simp))
           replace BK887 := za (KeepBut.blk hk (g' := gb887) (zb BK887.out) NB887_0.out (by simp))
           replace HK := za (KeepBut.trans zq14 hk (.inl rfl))
           replace HB := za (hb)
           replace HI0 := za (hi)
           refine hK.out _ _ ⟨(blk_cell BK887.out 0).trans rfl, (blk_cell BK887.out 1).trans rfl, (blk_cell BK887.out 2).trans rfl, (blk_cell BK887.out 3).trans rfl, (blk_cell BK887.out 4).trans rfl⟩ (fun hHeld => ?_)
           clear hK K
           refine norm_ (a' := ?_) ?_ ?_
           rotate_left
           ·
            show Act.put _ (some 51) _ = _
            simp only [Act.put, List.setIfInBounds_toArray, List.set_cons_zero, List.set_cons_succ, i64_w, i32_w]
            rfl
           refine one_ (i := 4) (N := some 52) #[true, true, true, true, true, false, false, false] rfl rfl (one_of HT_.out zq18) (by decide) (fun K hK => ?_)
           refine value_ (w1 := ?_) (v := ?_) (by rfl) rfl ?_ ?_
           rotate_left 2
           ·
            go_simp
            constructor
            ·
             rfl
            ·
             rfl
           refine hK.out _ _ ⟨(blk_cell (blk_alloc BK887.out _) 0).trans rfl, (blk_cell (blk_alloc BK887.out _) 1).trans rfl, (blk_cell (blk_alloc BK887.out _) 2).trans rfl, (blk_cell (blk_alloc BK887.out _) 3).trans rfl, (blk_cell (blk_alloc BK887.out _) 4).trans rfl⟩ (fun hHeld => ?_)
           clear hK K
           refine norm_ (a' := ?_) ?_ ?_
           rotate_left
           ·
            show Act.put _ (some 52) _ = _
            simp only [Act.put, List.setIfInBounds_toArray, List.set_cons_zero, List.set_cons_succ, i64_w, i32_w]
            rfl
           refine one_ (i := 5) (N := some 53) #[true, true, true, true, true, true, false, false] rfl rfl (one_of HT_.out zq18) (by decide) (fun K hK => ?_)
           refine Kd.R_append_step k77 w.heap.size (by rfl) (.tmp 49) (.tmp 52) 33 77 (.agg #[(.string ⟨#[]⟩), (.string ⟨#[]⟩), (.int .i64 0), (.int .i64 0)]) 48 rfl Try.underlying33 info77 rfl (by decide) (by omega) u888003 x888003_2 (⟨t920, t921, t922, t923⟩ : S77) [.string t920, .string t921, .int .i64 t922, .int .i64 t923] (fun _ => True) (fun _ => False) rfl rfl ?aP (fun _ hk => hk.elim) ?aF ?aO (Below.refl _ _) ?aS ?aL ?_
           (case aP => exact k77_mkM _ _ _ (⟨t920, t921, t922, t923⟩ : S77))
           (case aF => exact (fun _ _ => trivial))
           (case aO => exact (zr HO_888003.out))
           (case aS => exact (keep_size (w := w) (g := g) (row := none) zq14))
           (case aL => have := LMc42.out; omega)
           intro v929 w46 ho hb hg hat
           rw [← Ny928.out] at ho
           replace HO_888002 := za (Kd.R_over' (zr HO_888002.out) (Kd.R_typed (zr HO_888003.out)) (by decide) hg)
           replace HO_888004 := za (Kd.R_over' (zr HO_888004.out) (Kd.R_typed (zr HO_888003.out)) (by decide) hg)
           replace BK872 := za (blk_grown (g := gb872) (zb BK872.out) hg (Kd.R_ne HO_888003.out BK872.out (by decide)))
           replace BK887 := za (blk_grown (g := gb887) (zb BK887.out) hg (Kd.R_ne HO_888003.out BK887.out (by decide)))
           replace HB := za (below_weaken zq17 HL.out hb)
           replace HI0 := za (IsS57.grown zq5 hg (IsS57.own_ne HI0.out HO_888003.out (by decide)))
           replace HK := za (KeepBut.trans zq14 (KeepBut.of_grown hg g) (Kd.R_base2 HO_888003.out))
           have HO930 := za (ho)
           clear HO_888003
           clear ho hb hg hat
           obtain ⟨Ao47, co47, eo47⟩ := Kd.R_slice HO930.out
           (first | subst eo47 | (injection eo47 with f1_ f2_ f3_; have f4_ := f1_.symm; have f5_ := f3_.symm; clear f1_ f2_ f3_; subst f4_; subst f5_))
           refine hK.out _ _ ⟨(blk_cell BK887.out 0).trans rfl, (blk_cell BK887.out 1).trans rfl, (blk_cell BK887.out 2).trans rfl, (blk_cell BK887.out 3).trans rfl, (blk_cell BK887.out 4).trans rfl⟩ (fun hHeld => ?_)
           clear hK K
           refine norm_ (a' := ?_) ?_ ?_
           rotate_left
           ·
            show Act.put _ (some 53) _ = _
            simp only [Act.put, List.setIfInBounds_toArray, List.set_cons_zero, List.set_cons_succ, i64_w, i32_w]
            rfl
           refine pure_ (i := 6) (N := some 54) #[true, true, true, true, true, true, true, false] rfl rfl (any_of HT_.out zq18) (fun _ _ _ h => h) (Or.inl ⟨by rfl, zpv⟩) zpw ?_
           refine last_ (i := 7) (N := none) #[true, true, true, true, true, true, true, true] rfl rfl (one_of HT_.out zq18) (by decide) (fun K hK => ?_)
           have hs48 : w46.cell? ⟨gb887, 3, none⟩ = some (u888003) := (blk_cell BK887.out 3).trans rfl
           have hfs48 := blk_frozen BK887.out 3
           have hns48_0 := NB872_887.out
           have hms48_0 := NB887_872.out
           refine skip_ (w1 := ?_) (by rfl) rfl ?_ ?_
           rotate_left
           ·
            go_simp
            rfl
           refine hK.out _ _ ?_
           clear hK K
           refine done_ (done_of HT_.out zq18) ?_
           try go_wp2
           go_roundg kj29
           case measure => have := HK1.out; have := HK2.out; have := HJ29.out; omega
           case rel => exact ⟨(t924), (t925), (t926), (t927), (y928), (x888004_2), (.slice Ao47 y928.length co47), (u888004), H', ⟨by have := HK1.out; have := HK2.out; have := HJ29.out; omega⟩, ⟨by (with_reducible repeat (first | apply Kd.R_alloc | apply Kd.R_drewN | apply Kd.R_drew)); exact Kd.R_mono (Kd.R_far (p := ⟨gb887, 3, none⟩) (Kd.R_types HO_888002.out BK887.out (by decide)) (fun _ hk => hk.2) (.slice Ao47 y928.length co47)) (fun _ hk => trivial)⟩, ⟨by (with_reducible repeat (first | apply Kd.R_alloc | apply Kd.R_drewN | apply Kd.R_drew)); exact Kd.R_mono (Kd.R_far (p := ⟨gb887, 3, none⟩) (Kd.R_types HO930.out BK887.out (by decide)) (fun _ hk => hk.2) (.slice Ao47 y928.length co47)) (fun _ hk => trivial)⟩, ⟨by (with_reducible repeat (first | apply Kd.R_alloc | apply Kd.R_drewN | apply Kd.R_drew)); exact Kd.R_mono (Kd.R_far (p := ⟨gb887, 3, none⟩) (Kd.R_types HO_888004.out BK887.out (by decide)) (fun _ hk => hk.2) (.slice Ao47 y928.length co47)) (fun _ hk => trivial)⟩, ⟨zq65⟩, ⟨by (with_reducible repeat (first | refine blk_drewN ?_ _ | refine blk_drew ?_ | refine blk_alloc ?_ _)); refine blk_put (cs := #[.string t882, .int .i64 t877, u888002, u888003, u888004]) ?_ 3 _ rfl; (with_reducible repeat (first | refine blk_drewN ?_ _ | refine blk_drew ?_ | refine blk_alloc ?_ _)); exact BK887.out⟩, ⟨zq5⟩, ⟨zq14⟩, ⟨zq17⟩⟩
          ·
           rw [if_neg c42] at H
           exact absurd H (by simp)
         ·
          replace c40 := Bool.eq_false_iff.mpr c40
          subst c40
          rw [if_neg (show ¬ (false = true) by decide)] at H
          replace H := Option.bind_eq_some_iff.mp H
          obtain ⟨⟨t931, t932, t933, t934, t935⟩, A490, H⟩ := H
          (try dsimp only at H)
          have A49 := za A490
          clear A490
          by_cases c50 : t931 = true
          ·
           subst c50
           rw [if_pos rfl] at H
           replace H := Option.bind_eq_some_iff.mp H
           obtain ⟨⟨t936, t937, t940, t941, t942, t943, t946, t949, t950, t951, t952, t953⟩, A510, H⟩ := H
           (try dsimp only at H)
           have A51 := za A510
           clear A510
           by_cases c52 : x888004_2.length < 1034834473200
           ·
            rw [if_pos c52] at H
            have LMc52 := za c52
            clear c52
            obtain ⟨y954, hy954⟩ : ∃ y_ : List (S42), y_ = (x888004_2 ++ [(⟨t936, t937, t940, t941, t942, t943, t946, t949⟩ : S42)]) := ⟨_, rfl⟩
            replace H : (rr_module.l1 kj29 s0_0 t950 t951 t952 t953 t882 t877 x888002_1 x888003_2 y954) = some (r1, r2, r3, r4, r5, r6, r7, r8, r9) := by first | (rw [hy954]; with_reducible exact H) | (have H2_ := (Option.bind_some _ _).symm.trans H; rw [hy954]; with_reducible exact H2_) | (have H2_ := (Option.bind_some _ _).symm.trans H; with_reducible exact H2_) | with_reducible exact H | (rw [hy954]; exact H) | exact H
            have Ny954 := za hy954
            clear hy954
            have H' := za H
            clear H
            try go_wp2_with (first | ((with_reducible refine gate_callee (f := 24) rfl ?_); refine goesL_ (some 47) rfl rfl Try.func24 zq18 rfl #[.pointer (some ⟨g, 0, none⟩), .string (⟨#[118, 97, 114]⟩ : ByteArray)] rfl zq1 ?_; (with_reducible refine (rr_take.calls g s0_0 x1001_2 x1002_2 x1003_2 x1004_2 (⟨#[118, 97, 114]⟩ : ByteArray) false t916 t917 t918 t919 w0 _ ?side1 ?side2 A39.out).mono ?_); (case side1 => exact zq5); (case side2 => exact zq17); rintro e w53 ⟨rfl, hi, hb, hk⟩; refine ⟨_, rfl, ?_⟩; replace HO_888002 := za (Kd.R_mono (Kd.R_keep (IsS57.apart (show IsS57 w0 _ g s0_0 x1001_2 x1002_2 x1003_2 x1004_2 from zq5) (zr HO_888002.out) (by decide)) hk (fun _ h => h.2)) (fun _ h => h.1)); replace HO_888003 := za (Kd.R_mono (Kd.R_keep (IsS57.apart (show IsS57 w0 _ g s0_0 x1001_2 x1002_2 x1003_2 x1004_2 from zq5) (zr HO_888003.out) (by decide)) hk (fun _ h => h.2)) (fun _ h => h.1)); replace HO_888004 := za (Kd.R_mono (Kd.R_keep (IsS57.apart (show IsS57 w0 _ g s0_0 x1001_2 x1002_2 x1003_2 x1004_2 from zq5) (zr HO_888004.out) (by decide)) hk (fun _ h => h.2)) (fun _ h => h.1)); replace BK872 := za (KeepBut.blk hk (g' := gb872) (zb BK872.out) NB872_0.out (by simp)); replace BK887 := za (KeepBut.blk hk (g' := gb887) (zb BK887.out) NB887_0.out (by simp)); replace HK := za (KeepBut.trans zq14 hk (.inl rfl)); replace HB := za (hb); replace HI0 := za (hi)) | ((with_reducible refine gate_callee (f := 24) rfl ?_); refine goesL_ (some 56) rfl rfl Try.func24 zq18 rfl #[.pointer (some ⟨g, 0, none⟩), .string (⟨#[112, 114, 111, 99]⟩ : ByteArray)] rfl zq1 ?_; (with_reducible refine (rr_take.calls g s0_0 t916 t917 t918 t919 (⟨#[112, 114, 111, 99]⟩ : ByteArray) true t932 t933 t934 t935 w0 _ ?side1 ?side2 A49.out).mono ?_); (case side1 => exact zq5); (case side2 => exact zq17); rintro e w54 ⟨rfl, hi, hb, hk⟩; refine ⟨_, rfl, ?_⟩; replace HO_888002 := za (Kd.R_mono (Kd.R_keep (IsS57.apart (show IsS57 w0 _ g s0_0 t916 t917 t918 t919 from zq5) (zr HO_888002.out) (by decide)) hk (fun _ h => h.2)) (fun _ h => h.1)); replace HO_888003 := za (Kd.R_mono (Kd.R_keep (IsS57.apart (show IsS57 w0 _ g s0_0 t916 t917 t918 t919 from zq5) (zr HO_888003.out) (by decide)) hk (fun _ h => h.2)) (fun _ h => h.1)); replace HO_888004 := za (Kd.R_mono (Kd.R_keep (IsS57.apart (show IsS57 w0 _ g s0_0 t916 t917 t918 t919 from zq5) (zr HO_888004.out) (by decide)) hk (fun _ h => h.2)) (fun _ h => h.1)); replace BK872 := za (KeepBut.blk hk (g' := gb872) (zb BK872.out) NB872_0.out (by simp)); replace BK887 := za (KeepBut.blk hk (g' := gb887) (zb BK887.out) NB887_0.out (by simp)); replace HK := za (KeepBut.trans zq14 hk (.inl rfl)); replace HB := za (hb); replace HI0 := za (hi)))
            replace HO_888002 := za (Kd.R_drew HO_888002.out)
            replace HO_888003 := za (Kd.R_drew HO_888003.out)
            replace HO_888004 := za (Kd.R_drew HO_888004.out)
            replace BK872 := za (blk_drew BK872.out)
            replace BK887 := za (blk_drew BK887.out)
            replace HI0 := za (IsS57.drew HI0.out)
            replace HK := za (keep_drew HK.out)
            replace HB := za (below_drew1 HB.out)
            refine start_ (n := 8) (S := fun w' => w'.cell? ⟨gb887, 0, none⟩ = some (.string t882) ∧ w'.cell? ⟨gb887, 1, none⟩ = some (.int .i64 t877) ∧ w'.cell? ⟨gb887, 2, none⟩ = some (u888002) ∧ w'.cell? ⟨gb887, 3, none⟩ = some (u888003) ∧ w'.cell? ⟨gb887, 4, none⟩ = some (u888004)) (ds := [7]) #[false, false, false, false, false, false, false, false] zq18 rfl rfl ⟨(blk_cell BK887.out 0).trans rfl, (blk_cell BK887.out 1).trans rfl, (blk_cell BK887.out 2).trans rfl, (blk_cell BK887.out 3).trans rfl, (blk_cell BK887.out 4).trans rfl⟩ (fun hHeld => ?_); refine with_tabW rr_module.tab11 rr_module.bits11 (fun HT_ HW_ => ?_)
            generalize w54.drew = w55 at HO_888002 HO_888003 HO_888004 BK872 BK887 HI0 HK HB hHeld ⊢
            refine pure_ (i := 0) (N := some 57) #[true, false, false, false, false, false, false, false] rfl rfl (any_of HT_.out zq18) (fun _ _ _ h => h) (Or.inl ⟨by rfl, zpv⟩) zpw ?_
            refine pure_ (i := 2) (N := some 59) #[true, false, true, false, false, false, false, false] rfl rfl (any_of HT_.out zq18) (fun _ _ _ h => h) (Or.inl ⟨by rfl, zpv⟩) zpw ?_
            refine take_ (i := 1) (N := some 58) (v := ?_) (a' := ?_) #[true, true, true, false, false, false, false, false] rfl rfl (take_ofW HT_.out HW_.out zq18) (fun _ _ _ h => h) (Or.inl ⟨by rfl, ?_⟩) hHeld ?_ ?_
            rotate_left
            ·
             rintro w' ⟨s0, s1, s2, s3, s4⟩
             go_simp
             with_reducible rfl
            rotate_left
            ·
             simp only [Act.put, List.setIfInBounds_toArray, List.set_cons_zero, List.set_cons_succ, i64_w, i32_w]
             rfl
            refine one_ (i := 3) (N := some 60) #[true, true, true, true, false, false, false, false] rfl rfl (one_of HT_.out zq18) (by decide) (fun K hK => ?_)
            refine goes_ Try.func26 zq18 rfl #[.pointer (some ⟨g, 0, none⟩)] (by rfl) rfl rfl zq1 ?_
            with_reducible refine (rr_proc.calls kj29 g s0_0 t932 t933 t934 t935 t936 t937 t940 t941 t942 t943 t946 t949 t950 t951 t952 t953 w0 _ ?side1 ?side2 A51.out).mono ?_
            (case side1 => exact zq5)
            (case side2 => exact zq17)
            rintro e w56 ⟨v938, v944, v947, rfl, ho0, ho1, ho2, hi, hb, hk⟩
            refine ⟨_, rfl, ?_⟩
            replace HO_888002 := za (Kd.R_mono (Kd.R_keep (IsS57.apart (show IsS57 w0 _ g s0_0 t932 t933 t934 t935 from zq5) (zr HO_888002.out) (by decide)) hk (fun _ h => h.2)) (fun _ h => h.1))
            replace HO_888003 := za (Kd.R_mono (Kd.R_keep (IsS57.apart (show IsS57 w0 _ g s0_0 t932 t933 t934 t935 from zq5) (zr HO_888003.out) (by decide)) hk (fun _ h => h.2)) (fun _ h => h.1))
            replace HO_888004 := za (Kd.R_mono (Kd.R_told (Kd.R_told (Kd.R_told (Kd.R_oldK (IsS57.apart (show IsS57 w0 _ g s0_0 t932 t933 t934 t935 from zq5) (zr HO_888004.out) (by decide)) hk) (Kd.R_base ho0)) (Kd.R_base ho1)) (Kd.R_base ho2)) (fun _ h_ => h_.1))
            replace BK872 := za (KeepBut.blk hk (g' := gb872) (zb BK872.out) NB872_0.out (by simp))
            replace BK887 := za (KeepBut.blk hk (g' := gb887) (zb BK887.out) NB887_0.out (by simp))
            have HO939 := za (Kd.R_lower ho0 (keep_size (w := w) (g := g) (row := none) zq14))
            have HO945 := za (Kd.R_lower ho1 (keep_size (w := w) (g := g) (row := none) zq14))
            have HO948 := za (Kd.R_lower ho2 (keep_size (w := w) (g := g) (row := none) zq14))
            replace HK := za (KeepBut.trans zq14 hk (.inl rfl))
            replace HB := za (hb)
            replace HI0 := za (hi)
            obtain ⟨Ao58, co58, eo58⟩ := Kd.R_slice HO939.out
            (first | subst eo58 | (injection eo58 with f1_ f2_ f3_; have f4_ := f1_.symm; have f5_ := f3_.symm; clear f1_ f2_ f3_; subst f4_; subst f5_))
            obtain ⟨Ao59, co59, eo59⟩ := Kd.R_slice HO945.out
            (first | subst eo59 | (injection eo59 with f1_ f2_ f3_; have f4_ := f1_.symm; have f5_ := f3_.symm; clear f1_ f2_ f3_; subst f4_; subst f5_))
            obtain ⟨Ao60, co60, eo60⟩ := Kd.R_slice HO948.out
            (first | subst eo60 | (injection eo60 with f1_ f2_ f3_; have f4_ := f1_.symm; have f5_ := f3_.symm; clear f1_ f2_ f3_; subst f4_; subst f5_))
            refine hK.out _ _ ⟨(blk_cell BK887.out 0).trans rfl, (blk_cell BK887.out 1).trans rfl, (blk_cell BK887.out 2).trans rfl, (blk_cell BK887.out 3).trans rfl, (blk_cell BK887.out 4).trans rfl⟩ (fun hHeld => ?_)
            clear hK K
            refine norm_ (a' := ?_) ?_ ?_
            rotate_left
            ·
             show Act.put _ (some 60) _ = _
             simp only [Act.put, List.setIfInBounds_toArray, List.set_cons_zero, List.set_cons_succ, i64_w, i32_w]
             rfl
            refine one_ (i := 4) (N := some 61) #[true, true, true, true, true, false, false, false] rfl rfl (one_of HT_.out zq18) (by decide) (fun K hK => ?_)
            refine value_ (w1 := ?_) (v := ?_) (by rfl) rfl ?_ ?_
            rotate_left 2
            ·
             go_simp
             constructor
             ·
              rfl
             ·
              rfl
            refine hK.out _ _ ⟨(blk_cell (blk_alloc BK887.out _) 0).trans rfl, (blk_cell (blk_alloc BK887.out _) 1).trans rfl, (blk_cell (blk_alloc BK887.out _) 2).trans rfl, (blk_cell (blk_alloc BK887.out _) 3).trans rfl, (blk_cell (blk_alloc BK887.out _) 4).trans rfl⟩ (fun hHeld => ?_)
            clear hK K
            refine norm_ (a' := ?_) ?_ ?_
            rotate_left
            ·
             show Act.put _ (some 61) _ = _
             simp only [Act.put, List.setIfInBounds_toArray, List.set_cons_zero, List.set_cons_succ, i64_w, i32_w]
             rfl
            refine one_ (i := 5) (N := some 62) #[true, true, true, true, true, true, false, false] rfl rfl (one_of HT_.out zq18) (by decide) (fun K hK => ?_)
            refine Kd.R_append_step k42 w.heap.size (by rfl) (.tmp 58) (.tmp 61) 34 42 (.agg #[(.string ⟨#[]⟩), (.slice none 0 0), (.bool false), (.string ⟨#[]⟩), (.string ⟨#[]⟩), (.slice none 0 0), (.slice none 0 0), (.int .i64 0)]) 136 rfl Try.underlying34 info42 rfl (by decide) (by omega) u888004 x888004_2 (⟨t936, t937, t940, t941, t942, t943, t946, t949⟩ : S42) [.string t936, .slice Ao58 t937.length co58, .bool t940, .string t941, .string t942, .slice Ao59 t943.length co59, .slice Ao60 t946.length co60, .int .i64 t949] (fun _ => True) (fun k_ => ((fun _ => True)) k_ ∧ some k_ ≠ (u888004 : Value).ownBlock) rfl rfl ?aP (fun _ hk => hk) ?aF ?aO (Below.refl _ _) ?aS ?aL ?_
            (case aP => exact k42_mkM _ _ _ (⟨t936, t937, t940, t941, t942, t943, t946, t949⟩ : S42) (Kd.R_mono (Kd.R_apart' (HO939.out) (Kd.R_typed HO_888004.out) (by decide)) (fun k_ hk => ⟨trivial, hk.2⟩)) (Kd.R_mono (Kd.R_apart' (HO945.out) (Kd.R_typed HO_888004.out) (by decide)) (fun k_ hk => ⟨trivial, hk.2⟩)) (Kd.R_mono (Kd.R_apart' (HO948.out) (Kd.R_typed HO_888004.out) (by decide)) (fun k_ hk => ⟨trivial, hk.2⟩)))
            (case aF => exact (fun _ _ => trivial))
            (case aO => exact (by (with_reducible repeat (first | apply Kd.R_alloc | apply Kd.R_drewN | apply Kd.R_drew)); exact Kd.R_mono HO_888004.out (fun _ hk => trivial)))
            (case aS => exact (keep_size (w := w) (g := g) (row := none) zq14))
            (case aL => have := LMc52.out; omega)
            intro v955 w57 ho hb hg hat
            rw [← Ny954.out] at ho
            replace HO_888002 := za (Kd.R_over' (zr HO_888002.out) (Kd.R_typed (zr HO_888004.out)) (by decide) hg)
            replace HO_888003 := za (Kd.R_over' (zr HO_888003.out) (Kd.R_typed (zr HO_888004.out)) (by decide) hg)
            replace BK872 := za (blk_grown (g := gb872) (zb BK872.out) hg (Kd.R_ne HO_888004.out BK872.out (by decide)))
            replace BK887 := za (blk_grown (g := gb887) (zb BK887.out) hg (Kd.R_ne HO_888004.out BK887.out (by decide)))
            replace HB := za (below_weaken zq17 HL.out hb)
            replace HI0 := za (IsS57.grown zq5 hg (IsS57.own_ne HI0.out HO_888004.out (by decide)))
            replace HK := za (KeepBut.trans zq14 (KeepBut.of_grown hg g) (Kd.R_base2 HO_888004.out))
            have HO956 := za (ho)
            clear HO_888004 HO939 HO945 HO948
            clear ho hb hg hat
            obtain ⟨Ao61, co61, eo61⟩ := Kd.R_slice HO956.out
            (first | subst eo61 | (injection eo61 with f1_ f2_ f3_; have f4_ := f1_.symm; have f5_ := f3_.symm; clear f1_ f2_ f3_; subst f4_; subst f5_))
            refine hK.out _ _ ⟨(blk_cell BK887.out 0).trans rfl, (blk_cell BK887.out 1).trans rfl, (blk_cell BK887.out 2).trans rfl, (blk_cell BK887.out 3).trans rfl, (blk_cell BK887.out 4).trans rfl⟩ (fun hHeld => ?_)
            clear hK K
            refine norm_ (a' := ?_) ?_ ?_
            rotate_left
            ·
             show Act.put _ (some 62) _ = _
             simp only [Act.put, List.setIfInBounds_toArray, List.set_cons_zero, List.set_cons_succ, i64_w, i32_w]
             rfl
            refine pure_ (i := 6) (N := some 63) #[true, true, true, true, true, true, true, false] rfl rfl (any_of HT_.out zq18) (fun _ _ _ h => h) (Or.inl ⟨by rfl, zpv⟩) zpw ?_
            refine last_ (i := 7) (N := none) #[true, true, true, true, true, true, true, true] rfl rfl (one_of HT_.out zq18) (by decide) (fun K hK => ?_)
            have hs62 : w57.cell? ⟨gb887, 4, none⟩ = some (u888004) := (blk_cell BK887.out 4).trans rfl
            have hfs62 := blk_frozen BK887.out 4
            have hns62_0 := NB872_887.out
            have hms62_0 := NB887_872.out
            refine skip_ (w1 := ?_) (by rfl) rfl ?_ ?_
            rotate_left
            ·
             go_simp
             rfl
            refine hK.out _ _ ?_
            clear hK K
            refine done_ (done_of HT_.out zq18) ?_
            try go_wp2
            go_roundg kj29
            case measure => have := HK1.out; have := HK2.out; have := HJ29.out; omega
            case rel => exact ⟨(t950), (t951), (t952), (t953), (x888003_2), (y954), (u888003), (.slice Ao61 y954.length co61), H', ⟨by have := HK1.out; have := HK2.out; have := HJ29.out; omega⟩, ⟨by (with_reducible repeat (first | apply Kd.R_alloc | apply Kd.R_drewN | apply Kd.R_drew)); exact Kd.R_mono (Kd.R_far (p := ⟨gb887, 4, none⟩) (Kd.R_types HO_888002.out BK887.out (by decide)) (fun _ hk => hk.2) (.slice Ao61 y954.length co61)) (fun _ hk => trivial)⟩, ⟨by (with_reducible repeat (first | apply Kd.R_alloc | apply Kd.R_drewN | apply Kd.R_drew)); exact Kd.R_mono (Kd.R_far (p := ⟨gb887, 4, none⟩) (Kd.R_types HO_888003.out BK887.out (by decide)) (fun _ hk => hk.2) (.slice Ao61 y954.length co61)) (fun _ hk => trivial)⟩, ⟨by (with_reducible repeat (first | apply Kd.R_alloc | apply Kd.R_drewN | apply Kd.R_drew)); exact Kd.R_mono (Kd.R_far (p := ⟨gb887, 4, none⟩) (Kd.R_types HO956.out BK887.out (by decide)) (fun _ hk => hk.2) (.slice Ao61 y954.length co61)) (fun _ hk => trivial)⟩, ⟨zq65⟩, ⟨by (with_reducible repeat (first | refine blk_drewN ?_ _ | refine blk_drew ?_ | refine blk_alloc ?_ _)); refine blk_put (cs := #[.string t882, .int .i64 t877, u888002, u888003, u888004]) ?_ 4 _ rfl; (with_reducible repeat (first | refine blk_drewN ?_ _ | refine blk_drew ?_ | refine blk_alloc ?_ _)); exact BK887.out⟩, ⟨zq5⟩, ⟨zq14⟩, ⟨zq17⟩⟩
           ·
            rw [if_neg c52] at H
            exact absurd H (by simp)
          ·
           replace c50 := Bool.eq_false_iff.mpr c50
           subst c50
           rw [if_neg (show ¬ (false = true) by decide)] at H
           replace H := Option.bind_eq_some_iff.mp H
           obtain ⟨⟨t957, t958, t959, t960⟩, A630, H⟩ := H
           (try dsimp only at H)
           have A63 := za A630
           clear A630
           have H' := za H
           clear H
           go_wp2_with (first | ((with_reducible refine gate_callee (f := 24) rfl ?_); refine goesL_ (some 47) rfl rfl Try.func24 zq18 rfl #[.pointer (some ⟨g, 0, none⟩), .string (⟨#[118, 97, 114]⟩ : ByteArray)] rfl zq1 ?_; (with_reducible refine (rr_take.calls g s0_0 x1001_2 x1002_2 x1003_2 x1004_2 (⟨#[118, 97, 114]⟩ : ByteArray) false t916 t917 t918 t919 w0 _ ?side1 ?side2 A39.out).mono ?_); (case side1 => exact zq5); (case side2 => exact zq17); rintro e w64 ⟨rfl, hi, hb, hk⟩; refine ⟨_, rfl, ?_⟩; replace HO_888002 := za (Kd.R_mono (Kd.R_keep (IsS57.apart (show IsS57 w0 _ g s0_0 x1001_2 x1002_2 x1003_2 x1004_2 from zq5) (zr HO_888002.out) (by decide)) hk (fun _ h => h.2)) (fun _ h => h.1)); replace HO_888003 := za (Kd.R_mono (Kd.R_keep (IsS57.apart (show IsS57 w0 _ g s0_0 x1001_2 x1002_2 x1003_2 x1004_2 from zq5) (zr HO_888003.out) (by decide)) hk (fun _ h => h.2)) (fun _ h => h.1)); replace HO_888004 := za (Kd.R_mono (Kd.R_keep (IsS57.apart (show IsS57 w0 _ g s0_0 x1001_2 x1002_2 x1003_2 x1004_2 from zq5) (zr HO_888004.out) (by decide)) hk (fun _ h => h.2)) (fun _ h => h.1)); replace BK872 := za (KeepBut.blk hk (g' := gb872) (zb BK872.out) NB872_0.out (by simp)); replace BK887 := za (KeepBut.blk hk (g' := gb887) (zb BK887.out) NB887_0.out (by simp)); replace HK := za (KeepBut.trans zq14 hk (.inl rfl)); replace HB := za (hb); replace HI0 := za (hi)) | ((with_reducible refine gate_callee (f := 24) rfl ?_); refine goesL_ (some 56) rfl rfl Try.func24 zq18 rfl #[.pointer (some ⟨g, 0, none⟩), .string (⟨#[112, 114, 111, 99]⟩ : ByteArray)] rfl zq1 ?_; (with_reducible refine (rr_take.calls g s0_0 t916 t917 t918 t919 (⟨#[112, 114, 111, 99]⟩ : ByteArray) false t932 t933 t934 t935 w0 _ ?side1 ?side2 A49.out).mono ?_); (case side1 => exact zq5); (case side2 => exact zq17); rintro e w65 ⟨rfl, hi, hb, hk⟩; refine ⟨_, rfl, ?_⟩; replace HO_888002 := za (Kd.R_mono (Kd.R_keep (IsS57.apart (show IsS57 w0 _ g s0_0 t916 t917 t918 t919 from zq5) (zr HO_888002.out) (by decide)) hk (fun _ h => h.2)) (fun _ h => h.1)); replace HO_888003 := za (Kd.R_mono (Kd.R_keep (IsS57.apart (show IsS57 w0 _ g s0_0 t916 t917 t918 t919 from zq5) (zr HO_888003.out) (by decide)) hk (fun _ h => h.2)) (fun _ h => h.1)); replace HO_888004 := za (Kd.R_mono (Kd.R_keep (IsS57.apart (show IsS57 w0 _ g s0_0 t916 t917 t918 t919 from zq5) (zr HO_888004.out) (by decide)) hk (fun _ h => h.2)) (fun _ h => h.1)); replace BK872 := za (KeepBut.blk hk (g' := gb872) (zb BK872.out) NB872_0.out (by simp)); replace BK887 := za (KeepBut.blk hk (g' := gb887) (zb BK887.out) NB887_0.out (by simp)); replace HK := za (KeepBut.trans zq14 hk (.inl rfl)); replace HB := za (hb); replace HI0 := za (hi)) | ((with_reducible refine gate_callee (f := 27) rfl ?_); refine goesL_ (some 65) rfl rfl Try.func27 zq18 rfl #[.pointer (some ⟨g, 0, none⟩), .int .i64 11] rfl zq1 ?_; (with_reducible refine (rr_fail.calls g s0_0 t932 t933 t934 t935 11 t957 t958 t959 t960 w0 _ ?side1 ?side2 A63.out).mono ?_); (case side1 => exact zq5); (case side2 => exact zq17); rintro e w66 ⟨rfl, hi, hb, hk⟩; refine ⟨_, rfl, ?_⟩; replace HO_888002 := za (Kd.R_mono (Kd.R_keep (IsS57.apart (show IsS57 w0 _ g s0_0 t932 t933 t934 t935 from zq5) (zr HO_888002.out) (by decide)) hk (fun _ h => h.2)) (fun _ h => h.1)); replace HO_888003 := za (Kd.R_mono (Kd.R_keep (IsS57.apart (show IsS57 w0 _ g s0_0 t932 t933 t934 t935 from zq5) (zr HO_888003.out) (by decide)) hk (fun _ h => h.2)) (fun _ h => h.1)); replace HO_888004 := za (Kd.R_mono (Kd.R_keep (IsS57.apart (show IsS57 w0 _ g s0_0 t932 t933 t934 t935 from zq5) (zr HO_888004.out) (by decide)) hk (fun _ h => h.2)) (fun _ h => h.1)); replace BK872 := za (KeepBut.blk hk (g' := gb872) (zb BK872.out) NB872_0.out (by simp)); replace BK887 := za (KeepBut.blk hk (g' := gb887) (zb BK887.out) NB887_0.out (by simp)); replace HK := za (KeepBut.trans zq14 hk (.inl rfl)); replace HB := za (hb); replace HI0 := za (hi)))
           go_roundg kj29
           case measure => have := HK1.out; have := HK2.out; have := HJ29.out; omega
           case rel => exact ⟨(t957), (t958), (t959), (t960), (x888003_2), (x888004_2), (u888003), (u888004), H', ⟨by have := HK1.out; have := HK2.out; have := HJ29.out; omega⟩, ⟨zq87⟩, ⟨zq92⟩, ⟨zq93⟩, ⟨zq70⟩, ⟨zq71⟩, ⟨zq5⟩, ⟨zq14⟩, ⟨zq17⟩⟩
        ·
         replace c38 := Bool.eq_false_iff.mpr c38
         subst c38
         rw [if_neg (show ¬ (false = true) by decide)] at H
         simp only [Option.some.injEq, Prod.mk.injEq] at H
         obtain ⟨rfl, rfl, rfl, rfl, rfl, rfl, rfl, rfl, rfl⟩ := H
         have hnb67 := NB887_872.out
         have hnc67 := NB872_887.out
         have hnb68 := NB887_0.out
         have hnc68 := NB0_887.out
         obtain ⟨hcz69_0, hcz69_1, hcz69_2, hcz69_3, hcz69_4⟩ := zc5 BK887.out
         obtain ⟨hfz69_0, hfz69_1, hfz69_2, hfz69_3, hfz69_4⟩ := zf5 BK887.out
         have hnb70 := NB872_0.out
         have hnc70 := NB0_872.out
         obtain ⟨hcz71_0, hcz71_1, hcz71_2, hcz71_3, hcz71_4⟩ := zc5 BK872.out
         obtain ⟨hfz71_0, hfz71_1, hfz71_2, hfz71_3, hfz71_4⟩ := zf5 BK872.out
         obtain ⟨Ao72, co72, eo72⟩ := Kd.R_slice HO_888002.out
         subst eo72
         obtain ⟨Ao73, co73, eo73⟩ := Kd.R_slice HO_888003.out
         subst eo73
         obtain ⟨Ao74, co74, eo74⟩ := Kd.R_slice HO_888004.out
         subst eo74
         go_wp2
         refine bodyPost_ret (results_cell_row rfl _ _ gb872 36 #[.string t882, .int .i64 t877, .slice Ao72 x888002_1.length co72, .slice Ao73 x888003_2.length co73, .slice Ao74 x888004_2.length co74] (0, 0) _ rfl (by (with_reducible repeat (first | refine blk_drewN ?_ _ | refine blk_drew ?_ | refine blk_alloc ?_ _)); refine blk_put (cs := #[.string t882, .int .i64 t877, .slice Ao72 x888002_1.length co72, .slice Ao73 x888003_2.length co73, .slice none 0 0]) ?_ 4 _ rfl; (with_reducible repeat (first | refine blk_drewN ?_ _ | refine blk_drew ?_ | refine blk_alloc ?_ _)); refine blk_put (cs := #[.string t882, .int .i64 t877, .slice Ao72 x888002_1.length co72, .slice none 0 0, .slice none 0 0]) ?_ 3 _ rfl; (with_reducible repeat (first | refine blk_drewN ?_ _ | refine blk_drew ?_ | refine blk_alloc ?_ _)); refine blk_put (cs := #[.string t882, .int .i64 t877, .slice none 0 0, .slice none 0 0, .slice none 0 0]) ?_ 2 _ rfl; (with_reducible repeat (first | refine blk_drewN ?_ _ | refine blk_drew ?_ | refine blk_alloc ?_ _)); refine blk_put (cs := #[.string t882, .int .i64 0, .slice none 0 0, .slice none 0 0, .slice none 0 0]) ?_ 1 _ rfl; (with_reducible repeat (first | refine blk_drewN ?_ _ | refine blk_drew ?_ | refine blk_alloc ?_ _)); refine blk_put (cs := #[.string (⟨#[]⟩ : ByteArray), .int .i64 0, .slice none 0 0, .slice none 0 0, .slice none 0 0]) ?_ 0 _ rfl; (with_reducible repeat (first | refine blk_drewN ?_ _ | refine blk_drew ?_ | refine blk_alloc ?_ _)); exact BK872.out) Try.underlying36 rfl zq18) rfl ?_
         exact ⟨_, _, _, zq16, by (with_reducible repeat (first | apply Kd.R_alloc | apply Kd.R_drewN | apply Kd.R_drew)); exact Kd.R_mono (Kd.R_far (p := ⟨gb872, 4, none⟩) (Kd.R_far (p := ⟨gb872, 3, none⟩) (Kd.R_far (p := ⟨gb872, 2, none⟩) (Kd.R_far (p := ⟨gb872, 1, none⟩) (Kd.R_far (p := ⟨gb872, 0, none⟩) (Kd.R_types HO_888002.out BK872.out (by decide)) (fun _ hk => hk.2) (.string t882)) (fun _ hk => hk.2) (.int .i64 t877)) (fun _ hk => hk.2) (.slice Ao72 x888002_1.length co72)) (fun _ hk => hk.2) (.slice Ao73 x888003_2.length co73)) (fun _ hk => hk.2) (.slice Ao74 x888004_2.length co74)) (fun _ hk => trivial), by (with_reducible repeat (first | apply Kd.R_alloc | apply Kd.R_drewN | apply Kd.R_drew)); exact Kd.R_mono (Kd.R_far (p := ⟨gb872, 4, none⟩) (Kd.R_far (p := ⟨gb872, 3, none⟩) (Kd.R_far (p := ⟨gb872, 2, none⟩) (Kd.R_far (p := ⟨gb872, 1, none⟩) (Kd.R_far (p := ⟨gb872, 0, none⟩) (Kd.R_types HO_888003.out BK872.out (by decide)) (fun _ hk => hk.2) (.string t882)) (fun _ hk => hk.2) (.int .i64 t877)) (fun _ hk => hk.2) (.slice Ao72 x888002_1.length co72)) (fun _ hk => hk.2) (.slice Ao73 x888003_2.length co73)) (fun _ hk => hk.2) (.slice Ao74 x888004_2.length co74)) (fun _ hk => trivial), by (with_reducible repeat (first | apply Kd.R_alloc | apply Kd.R_drewN | apply Kd.R_drew)); exact Kd.R_mono (Kd.R_far (p := ⟨gb872, 4, none⟩) (Kd.R_far (p := ⟨gb872, 3, none⟩) (Kd.R_far (p := ⟨gb872, 2, none⟩) (Kd.R_far (p := ⟨gb872, 1, none⟩) (Kd.R_far (p := ⟨gb872, 0, none⟩) (Kd.R_types HO_888004.out BK872.out (by decide)) (fun _ hk => hk.2) (.string t882)) (fun _ hk => hk.2) (.int .i64 t877)) (fun _ hk => hk.2) (.slice Ao72 x888002_1.length co72)) (fun _ hk => hk.2) (.slice Ao73 x888003_2.length co73)) (fun _ hk => hk.2) (.slice Ao74 x888004_2.length co74)) (fun _ hk => trivial), zq5, zq17, zq14⟩
end Go.Proofs.Ytcmpmlklednhbaa.QEvalJoins
