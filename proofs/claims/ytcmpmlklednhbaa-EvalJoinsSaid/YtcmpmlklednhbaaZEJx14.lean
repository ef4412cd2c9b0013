import Derived.Test.YtcmpmlklednhbaaZEJx13
namespace Go.Proofs.Ytcmpmlklednhbaa.QEvalJoins
open Go.RowKit Go.Proofs.YtcmpmlklednhbaaW.PrintWords Go.Proofs.YtcmpmlklednhbaaW.PrintLast Go.Proofs.YtcmpmlklednhbaaW.PrintMore
set_option maxHeartbeats 8000000
set_option maxRecDepth 100000
attribute [local go_sem] max2_int min2_int max_two min_two max_three min_three max_four min_four
set_option linter.unusedVariables false
set_option linter.unusedSimpArgs false
mutual
def rr_proc.j1 : Nat → List (S69) → Int → Int → Int → Int → ByteArray → List (S85) → Bool → ByteArray → ByteArray → Int → Option (ByteArray × (List (S85)) × Bool × ByteArray × ByteArray × List ByteArray × (List (S45)) × Int × Int × Int × Int × Int)
 | 0, _, _, _, _, _, _, _, _, _, _, _ => none
 | k + 1, x1000, x1001, x1002, x1003, x1004, x753000, x753001, x753002, x753003, x753004, x753007 => (rr_want.f x1000 x1001 x1002 x1003 x1004 (⟨#[41]⟩ : ByteArray)).bind fun bt790 => ((rr_take.f x1000 bt790.1 bt790.2.1 bt790.2.2.1 bt790.2.2.2 (⟨#[45, 62]⟩ : ByteArray)).bind fun bt794 => (if bt794.1 = true then ((rr_name.f x1000 bt794.2.1 bt794.2.2.1 bt794.2.2.2.1 bt794.2.2.2.2).bind fun bt799 => (rr_proc.j2 k x1000 bt799.2.1 bt799.2.2.1 bt799.2.2.2.1 bt799.2.2.2.2 x753000 x753001 true bt799.1 x753004 x753007)) else (rr_proc.j2 k x1000 bt794.2.1 bt794.2.2.1 bt794.2.2.2.1 bt794.2.2.2.2 x753000 x753001 x753002 x753003 x753004 x753007)))
def rr_proc.j2 : Nat → List (S69) → Int → Int → Int → Int → ByteArray → List (S85) → Bool → ByteArray → ByteArray → Int → Option (ByteArray × (List (S85)) × Bool × ByteArray × ByteArray × List ByteArray × (List (S45)) × Int × Int × Int × Int × Int)
 | 0, _, _, _, _, _, _, _, _, _, _, _ => none
 | k + 1, x1000, x1001, x1002, x1003, x1004, x753000, x753001, x753002, x753003, x753004, x753007 => (rr_want.f x1000 x1001 x1002 x1003 x1004 (⟨#[112, 99]⟩ : ByteArray)).bind fun bt804 => ((rr_name.f x1000 bt804.1 bt804.2.1 bt804.2.2.1 bt804.2.2.2).bind fun bt808 => ((rr_want.f x1000 bt808.2.1 bt808.2.2.1 bt808.2.2.2.1 bt808.2.2.2.2 (⟨#[117, 115, 101, 115]⟩ : ByteArray)).bind fun bt813 => ((rr_want.f x1000 bt813.1 bt813.2.1 bt813.2.2.1 bt813.2.2.2 (⟨#[123]⟩ : ByteArray)).bind fun bt817 => ((rr_is.f x1000 bt817.1 bt817.2.1 bt817.2.2.1 bt817.2.2.2 (⟨#[125]⟩ : ByteArray)).bind fun bt821 => (if bt821.1 = true then ((rr_want.f x1000 bt821.2.1 bt821.2.2.1 bt821.2.2.2.1 bt821.2.2.2.2 (⟨#[125]⟩ : ByteArray)).bind fun bt826 => ((rr_block.f k x1000 bt826.1 bt826.2.1 bt826.2.2.1 bt826.2.2.2).bind fun bt830 => (some (x753000, x753001, x753002, x753003, bt808.1, ([] : List ByteArray), bt830.1, x753007, bt830.2.1, bt830.2.2.1, bt830.2.2.2.1, bt830.2.2.2.2)))) else (rr_proc.l1 k x1000 bt821.2.1 bt821.2.2.1 bt821.2.2.2.1 bt821.2.2.2.2 x753000 x753001 x753002 x753003 bt808.1 ([] : List ByteArray) x753007))))))
def rr_proc.l1 : Nat → List (S69) → Int → Int → Int → Int → ByteArray → List (S85) → Bool → ByteArray → ByteArray → List ByteArray → Int → Option (ByteArray × (List (S85)) × Bool × ByteArray × ByteArray × List ByteArray × (List (S45)) × Int × Int × Int × Int × Int)
 | 0, _, _, _, _, _, _, _, _, _, _, _, _ => none
 | k + 1, x1000, x1001, x1002, x1003, x1004, x753000, x753001, x753002, x753003, x753004, x753005, x753007 => if x1003 = 0 then ((rr_name.f x1000 x1001 x1002 x1003 x1004).bind fun bt848 => (if x753005.length < 8796093022208 then ((some (x753005 ++ [bt848.1] : List ByteArray)).bind fun y853 => ((rr_take.f x1000 bt848.2.1 bt848.2.2.1 bt848.2.2.2.1 bt848.2.2.2.2 (⟨#[44]⟩ : ByteArray)).bind fun bt856 => (if bt856.1 = true then (rr_proc.l1 k x1000 bt856.2.1 bt856.2.2.1 bt856.2.2.2.1 bt856.2.2.2.2 x753000 x753001 x753002 x753003 x753004 y853 x753007) else ((rr_want.f x1000 bt856.2.1 bt856.2.2.1 bt856.2.2.2.1 bt856.2.2.2.2 (⟨#[125]⟩ : ByteArray)).bind fun bt861 => ((rr_block.f k x1000 bt861.1 bt861.2.1 bt861.2.2.1 bt861.2.2.2).bind fun bt865 => (some (x753000, x753001, x753002, x753003, x753004, y853, bt865.1, x753007, bt865.2.1, bt865.2.2.1, bt865.2.2.2.1, bt865.2.2.2.2))))))) else (none))) else ((rr_want.f x1000 x1001 x1002 x1003 x1004 (⟨#[125]⟩ : ByteArray)).bind fun bt837 => ((rr_block.f k x1000 bt837.1 bt837.2.1 bt837.2.2.1 bt837.2.2.2).bind fun bt841 => (some (x753000, x753001, x753002, x753003, x753004, x753005, bt841.1, x753007, bt841.2.1, bt841.2.2.1, bt841.2.2.2.1, bt841.2.2.2.2))))
def rr_proc.l0 : Nat → List (S69) → Int → Int → Int → Int → ByteArray → List (S85) → Bool → ByteArray → ByteArray → Int → Option (ByteArray × (List (S85)) × Bool × ByteArray × ByteArray × List ByteArray × (List (S45)) × Int × Int × Int × Int × Int)
 | 0, _, _, _, _, _, _, _, _, _, _, _ => none
 | k + 1, x1000, x1001, x1002, x1003, x1004, x753000, x753001, x753002, x753003, x753004, x753007 => if x1003 = 0 then ((rr_here.f x1000 x1001 x1002 x1003 x1004).bind fun bt762 => ((rr_name.f x1000 bt762.2.1 bt762.2.2.1 bt762.2.2.2.1 bt762.2.2.2.2).bind fun bt767 => ((rr_want.f x1000 bt767.2.1 bt767.2.2.1 bt767.2.2.2.1 bt767.2.2.2.2 (⟨#[58]⟩ : ByteArray)).bind fun bt773 => ((rr_name.f x1000 bt773.1 bt773.2.1 bt773.2.2.1 bt773.2.2.2).bind fun bt777 => (if x753001.length < 3518437208883 then ((some (x753001 ++ [(⟨bt767.1, bt777.1, bt762.1⟩ : S85)] : List (S85))).bind fun y782 => ((rr_take.f x1000 bt777.2.1 bt777.2.2.1 bt777.2.2.2.1 bt777.2.2.2.2 (⟨#[44]⟩ : ByteArray)).bind fun bt785 => (if bt785.1 = true then (rr_proc.l0 k x1000 bt785.2.1 bt785.2.2.1 bt785.2.2.2.1 bt785.2.2.2.2 x753000 y782 x753002 x753003 x753004 x753007) else (rr_proc.j1 k x1000 bt785.2.1 bt785.2.2.1 bt785.2.2.2.1 bt785.2.2.2.2 x753000 y782 x753002 x753003 x753004 x753007)))) else (none)))))) else (rr_proc.j1 k x1000 x1001 x1002 x1003 x1004 x753000 x753001 x753002 x753003 x753004 x753007)
end
def rr_proc.f (k : Nat) (s0_0 : List (S69)) (s0_1 : Int) (s0_2 : Int) (s0_3 : Int) (s0_4 : Int) : Option (ByteArray × (List (S85)) × Bool × ByteArray × ByteArray × List ByteArray × (List (S45)) × Int × Int × Int × Int × Int) := (rr_here.f s0_0 s0_1 s0_2 s0_3 s0_4).bind fun bt742 => ((rr_name.f s0_0 bt742.2.1 bt742.2.2.1 bt742.2.2.2.1 bt742.2.2.2.2).bind fun bt747 => ((rr_want.f s0_0 bt747.2.1 bt747.2.2.1 bt747.2.2.2.1 bt747.2.2.2.2 (⟨#[40]⟩ : ByteArray)).bind fun bt753 => ((rr_is.f s0_0 bt753.1 bt753.2.1 bt753.2.2.1 bt753.2.2.2 (⟨#[41]⟩ : ByteArray)).bind fun bt757 => (if bt757.1 = true then (rr_proc.j1 k s0_0 bt757.2.1 bt757.2.2.1 bt757.2.2.2.1 bt757.2.2.2.2 bt747.1 ([] : List (S85)) false (⟨#[]⟩ : ByteArray) (⟨#[]⟩ : ByteArray) bt742.1) else (rr_proc.l0 k s0_0 bt757.2.1 bt757.2.2.1 bt757.2.2.2.1 bt757.2.2.2.2 bt747.1 ([] : List (S85)) false (⟨#[]⟩ : ByteArray) (⟨#[]⟩ : ByteArray) bt742.1)))))
theorem rr_proc.mono_l : ∀ k, (∀ y0 y1 y2 y3 y4 y5 y6 y7 y8 y9 y10, LeO (rr_proc.j1 k y0 y1 y2 y3 y4 y5 y6 y7 y8 y9 y10) (rr_proc.j1 (k + 1) y0 y1 y2 y3 y4 y5 y6 y7 y8 y9 y10)) ∧ (∀ y0 y1 y2 y3 y4 y5 y6 y7 y8 y9 y10, LeO (rr_proc.j2 k y0 y1 y2 y3 y4 y5 y6 y7 y8 y9 y10) (rr_proc.j2 (k + 1) y0 y1 y2 y3 y4 y5 y6 y7 y8 y9 y10)) ∧ (∀ y0 y1 y2 y3 y4 y5 y6 y7 y8 y9 y10 y11, LeO (rr_proc.l1 k y0 y1 y2 y3 y4 y5 y6 y7 y8 y9 y10 y11) (rr_proc.l1 (k + 1) y0 y1 y2 y3 y4 y5 y6 y7 y8 y9 y10 y11)) ∧ (∀ y0 y1 y2 y3 y4 y5 y6 y7 y8 y9 y10, LeO (rr_proc.l0 k y0 y1 y2 y3 y4 y5 y6 y7 y8 y9 y10) (rr_proc.l0 (k + 1) y0 y1 y2 y3 y4 y5 y6 y7 y8 y9 y10))
 | 0 => ⟨fun _ _ _ _ _ _ _ _ _ _ _ r h => by simp [rr_proc.j1] at h, fun _ _ _ _ _ _ _ _ _ _ _ r h => by simp [rr_proc.j2] at h, fun _ _ _ _ _ _ _ _ _ _ _ _ r h => by simp [rr_proc.l1] at h, fun _ _ _ _ _ _ _ _ _ _ _ r h => by simp [rr_proc.l0] at h⟩
 | k + 1 => by
  obtain ⟨ih0, ih1, ih2, ih3⟩ := rr_proc.mono_l k
  refine ⟨?_, ?_, ?_, ?_⟩
  ·
   intro y0 y1 y2 y3 y4 y5 y6 y7 y8 y9 y10
   unfold rr_proc.j1
   repeat' with_reducible first | apply ih0 | apply ih1 | apply ih2 | apply ih3 | apply rr_block.mono | exact LeO.refl _ | exact LeO.none _ | refine LeO.ite ?_ ?_ | refine LeO.bind ?_ (fun _ => ?_)
  ·
   intro y0 y1 y2 y3 y4 y5 y6 y7 y8 y9 y10
   unfold rr_proc.j2
   repeat' with_reducible first | apply ih0 | apply ih1 | apply ih2 | apply ih3 | apply rr_block.mono | exact LeO.refl _ | exact LeO.none _ | refine LeO.ite ?_ ?_ | refine LeO.bind ?_ (fun _ => ?_)
  ·
   intro y0 y1 y2 y3 y4 y5 y6 y7 y8 y9 y10 y11
   unfold rr_proc.l1
   repeat' with_reducible first | apply ih0 | apply ih1 | apply ih2 | apply ih3 | apply rr_block.mono | exact LeO.refl _ | exact LeO.none _ | refine LeO.ite ?_ ?_ | refine LeO.bind ?_ (fun _ => ?_)
  ·
   intro y0 y1 y2 y3 y4 y5 y6 y7 y8 y9 y10
   unfold rr_proc.l0
   repeat' with_reducible first | apply ih0 | apply ih1 | apply ih2 | apply ih3 | apply rr_block.mono | exact LeO.refl _ | exact LeO.none _ | refine LeO.ite ?_ ?_ | refine LeO.bind ?_ (fun _ => ?_)
theorem rr_proc.mono : ∀ a0 a1 a2 a3 a4 k, LeO (rr_proc.f k a0 a1 a2 a3 a4) (rr_proc.f (k + 1) a0 a1 a2 a3 a4) := by
 intro a0 a1 a2 a3 a4 k
 obtain ⟨ih0, ih1, ih2, ih3⟩ := rr_proc.mono_l k
 unfold rr_proc.f
 repeat' with_reducible first | apply ih0 | apply ih1 | apply ih2 | apply ih3 | apply rr_block.mono | exact LeO.refl _ | exact LeO.none _ | refine LeO.ite ?_ ?_ | refine LeO.bind ?_ (fun _ => ?_)
def rr_proc.T20 : Bool × List (List Nat × List Nat) := (true, [([], []), ([0], [0]), ([], []), ([2], [2]), ([3], [3]), ([1, 4, 3], [1, 4]), ([0, 1, 2, 3, 4, 5], []), ([6, 5, 5, 0, 1, 2, 3, 4, 5], [5, 6])])
def rr_proc.B20 : List Nat := [0, 1, 0, 4, 12, 31, 63, 127]
theorem rr_proc.tab20 : rtab .any (opsOf Try.f26 20) = rr_proc.T20 := by kernel_rfl
theorem rr_proc.bits20 : waitsOk rr_proc.T20.2 rr_proc.B20 = true := by kernel_rfl
theorem rr_proc.calls (k : Nat) (g : Nat) (s0_0 : List (S69)) (s0_1 : Int) (s0_2 : Int) (s0_3 : Int) (s0_4 : Int) (r1 : ByteArray) (r2 : List (S85)) (r3 : Bool) (r4 : ByteArray) (r5 : ByteArray) (r6 : List ByteArray) (r7 : List (S45)) (r8 : Int) (r9 : Int) (r10 : Int) (r11 : Int) (r12 : Int) (w0 w : World) (hI : IsS57 w0 w g s0_0 s0_1 s0_2 s0_3 s0_4) (hB : Below w0.heap.size w0 w) (h : rr_proc.f k s0_0 s0_1 s0_2 s0_3 s0_4 = some (r1, r2, r3, r4, r5, r6, r7, r8, r9, r10, r11, r12)) :
  Calls Try.prog 26 #[.pointer (some ⟨g, 0, none⟩)] w fun e w' => ∃ v1_ v5_ v6_ : Value, e = .returned (.agg #[.string r1, v1_, .bool r3, .string r4, .string r5, v5_, v6_, .int .i64 r8]) ∧ Kd.R k85 85 w' w.heap.size (fun _ => True) v1_ r2 ∧ Kd.R Kd.string 9 w' w.heap.size (fun _ => True) v5_ r6 ∧ Kd.R k45 45 w' w.heap.size (fun _ => True) v6_ r7 ∧ IsS57 w0 w' g s0_0 r9 r10 r11 r12 ∧ Below w0.heap.size w0 w' ∧ KeepBut w w' g none := by
 have hu42 := Try.underlying42
 have hu85 := Try.underlying85
 have HI0 := za hI
 have HK := za (KeepBut.refl w g none)
 have HL := za hB.size
 clear hI
 have HW0 := za hB.size
 have HB := za hB
 clear hB
 have H : ((rr_here.f s0_0 s0_1 s0_2 s0_3 s0_4).bind fun bt742 => ((rr_name.f s0_0 bt742.2.1 bt742.2.2.1 bt742.2.2.2.1 bt742.2.2.2.2).bind fun bt747 => ((rr_want.f s0_0 bt747.2.1 bt747.2.2.1 bt747.2.2.2.1 bt747.2.2.2.2 (⟨#[40]⟩ : ByteArray)).bind fun bt753 => ((rr_is.f s0_0 bt753.1 bt753.2.1 bt753.2.2.1 bt753.2.2.2 (⟨#[41]⟩ : ByteArray)).bind fun bt757 => (if bt757.1 = true then (rr_proc.j1 k s0_0 bt757.2.1 bt757.2.2.1 bt757.2.2.2.1 bt757.2.2.2.2 bt747.1 ([] : List (S85)) false (⟨#[]⟩ : ByteArray) (⟨#[]⟩ : ByteArray) bt742.1) else (rr_proc.l0 k s0_0 bt757.2.1 bt757.2.2.1 bt757.2.2.2.1 bt757.2.2.2.2 bt747.1 ([] : List (S85)) false (⟨#[]⟩ : ByteArray) (⟨#[]⟩ : ByteArray) bt742.1)))))) = some (r1, r2, r3, r4, r5, r6, r7, r8, r9, r10, r11, r12) := h
 clear h
 replace H := Option.bind_eq_some_iff.mp H
 obtain ⟨⟨t742, t743, t744, t745, t746⟩, A20, H⟩ := H
 (try dsimp only at H)
 have A2 := za A20
 clear A20
 replace H := Option.bind_eq_some_iff.mp H
 obtain ⟨⟨t747, t748, t749, t750, t751⟩, A30, H⟩ := H
 (try dsimp only at H)
 have A3 := za A30
 clear A30
 replace H := Option.bind_eq_some_iff.mp H
 obtain ⟨⟨t753, t754, t755, t756⟩, A40, H⟩ := H
 (try dsimp only at H)
 have A4 := za A40
 clear A40
 replace H := Option.bind_eq_some_iff.mp H
 obtain ⟨⟨t757, t758, t759, t760, t761⟩, A50, H⟩ := H
 (try dsimp only at H)
 have A5 := za A50
 clear A50
 have HC6 := za H
 clear H
 go_enter Try.func26, Try.ntmps26
 go_upto_if 14 with (first | ((with_reducible refine gate_dst (N := 2) rfl ?_); refine box_event ?hg (N := 2) ?hd (cs := #[.string (⟨#[]⟩ : ByteArray), .slice none 0 0, .bool false, .string (⟨#[]⟩ : ByteArray), .string (⟨#[]⟩ : ByteArray), .slice none 0 0, .slice none 0 0, .int .i64 0]) (t := 42) ?hr ?_; (case hd => rfl); (case hg => rfl); (case hr => exact zq39); intro gb741 hg w7 hbox hb; replace HB := za (below_step zq3 hb); have BK741 := za (hbox); have GW741 := za ((by rw [hg]; exact (keep_size (w := w) (g := g) (row := none) zq7) : w.heap.size ≤ gb741)); have GE741 := za ((Nat.le_trans HW0.out (by rw [hg]; exact (keep_size (w := w) (g := g) (row := none) zq7) : w.heap.size ≤ gb741) : w0.heap.size ≤ gb741)); replace HK := za (KeepBut.trans zq7 (KeepBut.of_below hb g none) (.inl rfl)); have NB0_741 := za ((by rw [hg]; exact Nat.ne_of_lt (IsS57.lt (show IsS57 w0 _ g s0_0 s0_1 s0_2 s0_3 s0_4 from zq0)) : g ≠ gb741)); have NB741_0 := za ((by rw [hg]; exact Nat.ne_of_gt (IsS57.lt (show IsS57 w0 _ g s0_0 s0_1 s0_2 s0_3 s0_4 from zq0)) : gb741 ≠ g)); replace HI0 := za (IsS57.below zq0 hb); clear hb hbox hg) | ((with_reducible refine gate_callee (f := 22) rfl ?_); refine goesL_ (some 6) rfl rfl Try.func22 zq18 rfl #[.pointer (some ⟨g, 0, none⟩)] rfl zq1 ?_; (with_reducible refine (rr_here.calls g s0_0 s0_1 s0_2 s0_3 s0_4 t742 t743 t744 t745 t746 w0 _ ?side1 ?side2 A2.out).mono ?_); (case side1 => exact zq47); (case side2 => exact zq76); rintro e w8 ⟨rfl, hi, hb, hk⟩; refine ⟨_, rfl, ?_⟩; replace BK741 := za (KeepBut.blk hk (g' := gb741) (zb BK741.out) NB741_0.out (by simp)); replace HK := za (KeepBut.trans zq60 hk (.inl rfl)); replace HB := za (hb); replace HI0 := za (hi)) | ((with_reducible refine gate_callee (f := 23) rfl ?_); refine goesL_ (some 8) rfl rfl Try.func23 zq18 rfl #[.pointer (some ⟨g, 0, none⟩)] rfl zq1 ?_; (with_reducible refine (rr_name.calls g s0_0 t743 t744 t745 t746 t747 t748 t749 t750 t751 w0 _ ?side1 ?side2 A3.out).mono ?_); (case side1 => exact zq47); (case side2 => exact zq76); rintro e w9 ⟨rfl, hi, hb, hk⟩; refine ⟨_, rfl, ?_⟩; replace BK741 := za (KeepBut.blk hk (g' := gb741) (zb BK741.out) NB741_0.out (by simp)); replace HK := za (KeepBut.trans zq60 hk (.inl rfl)); replace HB := za (hb); replace HI0 := za (hi)) | ((with_reducible refine gate_dst (N := 3) rfl ?_); refine box_event ?hg (N := 3) ?hd (cs := #[.string (⟨#[]⟩ : ByteArray), .slice none 0 0, .bool false, .string (⟨#[]⟩ : ByteArray), .string (⟨#[]⟩ : ByteArray), .slice none 0 0, .slice none 0 0, .int .i64 0]) (t := 42) ?hr ?_; (case hd => rfl); (case hg => rfl); (case hr => exact zq39); intro gb752 hg w10 hbox hb; replace HB := za (below_step zq76 hb); have BK752 := za (hbox); have GW752 := za ((by rw [hg]; exact (keep_size (w := w) (g := g) (row := none) zq60) : w.heap.size ≤ gb752)); have GE752 := za ((Nat.le_trans HW0.out (by rw [hg]; exact (keep_size (w := w) (g := g) (row := none) zq60) : w.heap.size ≤ gb752) : w0.heap.size ≤ gb752)); replace HK := za (KeepBut.trans zq60 (KeepBut.of_below hb g none) (.inl rfl)); have NB741_752 := za ((by rw [hg]; exact Nat.ne_of_lt (blk_lt (g := gb741) (zb BK741.out)) : gb741 ≠ gb752)); have NB752_741 := za ((by rw [hg]; exact Nat.ne_of_gt (blk_lt (g := gb741) (zb BK741.out)) : gb752 ≠ gb741)); replace BK741 := za (blk_below (g := gb741) (zb BK741.out) hb); have NB0_752 := za ((by rw [hg]; exact Nat.ne_of_lt (IsS57.lt (show IsS57 w0 _ g s0_0 t748 t749 t750 t751 from zq47)) : g ≠ gb752)); have NB752_0 := za ((by rw [hg]; exact Nat.ne_of_gt (IsS57.lt (show IsS57 w0 _ g s0_0 t748 t749 t750 t751 from zq47)) : gb752 ≠ g)); replace HI0 := za (IsS57.below zq47 hb); clear hb hbox hg; have hnb11 := NB752_741.out; have hnc11 := NB741_752.out; have hnb12 := NB752_0.out; have hnc12 := NB0_752.out; obtain ⟨hcz13_0, hcz13_1, hcz13_2, hcz13_3, hcz13_4, hcz13_5, hcz13_6, hcz13_7⟩ := zc8 BK752.out; obtain ⟨hfz13_0, hfz13_1, hfz13_2, hfz13_3, hfz13_4, hfz13_5, hfz13_6⟩ := zf7 BK752.out; have hfz13_7 := blk_frozen BK752.out 7) | ((with_reducible refine gate_callee (f := 21) rfl ?_); refine goesL_ (some 11) rfl rfl Try.func21 zq18 rfl #[.pointer (some ⟨g, 0, none⟩), .string (⟨#[40]⟩ : ByteArray)] rfl zq1 ?_; (with_reducible refine (rr_want.calls g s0_0 t748 t749 t750 t751 (⟨#[40]⟩ : ByteArray) t753 t754 t755 t756 w0 _ ?side1 ?side2 A4.out).mono ?_); (case side1 => exact zq2); (case side2 => exact zq10); rintro e w14 ⟨rfl, hi, hb, hk⟩; refine ⟨_, rfl, ?_⟩; replace BK741 := za (KeepBut.blk hk (g' := gb741) (o := .cells #[.string (⟨#[]⟩ : ByteArray), .slice none 0 0, .bool false, .string (⟨#[]⟩ : ByteArray), .string (⟨#[]⟩ : ByteArray), .slice none 0 0, .slice none 0 0, .int .i64 0] 42 (0, 0)) (by (with_reducible repeat (first | refine blk_drewN ?_ _ | refine blk_drew ?_ | refine blk_alloc ?_ _)); refine blk_far ?_ NB741_752.out _; (with_reducible repeat (first | refine blk_drewN ?_ _ | refine blk_drew ?_ | refine blk_alloc ?_ _)); refine blk_far ?_ NB741_752.out _; (with_reducible repeat (first | refine blk_drewN ?_ _ | refine blk_drew ?_ | refine blk_alloc ?_ _)); refine blk_far ?_ NB741_752.out _; (with_reducible repeat (first | refine blk_drewN ?_ _ | refine blk_drew ?_ | refine blk_alloc ?_ _)); refine blk_far ?_ NB741_752.out _; (with_reducible repeat (first | refine blk_drewN ?_ _ | refine blk_drew ?_ | refine blk_alloc ?_ _)); refine blk_far ?_ NB741_752.out _; (with_reducible repeat (first | refine blk_drewN ?_ _ | refine blk_drew ?_ | refine blk_alloc ?_ _)); refine blk_far ?_ NB741_752.out _; (with_reducible repeat (first | refine blk_drewN ?_ _ | refine blk_drew ?_ | refine blk_alloc ?_ _)); refine blk_far ?_ NB741_752.out _; (with_reducible repeat (first | refine blk_drewN ?_ _ | refine blk_drew ?_ | refine blk_alloc ?_ _)); refine blk_far ?_ NB741_752.out _; (with_reducible repeat (first | refine blk_drewN ?_ _ | refine blk_drew ?_ | refine blk_alloc ?_ _)); exact BK741.out) NB741_0.out (by simp)); replace BK752 := za (KeepBut.blk hk (g' := gb752) (o := .cells #[.string t747, .slice none 0 0, .bool false, .string (⟨#[]⟩ : ByteArray), .string (⟨#[]⟩ : ByteArray), .slice none 0 0, .slice none 0 0, .int .i64 t742] 42 (0, 0)) (by (with_reducible repeat (first | refine blk_drewN ?_ _ | refine blk_drew ?_ | refine blk_alloc ?_ _)); refine blk_put (cs := #[.string t747, .slice none 0 0, .bool false, .string (⟨#[]⟩ : ByteArray), .string (⟨#[]⟩ : ByteArray), .slice none 0 0, .slice none 0 0, .int .i64 0]) ?_ 7 _ rfl; (with_reducible repeat (first | refine blk_drewN ?_ _ | refine blk_drew ?_ | refine blk_alloc ?_ _)); refine blk_put (cs := #[.string t747, .slice none 0 0, .bool false, .string (⟨#[]⟩ : ByteArray), .string (⟨#[]⟩ : ByteArray), .slice none 0 0, .slice none 0 0, .int .i64 0]) ?_ 6 _ rfl; (with_reducible repeat (first | refine blk_drewN ?_ _ | refine blk_drew ?_ | refine blk_alloc ?_ _)); refine blk_put (cs := #[.string t747, .slice none 0 0, .bool false, .string (⟨#[]⟩ : ByteArray), .string (⟨#[]⟩ : ByteArray), .slice none 0 0, .slice none 0 0, .int .i64 0]) ?_ 5 _ rfl; (with_reducible repeat (first | refine blk_drewN ?_ _ | refine blk_drew ?_ | refine blk_alloc ?_ _)); refine blk_put (cs := #[.string t747, .slice none 0 0, .bool false, .string (⟨#[]⟩ : ByteArray), .string (⟨#[]⟩ : ByteArray), .slice none 0 0, .slice none 0 0, .int .i64 0]) ?_ 4 _ rfl; (with_reducible repeat (first | refine blk_drewN ?_ _ | refine blk_drew ?_ | refine blk_alloc ?_ _)); refine blk_put (cs := #[.string t747, .slice none 0 0, .bool false, .string (⟨#[]⟩ : ByteArray), .string (⟨#[]⟩ : ByteArray), .slice none 0 0, .slice none 0 0, .int .i64 0]) ?_ 3 _ rfl; (with_reducible repeat (first | refine blk_drewN ?_ _ | refine blk_drew ?_ | refine blk_alloc ?_ _)); refine blk_put (cs := #[.string t747, .slice none 0 0, .bool false, .string (⟨#[]⟩ : ByteArray), .string (⟨#[]⟩ : ByteArray), .slice none 0 0, .slice none 0 0, .int .i64 0]) ?_ 2 _ rfl; (with_reducible repeat (first | refine blk_drewN ?_ _ | refine blk_drew ?_ | refine blk_alloc ?_ _)); refine blk_put (cs := #[.string t747, .slice none 0 0, .bool false, .string (⟨#[]⟩ : ByteArray), .string (⟨#[]⟩ : ByteArray), .slice none 0 0, .slice none 0 0, .int .i64 0]) ?_ 1 _ rfl; (with_reducible repeat (first | refine blk_drewN ?_ _ | refine blk_drew ?_ | refine blk_alloc ?_ _)); refine blk_put (cs := #[.string (⟨#[]⟩ : ByteArray), .slice none 0 0, .bool false, .string (⟨#[]⟩ : ByteArray), .string (⟨#[]⟩ : ByteArray), .slice none 0 0, .slice none 0 0, .int .i64 0]) ?_ 0 _ rfl; (with_reducible repeat (first | refine blk_drewN ?_ _ | refine blk_drew ?_ | refine blk_alloc ?_ _)); exact BK752.out) NB752_0.out (by simp)); replace HK := za (KeepBut.trans zq8 hk (.inl rfl)); replace HB := za (hb); replace HI0 := za (hi)) | ((with_reducible refine gate_callee (f := 30) rfl ?_); refine goesL_ (some 13) rfl rfl Try.func30 zq18 rfl #[.pointer (some ⟨g, 0, none⟩), .string (⟨#[41]⟩ : ByteArray)] rfl zq1 ?_; (with_reducible refine (rr_is.calls g s0_0 t753 t754 t755 t756 (⟨#[41]⟩ : ByteArray) t757 t758 t759 t760 t761 w0 _ ?side1 ?side2 A5.out).mono ?_); (case side1 => exact zq2); (case side2 => exact zq10); rintro e w15 ⟨rfl, hi, hb, hk⟩; refine ⟨_, rfl, ?_⟩; replace BK741 := za (KeepBut.blk hk (g' := gb741) (zb BK741.out) NB741_0.out (by simp)); replace BK752 := za (KeepBut.blk hk (g' := gb752) (zb BK752.out) NB752_0.out (by simp)); replace HK := za (KeepBut.trans zq8 hk (.inl rfl)); replace HB := za (hb); replace HI0 := za (hi)))
 (try simp only [Act.put, List.setIfInBounds_toArray, List.set_cons_zero, List.set_cons_succ])
 go_cut [] (fun wc => ∃ (kq : Nat) (x1001_5 : Int) (x1002_5 : Int) (x1003_5 : Int) (x1004_5 : Int) (x753001_5 : List (S85)) (u753001 : Value), Aside0 (rr_proc.j1 kq s0_0 x1001_5 x1002_5 x1003_5 x1004_5 t747 x753001_5 false (⟨#[]⟩ : ByteArray) (⟨#[]⟩ : ByteArray) t742 = some (r1, r2, r3, r4, r5, r6, r7, r8, r9, r10, r11, r12)) ∧ Aside0 (kq ≤ k) ∧ Aside0 (Kd.R k85 85 wc w.heap.size (fun _ => True) u753001 x753001_5) ∧ Aside0 (wc.heap[gb741]? = some (.cells #[.string (⟨#[]⟩ : ByteArray), (.slice none 0 0), .bool false, .string (⟨#[]⟩ : ByteArray), .string (⟨#[]⟩ : ByteArray), (.slice none 0 0), (.slice none 0 0), .int .i64 0] 42 (0, 0))) ∧ Aside0 (wc.heap[gb752]? = some (.cells #[.string t747, u753001, .bool false, .string (⟨#[]⟩ : ByteArray), .string (⟨#[]⟩ : ByteArray), (.slice none 0 0), (.slice none 0 0), .int .i64 t742] 42 (0, 0))) ∧ Aside0 (IsS57 w0 wc g s0_0 x1001_5 x1002_5 x1003_5 x1004_5) ∧ Aside0 (KeepBut w wc g none) ∧ Aside0 (Below w0.heap.size w0 wc))
 case first =>
  have H := HC6.out
  clear HC6
  by_cases c16 : t757 = true
  ·
   subst c16
   rw [if_pos rfl] at H
   have H' := za H
   clear H
   go_wp2
   go_meet
   case rel => exact ⟨_, (t758), (t759), (t760), (t761), (([] : List (S85))), (.slice none 0 0), H', ⟨zq78⟩, ⟨zq22⟩, ⟨zq56⟩, ⟨zq57⟩, ⟨zq2⟩, ⟨zq8⟩, ⟨zq10⟩⟩
  ·
   replace c16 := Bool.eq_false_iff.mpr c16
   subst c16
   rw [if_neg (show ¬ (false = true) by decide)] at H
   have H' := za H
   clear H
   go_wp2
   go_loopg [] k (fun kq w' => ∃ (x1001_1 : Int) (x1002_1 : Int) (x1003_1 : Int) (x1004_1 : Int) (x753001_1 : List (S85)) (u753001 : Value), Aside0 (rr_proc.l0 kq s0_0 x1001_1 x1002_1 x1003_1 x1004_1 t747 x753001_1 false (⟨#[]⟩ : ByteArray) (⟨#[]⟩ : ByteArray) t742 = some (r1, r2, r3, r4, r5, r6, r7, r8, r9, r10, r11, r12)) ∧ Aside0 (kq ≤ k) ∧ Aside0 (Kd.R k85 85 w' w.heap.size (fun _ => True) u753001 x753001_1) ∧ Aside0 (w'.heap[gb741]? = some (.cells #[.string (⟨#[]⟩ : ByteArray), (.slice none 0 0), .bool false, .string (⟨#[]⟩ : ByteArray), .string (⟨#[]⟩ : ByteArray), (.slice none 0 0), (.slice none 0 0), .int .i64 0] 42 (0, 0))) ∧ Aside0 (w'.heap[gb752]? = some (.cells #[.string t747, u753001, .bool false, .string (⟨#[]⟩ : ByteArray), .string (⟨#[]⟩ : ByteArray), (.slice none 0 0), (.slice none 0 0), .int .i64 t742] 42 (0, 0))) ∧ Aside0 (IsS57 w0 w' g s0_0 x1001_1 x1002_1 x1003_1 x1004_1) ∧ Aside0 (KeepBut w w' g none) ∧ Aside0 (Below w0.heap.size w0 w'))
   case atStart => exact ⟨(t758), (t759), (t760), (t761), (([] : List (S85))), (.slice none 0 0), H', ⟨Nat.le_refl _⟩, ⟨zq22⟩, ⟨zq56⟩, ⟨zq57⟩, ⟨zq2⟩, ⟨zq8⟩, ⟨zq10⟩⟩
   case round =>
    clear H'
    obtain ⟨x1001_1, x1002_1, x1003_1, x1004_1, x753001_1, u753001, HA, HK1, HO_753001, BK741, BK752, HI0, HK, HB⟩ := hrel
    cases gk with
    | zero => exact absurd HA.out (by simp [rr_proc.l0])
    | succ k1 =>
     have H := HA.out
     clear HA
     simp only [rr_proc.l0] at H
     by_cases c17 : x1003_1 = 0
     ·
      rw [if_pos c17] at H
      have c17b0 := beq_iff_eq.mpr c17
      have c17b1 := bne_eq_false_iff_eq.mpr c17
      clear c17
      (first | rw [c17b0] | (simp only [i64_w, i32_w]; rw [c17b0]) | skip)
      replace H := Option.bind_eq_some_iff.mp H
      obtain ⟨⟨t762, t763, t764, t765, t766⟩, A180, H⟩ := H
      (try dsimp only at H)
      have A18 := za A180
      clear A180
      replace H := Option.bind_eq_some_iff.mp H
      obtain ⟨⟨t767, t768, t769, t770, t771⟩, A190, H⟩ := H
      (try dsimp only at H)
      have A19 := za A190
      clear A190
      replace H := Option.bind_eq_some_iff.mp H
      obtain ⟨⟨t773, t774, t775, t776⟩, A200, H⟩ := H
      (try dsimp only at H)
      have A20 := za A200
      clear A200
      replace H := Option.bind_eq_some_iff.mp H
      obtain ⟨⟨t777, t778, t779, t780, t781⟩, A210, H⟩ := H
      (try dsimp only at H)
      have A21 := za A210
      clear A210
      by_cases c22 : x753001_1.length < 3518437208883
      ·
       rw [if_pos c22] at H
       have LMc22 := za c22
       clear c22
       obtain ⟨y782, hy782⟩ : ∃ y_ : List (S85), y_ = (x753001_1 ++ [(⟨t767, t777, t762⟩ : S85)]) := ⟨_, rfl⟩
       replace H : ((rr_take.f s0_0 t778 t779 t780 t781 (⟨#[44]⟩ : ByteArray)).bind fun bt785 => (if bt785.1 = true then (rr_proc.l0 k1 s0_0 bt785.2.1 bt785.2.2.1 bt785.2.2.2.1 bt785.2.2.2.2 t747 y782 false (⟨#[]⟩ : ByteArray) (⟨#[]⟩ : ByteArray) t742) else (rr_proc.j1 k1 s0_0 bt785.2.1 bt785.2.2.1 bt785.2.2.2.1 bt785.2.2.2.2 t747 y782 false (⟨#[]⟩ : ByteArray) (⟨#[]⟩ : ByteArray) t742))) = some (r1, r2, r3, r4, r5, r6, r7, r8, r9, r10, r11, r12) := by first | (rw [hy782]; with_reducible exact H) | (have H2_ := (Option.bind_some _ _).symm.trans H; rw [hy782]; with_reducible exact H2_) | (have H2_ := (Option.bind_some _ _).symm.trans H; with_reducible exact H2_) | with_reducible exact H | (rw [hy782]; exact H) | exact H
       have Ny782 := za hy782
       clear hy782
       replace H := Option.bind_eq_some_iff.mp H
       obtain ⟨⟨t785, t786, t787, t788, t789⟩, A230, H⟩ := H
       (try dsimp only at H)
       have A23 := za A230
       clear A230
       by_cases c24 : t785 = true
       ·
        subst c24
        rw [if_pos rfl] at H
        have H' := za H
        clear H
        obtain ⟨ASz25_0, cSz25_0, HGz25, hgz25, HSz25_0⟩ := HI0.out
        have hcz25_0 := cellS57_0 HGz25
        have hcz25_1 := cellS57_1 HGz25
        have hcz25_2 := cellS57_2 HGz25
        have hcz25_3 := cellS57_3 HGz25
        have hcz25_4 := cellS57_4 HGz25
        have hfz25_1 := blk_frozen HGz25 1
        have hfz25_2 := blk_frozen HGz25 2
        have hfz25_3 := blk_frozen HGz25 3
        have hfz25_4 := blk_frozen HGz25 4
        clear HGz25 hgz25
        go_wp2_with (first | ((with_reducible refine gate_callee (f := 22) rfl ?_); refine goesL_ (some 21) rfl rfl Try.func22 zq18 rfl #[.pointer (some ⟨g, 0, none⟩)] rfl zq1 ?_; (with_reducible refine (rr_here.calls g s0_0 x1001_1 x1002_1 x1003_1 x1004_1 t762 t763 t764 t765 t766 w0 _ ?side1 ?side2 A18.out).mono ?_); (case side1 => exact zq2); (case side2 => exact zq10); rintro e w26 ⟨rfl, hi, hb, hk⟩; refine ⟨_, rfl, ?_⟩; replace HO_753001 := za (Kd.R_mono (Kd.R_keep (IsS57.apart (show IsS57 w0 _ g s0_0 x1001_1 x1002_1 x1003_1 x1004_1 from zq2) (zr HO_753001.out) (by decide)) hk (fun _ h => h.2)) (fun _ h => h.1)); replace BK741 := za (KeepBut.blk hk (g' := gb741) (zb BK741.out) NB741_0.out (by simp)); replace BK752 := za (KeepBut.blk hk (g' := gb752) (zb BK752.out) NB752_0.out (by simp)); replace HK := za (KeepBut.trans zq8 hk (.inl rfl)); replace HB := za (hb); replace HI0 := za (hi)) | ((with_reducible refine gate_callee (f := 23) rfl ?_); refine goesL_ (some 23) rfl rfl Try.func23 zq18 rfl #[.pointer (some ⟨g, 0, none⟩)] rfl zq1 ?_; (with_reducible refine (rr_name.calls g s0_0 t763 t764 t765 t766 t767 t768 t769 t770 t771 w0 _ ?side1 ?side2 A19.out).mono ?_); (case side1 => exact zq2); (case side2 => exact zq10); rintro e w27 ⟨rfl, hi, hb, hk⟩; refine ⟨_, rfl, ?_⟩; replace HO_753001 := za (Kd.R_mono (Kd.R_keep (IsS57.apart (show IsS57 w0 _ g s0_0 t763 t764 t765 t766 from zq2) (zr HO_753001.out) (by decide)) hk (fun _ h => h.2)) (fun _ h => h.1)); replace BK741 := za (KeepBut.blk hk (g' := gb741) (zb BK741.out) NB741_0.out (by simp)); replace BK752 := za (KeepBut.blk hk (g' := gb752) (zb BK752.out) NB752_0.out (by simp)); replace HK := za (KeepBut.trans zq8 hk (.inl rfl)); replace HB := za (hb); replace HI0 := za (hi)) | ((with_reducible refine gate_dst (N := 4) rfl ?_); refine box_event ?hg (N := 4) ?hd (cs := #[.string (⟨#[]⟩ : ByteArray), .string (⟨#[]⟩ : ByteArray), .int .i64 0]) (t := 85) ?hr ?_; (case hd => rfl); (case hg => rfl); (case hr => exact zq39); intro gb772 hg w28 hbox hb; replace HO_753001 := za (Kd.R_below (Kd.R_elderB (zr HO_753001.out) gb772 (Nat.le_of_eq hg.symm)) hb); replace HB := za (below_step zq10 hb); have BK772 := za (hbox); have GW772 := za ((by rw [hg]; exact (keep_size (w := w) (g := g) (row := none) zq8) : w.heap.size ≤ gb772)); have GE772 := za ((Nat.le_trans HW0.out (by rw [hg]; exact (keep_size (w := w) (g := g) (row := none) zq8) : w.heap.size ≤ gb772) : w0.heap.size ≤ gb772)); replace HK := za (KeepBut.trans zq8 (KeepBut.of_below hb g none) (.inl rfl)); have NB741_772 := za ((by rw [hg]; exact Nat.ne_of_lt (blk_lt (g := gb741) (zb BK741.out)) : gb741 ≠ gb772)); have NB772_741 := za ((by rw [hg]; exact Nat.ne_of_gt (blk_lt (g := gb741) (zb BK741.out)) : gb772 ≠ gb741)); replace BK741 := za (blk_below (g := gb741) (zb BK741.out) hb); have NB752_772 := za ((by rw [hg]; exact Nat.ne_of_lt (blk_lt (g := gb752) (zb BK752.out)) : gb752 ≠ gb772)); have NB772_752 := za ((by rw [hg]; exact Nat.ne_of_gt (blk_lt (g := gb752) (zb BK752.out)) : gb772 ≠ gb752)); replace BK752 := za (blk_below (g := gb752) (zb BK752.out) hb); have NB0_772 := za ((by rw [hg]; exact Nat.ne_of_lt (IsS57.lt (show IsS57 w0 _ g s0_0 t768 t769 t770 t771 from zq2)) : g ≠ gb772)); have NB772_0 := za ((by rw [hg]; exact Nat.ne_of_gt (IsS57.lt (show IsS57 w0 _ g s0_0 t768 t769 t770 t771 from zq2)) : gb772 ≠ g)); replace HI0 := za (IsS57.below zq2 hb); clear hb hbox hg; have hnb29 := NB772_741.out; have hnc29 := NB741_772.out; have hnb30 := NB772_752.out; have hnc30 := NB752_772.out; have hnb31 := NB772_0.out; have hnc31 := NB0_772.out; obtain ⟨hcz32_0, hcz32_1, hcz32_2⟩ := zc3 BK772.out; obtain ⟨hfz32_0, hfz32_1⟩ := zf2 BK772.out; have hfz32_2 := blk_frozen BK772.out 2) | ((with_reducible refine gate_callee (f := 21) rfl ?_); refine goesL_ (some 26) rfl rfl Try.func21 zq18 rfl #[.pointer (some ⟨g, 0, none⟩), .string (⟨#[58]⟩ : ByteArray)] rfl zq1 ?_; (with_reducible refine (rr_want.calls g s0_0 t768 t769 t770 t771 (⟨#[58]⟩ : ByteArray) t773 t774 t775 t776 w0 _ ?side1 ?side2 A20.out).mono ?_); (case side1 => exact zq21); (case side2 => exact zq32); rintro e w33 ⟨rfl, hi, hb, hk⟩; refine ⟨_, rfl, ?_⟩; replace HO_753001 := za (Kd.R_mono (Kd.R_keep (IsS57.apart (show IsS57 w0 _ g s0_0 t768 t769 t770 t771 from zq21) (by (with_reducible repeat (first | apply Kd.R_alloc | apply Kd.R_drewN | apply Kd.R_drew)); exact (Kd.R_mono (Kd.R_far (p := ⟨gb772, 2, none⟩) (Kd.R_far (p := ⟨gb772, 1, none⟩) (Kd.R_far (p := ⟨gb772, 0, none⟩) (Kd.R_mono HO_753001.out (fun k_ hk => (⟨hk, hk.2⟩ : _ ∧ k_ ≠ gb772))) (fun _ hk => hk.2) (.string t767)) (fun _ hk => hk.2) (.string (⟨#[]⟩ : ByteArray))) (fun _ hk => hk.2) (.int .i64 t762)) (fun _ h_ => h_.1))) (by decide)) hk (fun _ h => h.2)) (fun _ h => h.1)); replace BK741 := za (KeepBut.blk hk (g' := gb741) (o := .cells #[.string (⟨#[]⟩ : ByteArray), .slice none 0 0, .bool false, .string (⟨#[]⟩ : ByteArray), .string (⟨#[]⟩ : ByteArray), .slice none 0 0, .slice none 0 0, .int .i64 0] 42 (0, 0)) zq52 NB741_0.out (by simp)); replace BK752 := za (KeepBut.blk hk (g' := gb752) (o := .cells #[.string t747, u753001, .bool false, .string (⟨#[]⟩ : ByteArray), .string (⟨#[]⟩ : ByteArray), .slice none 0 0, .slice none 0 0, .int .i64 t742] 42 (0, 0)) zq53 NB752_0.out (by simp)); replace BK772 := za (KeepBut.blk hk (g' := gb772) (o := .cells #[.string t767, .string (⟨#[]⟩ : ByteArray), .int .i64 t762] 85 (0, 0)) (by (with_reducible repeat (first | refine blk_drewN ?_ _ | refine blk_drew ?_ | refine blk_alloc ?_ _)); refine blk_put (cs := #[.string t767, .string (⟨#[]⟩ : ByteArray), .int .i64 0]) ?_ 2 _ rfl; (with_reducible repeat (first | refine blk_drewN ?_ _ | refine blk_drew ?_ | refine blk_alloc ?_ _)); refine blk_put (cs := #[.string t767, .string (⟨#[]⟩ : ByteArray), .int .i64 0]) ?_ 1 _ rfl; (with_reducible repeat (first | refine blk_drewN ?_ _ | refine blk_drew ?_ | refine blk_alloc ?_ _)); refine blk_put (cs := #[.string (⟨#[]⟩ : ByteArray), .string (⟨#[]⟩ : ByteArray), .int .i64 0]) ?_ 0 _ rfl; (with_reducible repeat (first | refine blk_drewN ?_ _ | refine blk_drew ?_ | refine blk_alloc ?_ _)); exact BK772.out) NB772_0.out (by simp)); replace HK := za (KeepBut.trans zq30 hk (.inl rfl)); replace HB := za (hb); replace HI0 := za (hi)) | ((with_reducible refine gate_callee (f := 23) rfl ?_); refine goesL_ (some 28) rfl rfl Try.func23 zq18 rfl #[.pointer (some ⟨g, 0, none⟩)] rfl zq1 ?_; (with_reducible refine (rr_name.calls g s0_0 t773 t774 t775 t776 t777 t778 t779 t780 t781 w0 _ ?side1 ?side2 A21.out).mono ?_); (case side1 => exact zq21); (case side2 => exact zq32); rintro e w34 ⟨rfl, hi, hb, hk⟩; refine ⟨_, rfl, ?_⟩; replace HO_753001 := za (Kd.R_mono (Kd.R_keep (IsS57.apart (show IsS57 w0 _ g s0_0 t773 t774 t775 t776 from zq21) (zr HO_753001.out) (by decide)) hk (fun _ h => h.2)) (fun _ h => h.1)); replace BK741 := za (KeepBut.blk hk (g' := gb741) (zb BK741.out) NB741_0.out (by simp)); replace BK752 := za (KeepBut.blk hk (g' := gb752) (zb BK752.out) NB752_0.out (by simp)); replace BK772 := za (KeepBut.blk hk (g' := gb772) (zb BK772.out) NB772_0.out (by simp)); replace HK := za (KeepBut.trans zq30 hk (.inl rfl)); replace HB := za (hb); replace HI0 := za (hi); (try clear hb hk hi); obtain ⟨hcz35_0, hcz35_1, hcz35_2⟩ := zc3 BK772.out; obtain ⟨hfz35_0, hfz35_1, hfz35_2⟩ := zf3 BK772.out; have hnb36 := NB752_741.out; have hnc36 := NB741_752.out; have hnb37 := NB752_0.out; have hnc37 := NB0_752.out; obtain ⟨hcz38_0, hcz38_1, hcz38_2, hcz38_3, hcz38_4, hcz38_5, hcz38_6, hcz38_7⟩ := zc8 BK752.out; obtain ⟨hfz38_0, hfz38_1, hfz38_2, hfz38_3, hfz38_4, hfz38_5, hfz38_6⟩ := zf7 BK752.out; have hfz38_7 := blk_frozen BK752.out 7) | ((with_reducible refine gate_builtin (b := .append) (xs := #[.tmp 31, .tmp 33]) rfl ?_); at_builtin; refine Kd.R_append k85 w.heap.size rfl (.tmp 31) (.tmp 33) 39 85 (.agg #[(.string ⟨#[]⟩), (.string ⟨#[]⟩), (.int .i64 0)]) 40 rfl Try.underlying39 info85 rfl (by decide) (by omega) u753001 x753001_1 (⟨t767, t777, t762⟩ : S85) [.string t767, .string t777, .int .i64 t762] (fun k_ => k_ ≠ gb772) (fun _ => False) rfl zq39 ?aP (fun _ hk => hk.elim) ?aF ?aO (Below.refl _ _) ?aS ?aL ?_; (case aP => exact k85_mkM _ _ _ (⟨t767, t777, t762⟩ : S85)); (case aF => exact (fun k_ hk => Kd.freshB (g := gb772) (o := .cells #[.string t767, .string t777, .int .i64 t762] 85 (0, 0)) (by (with_reducible repeat (first | refine blk_drewN ?_ _ | refine blk_drew ?_ | refine blk_alloc ?_ _)); refine blk_put (cs := #[.string t767, .string (⟨#[]⟩ : ByteArray), .int .i64 t762]) ?_ 1 _ rfl; (with_reducible repeat (first | refine blk_drewN ?_ _ | refine blk_drew ?_ | refine blk_alloc ?_ _)); exact BK772.out) k_ hk)); (case aO => exact (by (with_reducible repeat (first | apply Kd.R_alloc | apply Kd.R_drewN | apply Kd.R_drew)); exact Kd.R_mono (Kd.R_far (p := ⟨gb772, 1, none⟩) (Kd.R_mono HO_753001.out (fun k_ hk => (⟨hk, hk.2⟩ : _ ∧ k_ ≠ gb772))) (fun _ hk => hk.2) (.string t777)) (fun _ hk => hk.1.2))); (case aS => exact (keep_size (w := w) (g := g) (row := none) zq30)); (case aL => have := LMc22.out; omega); intro v783 w39 ho hb hg hat; rw [← Ny782.out] at ho; replace BK741 := za (blk_grown (g := gb741) (o := .cells #[.string (⟨#[]⟩ : ByteArray), .slice none 0 0, .bool false, .string (⟨#[]⟩ : ByteArray), .string (⟨#[]⟩ : ByteArray), .slice none 0 0, .slice none 0 0, .int .i64 0] 42 (0, 0)) zq80 hg (Kd.R_ne HO_753001.out BK741.out (by decide))); replace BK752 := za (blk_grown (g := gb752) (o := .cells #[.string t747, u753001, .bool false, .string (⟨#[]⟩ : ByteArray), .string (⟨#[]⟩ : ByteArray), .slice none 0 0, .slice none 0 0, .int .i64 t742] 42 (0, 0)) zq81 hg (Kd.R_ne HO_753001.out BK752.out (by decide))); replace BK772 := za (blk_grown (g := gb772) (o := .cells #[.string t767, .string t777, .int .i64 t762] 85 (0, 0)) (by (with_reducible repeat (first | refine blk_drewN ?_ _ | refine blk_drew ?_ | refine blk_alloc ?_ _)); refine blk_put (cs := #[.string t767, .string (⟨#[]⟩ : ByteArray), .int .i64 t762]) ?_ 1 _ rfl; (with_reducible repeat (first | refine blk_drewN ?_ _ | refine blk_drew ?_ | refine blk_alloc ?_ _)); exact BK772.out) hg (Kd.R_away HO_753001.out (fun _ hk => hk.2))); replace HB := za (below_weaken zq32 HL.out hb); replace HI0 := za (IsS57.grown zq21 hg (IsS57.own_ne HI0.out HO_753001.out (by decide))); replace HK := za (KeepBut.trans zq30 (KeepBut.of_grown hg g) (Kd.R_base2 HO_753001.out)); have HO784 := za (ho); clear HO_753001; clear ho hb hg hat; obtain ⟨Ao40, co40, eo40⟩ := Kd.R_slice HO784.out; subst eo40; obtain ⟨hcz41_0, hcz41_1, hcz41_2, hcz41_3, hcz41_4, hcz41_5, hcz41_6, hcz41_7⟩ := zc8 BK752.out; obtain ⟨hfz41_0, hfz41_1, hfz41_2, hfz41_3, hfz41_4, hfz41_5, hfz41_6⟩ := zf7 BK752.out; have hfz41_7 := blk_frozen BK752.out 7) | ((with_reducible refine gate_callee (f := 24) rfl ?_); refine goesL_ (some 37) rfl rfl Try.func24 zq18 rfl #[.pointer (some ⟨g, 0, none⟩), .string (⟨#[44]⟩ : ByteArray)] rfl zq1 ?_; (with_reducible refine (rr_take.calls g s0_0 t778 t779 t780 t781 (⟨#[44]⟩ : ByteArray) true t786 t787 t788 t789 w0 _ ?side1 ?side2 A23.out).mono ?_); (case side1 => exact zq21); (case side2 => exact zq32); rintro e w42 ⟨rfl, hi, hb, hk⟩; refine ⟨_, rfl, ?_⟩; replace BK741 := za (KeepBut.blk hk (g' := gb741) (o := .cells #[.string (⟨#[]⟩ : ByteArray), .slice none 0 0, .bool false, .string (⟨#[]⟩ : ByteArray), .string (⟨#[]⟩ : ByteArray), .slice none 0 0, .slice none 0 0, .int .i64 0] 42 (0, 0)) zq36 NB741_0.out (by simp)); replace BK772 := za (KeepBut.blk hk (g' := gb772) (o := .cells #[.string t767, .string t777, .int .i64 t762] 85 (0, 0)) zq82 NB772_0.out (by simp)); replace HO784 := za (Kd.R_mono (Kd.R_keep (IsS57.apart (show IsS57 w0 _ g s0_0 t778 t779 t780 t781 from zq21) (by (with_reducible repeat (first | apply Kd.R_alloc | apply Kd.R_drewN | apply Kd.R_drew)); exact (Kd.R_mono (Kd.R_far (p := ⟨gb752, 1, none⟩) (Kd.R_types HO784.out BK752.out (by decide)) (fun _ hk => hk.2) (.slice Ao40 y782.length co40)) (fun _ h_ => h_.1))) (by decide)) hk (fun _ h => h.2)) (fun _ h => h.1)); replace BK752 := za (KeepBut.blk hk (g' := gb752) (o := .cells #[.string t747, .slice Ao40 y782.length co40, .bool false, .string (⟨#[]⟩ : ByteArray), .string (⟨#[]⟩ : ByteArray), .slice none 0 0, .slice none 0 0, .int .i64 t742] 42 (0, 0)) (by (with_reducible repeat (first | refine blk_drewN ?_ _ | refine blk_drew ?_ | refine blk_alloc ?_ _)); refine blk_put (cs := #[.string t747, u753001, .bool false, .string (⟨#[]⟩ : ByteArray), .string (⟨#[]⟩ : ByteArray), .slice none 0 0, .slice none 0 0, .int .i64 t742]) ?_ 1 _ rfl; (with_reducible repeat (first | refine blk_drewN ?_ _ | refine blk_drew ?_ | refine blk_alloc ?_ _)); exact BK752.out) NB752_0.out (by simp)); replace HK := za (KeepBut.trans zq30 hk (.inl rfl)); replace HB := za (hb); replace HI0 := za (hi)))
        go_roundg k1
        case measure => have := HK1.out; omega
        case rel => exact ⟨(t786), (t787), (t788), (t789), (y782), (.slice Ao40 y782.length co40), H', ⟨by have := HK1.out; omega⟩, ⟨zq99⟩, ⟨zq56⟩, ⟨zq57⟩, ⟨zq21⟩, ⟨zq30⟩, ⟨zq32⟩⟩
       ·
        replace c24 := Bool.eq_false_iff.mpr c24
        subst c24
        rw [if_neg (show ¬ (false = true) by decide)] at H
        have H' := za H
        clear H
        obtain ⟨ASz43_0, cSz43_0, HGz43, hgz43, HSz43_0⟩ := HI0.out
        have hcz43_0 := cellS57_0 HGz43
        have hcz43_1 := cellS57_1 HGz43
        have hcz43_2 := cellS57_2 HGz43
        have hcz43_3 := cellS57_3 HGz43
        have hcz43_4 := cellS57_4 HGz43
        have hfz43_1 := blk_frozen HGz43 1
        have hfz43_2 := blk_frozen HGz43 2
        have hfz43_3 := blk_frozen HGz43 3
        have hfz43_4 := blk_frozen HGz43 4
        clear HGz43 hgz43
        go_wp2_with (first | ((with_reducible refine gate_callee (f := 22) rfl ?_); refine goesL_ (some 21) rfl rfl Try.func22 zq18 rfl #[.pointer (some ⟨g, 0, none⟩)] rfl zq1 ?_; (with_reducible refine (rr_here.calls g s0_0 x1001_1 x1002_1 x1003_1 x1004_1 t762 t763 t764 t765 t766 w0 _ ?side1 ?side2 A18.out).mono ?_); (case side1 => exact zq2); (case side2 => exact zq10); rintro e w44 ⟨rfl, hi, hb, hk⟩; refine ⟨_, rfl, ?_⟩; replace HO_753001 := za (Kd.R_mono (Kd.R_keep (IsS57.apart (show IsS57 w0 _ g s0_0 x1001_1 x1002_1 x1003_1 x1004_1 from zq2) (zr HO_753001.out) (by decide)) hk (fun _ h => h.2)) (fun _ h => h.1)); replace BK741 := za (KeepBut.blk hk (g' := gb741) (zb BK741.out) NB741_0.out (by simp)); replace BK752 := za (KeepBut.blk hk (g' := gb752) (zb BK752.out) NB752_0.out (by simp)); replace HK := za (KeepBut.trans zq8 hk (.inl rfl)); replace HB := za (hb); replace HI0 := za (hi)) | ((with_reducible refine gate_callee (f := 23) rfl ?_); refine goesL_ (some 23) rfl rfl Try.func23 zq18 rfl #[.pointer (some ⟨g, 0, none⟩)] rfl zq1 ?_; (with_reducible refine (rr_name.calls g s0_0 t763 t764 t765 t766 t767 t768 t769 t770 t771 w0 _ ?side1 ?side2 A19.out).mono ?_); (case side1 => exact zq2); (case side2 => exact zq10); rintro e w45 ⟨rfl, hi, hb, hk⟩; refine ⟨_, rfl, ?_⟩; replace HO_753001 := za (Kd.R_mono (Kd.R_keep (IsS57.apart (show IsS57 w0 _ g s0_0 t763 t764 t765 t766 from zq2) (zr HO_753001.out) (by decide)) hk (fun _ h => h.2)) (fun _ h => h.1)); replace BK741 := za (KeepBut.blk hk (g' := gb741) (zb BK741.out) NB741_0.out (by simp)); replace BK752 := za (KeepBut.blk hk (g' := gb752) (zb BK752.out) NB752_0.out (by simp)); replace HK := za (KeepBut.trans zq8 hk (.inl rfl)); replace HB := za (hb); replace HI0 := za (hi)) | ((with_reducible refine gate_dst (N := 4) rfl ?_); refine box_event ?hg (N := 4) ?hd (cs := #[.string (⟨#[]⟩ : ByteArray), .string (⟨#[]⟩ : ByteArray), .int .i64 0]) (t := 85) ?hr ?_; (case hd => rfl); (case hg => rfl); (case hr => exact zq39); intro gb772 hg w46 hbox hb; replace HO_753001 := za (Kd.R_below (Kd.R_elderB (zr HO_753001.out) gb772 (Nat.le_of_eq hg.symm)) hb); replace HB := za (below_step zq10 hb); have BK772 := za (hbox); have GW772 := za ((by rw [hg]; exact (keep_size (w := w) (g := g) (row := none) zq8) : w.heap.size ≤ gb772)); have GE772 := za ((Nat.le_trans HW0.out (by rw [hg]; exact (keep_size (w := w) (g := g) (row := none) zq8) : w.heap.size ≤ gb772) : w0.heap.size ≤ gb772)); replace HK := za (KeepBut.trans zq8 (KeepBut.of_below hb g none) (.inl rfl)); have NB741_772 := za ((by rw [hg]; exact Nat.ne_of_lt (blk_lt (g := gb741) (zb BK741.out)) : gb741 ≠ gb772)); have NB772_741 := za ((by rw [hg]; exact Nat.ne_of_gt (blk_lt (g := gb741) (zb BK741.out)) : gb772 ≠ gb741)); replace BK741 := za (blk_below (g := gb741) (zb BK741.out) hb); have NB752_772 := za ((by rw [hg]; exact Nat.ne_of_lt (blk_lt (g := gb752) (zb BK752.out)) : gb752 ≠ gb772)); have NB772_752 := za ((by rw [hg]; exact Nat.ne_of_gt (blk_lt (g := gb752) (zb BK752.out)) : gb772 ≠ gb752)); replace BK752 := za (blk_below (g := gb752) (zb BK752.out) hb); have NB0_772 := za ((by rw [hg]; exact Nat.ne_of_lt (IsS57.lt (show IsS57 w0 _ g s0_0 t768 t769 t770 t771 from zq2)) : g ≠ gb772)); have NB772_0 := za ((by rw [hg]; exact Nat.ne_of_gt (IsS57.lt (show IsS57 w0 _ g s0_0 t768 t769 t770 t771 from zq2)) : gb772 ≠ g)); replace HI0 := za (IsS57.below zq2 hb); clear hb hbox hg; have hnb47 := NB772_741.out; have hnc47 := NB741_772.out; have hnb48 := NB772_752.out; have hnc48 := NB752_772.out; have hnb49 := NB772_0.out; have hnc49 := NB0_772.out; obtain ⟨hcz50_0, hcz50_1, hcz50_2⟩ := zc3 BK772.out; obtain ⟨hfz50_0, hfz50_1⟩ := zf2 BK772.out; have hfz50_2 := blk_frozen BK772.out 2) | ((with_reducible refine gate_callee (f := 21) rfl ?_); refine goesL_ (some 26) rfl rfl Try.func21 zq18 rfl #[.pointer (some ⟨g, 0, none⟩), .string (⟨#[58]⟩ : ByteArray)] rfl zq1 ?_; (with_reducible refine (rr_want.calls g s0_0 t768 t769 t770 t771 (⟨#[58]⟩ : ByteArray) t773 t774 t775 t776 w0 _ ?side1 ?side2 A20.out).mono ?_); (case side1 => exact zq21); (case side2 => exact zq32); rintro e w51 ⟨rfl, hi, hb, hk⟩; refine ⟨_, rfl, ?_⟩; replace HO_753001 := za (Kd.R_mono (Kd.R_keep (IsS57.apart (show IsS57 w0 _ g s0_0 t768 t769 t770 t771 from zq21) (by (with_reducible repeat (first | apply Kd.R_alloc | apply Kd.R_drewN | apply Kd.R_drew)); exact (Kd.R_mono (Kd.R_far (p := ⟨gb772, 2, none⟩) (Kd.R_far (p := ⟨gb772, 1, none⟩) (Kd.R_far (p := ⟨gb772, 0, none⟩) (Kd.R_mono HO_753001.out (fun k_ hk => (⟨hk, hk.2⟩ : _ ∧ k_ ≠ gb772))) (fun _ hk => hk.2) (.string t767)) (fun _ hk => hk.2) (.string (⟨#[]⟩ : ByteArray))) (fun _ hk => hk.2) (.int .i64 t762)) (fun _ h_ => h_.1))) (by decide)) hk (fun _ h => h.2)) (fun _ h => h.1)); replace BK741 := za (KeepBut.blk hk (g' := gb741) (o := .cells #[.string (⟨#[]⟩ : ByteArray), .slice none 0 0, .bool false, .string (⟨#[]⟩ : ByteArray), .string (⟨#[]⟩ : ByteArray), .slice none 0 0, .slice none 0 0, .int .i64 0] 42 (0, 0)) zq52 NB741_0.out (by simp)); replace BK752 := za (KeepBut.blk hk (g' := gb752) (o := .cells #[.string t747, u753001, .bool false, .string (⟨#[]⟩ : ByteArray), .string (⟨#[]⟩ : ByteArray), .slice none 0 0, .slice none 0 0, .int .i64 t742] 42 (0, 0)) zq53 NB752_0.out (by simp)); replace BK772 := za (KeepBut.blk hk (g' := gb772) (o := .cells #[.string t767, .string (⟨#[]⟩ : ByteArray), .int .i64 t762] 85 (0, 0)) (by (with_reducible repeat (first | refine blk_drewN ?_ _ | refine blk_drew ?_ | refine blk_alloc ?_ _)); refine blk_put (cs := #[.string t767, .string (⟨#[]⟩ : ByteArray), .int .i64 0]) ?_ 2 _ rfl; (with_reducible repeat (first | refine blk_drewN ?_ _ | refine blk_drew ?_ | refine blk_alloc ?_ _)); refine blk_put (cs := #[.string t767, .string (⟨#[]⟩ : ByteArray), .int .i64 0]) ?_ 1 _ rfl; (with_reducible repeat (first | refine blk_drewN ?_ _ | refine blk_drew ?_ | refine blk_alloc ?_ _)); refine blk_put (cs := #[.string (⟨#[]⟩ : ByteArray), .string (⟨#[]⟩ : ByteArray), .int .i64 0]) ?_ 0 _ rfl; (with_reducible repeat (first | refine blk_drewN ?_ _ | refine blk_drew ?_ | refine blk_alloc ?_ _)); exact BK772.out) NB772_0.out (by simp)); replace HK := za (KeepBut.trans zq30 hk (.inl rfl)); replace HB := za (hb); replace HI0 := za (hi)) | ((with_reducible refine gate_callee (f := 23) rfl ?_); refine goesL_ (some 28) rfl rfl Try.func23 zq18 rfl #[.pointer (some ⟨g, 0, none⟩)] rfl zq1 ?_; (with_reducible refine (rr_name.calls g s0_0 t773 t774 t775 t776 t777 t778 t779 t780 t781 w0 _ ?side1 ?side2 A21.out).mono ?_); (case side1 => exact zq21); (case side2 => exact zq32); rintro e w52 ⟨rfl, hi, hb, hk⟩; refine ⟨_, rfl, ?_⟩; replace HO_753001 := za (Kd.R_mono (Kd.R_keep (IsS57.apart (show IsS57 w0 _ g s0_0 t773 t774 t775 t776 from zq21) (zr HO_753001.out) (by decide)) hk (fun _ h => h.2)) (fun _ h => h.1)); replace BK741 := za (KeepBut.blk hk (g' := gb741) (zb BK741.out) NB741_0.out (by simp)); replace BK752 := za (KeepBut.blk hk (g' := gb752) (zb BK752.out) NB752_0.out (by simp)); replace BK772 := za (KeepBut.blk hk (g' := gb772) (zb BK772.out) NB772_0.out (by simp)); replace HK := za (KeepBut.trans zq30 hk (.inl rfl)); replace HB := za (hb); replace HI0 := za (hi); (try clear hb hk hi); obtain ⟨hcz53_0, hcz53_1, hcz53_2⟩ := zc3 BK772.out; obtain ⟨hfz53_0, hfz53_1, hfz53_2⟩ := zf3 BK772.out; have hnb54 := NB752_741.out; have hnc54 := NB741_752.out; have hnb55 := NB752_0.out; have hnc55 := NB0_752.out; obtain ⟨hcz56_0, hcz56_1, hcz56_2, hcz56_3, hcz56_4, hcz56_5, hcz56_6, hcz56_7⟩ := zc8 BK752.out; obtain ⟨hfz56_0, hfz56_1, hfz56_2, hfz56_3, hfz56_4, hfz56_5, hfz56_6⟩ := zf7 BK752.out; have hfz56_7 := blk_frozen BK752.out 7) | ((with_reducible refine gate_builtin (b := .append) (xs := #[.tmp 31, .tmp 33]) rfl ?_); at_builtin; refine Kd.R_append k85 w.heap.size rfl (.tmp 31) (.tmp 33) 39 85 (.agg #[(.string ⟨#[]⟩), (.string ⟨#[]⟩), (.int .i64 0)]) 40 rfl Try.underlying39 info85 rfl (by decide) (by omega) u753001 x753001_1 (⟨t767, t777, t762⟩ : S85) [.string t767, .string t777, .int .i64 t762] (fun k_ => k_ ≠ gb772) (fun _ => False) rfl zq39 ?aP (fun _ hk => hk.elim) ?aF ?aO (Below.refl _ _) ?aS ?aL ?_; (case aP => exact k85_mkM _ _ _ (⟨t767, t777, t762⟩ : S85)); (case aF => exact (fun k_ hk => Kd.freshB (g := gb772) (o := .cells #[.string t767, .string t777, .int .i64 t762] 85 (0, 0)) (by (with_reducible repeat (first | refine blk_drewN ?_ _ | refine blk_drew ?_ | refine blk_alloc ?_ _)); refine blk_put (cs := #[.string t767, .string (⟨#[]⟩ : ByteArray), .int .i64 t762]) ?_ 1 _ rfl; (with_reducible repeat (first | refine blk_drewN ?_ _ | refine blk_drew ?_ | refine blk_alloc ?_ _)); exact BK772.out) k_ hk)); (case aO => exact (by (with_reducible repeat (first | apply Kd.R_alloc | apply Kd.R_drewN | apply Kd.R_drew)); exact Kd.R_mono (Kd.R_far (p := ⟨gb772, 1, none⟩) (Kd.R_mono HO_753001.out (fun k_ hk => (⟨hk, hk.2⟩ : _ ∧ k_ ≠ gb772))) (fun _ hk => hk.2) (.string t777)) (fun _ hk => hk.1.2))); (case aS => exact (keep_size (w := w) (g := g) (row := none) zq30)); (case aL => have := LMc22.out; omega); intro v783 w57 ho hb hg hat; rw [← Ny782.out] at ho; replace BK741 := za (blk_grown (g := gb741) (o := .cells #[.string (⟨#[]⟩ : ByteArray), .slice none 0 0, .bool false, .string (⟨#[]⟩ : ByteArray), .string (⟨#[]⟩ : ByteArray), .slice none 0 0, .slice none 0 0, .int .i64 0] 42 (0, 0)) zq80 hg (Kd.R_ne HO_753001.out BK741.out (by decide))); replace BK752 := za (blk_grown (g := gb752) (o := .cells #[.string t747, u753001, .bool false, .string (⟨#[]⟩ : ByteArray), .string (⟨#[]⟩ : ByteArray), .slice none 0 0, .slice none 0 0, .int .i64 t742] 42 (0, 0)) zq81 hg (Kd.R_ne HO_753001.out BK752.out (by decide))); replace BK772 := za (blk_grown (g := gb772) (o := .cells #[.string t767, .string t777, .int .i64 t762] 85 (0, 0)) (by (with_reducible repeat (first | refine blk_drewN ?_ _ | refine blk_drew ?_ | refine blk_alloc ?_ _)); refine blk_put (cs := #[.string t767, .string (⟨#[]⟩ : ByteArray), .int .i64 t762]) ?_ 1 _ rfl; (with_reducible repeat (first | refine blk_drewN ?_ _ | refine blk_drew ?_ | refine blk_alloc ?_ _)); exact BK772.out) hg (Kd.R_away HO_753001.out (fun _ hk => hk.2))); replace HB := za (below_weaken zq32 HL.out hb); replace HI0 := za (IsS57.grown zq21 hg (IsS57.own_ne HI0.out HO_753001.out (by decide))); replace HK := za (KeepBut.trans zq30 (KeepBut.of_grown hg g) (Kd.R_base2 HO_753001.out)); have HO784 := za (ho); clear HO_753001; clear ho hb hg hat; obtain ⟨Ao58, co58, eo58⟩ := Kd.R_slice HO784.out; subst eo58; obtain ⟨hcz59_0, hcz59_1, hcz59_2, hcz59_3, hcz59_4, hcz59_5, hcz59_6, hcz59_7⟩ := zc8 BK752.out; obtain ⟨hfz59_0, hfz59_1, hfz59_2, hfz59_3, hfz59_4, hfz59_5, hfz59_6⟩ := zf7 BK752.out; have hfz59_7 := blk_frozen BK752.out 7) | ((with_reducible refine gate_callee (f := 24) rfl ?_); refine goesL_ (some 37) rfl rfl Try.func24 zq18 rfl #[.pointer (some ⟨g, 0, none⟩), .string (⟨#[44]⟩ : ByteArray)] rfl zq1 ?_; (with_reducible refine (rr_take.calls g s0_0 t778 t779 t780 t781 (⟨#[44]⟩ : ByteArray) false t786 t787 t788 t789 w0 _ ?side1 ?side2 A23.out).mono ?_); (case side1 => exact zq21); (case side2 => exact zq32); rintro e w60 ⟨rfl, hi, hb, hk⟩; refine ⟨_, rfl, ?_⟩; replace BK741 := za (KeepBut.blk hk (g' := gb741) (o := .cells #[.string (⟨#[]⟩ : ByteArray), .slice none 0 0, .bool false, .string (⟨#[]⟩ : ByteArray), .string (⟨#[]⟩ : ByteArray), .slice none 0 0, .slice none 0 0, .int .i64 0] 42 (0, 0)) zq36 NB741_0.out (by simp)); replace BK772 := za (KeepBut.blk hk (g' := gb772) (o := .cells #[.string t767, .string t777, .int .i64 t762] 85 (0, 0)) zq82 NB772_0.out (by simp)); replace HO784 := za (Kd.R_mono (Kd.R_keep (IsS57.apart (show IsS57 w0 _ g s0_0 t778 t779 t780 t781 from zq21) (by (with_reducible repeat (first | apply Kd.R_alloc | apply Kd.R_drewN | apply Kd.R_drew)); exact (Kd.R_mono (Kd.R_far (p := ⟨gb752, 1, none⟩) (Kd.R_types HO784.out BK752.out (by decide)) (fun _ hk => hk.2) (.slice Ao58 y782.length co58)) (fun _ h_ => h_.1))) (by decide)) hk (fun _ h => h.2)) (fun _ h => h.1)); replace BK752 := za (KeepBut.blk hk (g' := gb752) (o := .cells #[.string t747, .slice Ao58 y782.length co58, .bool false, .string (⟨#[]⟩ : ByteArray), .string (⟨#[]⟩ : ByteArray), .slice none 0 0, .slice none 0 0, .int .i64 t742] 42 (0, 0)) (by (with_reducible repeat (first | refine blk_drewN ?_ _ | refine blk_drew ?_ | refine blk_alloc ?_ _)); refine blk_put (cs := #[.string t747, u753001, .bool false, .string (⟨#[]⟩ : ByteArray), .string (⟨#[]⟩ : ByteArray), .slice none 0 0, .slice none 0 0, .int .i64 t742]) ?_ 1 _ rfl; (with_reducible repeat (first | refine blk_drewN ?_ _ | refine blk_drew ?_ | refine blk_alloc ?_ _)); exact BK752.out) NB752_0.out (by simp)); replace HK := za (KeepBut.trans zq30 hk (.inl rfl)); replace HB := za (hb); replace HI0 := za (hi)))
        go_meet
        case rel => exact ⟨_, (t786), (t787), (t788), (t789), (y782), (.slice Ao58 y782.length co58), H', ⟨by have := HK1.out; first | omega | exact Nat.le_refl _⟩, ⟨zq99⟩, ⟨zq56⟩, ⟨zq57⟩, ⟨zq21⟩, ⟨zq30⟩, ⟨zq32⟩⟩
      ·
       rw [if_neg c22] at H
       exact absurd H (by simp)
     ·
      rw [if_neg c17] at H
      have c17b0 := beq_eq_false_iff_ne.mpr c17
      have c17b1 := bne_iff_ne.mpr c17
      (first | rw [c17b0] | (simp only [i64_w, i32_w]; rw [c17b0]) | skip)
      have H' := za H
      clear H
      obtain ⟨ASz61_0, cSz61_0, HGz61, hgz61, HSz61_0⟩ := HI0.out
      have hcz61_0 := cellS57_0 HGz61
      have hcz61_1 := cellS57_1 HGz61
      have hcz61_2 := cellS57_2 HGz61
      have hcz61_3 := cellS57_3 HGz61
      have hcz61_4 := cellS57_4 HGz61
      have hfz61_1 := blk_frozen HGz61 1
      have hfz61_2 := blk_frozen HGz61 2
      have hfz61_3 := blk_frozen HGz61 3
      have hfz61_4 := blk_frozen HGz61 4
      clear HGz61 hgz61
      go_wp2
      go_meet
      case rel => exact ⟨_, (x1001_1), (x1002_1), (x1003_1), (x1004_1), (x753001_1), (u753001), H', ⟨by have := HK1.out; first | omega | exact Nat.le_refl _⟩, ⟨zq86⟩, ⟨zq56⟩, ⟨zq57⟩, ⟨zq2⟩, ⟨zq8⟩, ⟨zq10⟩⟩
 case rest =>
  clear HC6
  obtain ⟨kq, x1001_5, x1002_5, x1003_5, x1004_5, x753001_5, u753001, HA, HJ5, HO_753001, BK741, BK752, HI0, HK, HB⟩ := hcut
  cases kq with
  | zero => exact absurd HA.out (by simp [rr_proc.j1])
  | succ kj5 =>
   have H := HA.out
   clear HA
   simp only [rr_proc.j1] at H
   replace H := Option.bind_eq_some_iff.mp H
   obtain ⟨⟨t790, t791, t792, t793⟩, A620, H⟩ := H
   (try dsimp only at H)
   have A62 := za A620
   clear A620
   replace H := Option.bind_eq_some_iff.mp H
   obtain ⟨⟨t794, t795, t796, t797, t798⟩, A630, H⟩ := H
   (try dsimp only at H)
   have A63 := za A630
   clear A630
   have HC64 := za H
   clear H
   go_upto_if 42 with (first | ((with_reducible refine gate_callee (f := 21) rfl ?_); refine goesL_ (some 40) rfl rfl Try.func21 zq18 rfl #[.pointer (some ⟨g, 0, none⟩), .string (⟨#[41]⟩ : ByteArray)] rfl zq1 ?_; (with_reducible refine (rr_want.calls g s0_0 x1001_5 x1002_5 x1003_5 x1004_5 (⟨#[41]⟩ : ByteArray) t790 t791 t792 t793 w0 _ ?side1 ?side2 A62.out).mono ?_); (case side1 => exact zq2); (case side2 => exact zq10); rintro e w65 ⟨rfl, hi, hb, hk⟩; refine ⟨_, rfl, ?_⟩; replace HO_753001 := za (Kd.R_mono (Kd.R_keep (IsS57.apart (show IsS57 w0 _ g s0_0 x1001_5 x1002_5 x1003_5 x1004_5 from zq2) (zr HO_753001.out) (by decide)) hk (fun _ h => h.2)) (fun _ h => h.1)); replace BK741 := za (KeepBut.blk hk (g' := gb741) (zb BK741.out) NB741_0.out (by simp)); replace BK752 := za (KeepBut.blk hk (g' := gb752) (zb BK752.out) NB752_0.out (by simp)); replace HK := za (KeepBut.trans zq8 hk (.inl rfl)); replace HB := za (hb); replace HI0 := za (hi)) | ((with_reducible refine gate_callee (f := 24) rfl ?_); refine goesL_ (some 42) rfl rfl Try.func24 zq18 rfl #[.pointer (some ⟨g, 0, none⟩), .string (⟨#[45, 62]⟩ : ByteArray)] rfl zq1 ?_; (with_reducible refine (rr_take.calls g s0_0 t790 t791 t792 t793 (⟨#[45, 62]⟩ : ByteArray) t794 t795 t796 t797 t798 w0 _ ?side1 ?side2 A63.out).mono ?_); (case side1 => exact zq2); (case side2 => exact zq10); rintro e w66 ⟨rfl, hi, hb, hk⟩; refine ⟨_, rfl, ?_⟩; replace HO_753001 := za (Kd.R_mono (Kd.R_keep (IsS57.apart (show IsS57 w0 _ g s0_0 t790 t791 t792 t793 from zq2) (zr HO_753001.out) (by decide)) hk (fun _ h => h.2)) (fun _ h => h.1)); replace BK741 := za (KeepBut.blk hk (g' := gb741) (zb BK741.out) NB741_0.out (by simp)); replace BK752 := za (KeepBut.blk hk (g' := gb752) (zb BK752.out) NB752_0.out (by simp)); replace HK := za (KeepBut.trans zq8 hk (.inl rfl)); replace HB := za (hb); replace HI0 := za (hi)))
   (try simp only [Act.put, List.setIfInBounds_toArray, List.set_cons_zero, List.set_cons_succ])
   go_cut [] (fun wc => ∃ (kq : Nat) (x1001_63 : Int) (x1002_63 : Int) (x1003_63 : Int) (x1004_63 : Int) (x753002_63 : Bool) (x753003_63 : ByteArray), Aside0 (rr_proc.j2 kq s0_0 x1001_63 x1002_63 x1003_63 x1004_63 t747 x753001_5 x753002_63 x753003_63 (⟨#[]⟩ : ByteArray) t742 = some (r1, r2, r3, r4, r5, r6, r7, r8, r9, r10, r11, r12)) ∧ Aside0 (kq ≤ kj5) ∧ Aside0 (Kd.R k85 85 wc w.heap.size (fun _ => True) u753001 x753001_5) ∧ Aside0 (wc.heap[gb741]? = some (.cells #[.string (⟨#[]⟩ : ByteArray), (.slice none 0 0), .bool false, .string (⟨#[]⟩ : ByteArray), .string (⟨#[]⟩ : ByteArray), (.slice none 0 0), (.slice none 0 0), .int .i64 0] 42 (0, 0))) ∧ Aside0 (wc.heap[gb752]? = some (.cells #[.string t747, u753001, .bool x753002_63, .string x753003_63, .string (⟨#[]⟩ : ByteArray), (.slice none 0 0), (.slice none 0 0), .int .i64 t742] 42 (0, 0))) ∧ Aside0 (IsS57 w0 wc g s0_0 x1001_63 x1002_63 x1003_63 x1004_63) ∧ Aside0 (KeepBut w wc g none) ∧ Aside0 (Below w0.heap.size w0 wc))
   case first =>
    have H := HC64.out
    clear HC64
    by_cases c67 : t794 = true
    ·
     subst c67
     rw [if_pos rfl] at H
     replace H := Option.bind_eq_some_iff.mp H
     obtain ⟨⟨t799, t800, t801, t802, t803⟩, A680, H⟩ := H
     (try dsimp only at H)
     have A68 := za A680
     clear A680
     have H' := za H
     clear H
     have hnb69 := NB752_741.out
     have hnc69 := NB741_752.out
     have hnb70 := NB752_0.out
     have hnc70 := NB0_752.out
     obtain ⟨hcz71_0, hcz71_1, hcz71_2, hcz71_3, hcz71_4, hcz71_5, hcz71_6, hcz71_7⟩ := zc8 BK752.out
     obtain ⟨hfz71_0, hfz71_1, hfz71_2, hfz71_3, hfz71_4, hfz71_5, hfz71_6, hfz71_7⟩ := zf8 BK752.out
     go_wp2_with (first | ((with_reducible refine gate_callee (f := 23) rfl ?_); refine goesL_ (some 45) rfl rfl Try.func23 zq18 rfl #[.pointer (some ⟨g, 0, none⟩)] rfl zq1 ?_; (with_reducible refine (rr_name.calls g s0_0 t795 t796 t797 t798 t799 t800 t801 t802 t803 w0 _ ?side1 ?side2 A68.out).mono ?_); (case side1 => exact zq2); (case side2 => exact zq10); rintro e w72 ⟨rfl, hi, hb, hk⟩; refine ⟨_, rfl, ?_⟩; replace HO_753001 := za (Kd.R_mono (Kd.R_keep (IsS57.apart (show IsS57 w0 _ g s0_0 t795 t796 t797 t798 from zq2) (by (with_reducible repeat (first | apply Kd.R_alloc | apply Kd.R_drewN | apply Kd.R_drew)); exact (Kd.R_mono (Kd.R_far (p := ⟨gb752, 2, none⟩) (Kd.R_types HO_753001.out BK752.out (by decide)) (fun _ hk => hk.2) (.bool true)) (fun _ h_ => h_.1))) (by decide)) hk (fun _ h => h.2)) (fun _ h => h.1)); replace BK741 := za (KeepBut.blk hk (g' := gb741) (o := .cells #[.string (⟨#[]⟩ : ByteArray), .slice none 0 0, .bool false, .string (⟨#[]⟩ : ByteArray), .string (⟨#[]⟩ : ByteArray), .slice none 0 0, .slice none 0 0, .int .i64 0] 42 (0, 0)) zq36 NB741_0.out (by simp)); replace BK752 := za (KeepBut.blk hk (g' := gb752) (o := .cells #[.string t747, u753001, .bool true, .string (⟨#[]⟩ : ByteArray), .string (⟨#[]⟩ : ByteArray), .slice none 0 0, .slice none 0 0, .int .i64 t742] 42 (0, 0)) (by (with_reducible repeat (first | refine blk_drewN ?_ _ | refine blk_drew ?_ | refine blk_alloc ?_ _)); refine blk_put (cs := #[.string t747, u753001, .bool false, .string (⟨#[]⟩ : ByteArray), .string (⟨#[]⟩ : ByteArray), .slice none 0 0, .slice none 0 0, .int .i64 t742]) ?_ 2 _ rfl; (with_reducible repeat (first | refine blk_drewN ?_ _ | refine blk_drew ?_ | refine blk_alloc ?_ _)); exact BK752.out) NB752_0.out (by simp)); replace HK := za (KeepBut.trans zq8 hk (.inl rfl)); replace HB := za (hb); replace HI0 := za (hi); (try clear hb hk hi); obtain ⟨hcz73_0, hcz73_1, hcz73_2, hcz73_3, hcz73_4, hcz73_5, hcz73_6, hcz73_7⟩ := zc8 BK752.out; obtain ⟨hfz73_0, hfz73_1, hfz73_2, hfz73_3, hfz73_4, hfz73_5, hfz73_6⟩ := zf7 BK752.out; have hfz73_7 := blk_frozen BK752.out 7))
     go_meet
     case rel => exact ⟨_, (t800), (t801), (t802), (t803), (true), (t799), H', ⟨by have := HJ5.out; first | omega | exact Nat.le_refl _⟩, ⟨by (with_reducible repeat (first | apply Kd.R_alloc | apply Kd.R_drewN | apply Kd.R_drew)); exact Kd.R_mono (Kd.R_far (p := ⟨gb752, 3, none⟩) (Kd.R_types HO_753001.out BK752.out (by decide)) (fun _ hk => hk.2) (.string t799)) (fun _ hk => trivial)⟩, ⟨zq36⟩, ⟨by (with_reducible repeat (first | refine blk_drewN ?_ _ | refine blk_drew ?_ | refine blk_alloc ?_ _)); refine blk_put (cs := #[.string t747, u753001, .bool true, .string (⟨#[]⟩ : ByteArray), .string (⟨#[]⟩ : ByteArray), .slice none 0 0, .slice none 0 0, .int .i64 t742]) ?_ 3 _ rfl; (with_reducible repeat (first | refine blk_drewN ?_ _ | refine blk_drew ?_ | refine blk_alloc ?_ _)); exact BK752.out⟩, ⟨zq2⟩, ⟨zq8⟩, ⟨zq10⟩⟩
    ·
     replace c67 := Bool.eq_false_iff.mpr c67
     subst c67
     rw [if_neg (show ¬ (false = true) by decide)] at H
     have H' := za H
     clear H
     go_wp2
     go_meet
     case rel => exact ⟨_, (t795), (t796), (t797), (t798), (false), ((⟨#[]⟩ : ByteArray)), H', ⟨by have := HJ5.out; first | omega | exact Nat.le_refl _⟩, ⟨zq86⟩, ⟨zq56⟩, ⟨zq57⟩, ⟨zq2⟩, ⟨zq8⟩, ⟨zq10⟩⟩
   case rest =>
    clear HC64
    obtain ⟨kq, x1001_63, x1002_63, x1003_63, x1004_63, x753002_63, x753003_63, HA, HJ63, HO_753001, BK741, BK752, HI0, HK, HB⟩ := hcut
    cases kq with
    | zero => exact absurd HA.out (by simp [rr_proc.j2])
    | succ kj63 =>
     have H := HA.out
     clear HA
     simp only [rr_proc.j2] at H
     replace H := Option.bind_eq_some_iff.mp H
     obtain ⟨⟨t804, t805, t806, t807⟩, A740, H⟩ := H
     (try dsimp only at H)
     have A74 := za A740
     clear A740
     replace H := Option.bind_eq_some_iff.mp H
     obtain ⟨⟨t808, t809, t810, t811, t812⟩, A750, H⟩ := H
     (try dsimp only at H)
     have A75 := za A750
     clear A750
     replace H := Option.bind_eq_some_iff.mp H
     obtain ⟨⟨t813, t814, t815, t816⟩, A760, H⟩ := H
     (try dsimp only at H)
     have A76 := za A760
     clear A760
     replace H := Option.bind_eq_some_iff.mp H
     obtain ⟨⟨t817, t818, t819, t820⟩, A770, H⟩ := H
     (try dsimp only at H)
     have A77 := za A770
     clear A770
     replace H := Option.bind_eq_some_iff.mp H
     obtain ⟨⟨t821, t822, t823, t824, t825⟩, A780, H⟩ := H
     (try dsimp only at H)
     have A78 := za A780
     clear A780
     by_cases c79 : t821 = true
     ·
      subst c79
      rw [if_pos rfl] at H
      replace H := Option.bind_eq_some_iff.mp H
      obtain ⟨⟨t826, t827, t828, t829⟩, A800, H⟩ := H
      (try dsimp only at H)
      have A80 := za A800
      clear A800
      replace H := Option.bind_eq_some_iff.mp H
      obtain ⟨⟨t830, t833, t834, t835, t836⟩, A810, H⟩ := H
      (try dsimp only at H)
      have A81 := za A810
      clear A810
      simp only [Option.some.injEq, Prod.mk.injEq] at H
      obtain ⟨rfl, rfl, rfl, rfl, rfl, rfl, rfl, rfl, rfl, rfl, rfl, rfl⟩ := H
      go_wp2_with (first | ((with_reducible refine gate_callee (f := 21) rfl ?_); refine goesL_ (some 48) rfl rfl Try.func21 zq18 rfl #[.pointer (some ⟨g, 0, none⟩), .string (⟨#[112, 99]⟩ : ByteArray)] rfl zq1 ?_; (with_reducible refine (rr_want.calls g s0_0 x1001_63 x1002_63 x1003_63 x1004_63 (⟨#[112, 99]⟩ : ByteArray) t804 t805 t806 t807 w0 _ ?side1 ?side2 A74.out).mono ?_); (case side1 => exact zq2); (case side2 => exact zq10); rintro e w82 ⟨rfl, hi, hb, hk⟩; refine ⟨_, rfl, ?_⟩; replace HO_753001 := za (Kd.R_mono (Kd.R_keep (IsS57.apart (show IsS57 w0 _ g s0_0 x1001_63 x1002_63 x1003_63 x1004_63 from zq2) (zr HO_753001.out) (by decide)) hk (fun _ h => h.2)) (fun _ h => h.1)); replace BK741 := za (KeepBut.blk hk (g' := gb741) (zb BK741.out) NB741_0.out (by simp)); replace BK752 := za (KeepBut.blk hk (g' := gb752) (zb BK752.out) NB752_0.out (by simp)); replace HK := za (KeepBut.trans zq8 hk (.inl rfl)); replace HB := za (hb); replace HI0 := za (hi)) | ((with_reducible refine gate_callee (f := 23) rfl ?_); refine goesL_ (some 50) rfl rfl Try.func23 zq18 rfl #[.pointer (some ⟨g, 0, none⟩)] rfl zq1 ?_; (with_reducible refine (rr_name.calls g s0_0 t804 t805 t806 t807 t808 t809 t810 t811 t812 w0 _ ?side1 ?side2 A75.out).mono ?_); (case side1 => exact zq2); (case side2 => exact zq10); rintro e w83 ⟨rfl, hi, hb, hk⟩; refine ⟨_, rfl, ?_⟩; replace HO_753001 := za (Kd.R_mono (Kd.R_keep (IsS57.apart (show IsS57 w0 _ g s0_0 t804 t805 t806 t807 from zq2) (zr HO_753001.out) (by decide)) hk (fun _ h => h.2)) (fun _ h => h.1)); replace BK741 := za (KeepBut.blk hk (g' := gb741) (zb BK741.out) NB741_0.out (by simp)); replace BK752 := za (KeepBut.blk hk (g' := gb752) (zb BK752.out) NB752_0.out (by simp)); replace HK := za (KeepBut.trans zq8 hk (.inl rfl)); replace HB := za (hb); replace HI0 := za (hi); (try clear hb hk hi); have hnb84 := NB752_741.out; have hnc84 := NB741_752.out; have hnb85 := NB752_0.out; have hnc85 := NB0_752.out; obtain ⟨hcz86_0, hcz86_1, hcz86_2, hcz86_3, hcz86_4, hcz86_5, hcz86_6, hcz86_7⟩ := zc8 BK752.out; obtain ⟨hfz86_0, hfz86_1, hfz86_2, hfz86_3, hfz86_4, hfz86_5, hfz86_6⟩ := zf7 BK752.out; have hfz86_7 := blk_frozen BK752.out 7) | ((with_reducible refine gate_callee (f := 21) rfl ?_); refine goesL_ (some 53) rfl rfl Try.func21 zq18 rfl #[.pointer (some ⟨g, 0, none⟩), .string (⟨#[117, 115, 101, 115]⟩ : ByteArray)] rfl zq1 ?_; (with_reducible refine (rr_want.calls g s0_0 t809 t810 t811 t812 (⟨#[117, 115, 101, 115]⟩ : ByteArray) t813 t814 t815 t816 w0 _ ?side1 ?side2 A76.out).mono ?_); (case side1 => exact zq2); (case side2 => exact zq10); rintro e w87 ⟨rfl, hi, hb, hk⟩; refine ⟨_, rfl, ?_⟩; replace HO_753001 := za (Kd.R_mono (Kd.R_keep (IsS57.apart (show IsS57 w0 _ g s0_0 t809 t810 t811 t812 from zq2) (by (with_reducible repeat (first | apply Kd.R_alloc | apply Kd.R_drewN | apply Kd.R_drew)); exact (Kd.R_mono (Kd.R_far (p := ⟨gb752, 4, none⟩) (Kd.R_types HO_753001.out BK752.out (by decide)) (fun _ hk => hk.2) (.string t808)) (fun _ h_ => h_.1))) (by decide)) hk (fun _ h => h.2)) (fun _ h => h.1)); replace BK741 := za (KeepBut.blk hk (g' := gb741) (o := .cells #[.string (⟨#[]⟩ : ByteArray), .slice none 0 0, .bool false, .string (⟨#[]⟩ : ByteArray), .string (⟨#[]⟩ : ByteArray), .slice none 0 0, .slice none 0 0, .int .i64 0] 42 (0, 0)) zq36 NB741_0.out (by simp)); replace BK752 := za (KeepBut.blk hk (g' := gb752) (o := .cells #[.string t747, u753001, .bool x753002_63, .string x753003_63, .string t808, .slice none 0 0, .slice none 0 0, .int .i64 t742] 42 (0, 0)) (by (with_reducible repeat (first | refine blk_drewN ?_ _ | refine blk_drew ?_ | refine blk_alloc ?_ _)); refine blk_put (cs := #[.string t747, u753001, .bool x753002_63, .string x753003_63, .string (⟨#[]⟩ : ByteArray), .slice none 0 0, .slice none 0 0, .int .i64 t742]) ?_ 4 _ rfl; (with_reducible repeat (first | refine blk_drewN ?_ _ | refine blk_drew ?_ | refine blk_alloc ?_ _)); exact BK752.out) NB752_0.out (by simp)); replace HK := za (KeepBut.trans zq8 hk (.inl rfl)); replace HB := za (hb); replace HI0 := za (hi)) | ((with_reducible refine gate_callee (f := 21) rfl ?_); refine goesL_ (some 55) rfl rfl Try.func21 zq18 rfl #[.pointer (some ⟨g, 0, none⟩), .string (⟨#[123]⟩ : ByteArray)] rfl zq1 ?_; (with_reducible refine (rr_want.calls g s0_0 t813 t814 t815 t816 (⟨#[123]⟩ : ByteArray) t817 t818 t819 t820 w0 _ ?side1 ?side2 A77.out).mono ?_); (case side1 => exact zq2); (case side2 => exact zq10); rintro e w88 ⟨rfl, hi, hb, hk⟩; refine ⟨_, rfl, ?_⟩; replace HO_753001 := za (Kd.R_mono (Kd.R_keep (IsS57.apart (show IsS57 w0 _ g s0_0 t813 t814 t815 t816 from zq2) (zr HO_753001.out) (by decide)) hk (fun _ h => h.2)) (fun _ h => h.1)); replace BK741 := za (KeepBut.blk hk (g' := gb741) (zb BK741.out) NB741_0.out (by simp)); replace BK752 := za (KeepBut.blk hk (g' := gb752) (zb BK752.out) NB752_0.out (by simp)); replace HK := za (KeepBut.trans zq8 hk (.inl rfl)); replace HB := za (hb); replace HI0 := za (hi)) | ((with_reducible refine gate_callee (f := 30) rfl ?_); refine goesL_ (some 57) rfl rfl Try.func30 zq18 rfl #[.pointer (some ⟨g, 0, none⟩), .string (⟨#[125]⟩ : ByteArray)] rfl zq1 ?_; (with_reducible refine (rr_is.calls g s0_0 t817 t818 t819 t820 (⟨#[125]⟩ : ByteArray) true t822 t823 t824 t825 w0 _ ?side1 ?side2 A78.out).mono ?_); (case side1 => exact zq2); (case side2 => exact zq10); rintro e w89 ⟨rfl, hi, hb, hk⟩; refine ⟨_, rfl, ?_⟩; replace HO_753001 := za (Kd.R_mono (Kd.R_keep (IsS57.apart (show IsS57 w0 _ g s0_0 t817 t818 t819 t820 from zq2) (zr HO_753001.out) (by decide)) hk (fun _ h => h.2)) (fun _ h => h.1)); replace BK741 := za (KeepBut.blk hk (g' := gb741) (zb BK741.out) NB741_0.out (by simp)); replace BK752 := za (KeepBut.blk hk (g' := gb752) (zb BK752.out) NB752_0.out (by simp)); replace HK := za (KeepBut.trans zq8 hk (.inl rfl)); replace HB := za (hb); replace HI0 := za (hi)) | ((with_reducible refine gate_callee (f := 21) rfl ?_); refine goesL_ (some 75) rfl rfl Try.func21 zq18 rfl #[.pointer (some ⟨g, 0, none⟩), .string (⟨#[125]⟩ : ByteArray)] rfl zq1 ?_; (with_reducible refine (rr_want.calls g s0_0 t822 t823 t824 t825 (⟨#[125]⟩ : ByteArray) t826 t827 t828 t829 w0 _ ?side1 ?side2 A80.out).mono ?_); (case side1 => exact zq2); (case side2 => exact zq10); rintro e w90 ⟨rfl, hi, hb, hk⟩; refine ⟨_, rfl, ?_⟩; replace HO_753001 := za (Kd.R_mono (Kd.R_keep (IsS57.apart (show IsS57 w0 _ g s0_0 t822 t823 t824 t825 from zq2) (zr HO_753001.out) (by decide)) hk (fun _ h => h.2)) (fun _ h => h.1)); replace BK741 := za (KeepBut.blk hk (g' := gb741) (zb BK741.out) NB741_0.out (by simp)); replace BK752 := za (KeepBut.blk hk (g' := gb752) (zb BK752.out) NB752_0.out (by simp)); replace HK := za (KeepBut.trans zq8 hk (.inl rfl)); replace HB := za (hb); replace HI0 := za (hi)) | ((with_reducible refine gate_callee (f := 32) rfl ?_); refine goesL_ (some 77) rfl rfl Try.func32 zq18 rfl #[.pointer (some ⟨g, 0, none⟩)] rfl zq1 ?_; (with_reducible refine (rr_block.calls kj63 g s0_0 t826 t827 t828 t829 t830 t833 t834 t835 t836 w0 _ ?side1 ?side2 A81.out).mono ?_); (case side1 => exact zq2); (case side2 => exact zq10); rintro e w91 ⟨v831, rfl, ho0, hi, hb, hk⟩; refine ⟨_, rfl, ?_⟩; replace HO_753001 := za (Kd.R_mono (Kd.R_keep (IsS57.apart (show IsS57 w0 _ g s0_0 t826 t827 t828 t829 from zq2) (zr HO_753001.out) (by decide)) hk (fun _ h => h.2)) (fun _ h => h.1)); replace BK741 := za (KeepBut.blk hk (g' := gb741) (zb BK741.out) NB741_0.out (by simp)); replace BK752 := za (KeepBut.blk hk (g' := gb752) (zb BK752.out) NB752_0.out (by simp)); have HO832 := za (Kd.R_lower ho0 (keep_size (w := w) (g := g) (row := none) zq8)); replace HK := za (KeepBut.trans zq8 hk (.inl rfl)); replace HB := za (hb); replace HI0 := za (hi); (try clear hb hk hi ho0); obtain ⟨Ao92, co92, eo92⟩ := Kd.R_slice HO832.out; subst eo92; obtain ⟨hcz93_0, hcz93_1, hcz93_2, hcz93_3, hcz93_4, hcz93_5, hcz93_6, hcz93_7⟩ := zc8 BK752.out; obtain ⟨hfz93_0, hfz93_1, hfz93_2, hfz93_3, hfz93_4, hfz93_5, hfz93_6, hfz93_7⟩ := zf8 BK752.out; have hnb94 := NB741_0.out; have hnc94 := NB0_741.out; obtain ⟨hcz95_0, hcz95_1, hcz95_2, hcz95_3, hcz95_4, hcz95_5, hcz95_6, hcz95_7⟩ := zc8 BK741.out; obtain ⟨hfz95_0, hfz95_1, hfz95_2, hfz95_3, hfz95_4, hfz95_5, hfz95_6, hfz95_7⟩ := zf8 BK741.out; obtain ⟨Ao96, co96, eo96⟩ := Kd.R_slice HO_753001.out; subst eo96))
      refine bodyPost_ret (results_cell_row rfl _ _ gb741 42 #[.string t747, .slice Ao96 x753001_5.length co96, .bool x753002_63, .string x753003_63, .string t808, .slice none 0 0, .slice Ao92 t830.length co92, .int .i64 t742] (0, 0) _ rfl (by (with_reducible repeat (first | refine blk_drewN ?_ _ | refine blk_drew ?_ | refine blk_alloc ?_ _)); refine blk_put (cs := #[.string t747, .slice Ao96 x753001_5.length co96, .bool x753002_63, .string x753003_63, .string t808, .slice none 0 0, .slice Ao92 t830.length co92, .int .i64 0]) ?_ 7 _ rfl; (with_reducible repeat (first | refine blk_drewN ?_ _ | refine blk_drew ?_ | refine blk_alloc ?_ _)); refine blk_put (cs := #[.string t747, .slice Ao96 x753001_5.length co96, .bool x753002_63, .string x753003_63, .string t808, .slice none 0 0, .slice none 0 0, .int .i64 0]) ?_ 6 _ rfl; (with_reducible repeat (first | refine blk_drewN ?_ _ | refine blk_drew ?_ | refine blk_alloc ?_ _)); refine blk_put (cs := #[.string t747, .slice Ao96 x753001_5.length co96, .bool x753002_63, .string x753003_63, .string t808, .slice none 0 0, .slice none 0 0, .int .i64 0]) ?_ 5 _ rfl; (with_reducible repeat (first | refine blk_drewN ?_ _ | refine blk_drew ?_ | refine blk_alloc ?_ _)); refine blk_put (cs := #[.string t747, .slice Ao96 x753001_5.length co96, .bool x753002_63, .string x753003_63, .string (⟨#[]⟩ : ByteArray), .slice none 0 0, .slice none 0 0, .int .i64 0]) ?_ 4 _ rfl; (with_reducible repeat (first | refine blk_drewN ?_ _ | refine blk_drew ?_ | refine blk_alloc ?_ _)); refine blk_put (cs := #[.string t747, .slice Ao96 x753001_5.length co96, .bool x753002_63, .string (⟨#[]⟩ : ByteArray), .string (⟨#[]⟩ : ByteArray), .slice none 0 0, .slice none 0 0, .int .i64 0]) ?_ 3 _ rfl; (with_reducible repeat (first | refine blk_drewN ?_ _ | refine blk_drew ?_ | refine blk_alloc ?_ _)); refine blk_put (cs := #[.string t747, .slice Ao96 x753001_5.length co96, .bool false, .string (⟨#[]⟩ : ByteArray), .string (⟨#[]⟩ : ByteArray), .slice none 0 0, .slice none 0 0, .int .i64 0]) ?_ 2 _ rfl; (with_reducible repeat (first | refine blk_drewN ?_ _ | refine blk_drew ?_ | refine blk_alloc ?_ _)); refine blk_put (cs := #[.string t747, .slice none 0 0, .bool false, .string (⟨#[]⟩ : ByteArray), .string (⟨#[]⟩ : ByteArray), .slice none 0 0, .slice none 0 0, .int .i64 0]) ?_ 1 _ rfl; (with_reducible repeat (first | refine blk_drewN ?_ _ | refine blk_drew ?_ | refine blk_alloc ?_ _)); refine blk_put (cs := #[.string (⟨#[]⟩ : ByteArray), .slice none 0 0, .bool false, .string (⟨#[]⟩ : ByteArray), .string (⟨#[]⟩ : ByteArray), .slice none 0 0, .slice none 0 0, .int .i64 0]) ?_ 0 _ rfl; (with_reducible repeat (first | refine blk_drewN ?_ _ | refine blk_drew ?_ | refine blk_alloc ?_ _)); refine blk_far ?_ NB741_752.out _; (with_reducible repeat (first | refine blk_drewN ?_ _ | refine blk_drew ?_ | refine blk_alloc ?_ _)); exact BK741.out) Try.underlying42 rfl zq18) rfl ?_
      exact ⟨_, _, _, zq16, by (with_reducible repeat (first | apply Kd.R_alloc | apply Kd.R_drewN | apply Kd.R_drew)); exact Kd.R_mono (Kd.R_far (p := ⟨gb741, 7, none⟩) (Kd.R_far (p := ⟨gb741, 6, none⟩) (Kd.R_far (p := ⟨gb741, 5, none⟩) (Kd.R_far (p := ⟨gb741, 4, none⟩) (Kd.R_far (p := ⟨gb741, 3, none⟩) (Kd.R_far (p := ⟨gb741, 2, none⟩) (Kd.R_far (p := ⟨gb741, 1, none⟩) (Kd.R_far (p := ⟨gb741, 0, none⟩) (Kd.R_far (p := ⟨gb752, 6, none⟩) (Kd.R_types (Kd.R_types HO_753001.out BK752.out (by decide)) BK741.out (by decide)) (fun _ hk => hk.1.2) (.slice Ao92 t830.length co92)) (fun _ hk => hk.2) (.string t747)) (fun _ hk => hk.2) (.slice Ao96 x753001_5.length co96)) (fun _ hk => hk.2) (.bool x753002_63)) (fun _ hk => hk.2) (.string x753003_63)) (fun _ hk => hk.2) (.string t808)) (fun _ hk => hk.2) (.slice none 0 0)) (fun _ hk => hk.2) (.slice Ao92 t830.length co92)) (fun _ hk => hk.2) (.int .i64 t742)) (fun _ hk => trivial), zq22, by (with_reducible repeat (first | apply Kd.R_alloc | apply Kd.R_drewN | apply Kd.R_drew)); exact Kd.R_mono (Kd.R_far (p := ⟨gb741, 7, none⟩) (Kd.R_far (p := ⟨gb741, 6, none⟩) (Kd.R_far (p := ⟨gb741, 5, none⟩) (Kd.R_far (p := ⟨gb741, 4, none⟩) (Kd.R_far (p := ⟨gb741, 3, none⟩) (Kd.R_far (p := ⟨gb741, 2, none⟩) (Kd.R_far (p := ⟨gb741, 1, none⟩) (Kd.R_far (p := ⟨gb741, 0, none⟩) (Kd.R_far (p := ⟨gb752, 6, none⟩) (Kd.R_types (Kd.R_types HO832.out BK752.out (by decide)) BK741.out (by decide)) (fun _ hk => hk.1.2) (.slice Ao92 t830.length co92)) (fun _ hk => hk.2) (.string t747)) (fun _ hk => hk.2) (.slice Ao96 x753001_5.length co96)) (fun _ hk => hk.2) (.bool x753002_63)) (fun _ hk => hk.2) (.string x753003_63)) (fun _ hk => hk.2) (.string t808)) (fun _ hk => hk.2) (.slice none 0 0)) (fun _ hk => hk.2) (.slice Ao92 t830.length co92)) (fun _ hk => hk.2) (.int .i64 t742)) (fun _ hk => trivial), zq2, zq10, zq8⟩
     ·
      replace c79 := Bool.eq_false_iff.mpr c79
      subst c79
      rw [if_neg (show ¬ (false = true) by decide)] at H
      have H' := za H
      clear H
      go_wp2_with (first | ((with_reducible refine gate_callee (f := 21) rfl ?_); refine goesL_ (some 48) rfl rfl Try.func21 zq18 rfl #[.pointer (some ⟨g, 0, none⟩), .string (⟨#[112, 99]⟩ : ByteArray)] rfl zq1 ?_; (with_reducible refine (rr_want.calls g s0_0 x1001_63 x1002_63 x1003_63 x1004_63 (⟨#[112, 99]⟩ : ByteArray) t804 t805 t806 t807 w0 _ ?side1 ?side2 A74.out).mono ?_); (case side1 => exact zq2); (case side2 => exact zq10); rintro e w97 ⟨rfl, hi, hb, hk⟩; refine ⟨_, rfl, ?_⟩; replace HO_753001 := za (Kd.R_mono (Kd.R_keep (IsS57.apart (show IsS57 w0 _ g s0_0 x1001_63 x1002_63 x1003_63 x1004_63 from zq2) (zr HO_753001.out) (by decide)) hk (fun _ h => h.2)) (fun _ h => h.1)); replace BK741 := za (KeepBut.blk hk (g' := gb741) (zb BK741.out) NB741_0.out (by simp)); replace BK752 := za (KeepBut.blk hk (g' := gb752) (zb BK752.out) NB752_0.out (by simp)); replace HK := za (KeepBut.trans zq8 hk (.inl rfl)); replace HB := za (hb); replace HI0 := za (hi)) | ((with_reducible refine gate_callee (f := 23) rfl ?_); refine goesL_ (some 50) rfl rfl Try.func23 zq18 rfl #[.pointer (some ⟨g, 0, none⟩)] rfl zq1 ?_; (with_reducible refine (rr_name.calls g s0_0 t804 t805 t806 t807 t808 t809 t810 t811 t812 w0 _ ?side1 ?side2 A75.out).mono ?_); (case side1 => exact zq2); (case side2 => exact zq10); rintro e w98 ⟨rfl, hi, hb, hk⟩; refine ⟨_, rfl, ?_⟩; replace HO_753001 := za (Kd.R_mono (Kd.R_keep (IsS57.apart (show IsS57 w0 _ g s0_0 t804 t805 t806 t807 from zq2) (zr HO_753001.out) (by decide)) hk (fun _ h => h.2)) (fun _ h => h.1)); replace BK741 := za (KeepBut.blk hk (g' := gb741) (zb BK741.out) NB741_0.out (by simp)); replace BK752 := za (KeepBut.blk hk (g' := gb752) (zb BK752.out) NB752_0.out (by simp)); replace HK := za (KeepBut.trans zq8 hk (.inl rfl)); replace HB := za (hb); replace HI0 := za (hi); (try clear hb hk hi); have hnb99 := NB752_741.out; have hnc99 := NB741_752.out; have hnb100 := NB752_0.out; have hnc100 := NB0_752.out; obtain ⟨hcz101_0, hcz101_1, hcz101_2, hcz101_3, hcz101_4, hcz101_5, hcz101_6, hcz101_7⟩ := zc8 BK752.out; obtain ⟨hfz101_0, hfz101_1, hfz101_2, hfz101_3, hfz101_4, hfz101_5, hfz101_6⟩ := zf7 BK752.out; have hfz101_7 := blk_frozen BK752.out 7) | ((with_reducible refine gate_callee (f := 21) rfl ?_); refine goesL_ (some 53) rfl rfl Try.func21 zq18 rfl #[.pointer (some ⟨g, 0, none⟩), .string (⟨#[117, 115, 101, 115]⟩ : ByteArray)] rfl zq1 ?_; (with_reducible refine (rr_want.calls g s0_0 t809 t810 t811 t812 (⟨#[117, 115, 101, 115]⟩ : ByteArray) t813 t814 t815 t816 w0 _ ?side1 ?side2 A76.out).mono ?_); (case side1 => exact zq2); (case side2 => exact zq10); rintro e w102 ⟨rfl, hi, hb, hk⟩; refine ⟨_, rfl, ?_⟩; replace HO_753001 := za (Kd.R_mono (Kd.R_keep (IsS57.apart (show IsS57 w0 _ g s0_0 t809 t810 t811 t812 from zq2) (by (with_reducible repeat (first | apply Kd.R_alloc | apply Kd.R_drewN | apply Kd.R_drew)); exact (Kd.R_mono (Kd.R_far (p := ⟨gb752, 4, none⟩) (Kd.R_types HO_753001.out BK752.out (by decide)) (fun _ hk => hk.2) (.string t808)) (fun _ h_ => h_.1))) (by decide)) hk (fun _ h => h.2)) (fun _ h => h.1)); replace BK741 := za (KeepBut.blk hk (g' := gb741) (o := .cells #[.string (⟨#[]⟩ : ByteArray), .slice none 0 0, .bool false, .string (⟨#[]⟩ : ByteArray), .string (⟨#[]⟩ : ByteArray), .slice none 0 0, .slice none 0 0, .int .i64 0] 42 (0, 0)) zq36 NB741_0.out (by simp)); replace BK752 := za (KeepBut.blk hk (g' := gb752) (o := .cells #[.string t747, u753001, .bool x753002_63, .string x753003_63, .string t808, .slice none 0 0, .slice none 0 0, .int .i64 t742] 42 (0, 0)) (by (with_reducible repeat (first | refine blk_drewN ?_ _ | refine blk_drew ?_ | refine blk_alloc ?_ _)); refine blk_put (cs := #[.string t747, u753001, .bool x753002_63, .string x753003_63, .string (⟨#[]⟩ : ByteArray), .slice none 0 0, .slice none 0 0, .int .i64 t742]) ?_ 4 _ rfl; (with_reducible repeat (first | refine blk_drewN ?_ _ | refine blk_drew ?_ | refine blk_alloc ?_ _)); exact BK752.out) NB752_0.out (by simp)); replace HK := za (KeepBut.trans zq8 hk (.inl rfl)); replace HB := za (hb); replace HI0 := za (hi)) | ((with_reducible refine gate_callee (f := 21) rfl ?_); refine goesL_ (some 55) rfl rfl Try.func21 zq18 rfl #[.pointer (some ⟨g, 0, none⟩), .string (⟨#[123]⟩ : ByteArray)] rfl zq1 ?_; (with_reducible refine (rr_want.calls g s0_0 t813 t814 t815 t816 (⟨#[123]⟩ : ByteArray) t817 t818 t819 t820 w0 _ ?side1 ?side2 A77.out).mono ?_); (case side1 => exact zq2); (case side2 => exact zq10); rintro e w103 ⟨rfl, hi, hb, hk⟩; refine ⟨_, rfl, ?_⟩; replace HO_753001 := za (Kd.R_mono (Kd.R_keep (IsS57.apart (show IsS57 w0 _ g s0_0 t813 t814 t815 t816 from zq2) (zr HO_753001.out) (by decide)) hk (fun _ h => h.2)) (fun _ h => h.1)); replace BK741 := za (KeepBut.blk hk (g' := gb741) (zb BK741.out) NB741_0.out (by simp)); replace BK752 := za (KeepBut.blk hk (g' := gb752) (zb BK752.out) NB752_0.out (by simp)); replace HK := za (KeepBut.trans zq8 hk (.inl rfl)); replace HB := za (hb); replace HI0 := za (hi)) | ((with_reducible refine gate_callee (f := 30) rfl ?_); refine goesL_ (some 57) rfl rfl Try.func30 zq18 rfl #[.pointer (some ⟨g, 0, none⟩), .string (⟨#[125]⟩ : ByteArray)] rfl zq1 ?_; (with_reducible refine (rr_is.calls g s0_0 t817 t818 t819 t820 (⟨#[125]⟩ : ByteArray) false t822 t823 t824 t825 w0 _ ?side1 ?side2 A78.out).mono ?_); (case side1 => exact zq2); (case side2 => exact zq10); rintro e w104 ⟨rfl, hi, hb, hk⟩; refine ⟨_, rfl, ?_⟩; replace HO_753001 := za (Kd.R_mono (Kd.R_keep (IsS57.apart (show IsS57 w0 _ g s0_0 t817 t818 t819 t820 from zq2) (zr HO_753001.out) (by decide)) hk (fun _ h => h.2)) (fun _ h => h.1)); replace BK741 := za (KeepBut.blk hk (g' := gb741) (zb BK741.out) NB741_0.out (by simp)); replace BK752 := za (KeepBut.blk hk (g' := gb752) (zb BK752.out) NB752_0.out (by simp)); replace HK := za (KeepBut.trans zq8 hk (.inl rfl)); replace HB := za (hb); replace HI0 := za (hi)))
      (try simp only [Act.put, List.setIfInBounds_toArray, List.set_cons_zero, List.set_cons_succ])
      go_loopg [] kj63 (fun kq w' => ∃ (x1001_3 : Int) (x1002_3 : Int) (x1003_3 : Int) (x1004_3 : Int) (x753005_3 : List ByteArray) (u753005 : Value), Aside0 (rr_proc.l1 kq s0_0 x1001_3 x1002_3 x1003_3 x1004_3 t747 x753001_5 x753002_63 x753003_63 t808 x753005_3 t742 = some (r1, r2, r3, r4, r5, r6, r7, r8, r9, r10, r11, r12)) ∧ Aside0 (kq ≤ kj63) ∧ Aside0 (Kd.R k85 85 w' w.heap.size (fun _ => True) u753001 x753001_5) ∧ Aside0 (Kd.R Kd.string 9 w' w.heap.size (fun _ => True) u753005 x753005_3) ∧ Aside0 (w'.heap[gb741]? = some (.cells #[.string (⟨#[]⟩ : ByteArray), (.slice none 0 0), .bool false, .string (⟨#[]⟩ : ByteArray), .string (⟨#[]⟩ : ByteArray), (.slice none 0 0), (.slice none 0 0), .int .i64 0] 42 (0, 0))) ∧ Aside0 (w'.heap[gb752]? = some (.cells #[.string t747, u753001, .bool x753002_63, .string x753003_63, .string t808, u753005, (.slice none 0 0), .int .i64 t742] 42 (0, 0))) ∧ Aside0 (IsS57 w0 w' g s0_0 x1001_3 x1002_3 x1003_3 x1004_3) ∧ Aside0 (KeepBut w w' g none) ∧ Aside0 (Below w0.heap.size w0 w'))
      case atStart => exact ⟨(t822), (t823), (t824), (t825), (([] : List ByteArray)), (.slice none 0 0), H', ⟨Nat.le_refl _⟩, ⟨zq86⟩, ⟨zq22⟩, ⟨zq56⟩, ⟨zq57⟩, ⟨zq2⟩, ⟨zq8⟩, ⟨zq10⟩⟩
      case round =>
       clear H'
       obtain ⟨x1001_3, x1002_3, x1003_3, x1004_3, x753005_3, u753005, HA, HK3, HO_753001, HO_753005, BK741, BK752, HI0, HK, HB⟩ := hrel
       cases gk with
       | zero => exact absurd HA.out (by simp [rr_proc.l1])
       | succ k3 =>
        have H := HA.out
        clear HA
        simp only [rr_proc.l1] at H
        by_cases c105 : x1003_3 = 0
        ·
         rw [if_pos c105] at H
         have c105b0 := beq_iff_eq.mpr c105
         have c105b1 := bne_eq_false_iff_eq.mpr c105
         clear c105
         replace H := Option.bind_eq_some_iff.mp H
         obtain ⟨⟨t848, t849, t850, t851, t852⟩, A1060, H⟩ := H
         (try dsimp only at H)
         have A106 := za A1060
         clear A1060
         by_cases c107 : x753005_3.length < 8796093022208
         ·
          rw [if_pos c107] at H
          have LMc107 := za c107
          clear c107
          obtain ⟨y853, hy853⟩ : ∃ y_ : List ByteArray, y_ = (x753005_3 ++ [t848]) := ⟨_, rfl⟩
          replace H : ((rr_take.f s0_0 t849 t850 t851 t852 (⟨#[44]⟩ : ByteArray)).bind fun bt856 => (if bt856.1 = true then (rr_proc.l1 k3 s0_0 bt856.2.1 bt856.2.2.1 bt856.2.2.2.1 bt856.2.2.2.2 t747 x753001_5 x753002_63 x753003_63 t808 y853 t742) else ((rr_want.f s0_0 bt856.2.1 bt856.2.2.1 bt856.2.2.2.1 bt856.2.2.2.2 (⟨#[125]⟩ : ByteArray)).bind fun bt861 => ((rr_block.f k3 s0_0 bt861.1 bt861.2.1 bt861.2.2.1 bt861.2.2.2).bind fun bt865 => (some (t747, x753001_5, x753002_63, x753003_63, t808, y853, bt865.1, t742, bt865.2.1, bt865.2.2.1, bt865.2.2.2.1, bt865.2.2.2.2)))))) = some (r1, r2, r3, r4, r5, r6, r7, r8, r9, r10, r11, r12) := by first | (rw [hy853]; with_reducible exact H) | (have H2_ := (Option.bind_some _ _).symm.trans H; rw [hy853]; with_reducible exact H2_) | (have H2_ := (Option.bind_some _ _).symm.trans H; with_reducible exact H2_) | with_reducible exact H | (rw [hy853]; exact H) | exact H
          have Ny853 := za hy853
          clear hy853
          replace H := Option.bind_eq_some_iff.mp H
          obtain ⟨⟨t856, t857, t858, t859, t860⟩, A1080, H⟩ := H
          (try dsimp only at H)
          have A108 := za A1080
          clear A1080
          by_cases c109 : t856 = true
          ·
           subst c109
           rw [if_pos rfl] at H
           have H' := za H
           clear H
           obtain ⟨ASz110_0, cSz110_0, HGz110, hgz110, HSz110_0⟩ := HI0.out
           have hcz110_0 := cellS57_0 HGz110
           have hcz110_1 := cellS57_1 HGz110
           have hcz110_2 := cellS57_2 HGz110
           have hcz110_3 := cellS57_3 HGz110
           have hcz110_4 := cellS57_4 HGz110
           have hfz110_1 := blk_frozen HGz110 1
           have hfz110_2 := blk_frozen HGz110 2
           have hfz110_3 := blk_frozen HGz110 3
           have hfz110_4 := blk_frozen HGz110 4
           clear HGz110 hgz110
           try go_wp2
           replace HO_753001 := za (Kd.R_drew HO_753001.out)
           replace HO_753005 := za (Kd.R_drew HO_753005.out)
           replace BK741 := za (blk_drew BK741.out)
           replace BK752 := za (blk_drew BK752.out)
           replace HI0 := za (IsS57.drew HI0.out)
           replace HK := za (keep_drew HK.out)
           replace HB := za (below_drew1 HB.out)
           refine start_ (n := 8) (S := fun w' => w'.cell? ⟨gb752, 0, none⟩ = some (.string t747) ∧ w'.cell? ⟨gb752, 1, none⟩ = some (u753001) ∧ w'.cell? ⟨gb752, 2, none⟩ = some (.bool x753002_63) ∧ w'.cell? ⟨gb752, 3, none⟩ = some (.string x753003_63) ∧ w'.cell? ⟨gb752, 4, none⟩ = some (.string t808) ∧ w'.cell? ⟨gb752, 5, none⟩ = some (u753005) ∧ w'.cell? ⟨gb752, 6, none⟩ = some (.slice none 0 0) ∧ w'.cell? ⟨gb752, 7, none⟩ = some (.int .i64 t742)) (ds := [7]) #[false, false, false, false, false, false, false, false] zq18 rfl rfl ⟨(blk_cell BK752.out 0).trans rfl, (blk_cell BK752.out 1).trans rfl, (blk_cell BK752.out 2).trans rfl, (blk_cell BK752.out 3).trans rfl, (blk_cell BK752.out 4).trans rfl, (blk_cell BK752.out 5).trans rfl, (blk_cell BK752.out 6).trans rfl, (blk_cell BK752.out 7).trans rfl⟩ (fun hHeld => ?_); refine with_tabW rr_proc.tab20 rr_proc.bits20 (fun HT_ HW_ => ?_)
           generalize wr.drew = w111 at HO_753001 HO_753005 BK741 BK752 HI0 HK HB hHeld ⊢
           refine pure_ (i := 0) (N := some 64) #[true, false, false, false, false, false, false, false] rfl rfl (any_of HT_.out zq18) (fun _ _ _ h => h) (Or.inl ⟨by rfl, zpv⟩) zpw ?_
           refine pure_ (i := 2) (N := some 66) #[true, false, true, false, false, false, false, false] rfl rfl (any_of HT_.out zq18) (fun _ _ _ h => h) (Or.inl ⟨by rfl, zpv⟩) zpw ?_
           refine take_ (i := 1) (N := some 65) (v := ?_) (a' := ?_) #[true, true, true, false, false, false, false, false] rfl rfl (take_ofW HT_.out HW_.out zq18) (fun _ _ _ h => h) (Or.inl ⟨by rfl, ?_⟩) hHeld ?_ ?_
           rotate_left
           ·
            rintro w' ⟨s0, s1, s2, s3, s4, s5, s6, s7⟩
            go_simp
            with_reducible rfl
           rotate_left
           ·
            simp only [Act.put, List.setIfInBounds_toArray, List.set_cons_zero, List.set_cons_succ, i64_w, i32_w]
            rfl
           refine one_ (i := 3) (N := some 67) #[true, true, true, true, false, false, false, false] rfl rfl (one_of HT_.out zq18) (by decide) (fun K hK => ?_)
           refine goes_ Try.func23 zq18 rfl #[.pointer (some ⟨g, 0, none⟩)] (by rfl) rfl rfl zq1 ?_
           with_reducible refine (rr_name.calls g s0_0 x1001_3 x1002_3 x1003_3 x1004_3 t848 t849 t850 t851 t852 w0 _ ?side1 ?side2 A106.out).mono ?_
           (case side1 => exact zq2)
           (case side2 => exact zq10)
           rintro e w112 ⟨rfl, hi, hb, hk⟩
           refine ⟨_, rfl, ?_⟩
           replace HO_753001 := za (Kd.R_mono (Kd.R_keep (IsS57.apart (show IsS57 w0 _ g s0_0 x1001_3 x1002_3 x1003_3 x1004_3 from zq2) (zr HO_753001.out) (by decide)) hk (fun _ h => h.2)) (fun _ h => h.1))
           replace HO_753005 := za (Kd.R_mono (Kd.R_keep (IsS57.apart (show IsS57 w0 _ g s0_0 x1001_3 x1002_3 x1003_3 x1004_3 from zq2) (zr HO_753005.out) (by decide)) hk (fun _ h => h.2)) (fun _ h => h.1))
           replace BK741 := za (KeepBut.blk hk (g' := gb741) (zb BK741.out) NB741_0.out (by simp))
           replace BK752 := za (KeepBut.blk hk (g' := gb752) (zb BK752.out) NB752_0.out (by simp))
           replace HK := za (KeepBut.trans zq8 hk (.inl rfl))
           replace HB := za (hb)
           replace HI0 := za (hi)
           refine hK.out _ _ ⟨(blk_cell BK752.out 0).trans rfl, (blk_cell BK752.out 1).trans rfl, (blk_cell BK752.out 2).trans rfl, (blk_cell BK752.out 3).trans rfl, (blk_cell BK752.out 4).trans rfl, (blk_cell BK752.out 5).trans rfl, (blk_cell BK752.out 6).trans rfl, (blk_cell BK752.out 7).trans rfl⟩ (fun hHeld => ?_)
           clear hK K
           refine norm_ (a' := ?_) ?_ ?_
           rotate_left
           ·
            show Act.put _ (some 67) _ = _
            simp only [Act.put, List.setIfInBounds_toArray, List.set_cons_zero, List.set_cons_succ, i64_w, i32_w]
            rfl
           refine one_ (i := 4) (N := some 68) #[true, true, true, true, true, false, false, false] rfl rfl (one_of HT_.out zq18) (by decide) (fun K hK => ?_)
           refine value_ (w1 := ?_) (v := ?_) (by rfl) rfl ?_ ?_
           rotate_left 2
           ·
            go_simp
            constructor
            ·
             rfl
            ·
             rfl
           refine hK.out _ _ ⟨(blk_cell (blk_alloc BK752.out _) 0).trans rfl, (blk_cell (blk_alloc BK752.out _) 1).trans rfl, (blk_cell (blk_alloc BK752.out _) 2).trans rfl, (blk_cell (blk_alloc BK752.out _) 3).trans rfl, (blk_cell (blk_alloc BK752.out _) 4).trans rfl, (blk_cell (blk_alloc BK752.out _) 5).trans rfl, (blk_cell (blk_alloc BK752.out _) 6).trans rfl, (blk_cell (blk_alloc BK752.out _) 7).trans rfl⟩ (fun hHeld => ?_)
           clear hK K
           refine norm_ (a' := ?_) ?_ ?_
           rotate_left
           ·
            show Act.put _ (some 68) _ = _
            simp only [Act.put, List.setIfInBounds_toArray, List.set_cons_zero, List.set_cons_succ, i64_w, i32_w]
            rfl
           refine one_ (i := 5) (N := some 69) #[true, true, true, true, true, true, false, false] rfl rfl (one_of HT_.out zq18) (by decide) (fun K hK => ?_)
           refine Kd.R_append_step Kd.string w.heap.size (by rfl) (.tmp 65) (.tmp 68) 26 9 (.string ⟨#[]⟩) 16 rfl Try.underlying26 info9 rfl (by decide) (by omega) u753005 x753005_3 t848 [.string t848] (fun _ => True) (fun _ => False) rfl rfl ?aP (fun _ hk => hk.elim) ?aF ?aO (Below.refl _ _) ?aS ?aL ?_
           (case aP => exact rfl)
           (case aF => exact (fun _ _ => trivial))
           (case aO => exact (zr HO_753005.out))
           (case aS => exact (keep_size (w := w) (g := g) (row := none) zq8))
           (case aL => have := LMc107.out; omega)
           intro v854 w113 ho hb hg hat
           rw [← Ny853.out] at ho
           replace HO_753001 := za (Kd.R_over' (zr HO_753001.out) (Kd.R_typed (zr HO_753005.out)) (by decide) hg)
           replace BK741 := za (blk_grown (g := gb741) (zb BK741.out) hg (Kd.R_ne HO_753005.out BK741.out (by decide)))
           replace BK752 := za (blk_grown (g := gb752) (zb BK752.out) hg (Kd.R_ne HO_753005.out BK752.out (by decide)))
           replace HB := za (below_weaken zq10 HL.out hb)
           replace HI0 := za (IsS57.grown zq2 hg (IsS57.own_ne HI0.out HO_753005.out (by decide)))
           replace HK := za (KeepBut.trans zq8 (KeepBut.of_grown hg g) (Kd.R_base2 HO_753005.out))
           have HO855 := za (ho)
           clear HO_753005
           clear ho hb hg hat
           obtain ⟨Ao114, co114, eo114⟩ := Kd.R_slice HO855.out
           (first | subst eo114 | (injection eo114 with f1_ f2_ f3_; have f4_ := f1_.symm; have f5_ := f3_.symm; clear f1_ f2_ f3_; subst f4_; subst f5_))
           refine hK.out _ _ ⟨(blk_cell BK752.out 0).trans rfl, (blk_cell BK752.out 1).trans rfl, (blk_cell BK752.out 2).trans rfl, (blk_cell BK752.out 3).trans rfl, (blk_cell BK752.out 4).trans rfl, (blk_cell BK752.out 5).trans rfl, (blk_cell BK752.out 6).trans rfl, (blk_cell BK752.out 7).trans rfl⟩ (fun hHeld => ?_)
           clear hK K
           refine norm_ (a' := ?_) ?_ ?_
           rotate_left
           ·
            show Act.put _ (some 69) _ = _
            simp only [Act.put, List.setIfInBounds_toArray, List.set_cons_zero, List.set_cons_succ, i64_w, i32_w]
            rfl
           refine pure_ (i := 6) (N := some 70) #[true, true, true, true, true, true, true, false] rfl rfl (any_of HT_.out zq18) (fun _ _ _ h => h) (Or.inl ⟨by rfl, zpv⟩) zpw ?_
           refine last_ (i := 7) (N := none) #[true, true, true, true, true, true, true, true] rfl rfl (one_of HT_.out zq18) (by decide) (fun K hK => ?_)
           have hs115 : w113.cell? ⟨gb752, 5, none⟩ = some (u753005) := (blk_cell BK752.out 5).trans rfl
           have hfs115 := blk_frozen BK752.out 5
           have hns115_0 := NB741_752.out
           have hms115_0 := NB752_741.out
           refine skip_ (w1 := ?_) (by rfl) rfl ?_ ?_
           rotate_left
           ·
            go_simp
            rfl
           refine hK.out _ _ ?_
           clear hK K
           refine done_ (done_of HT_.out zq18) ?_
           try go_wp2_with (first | ((with_reducible refine gate_callee (f := 24) rfl ?_); refine goesL_ (some 72) rfl rfl Try.func24 zq18 rfl #[.pointer (some ⟨g, 0, none⟩), .string (⟨#[44]⟩ : ByteArray)] rfl zq1 ?_; (with_reducible refine (rr_take.calls g s0_0 t849 t850 t851 t852 (⟨#[44]⟩ : ByteArray) true t857 t858 t859 t860 w0 _ ?side1 ?side2 A108.out).mono ?_); (case side1 => exact zq2); (case side2 => exact zq10); rintro e w116 ⟨rfl, hi, hb, hk⟩; refine ⟨_, rfl, ?_⟩; replace HO_753001 := za (Kd.R_mono (Kd.R_keep (IsS57.apart (show IsS57 w0 _ g s0_0 t849 t850 t851 t852 from zq2) (by (with_reducible repeat (first | apply Kd.R_alloc | apply Kd.R_drewN | apply Kd.R_drew)); exact (Kd.R_mono (Kd.R_far (p := ⟨gb752, 5, none⟩) (Kd.R_types HO_753001.out BK752.out (by decide)) (fun _ hk => hk.2) (.slice Ao114 y853.length co114)) (fun _ h_ => h_.1))) (by decide)) hk (fun _ h => h.2)) (fun _ h => h.1)); replace BK741 := za (KeepBut.blk hk (g' := gb741) (o := .cells #[.string (⟨#[]⟩ : ByteArray), .slice none 0 0, .bool false, .string (⟨#[]⟩ : ByteArray), .string (⟨#[]⟩ : ByteArray), .slice none 0 0, .slice none 0 0, .int .i64 0] 42 (0, 0)) zq36 NB741_0.out (by simp)); replace HO855 := za (Kd.R_mono (Kd.R_keep (IsS57.apart (show IsS57 w0 _ g s0_0 t849 t850 t851 t852 from zq2) (by (with_reducible repeat (first | apply Kd.R_alloc | apply Kd.R_drewN | apply Kd.R_drew)); exact (Kd.R_mono (Kd.R_far (p := ⟨gb752, 5, none⟩) (Kd.R_types HO855.out BK752.out (by decide)) (fun _ hk => hk.2) (.slice Ao114 y853.length co114)) (fun _ h_ => h_.1))) (by decide)) hk (fun _ h => h.2)) (fun _ h => h.1)); replace BK752 := za (KeepBut.blk hk (g' := gb752) (o := .cells #[.string t747, u753001, .bool x753002_63, .string x753003_63, .string t808, .slice Ao114 y853.length co114, .slice none 0 0, .int .i64 t742] 42 (0, 0)) (by (with_reducible repeat (first | refine blk_drewN ?_ _ | refine blk_drew ?_ | refine blk_alloc ?_ _)); refine blk_put (cs := #[.string t747, u753001, .bool x753002_63, .string x753003_63, .string t808, u753005, .slice none 0 0, .int .i64 t742]) ?_ 5 _ rfl; (with_reducible repeat (first | refine blk_drewN ?_ _ | refine blk_drew ?_ | refine blk_alloc ?_ _)); exact BK752.out) NB752_0.out (by simp)); replace HK := za (KeepBut.trans zq8 hk (.inl rfl)); replace HB := za (hb); replace HI0 := za (hi)))
           go_roundg k3
           case measure => have := HJ5.out; have := HJ63.out; have := HK3.out; omega
           case rel => exact ⟨(t857), (t858), (t859), (t860), (y853), (.slice Ao114 y853.length co114), H', ⟨by have := HJ5.out; have := HJ63.out; have := HK3.out; omega⟩, ⟨zq86⟩, ⟨by (with_reducible repeat (first | apply Kd.R_alloc | apply Kd.R_drewN | apply Kd.R_drew)); exact HO855.out⟩, ⟨zq56⟩, ⟨zq57⟩, ⟨zq2⟩, ⟨zq8⟩, ⟨zq10⟩⟩
          ·
           replace c109 := Bool.eq_false_iff.mpr c109
           subst c109
           rw [if_neg (show ¬ (false = true) by decide)] at H
           replace H := Option.bind_eq_some_iff.mp H
           obtain ⟨⟨t861, t862, t863, t864⟩, A1170, H⟩ := H
           (try dsimp only at H)
           have A117 := za A1170
           clear A1170
           replace H := Option.bind_eq_some_iff.mp H
           obtain ⟨⟨t865, t868, t869, t870, t871⟩, A1180, H⟩ := H
           (try dsimp only at H)
           have A118 := za A1180
           clear A1180
           simp only [Option.some.injEq, Prod.mk.injEq] at H
           obtain ⟨rfl, rfl, rfl, rfl, rfl, rfl, rfl, rfl, rfl, rfl, rfl, rfl⟩ := H
           obtain ⟨ASz119_0, cSz119_0, HGz119, hgz119, HSz119_0⟩ := HI0.out
           have hcz119_0 := cellS57_0 HGz119
           have hcz119_1 := cellS57_1 HGz119
           have hcz119_2 := cellS57_2 HGz119
           have hcz119_3 := cellS57_3 HGz119
           have hcz119_4 := cellS57_4 HGz119
           have hfz119_1 := blk_frozen HGz119 1
           have hfz119_2 := blk_frozen HGz119 2
           have hfz119_3 := blk_frozen HGz119 3
           have hfz119_4 := blk_frozen HGz119 4
           clear HGz119 hgz119
           try go_wp2
           replace HO_753001 := za (Kd.R_drew HO_753001.out)
           replace HO_753005 := za (Kd.R_drew HO_753005.out)
           replace BK741 := za (blk_drew BK741.out)
           replace BK752 := za (blk_drew BK752.out)
           replace HI0 := za (IsS57.drew HI0.out)
           replace HK := za (keep_drew HK.out)
           replace HB := za (below_drew1 HB.out)
           refine start_ (n := 8) (S := fun w' => w'.cell? ⟨gb752, 0, none⟩ = some (.string t747) ∧ w'.cell? ⟨gb752, 1, none⟩ = some (u753001) ∧ w'.cell? ⟨gb752, 2, none⟩ = some (.bool x753002_63) ∧ w'.cell? ⟨gb752, 3, none⟩ = some (.string x753003_63) ∧ w'.cell? ⟨gb752, 4, none⟩ = some (.string t808) ∧ w'.cell? ⟨gb752, 5, none⟩ = some (u753005) ∧ w'.cell? ⟨gb752, 6, none⟩ = some (.slice none 0 0) ∧ w'.cell? ⟨gb752, 7, none⟩ = some (.int .i64 t742)) (ds := [7]) #[false, false, false, false, false, false, false, false] zq18 rfl rfl ⟨(blk_cell BK752.out 0).trans rfl, (blk_cell BK752.out 1).trans rfl, (blk_cell BK752.out 2).trans rfl, (blk_cell BK752.out 3).trans rfl, (blk_cell BK752.out 4).trans rfl, (blk_cell BK752.out 5).trans rfl, (blk_cell BK752.out 6).trans rfl, (blk_cell BK752.out 7).trans rfl⟩ (fun hHeld => ?_); refine with_tabW rr_proc.tab20 rr_proc.bits20 (fun HT_ HW_ => ?_)
           generalize wr.drew = w120 at HO_753001 HO_753005 BK741 BK752 HI0 HK HB hHeld ⊢
           refine pure_ (i := 0) (N := some 64) #[true, false, false, false, false, false, false, false] rfl rfl (any_of HT_.out zq18) (fun _ _ _ h => h) (Or.inl ⟨by rfl, zpv⟩) zpw ?_
           refine pure_ (i := 2) (N := some 66) #[true, false, true, false, false, false, false, false] rfl rfl (any_of HT_.out zq18) (fun _ _ _ h => h) (Or.inl ⟨by rfl, zpv⟩) zpw ?_
           refine take_ (i := 1) (N := some 65) (v := ?_) (a' := ?_) #[true, true, true, false, false, false, false, false] rfl rfl (take_ofW HT_.out HW_.out zq18) (fun _ _ _ h => h) (Or.inl ⟨by rfl, ?_⟩) hHeld ?_ ?_
           rotate_left
           ·
            rintro w' ⟨s0, s1, s2, s3, s4, s5, s6, s7⟩
            go_simp
            with_reducible rfl
           rotate_left
           ·
            simp only [Act.put, List.setIfInBounds_toArray, List.set_cons_zero, List.set_cons_succ, i64_w, i32_w]
            rfl
           refine one_ (i := 3) (N := some 67) #[true, true, true, true, false, false, false, false] rfl rfl (one_of HT_.out zq18) (by decide) (fun K hK => ?_)
           refine goes_ Try.func23 zq18 rfl #[.pointer (some ⟨g, 0, none⟩)] (by rfl) rfl rfl zq1 ?_
           with_reducible refine (rr_name.calls g s0_0 x1001_3 x1002_3 x1003_3 x1004_3 t848 t849 t850 t851 t852 w0 _ ?side1 ?side2 A106.out).mono ?_
           (case side1 => exact zq2)
           (case side2 => exact zq10)
           rintro e w121 ⟨rfl, hi, hb, hk⟩
           refine ⟨_, rfl, ?_⟩
           replace HO_753001 := za (Kd.R_mono (Kd.R_keep (IsS57.apart (show IsS57 w0 _ g s0_0 x1001_3 x1002_3 x1003_3 x1004_3 from zq2) (zr HO_753001.out) (by decide)) hk (fun _ h => h.2)) (fun _ h => h.1))
           replace HO_753005 := za (Kd.R_mono (Kd.R_keep (IsS57.apart (show IsS57 w0 _ g s0_0 x1001_3 x1002_3 x1003_3 x1004_3 from zq2) (zr HO_753005.out) (by decide)) hk (fun _ h => h.2)) (fun _ h => h.1))
           replace BK741 := za (KeepBut.blk hk (g' := gb741) (zb BK741.out) NB741_0.out (by simp))
           replace BK752 := za (KeepBut.blk hk (g' := gb752) (zb BK752.out) NB752_0.out (by simp))
           replace HK := za (KeepBut.trans zq8 hk (.inl rfl))
           replace HB := za (hb)
           replace HI0 := za (hi)
           refine hK.out _ _ ⟨(blk_cell BK752.out 0).trans rfl, (blk_cell BK752.out 1).trans rfl, (blk_cell BK752.out 2).trans rfl, (blk_cell BK752.out 3).trans rfl, (blk_cell BK752.out 4).trans rfl, (blk_cell BK752.out 5).trans rfl, (blk_cell BK752.out 6).trans rfl, (blk_cell BK752.out 7).trans rfl⟩ (fun hHeld => ?_)
           clear hK K
           refine norm_ (a' := ?_) ?_ ?_
           rotate_left
           ·
            show Act.put _ (some 67) _ = _
            simp only [Act.put, List.setIfInBounds_toArray, List.set_cons_zero, List.set_cons_succ, i64_w, i32_w]
            rfl
           refine one_ (i := 4) (N := some 68) #[true, true, true, true, true, false, false, false] rfl rfl (one_of HT_.out zq18) (by decide) (fun K hK => ?_)
           refine value_ (w1 := ?_) (v := ?_) (by rfl) rfl ?_ ?_
           rotate_left 2
           ·
            go_simp
            constructor
            ·
             rfl
            ·
             rfl
           refine hK.out _ _ ⟨(blk_cell (blk_alloc BK752.out _) 0).trans rfl, (blk_cell (blk_alloc BK752.out _) 1).trans rfl, (blk_cell (blk_alloc BK752.out _) 2).trans rfl, (blk_cell (blk_alloc BK752.out _) 3).trans rfl, (blk_cell (blk_alloc BK752.out _) 4).trans rfl, (blk_cell (blk_alloc BK752.out _) 5).trans rfl, (blk_cell (blk_alloc BK752.out _) 6).trans rfl, (blk_cell (blk_alloc BK752.out _) 7).trans rfl⟩ (fun hHeld => ?_)
           clear hK K
           refine norm_ (a' := ?_) ?_ ?_
           rotate_left
           ·
            show Act.put _ (some 68) _ = _
            simp only [Act.put, List.setIfInBounds_toArray, List.set_cons_zero, List.set_cons_succ, i64_w, i32_w]
            rfl
           refine one_ (i := 5) (N := some 69) #[true, true, true, true, true, true, false, false] rfl rfl (one_of HT_.out zq18) (by decide) (fun K hK => ?_)
           refine Kd.R_append_step Kd.string w.heap.size (by rfl) (.tmp 65) (.tmp 68) 26 9 (.string ⟨#[]⟩) 16 rfl Try.underlying26 info9 rfl (by decide) (by omega) u753005 x753005_3 t848 [.string t848] (fun _ => True) (fun _ => False) rfl rfl ?aP (fun _ hk => hk.elim) ?aF ?aO (Below.refl _ _) ?aS ?aL ?_
           (case aP => exact rfl)
           (case aF => exact (fun _ _ => trivial))
           (case aO => exact (zr HO_753005.out))
           (case aS => exact (keep_size (w := w) (g := g) (row := none) zq8))
           (case aL => have := LMc107.out; omega)
           intro v854 w122 ho hb hg hat
           rw [← Ny853.out] at ho
           replace HO_753001 := za (Kd.R_over' (zr HO_753001.out) (Kd.R_typed (zr HO_753005.out)) (by decide) hg)
           replace BK741 := za (blk_grown (g := gb741) (zb BK741.out) hg (Kd.R_ne HO_753005.out BK741.out (by decide)))
           replace BK752 := za (blk_grown (g := gb752) (zb BK752.out) hg (Kd.R_ne HO_753005.out BK752.out (by decide)))
           replace HB := za (below_weaken zq10 HL.out hb)
           replace HI0 := za (IsS57.grown zq2 hg (IsS57.own_ne HI0.out HO_753005.out (by decide)))
           replace HK := za (KeepBut.trans zq8 (KeepBut.of_grown hg g) (Kd.R_base2 HO_753005.out))
           have HO855 := za (ho)
           clear HO_753005
           clear ho hb hg hat
           obtain ⟨Ao123, co123, eo123⟩ := Kd.R_slice HO855.out
           (first | subst eo123 | (injection eo123 with f1_ f2_ f3_; have f4_ := f1_.symm; have f5_ := f3_.symm; clear f1_ f2_ f3_; subst f4_; subst f5_))
           refine hK.out _ _ ⟨(blk_cell BK752.out 0).trans rfl, (blk_cell BK752.out 1).trans rfl, (blk_cell BK752.out 2).trans rfl, (blk_cell BK752.out 3).trans rfl, (blk_cell BK752.out 4).trans rfl, (blk_cell BK752.out 5).trans rfl, (blk_cell BK752.out 6).trans rfl, (blk_cell BK752.out 7).trans rfl⟩ (fun hHeld => ?_)
           clear hK K
           refine norm_ (a' := ?_) ?_ ?_
           rotate_left
           ·
            show Act.put _ (some 69) _ = _
            simp only [Act.put, List.setIfInBounds_toArray, List.set_cons_zero, List.set_cons_succ, i64_w, i32_w]
            rfl
           refine pure_ (i := 6) (N := some 70) #[true, true, true, true, true, true, true, false] rfl rfl (any_of HT_.out zq18) (fun _ _ _ h => h) (Or.inl ⟨by rfl, zpv⟩) zpw ?_
           refine last_ (i := 7) (N := none) #[true, true, true, true, true, true, true, true] rfl rfl (one_of HT_.out zq18) (by decide) (fun K hK => ?_)
           have hs124 : w122.cell? ⟨gb752, 5, none⟩ = some (u753005) := (blk_cell BK752.out 5).trans rfl
           have hfs124 := blk_frozen BK752.out 5
           have hns124_0 := NB741_752.out
           have hms124_0 := NB752_741.out
           refine skip_ (w1 := ?_) (by rfl) rfl ?_ ?_
           rotate_left
           ·
            go_simp
            rfl
           refine hK.out _ _ ?_
           clear hK K
           refine done_ (done_of HT_.out zq18) ?_
           try go_wp2_with (first | ((with_reducible refine gate_callee (f := 24) rfl ?_); refine goesL_ (some 72) rfl rfl Try.func24 zq18 rfl #[.pointer (some ⟨g, 0, none⟩), .string (⟨#[44]⟩ : ByteArray)] rfl zq1 ?_; (with_reducible refine (rr_take.calls g s0_0 t849 t850 t851 t852 (⟨#[44]⟩ : ByteArray) false t857 t858 t859 t860 w0 _ ?side1 ?side2 A108.out).mono ?_); (case side1 => exact zq2); (case side2 => exact zq10); rintro e w125 ⟨rfl, hi, hb, hk⟩; refine ⟨_, rfl, ?_⟩; replace HO_753001 := za (Kd.R_mono (Kd.R_keep (IsS57.apart (show IsS57 w0 _ g s0_0 t849 t850 t851 t852 from zq2) (by (with_reducible repeat (first | apply Kd.R_alloc | apply Kd.R_drewN | apply Kd.R_drew)); exact (Kd.R_mono (Kd.R_far (p := ⟨gb752, 5, none⟩) (Kd.R_types HO_753001.out BK752.out (by decide)) (fun _ hk => hk.2) (.slice Ao123 y853.length co123)) (fun _ h_ => h_.1))) (by decide)) hk (fun _ h => h.2)) (fun _ h => h.1)); replace BK741 := za (KeepBut.blk hk (g' := gb741) (o := .cells #[.string (⟨#[]⟩ : ByteArray), .slice none 0 0, .bool false, .string (⟨#[]⟩ : ByteArray), .string (⟨#[]⟩ : ByteArray), .slice none 0 0, .slice none 0 0, .int .i64 0] 42 (0, 0)) zq36 NB741_0.out (by simp)); replace HO855 := za (Kd.R_mono (Kd.R_keep (IsS57.apart (show IsS57 w0 _ g s0_0 t849 t850 t851 t852 from zq2) (by (with_reducible repeat (first | apply Kd.R_alloc | apply Kd.R_drewN | apply Kd.R_drew)); exact (Kd.R_mono (Kd.R_far (p := ⟨gb752, 5, none⟩) (Kd.R_types HO855.out BK752.out (by decide)) (fun _ hk => hk.2) (.slice Ao123 y853.length co123)) (fun _ h_ => h_.1))) (by decide)) hk (fun _ h => h.2)) (fun _ h => h.1)); replace BK752 := za (KeepBut.blk hk (g' := gb752) (o := .cells #[.string t747, u753001, .bool x753002_63, .string x753003_63, .string t808, .slice Ao123 y853.length co123, .slice none 0 0, .int .i64 t742] 42 (0, 0)) (by (with_reducible repeat (first | refine blk_drewN ?_ _ | refine blk_drew ?_ | refine blk_alloc ?_ _)); refine blk_put (cs := #[.string t747, u753001, .bool x753002_63, .string x753003_63, .string t808, u753005, .slice none 0 0, .int .i64 t742]) ?_ 5 _ rfl; (with_reducible repeat (first | refine blk_drewN ?_ _ | refine blk_drew ?_ | refine blk_alloc ?_ _)); exact BK752.out) NB752_0.out (by simp)); replace HK := za (KeepBut.trans zq8 hk (.inl rfl)); replace HB := za (hb); replace HI0 := za (hi)) | ((with_reducible refine gate_callee (f := 21) rfl ?_); refine goesL_ (some 75) rfl rfl Try.func21 zq18 rfl #[.pointer (some ⟨g, 0, none⟩), .string (⟨#[125]⟩ : ByteArray)] rfl zq1 ?_; (with_reducible refine (rr_want.calls g s0_0 t857 t858 t859 t860 (⟨#[125]⟩ : ByteArray) t861 t862 t863 t864 w0 _ ?side1 ?side2 A117.out).mono ?_); (case side1 => exact zq2); (case side2 => exact zq10); rintro e w126 ⟨rfl, hi, hb, hk⟩; refine ⟨_, rfl, ?_⟩; replace HO_753001 := za (Kd.R_mono (Kd.R_keep (IsS57.apart (show IsS57 w0 _ g s0_0 t857 t858 t859 t860 from zq2) (zr HO_753001.out) (by decide)) hk (fun _ h => h.2)) (fun _ h => h.1)); replace BK741 := za (KeepBut.blk hk (g' := gb741) (zb BK741.out) NB741_0.out (by simp)); replace BK752 := za (KeepBut.blk hk (g' := gb752) (zb BK752.out) NB752_0.out (by simp)); replace HO855 := za (Kd.R_mono (Kd.R_keep (IsS57.apart (show IsS57 w0 _ g s0_0 t857 t858 t859 t860 from zq2) (zr HO855.out) (by decide)) hk (fun _ h => h.2)) (fun _ h => h.1)); replace HK := za (KeepBut.trans zq8 hk (.inl rfl)); replace HB := za (hb); replace HI0 := za (hi)) | ((with_reducible refine gate_callee (f := 32) rfl ?_); refine goesL_ (some 77) rfl rfl Try.func32 zq18 rfl #[.pointer (some ⟨g, 0, none⟩)] rfl zq1 ?_; (with_reducible refine (rr_block.calls k3 g s0_0 t861 t862 t863 t864 t865 t868 t869 t870 t871 w0 _ ?side1 ?side2 A118.out).mono ?_); (case side1 => exact zq2); (case side2 => exact zq10); rintro e w127 ⟨v866, rfl, ho0, hi, hb, hk⟩; refine ⟨_, rfl, ?_⟩; replace HO_753001 := za (Kd.R_mono (Kd.R_keep (IsS57.apart (show IsS57 w0 _ g s0_0 t861 t862 t863 t864 from zq2) (zr HO_753001.out) (by decide)) hk (fun _ h => h.2)) (fun _ h => h.1)); replace BK741 := za (KeepBut.blk hk (g' := gb741) (zb BK741.out) NB741_0.out (by simp)); replace BK752 := za (KeepBut.blk hk (g' := gb752) (zb BK752.out) NB752_0.out (by simp)); replace HO855 := za (Kd.R_mono (Kd.R_keep (IsS57.apart (show IsS57 w0 _ g s0_0 t861 t862 t863 t864 from zq2) (zr HO855.out) (by decide)) hk (fun _ h => h.2)) (fun _ h => h.1)); have HO867 := za (Kd.R_lower ho0 (keep_size (w := w) (g := g) (row := none) zq8)); replace HK := za (KeepBut.trans zq8 hk (.inl rfl)); replace HB := za (hb); replace HI0 := za (hi); (try clear hb hk hi ho0); obtain ⟨Ao128, co128, eo128⟩ := Kd.R_slice HO867.out; subst eo128; have hnb129 := NB752_741.out; have hnc129 := NB741_752.out; have hnb130 := NB752_0.out; have hnc130 := NB0_752.out; obtain ⟨hcz131_0, hcz131_1, hcz131_2, hcz131_3, hcz131_4, hcz131_5, hcz131_6, hcz131_7⟩ := zc8 BK752.out; obtain ⟨hfz131_0, hfz131_1, hfz131_2, hfz131_3, hfz131_4, hfz131_5, hfz131_6, hfz131_7⟩ := zf8 BK752.out; have hnb132 := NB741_0.out; have hnc132 := NB0_741.out; obtain ⟨hcz133_0, hcz133_1, hcz133_2, hcz133_3, hcz133_4, hcz133_5, hcz133_6, hcz133_7⟩ := zc8 BK741.out; obtain ⟨hfz133_0, hfz133_1, hfz133_2, hfz133_3, hfz133_4, hfz133_5, hfz133_6, hfz133_7⟩ := zf8 BK741.out; obtain ⟨Ao134, co134, eo134⟩ := Kd.R_slice HO_753001.out; subst eo134))
           refine bodyPost_ret (results_cell_row rfl _ _ gb741 42 #[.string t747, .slice Ao134 x753001_5.length co134, .bool x753002_63, .string x753003_63, .string t808, .slice Ao123 y853.length co123, .slice Ao128 t865.length co128, .int .i64 t742] (0, 0) _ rfl (by (with_reducible repeat (first | refine blk_drewN ?_ _ | refine blk_drew ?_ | refine blk_alloc ?_ _)); refine blk_put (cs := #[.string t747, .slice Ao134 x753001_5.length co134, .bool x753002_63, .string x753003_63, .string t808, .slice Ao123 y853.length co123, .slice Ao128 t865.length co128, .int .i64 0]) ?_ 7 _ rfl; (with_reducible repeat (first | refine blk_drewN ?_ _ | refine blk_drew ?_ | refine blk_alloc ?_ _)); refine blk_put (cs := #[.string t747, .slice Ao134 x753001_5.length co134, .bool x753002_63, .string x753003_63, .string t808, .slice Ao123 y853.length co123, .slice none 0 0, .int .i64 0]) ?_ 6 _ rfl; (with_reducible repeat (first | refine blk_drewN ?_ _ | refine blk_drew ?_ | refine blk_alloc ?_ _)); refine blk_put (cs := #[.string t747, .slice Ao134 x753001_5.length co134, .bool x753002_63, .string x753003_63, .string t808, .slice none 0 0, .slice none 0 0, .int .i64 0]) ?_ 5 _ rfl; (with_reducible repeat (first | refine blk_drewN ?_ _ | refine blk_drew ?_ | refine blk_alloc ?_ _)); refine blk_put (cs := #[.string t747, .slice Ao134 x753001_5.length co134, .bool x753002_63, .string x753003_63, .string (⟨#[]⟩ : ByteArray), .slice none 0 0, .slice none 0 0, .int .i64 0]) ?_ 4 _ rfl; (with_reducible repeat (first | refine blk_drewN ?_ _ | refine blk_drew ?_ | refine blk_alloc ?_ _)); refine blk_put (cs := #[.string t747, .slice Ao134 x753001_5.length co134, .bool x753002_63, .string (⟨#[]⟩ : ByteArray), .string (⟨#[]⟩ : ByteArray), .slice none 0 0, .slice none 0 0, .int .i64 0]) ?_ 3 _ rfl; (with_reducible repeat (first | refine blk_drewN ?_ _ | refine blk_drew ?_ | refine blk_alloc ?_ _)); refine blk_put (cs := #[.string t747, .slice Ao134 x753001_5.length co134, .bool false, .string (⟨#[]⟩ : ByteArray), .string (⟨#[]⟩ : ByteArray), .slice none 0 0, .slice none 0 0, .int .i64 0]) ?_ 2 _ rfl; (with_reducible repeat (first | refine blk_drewN ?_ _ | refine blk_drew ?_ | refine blk_alloc ?_ _)); refine blk_put (cs := #[.string t747, .slice none 0 0, .bool false, .string (⟨#[]⟩ : ByteArray), .string (⟨#[]⟩ : ByteArray), .slice none 0 0, .slice none 0 0, .int .i64 0]) ?_ 1 _ rfl; (with_reducible repeat (first | refine blk_drewN ?_ _ | refine blk_drew ?_ | refine blk_alloc ?_ _)); refine blk_put (cs := #[.string (⟨#[]⟩ : ByteArray), .slice none 0 0, .bool false, .string (⟨#[]⟩ : ByteArray), .string (⟨#[]⟩ : ByteArray), .slice none 0 0, .slice none 0 0, .int .i64 0]) ?_ 0 _ rfl; (with_reducible repeat (first | refine blk_drewN ?_ _ | refine blk_drew ?_ | refine blk_alloc ?_ _)); refine blk_far ?_ NB741_752.out _; (with_reducible repeat (first | refine blk_drewN ?_ _ | refine blk_drew ?_ | refine blk_alloc ?_ _)); exact BK741.out) Try.underlying42 rfl zq18) rfl ?_
           exact ⟨_, _, _, zq16, by (with_reducible repeat (first | apply Kd.R_alloc | apply Kd.R_drewN | apply Kd.R_drew)); exact Kd.R_mono (Kd.R_far (p := ⟨gb741, 7, none⟩) (Kd.R_far (p := ⟨gb741, 6, none⟩) (Kd.R_far (p := ⟨gb741, 5, none⟩) (Kd.R_far (p := ⟨gb741, 4, none⟩) (Kd.R_far (p := ⟨gb741, 3, none⟩) (Kd.R_far (p := ⟨gb741, 2, none⟩) (Kd.R_far (p := ⟨gb741, 1, none⟩) (Kd.R_far (p := ⟨gb741, 0, none⟩) (Kd.R_far (p := ⟨gb752, 6, none⟩) (Kd.R_types (Kd.R_types HO_753001.out BK752.out (by decide)) BK741.out (by decide)) (fun _ hk => hk.1.2) (.slice Ao128 t865.length co128)) (fun _ hk => hk.2) (.string t747)) (fun _ hk => hk.2) (.slice Ao134 x753001_5.length co134)) (fun _ hk => hk.2) (.bool x753002_63)) (fun _ hk => hk.2) (.string x753003_63)) (fun _ hk => hk.2) (.string t808)) (fun _ hk => hk.2) (.slice Ao123 y853.length co123)) (fun _ hk => hk.2) (.slice Ao128 t865.length co128)) (fun _ hk => hk.2) (.int .i64 t742)) (fun _ hk => trivial), by (with_reducible repeat (first | apply Kd.R_alloc | apply Kd.R_drewN | apply Kd.R_drew)); exact Kd.R_mono (Kd.R_far (p := ⟨gb741, 7, none⟩) (Kd.R_far (p := ⟨gb741, 6, none⟩) (Kd.R_far (p := ⟨gb741, 5, none⟩) (Kd.R_far (p := ⟨gb741, 4, none⟩) (Kd.R_far (p := ⟨gb741, 3, none⟩) (Kd.R_far (p := ⟨gb741, 2, none⟩) (Kd.R_far (p := ⟨gb741, 1, none⟩) (Kd.R_far (p := ⟨gb741, 0, none⟩) (Kd.R_far (p := ⟨gb752, 6, none⟩) (Kd.R_types (Kd.R_types HO855.out BK752.out (by decide)) BK741.out (by decide)) (fun _ hk => hk.1.2) (.slice Ao128 t865.length co128)) (fun _ hk => hk.2) (.string t747)) (fun _ hk => hk.2) (.slice Ao134 x753001_5.length co134)) (fun _ hk => hk.2) (.bool x753002_63)) (fun _ hk => hk.2) (.string x753003_63)) (fun _ hk => hk.2) (.string t808)) (fun _ hk => hk.2) (.slice Ao123 y853.length co123)) (fun _ hk => hk.2) (.slice Ao128 t865.length co128)) (fun _ hk => hk.2) (.int .i64 t742)) (fun _ hk => trivial), by (with_reducible repeat (first | apply Kd.R_alloc | apply Kd.R_drewN | apply Kd.R_drew)); exact Kd.R_mono (Kd.R_far (p := ⟨gb741, 7, none⟩) (Kd.R_far (p := ⟨gb741, 6, none⟩) (Kd.R_far (p := ⟨gb741, 5, none⟩) (Kd.R_far (p := ⟨gb741, 4, none⟩) (Kd.R_far (p := ⟨gb741, 3, none⟩) (Kd.R_far (p := ⟨gb741, 2, none⟩) (Kd.R_far (p := ⟨gb741, 1, none⟩) (Kd.R_far (p := ⟨gb741, 0, none⟩) (Kd.R_far (p := ⟨gb752, 6, none⟩) (Kd.R_types (Kd.R_types HO867.out BK752.out (by decide)) BK741.out (by decide)) (fun _ hk => hk.1.2) (.slice Ao128 t865.length co128)) (fun _ hk => hk.2) (.string t747)) (fun _ hk => hk.2) (.slice Ao134 x753001_5.length co134)) (fun _ hk => hk.2) (.bool x753002_63)) (fun _ hk => hk.2) (.string x753003_63)) (fun _ hk => hk.2) (.string t808)) (fun _ hk => hk.2) (.slice Ao123 y853.length co123)) (fun _ hk => hk.2) (.slice Ao128 t865.length co128)) (fun _ hk => hk.2) (.int .i64 t742)) (fun _ hk => trivial), zq2, zq10, zq8⟩
         ·
          rw [if_neg c107] at H
          exact absurd H (by simp)
        ·
         rw [if_neg c105] at H
         have c105b0 := beq_eq_false_iff_ne.mpr c105
         have c105b1 := bne_iff_ne.mpr c105
         replace H := Option.bind_eq_some_iff.mp H
         obtain ⟨⟨t837, t838, t839, t840⟩, A1350, H⟩ := H
         (try dsimp only at H)
         have A135 := za A1350
         clear A1350
         replace H := Option.bind_eq_some_iff.mp H
         obtain ⟨⟨t841, t844, t845, t846, t847⟩, A1360, H⟩ := H
         (try dsimp only at H)
         have A136 := za A1360
         clear A1360
         simp only [Option.some.injEq, Prod.mk.injEq] at H
         obtain ⟨rfl, rfl, rfl, rfl, rfl, rfl, rfl, rfl, rfl, rfl, rfl, rfl⟩ := H
         obtain ⟨ASz137_0, cSz137_0, HGz137, hgz137, HSz137_0⟩ := HI0.out
         have hcz137_0 := cellS57_0 HGz137
         have hcz137_1 := cellS57_1 HGz137
         have hcz137_2 := cellS57_2 HGz137
         have hcz137_3 := cellS57_3 HGz137
         have hcz137_4 := cellS57_4 HGz137
         have hfz137_1 := blk_frozen HGz137 1
         have hfz137_2 := blk_frozen HGz137 2
         have hfz137_3 := blk_frozen HGz137 3
         have hfz137_4 := blk_frozen HGz137 4
         clear HGz137 hgz137
         go_wp2_with (first | ((with_reducible refine gate_callee (f := 21) rfl ?_); refine goesL_ (some 75) rfl rfl Try.func21 zq18 rfl #[.pointer (some ⟨g, 0, none⟩), .string (⟨#[125]⟩ : ByteArray)] rfl zq1 ?_; (with_reducible refine (rr_want.calls g s0_0 x1001_3 x1002_3 x1003_3 x1004_3 (⟨#[125]⟩ : ByteArray) t837 t838 t839 t840 w0 _ ?side1 ?side2 A135.out).mono ?_); (case side1 => exact zq2); (case side2 => exact zq10); rintro e w138 ⟨rfl, hi, hb, hk⟩; refine ⟨_, rfl, ?_⟩; replace HO_753001 := za (Kd.R_mono (Kd.R_keep (IsS57.apart (show IsS57 w0 _ g s0_0 x1001_3 x1002_3 x1003_3 x1004_3 from zq2) (zr HO_753001.out) (by decide)) hk (fun _ h => h.2)) (fun _ h => h.1)); replace HO_753005 := za (Kd.R_mono (Kd.R_keep (IsS57.apart (show IsS57 w0 _ g s0_0 x1001_3 x1002_3 x1003_3 x1004_3 from zq2) (zr HO_753005.out) (by decide)) hk (fun _ h => h.2)) (fun _ h => h.1)); replace BK741 := za (KeepBut.blk hk (g' := gb741) (zb BK741.out) NB741_0.out (by simp)); replace BK752 := za (KeepBut.blk hk (g' := gb752) (zb BK752.out) NB752_0.out (by simp)); replace HK := za (KeepBut.trans zq8 hk (.inl rfl)); replace HB := za (hb); replace HI0 := za (hi)) | ((with_reducible refine gate_callee (f := 32) rfl ?_); refine goesL_ (some 77) rfl rfl Try.func32 zq18 rfl #[.pointer (some ⟨g, 0, none⟩)] rfl zq1 ?_; (with_reducible refine (rr_block.calls k3 g s0_0 t837 t838 t839 t840 t841 t844 t845 t846 t847 w0 _ ?side1 ?side2 A136.out).mono ?_); (case side1 => exact zq2); (case side2 => exact zq10); rintro e w139 ⟨v842, rfl, ho0, hi, hb, hk⟩; refine ⟨_, rfl, ?_⟩; replace HO_753001 := za (Kd.R_mono (Kd.R_keep (IsS57.apart (show IsS57 w0 _ g s0_0 t837 t838 t839 t840 from zq2) (zr HO_753001.out) (by decide)) hk (fun _ h => h.2)) (fun _ h => h.1)); replace HO_753005 := za (Kd.R_mono (Kd.R_keep (IsS57.apart (show IsS57 w0 _ g s0_0 t837 t838 t839 t840 from zq2) (zr HO_753005.out) (by decide)) hk (fun _ h => h.2)) (fun _ h => h.1)); replace BK741 := za (KeepBut.blk hk (g' := gb741) (zb BK741.out) NB741_0.out (by simp)); replace BK752 := za (KeepBut.blk hk (g' := gb752) (zb BK752.out) NB752_0.out (by simp)); have HO843 := za (Kd.R_lower ho0 (keep_size (w := w) (g := g) (row := none) zq8)); replace HK := za (KeepBut.trans zq8 hk (.inl rfl)); replace HB := za (hb); replace HI0 := za (hi); (try clear hb hk hi ho0); obtain ⟨Ao140, co140, eo140⟩ := Kd.R_slice HO843.out; subst eo140; have hnb141 := NB752_741.out; have hnc141 := NB741_752.out; have hnb142 := NB752_0.out; have hnc142 := NB0_752.out; obtain ⟨hcz143_0, hcz143_1, hcz143_2, hcz143_3, hcz143_4, hcz143_5, hcz143_6, hcz143_7⟩ := zc8 BK752.out; obtain ⟨hfz143_0, hfz143_1, hfz143_2, hfz143_3, hfz143_4, hfz143_5, hfz143_6, hfz143_7⟩ := zf8 BK752.out; have hnb144 := NB741_0.out; have hnc144 := NB0_741.out; obtain ⟨hcz145_0, hcz145_1, hcz145_2, hcz145_3, hcz145_4, hcz145_5, hcz145_6, hcz145_7⟩ := zc8 BK741.out; obtain ⟨hfz145_0, hfz145_1, hfz145_2, hfz145_3, hfz145_4, hfz145_5, hfz145_6, hfz145_7⟩ := zf8 BK741.out; obtain ⟨Ao146, co146, eo146⟩ := Kd.R_slice HO_753001.out; subst eo146; obtain ⟨Ao147, co147, eo147⟩ := Kd.R_slice HO_753005.out; subst eo147))
         refine bodyPost_ret (results_cell_row rfl _ _ gb741 42 #[.string t747, .slice Ao146 x753001_5.length co146, .bool x753002_63, .string x753003_63, .string t808, .slice Ao147 x753005_3.length co147, .slice Ao140 t841.length co140, .int .i64 t742] (0, 0) _ rfl (by (with_reducible repeat (first | refine blk_drewN ?_ _ | refine blk_drew ?_ | refine blk_alloc ?_ _)); refine blk_put (cs := #[.string t747, .slice Ao146 x753001_5.length co146, .bool x753002_63, .string x753003_63, .string t808, .slice Ao147 x753005_3.length co147, .slice Ao140 t841.length co140, .int .i64 0]) ?_ 7 _ rfl; (with_reducible repeat (first | refine blk_drewN ?_ _ | refine blk_drew ?_ | refine blk_alloc ?_ _)); refine blk_put (cs := #[.string t747, .slice Ao146 x753001_5.length co146, .bool x753002_63, .string x753003_63, .string t808, .slice Ao147 x753005_3.length co147, .slice none 0 0, .int .i64 0]) ?_ 6 _ rfl; (with_reducible repeat (first | refine blk_drewN ?_ _ | refine blk_drew ?_ | refine blk_alloc ?_ _)); refine blk_put (cs := #[.string t747, .slice Ao146 x753001_5.length co146, .bool x753002_63, .string x753003_63, .string t808, .slice none 0 0, .slice none 0 0, .int .i64 0]) ?_ 5 _ rfl; (with_reducible repeat (first | refine blk_drewN ?_ _ | refine blk_drew ?_ | refine blk_alloc ?_ _)); refine blk_put (cs := #[.string t747, .slice Ao146 x753001_5.length co146, .bool x753002_63, .string x753003_63, .string (⟨#[]⟩ : ByteArray), .slice none 0 0, .slice none 0 0, .int .i64 0]) ?_ 4 _ rfl; (with_reducible repeat (first | refine blk_drewN ?_ _ | refine blk_drew ?_ | refine blk_alloc ?_ _)); refine blk_put (cs := #[.string t747, .slice Ao146 x753001_5.length co146, .bool x753002_63, .string (⟨#[]⟩ : ByteArray), .string (⟨#[]⟩ : ByteArray), .slice none 0 0, .slice none 0 0, .int .i64 0]) ?_ 3 _ rfl; (with_reducible repeat (first | refine blk_drewN ?_ _ | refine blk_drew ?_ | refine blk_alloc ?_ _)); refine blk_put (cs := #[.string t747, .slice Ao146 x753001_5.length co146, .bool false, .string (⟨#[]⟩ : ByteArray), .string (⟨#[]⟩ : ByteArray), .slice none 0 0, .slice none 0 0, .int .i64 0]) ?_ 2 _ rfl; (with_reducible repeat (first | refine blk_drewN ?_ _ | refine blk_drew ?_ | refine blk_alloc ?_ _)); refine blk_put (cs := #[.string t747, .slice none 0 0, .bool false, .string (⟨#[]⟩ : ByteArray), .string (⟨#[]⟩ : ByteArray), .slice none 0 0, .slice none 0 0, .int .i64 0]) ?_ 1 _ rfl; (with_reducible repeat (first | refine blk_drewN ?_ _ | refine blk_drew ?_ | refine blk_alloc ?_ _)); refine blk_put (cs := #[.string (⟨#[]⟩ : ByteArray), .slice none 0 0, .bool false, .string (⟨#[]⟩ : ByteArray), .string (⟨#[]⟩ : ByteArray), .slice none 0 0, .slice none 0 0, .int .i64 0]) ?_ 0 _ rfl; (with_reducible repeat (first | refine blk_drewN ?_ _ | refine blk_drew ?_ | refine blk_alloc ?_ _)); refine blk_far ?_ NB741_752.out _; (with_reducible repeat (first | refine blk_drewN ?_ _ | refine blk_drew ?_ | refine blk_alloc ?_ _)); exact BK741.out) Try.underlying42 rfl zq18) rfl ?_
         exact ⟨_, _, _, zq16, by (with_reducible repeat (first | apply Kd.R_alloc | apply Kd.R_drewN | apply Kd.R_drew)); exact Kd.R_mono (Kd.R_far (p := ⟨gb741, 7, none⟩) (Kd.R_far (p := ⟨gb741, 6, none⟩) (Kd.R_far (p := ⟨gb741, 5, none⟩) (Kd.R_far (p := ⟨gb741, 4, none⟩) (Kd.R_far (p := ⟨gb741, 3, none⟩) (Kd.R_far (p := ⟨gb741, 2, none⟩) (Kd.R_far (p := ⟨gb741, 1, none⟩) (Kd.R_far (p := ⟨gb741, 0, none⟩) (Kd.R_far (p := ⟨gb752, 6, none⟩) (Kd.R_types (Kd.R_types HO_753001.out BK752.out (by decide)) BK741.out (by decide)) (fun _ hk => hk.1.2) (.slice Ao140 t841.length co140)) (fun _ hk => hk.2) (.string t747)) (fun _ hk => hk.2) (.slice Ao146 x753001_5.length co146)) (fun _ hk => hk.2) (.bool x753002_63)) (fun _ hk => hk.2) (.string x753003_63)) (fun _ hk => hk.2) (.string t808)) (fun _ hk => hk.2) (.slice Ao147 x753005_3.length co147)) (fun _ hk => hk.2) (.slice Ao140 t841.length co140)) (fun _ hk => hk.2) (.int .i64 t742)) (fun _ hk => trivial), by (with_reducible repeat (first | apply Kd.R_alloc | apply Kd.R_drewN | apply Kd.R_drew)); exact Kd.R_mono (Kd.R_far (p := ⟨gb741, 7, none⟩) (Kd.R_far (p := ⟨gb741, 6, none⟩) (Kd.R_far (p := ⟨gb741, 5, none⟩) (Kd.R_far (p := ⟨gb741, 4, none⟩) (Kd.R_far (p := ⟨gb741, 3, none⟩) (Kd.R_far (p := ⟨gb741, 2, none⟩) (Kd.R_far (p := ⟨gb741, 1, none⟩) (Kd.R_far (p := ⟨gb741, 0, none⟩) (Kd.R_far (p := ⟨gb752, 6, none⟩) (Kd.R_types (Kd.R_types HO_753005.out BK752.out (by decide)) BK741.out (by decide)) (fun _ hk => hk.1.2) (.slice Ao140 t841.length co140)) (fun _ hk => hk.2) (.string t747)) (fun _ hk => hk.2) (.slice Ao146 x753001_5.length co146)) (fun _ hk => hk.2) (.bool x753002_63)) (fun _ hk => hk.2) (.string x753003_63)) (fun _ hk => hk.2) (.string t808)) (fun _ hk => hk.2) (.slice Ao147 x753005_3.length co147)) (fun _ hk => hk.2) (.slice Ao140 t841.length co140)) (fun _ hk => hk.2) (.int .i64 t742)) (fun _ hk => trivial), by (with_reducible repeat (first | apply Kd.R_alloc | apply Kd.R_drewN | apply Kd.R_drew)); exact Kd.R_mono (Kd.R_far (p := ⟨gb741, 7, none⟩) (Kd.R_far (p := ⟨gb741, 6, none⟩) (Kd.R_far (p := ⟨gb741, 5, none⟩) (Kd.R_far (p := ⟨gb741, 4, none⟩) (Kd.R_far (p := ⟨gb741, 3, none⟩) (Kd.R_far (p := ⟨gb741, 2, none⟩) (Kd.R_far (p := ⟨gb741, 1, none⟩) (Kd.R_far (p := ⟨gb741, 0, none⟩) (Kd.R_far (p := ⟨gb752, 6, none⟩) (Kd.R_types (Kd.R_types HO843.out BK752.out (by decide)) BK741.out (by decide)) (fun _ hk => hk.1.2) (.slice Ao140 t841.length co140)) (fun _ hk => hk.2) (.string t747)) (fun _ hk => hk.2) (.slice Ao146 x753001_5.length co146)) (fun _ hk => hk.2) (.bool x753002_63)) (fun _ hk => hk.2) (.string x753003_63)) (fun _ hk => hk.2) (.string t808)) (fun _ hk => hk.2) (.slice Ao147 x753005_3.length co147)) (fun _ hk => hk.2) (.slice Ao140 t841.length co140)) (fun _ hk => hk.2) (.int .i64 t742)) (fun _ hk => trivial), zq2, zq10, zq8⟩
end Go.Proofs.Ytcmpmlklednhbaa.QEvalJoins
