import Derived.Test.YtcjnhnnfoadklaaZRBx12
namespace Go.Proofs.Ytcjnhnnfoadklaa.QRunBranches
open Go.RowKit Go.Proofs.YtcjnhnnfoadklaaW.PrintWords Go.Proofs.YtcjnhnnfoadklaaW.PrintLast Go.Proofs.YtcjnhnnfoadklaaW.PrintMore
attribute [local go_sem] max2_int min2_int max_two min_two max_three min_three max_four min_four
set_option linter.unusedVariables false
set_option linter.unusedSimpArgs false
mutual
def rr_proc.j1 : Nat → List (S110) → Int → Int → Int → Int → ByteArray → List (S100) → Bool → ByteArray → ByteArray → Int → Option (ByteArray × (List (S100)) × Bool × ByteArray × ByteArray × List ByteArray × (List (S91)) × Int × Int × Int × Int × Int)
 | 0, _, _, _, _, _, _, _, _, _, _, _ => none
 | k + 1, x1000, x1001, x1002, x1003, x1004, x633000, x633001, x633002, x633003, x633004, x633007 => (rr_want.f x1000 x1001 x1002 x1003 x1004 (⟨#[41]⟩ : ByteArray)).bind fun bt670 => ((rr_take.f x1000 bt670.1 bt670.2.1 bt670.2.2.1 bt670.2.2.2 (⟨#[45, 62]⟩ : ByteArray)).bind fun bt674 => (if bt674.1 = true then ((rr_name.f x1000 bt674.2.1 bt674.2.2.1 bt674.2.2.2.1 bt674.2.2.2.2).bind fun bt679 => (rr_proc.j2 k x1000 bt679.2.1 bt679.2.2.1 bt679.2.2.2.1 bt679.2.2.2.2 x633000 x633001 true bt679.1 x633004 x633007)) else (rr_proc.j2 k x1000 bt674.2.1 bt674.2.2.1 bt674.2.2.2.1 bt674.2.2.2.2 x633000 x633001 x633002 x633003 x633004 x633007)))
def rr_proc.j2 : Nat → List (S110) → Int → Int → Int → Int → ByteArray → List (S100) → Bool → ByteArray → ByteArray → Int → Option (ByteArray × (List (S100)) × Bool × ByteArray × ByteArray × List ByteArray × (List (S91)) × Int × Int × Int × Int × Int)
 | 0, _, _, _, _, _, _, _, _, _, _, _ => none
 | k + 1, x1000, x1001, x1002, x1003, x1004, x633000, x633001, x633002, x633003, x633004, x633007 => (rr_want.f x1000 x1001 x1002 x1003 x1004 (⟨#[112, 99]⟩ : ByteArray)).bind fun bt684 => ((rr_name.f x1000 bt684.1 bt684.2.1 bt684.2.2.1 bt684.2.2.2).bind fun bt688 => ((rr_want.f x1000 bt688.2.1 bt688.2.2.1 bt688.2.2.2.1 bt688.2.2.2.2 (⟨#[117, 115, 101, 115]⟩ : ByteArray)).bind fun bt693 => ((rr_want.f x1000 bt693.1 bt693.2.1 bt693.2.2.1 bt693.2.2.2 (⟨#[123]⟩ : ByteArray)).bind fun bt697 => ((rr_is.f x1000 bt697.1 bt697.2.1 bt697.2.2.1 bt697.2.2.2 (⟨#[125]⟩ : ByteArray)).bind fun bt701 => (if bt701.1 = true then ((rr_want.f x1000 bt701.2.1 bt701.2.2.1 bt701.2.2.2.1 bt701.2.2.2.2 (⟨#[125]⟩ : ByteArray)).bind fun bt706 => ((rr_block.f k x1000 bt706.1 bt706.2.1 bt706.2.2.1 bt706.2.2.2).bind fun bt710 => (some (x633000, x633001, x633002, x633003, bt688.1, ([] : List ByteArray), bt710.1, x633007, bt710.2.1, bt710.2.2.1, bt710.2.2.2.1, bt710.2.2.2.2)))) else (rr_proc.l1 k x1000 bt701.2.1 bt701.2.2.1 bt701.2.2.2.1 bt701.2.2.2.2 x633000 x633001 x633002 x633003 bt688.1 ([] : List ByteArray) x633007))))))
def rr_proc.l1 : Nat → List (S110) → Int → Int → Int → Int → ByteArray → List (S100) → Bool → ByteArray → ByteArray → List ByteArray → Int → Option (ByteArray × (List (S100)) × Bool × ByteArray × ByteArray × List ByteArray × (List (S91)) × Int × Int × Int × Int × Int)
 | 0, _, _, _, _, _, _, _, _, _, _, _, _ => none
 | k + 1, x1000, x1001, x1002, x1003, x1004, x633000, x633001, x633002, x633003, x633004, x633005, x633007 => if x1003 = 0 then ((rr_name.f x1000 x1001 x1002 x1003 x1004).bind fun bt717 => (if x633005.length < 8796093022208 then ((some (x633005 ++ [bt717.1] : List ByteArray)).bind fun y722 => ((rr_take.f x1000 bt717.2.1 bt717.2.2.1 bt717.2.2.2.1 bt717.2.2.2.2 (⟨#[44]⟩ : ByteArray)).bind fun bt725 => (if bt725.1 = true then (rr_proc.l1 k x1000 bt725.2.1 bt725.2.2.1 bt725.2.2.2.1 bt725.2.2.2.2 x633000 x633001 x633002 x633003 x633004 y722 x633007) else ((rr_want.f x1000 bt725.2.1 bt725.2.2.1 bt725.2.2.2.1 bt725.2.2.2.2 (⟨#[125]⟩ : ByteArray)).bind fun bt730 => ((rr_block.f k x1000 bt730.1 bt730.2.1 bt730.2.2.1 bt730.2.2.2).bind fun bt734 => (some (x633000, x633001, x633002, x633003, x633004, y722, bt734.1, x633007, bt734.2.1, bt734.2.2.1, bt734.2.2.2.1, bt734.2.2.2.2))))))) else (none))) else (none)
def rr_proc.l0 : Nat → List (S110) → Int → Int → Int → Int → ByteArray → List (S100) → Bool → ByteArray → ByteArray → Int → Option (ByteArray × (List (S100)) × Bool × ByteArray × ByteArray × List ByteArray × (List (S91)) × Int × Int × Int × Int × Int)
 | 0, _, _, _, _, _, _, _, _, _, _, _ => none
 | k + 1, x1000, x1001, x1002, x1003, x1004, x633000, x633001, x633002, x633003, x633004, x633007 => if x1003 = 0 then ((rr_here.f x1000 x1001 x1002 x1003 x1004).bind fun bt642 => ((rr_name.f x1000 bt642.2.1 bt642.2.2.1 bt642.2.2.2.1 bt642.2.2.2.2).bind fun bt647 => ((rr_want.f x1000 bt647.2.1 bt647.2.2.1 bt647.2.2.2.1 bt647.2.2.2.2 (⟨#[58]⟩ : ByteArray)).bind fun bt653 => ((rr_name.f x1000 bt653.1 bt653.2.1 bt653.2.2.1 bt653.2.2.2).bind fun bt657 => (if x633001.length < 3518437208883 then ((some (x633001 ++ [(⟨bt647.1, bt657.1, bt642.1⟩ : S100)] : List (S100))).bind fun y662 => ((rr_take.f x1000 bt657.2.1 bt657.2.2.1 bt657.2.2.2.1 bt657.2.2.2.2 (⟨#[44]⟩ : ByteArray)).bind fun bt665 => (if bt665.1 = true then (rr_proc.l0 k x1000 bt665.2.1 bt665.2.2.1 bt665.2.2.2.1 bt665.2.2.2.2 x633000 y662 x633002 x633003 x633004 x633007) else (rr_proc.j1 k x1000 bt665.2.1 bt665.2.2.1 bt665.2.2.2.1 bt665.2.2.2.2 x633000 y662 x633002 x633003 x633004 x633007)))) else (none)))))) else (rr_proc.j1 k x1000 x1001 x1002 x1003 x1004 x633000 x633001 x633002 x633003 x633004 x633007)
end
def rr_proc.f (k : Nat) (s0_0 : List (S110)) (s0_1 : Int) (s0_2 : Int) (s0_3 : Int) (s0_4 : Int) : Option (ByteArray × (List (S100)) × Bool × ByteArray × ByteArray × List ByteArray × (List (S91)) × Int × Int × Int × Int × Int) := (rr_here.f s0_0 s0_1 s0_2 s0_3 s0_4).bind fun bt622 => ((rr_name.f s0_0 bt622.2.1 bt622.2.2.1 bt622.2.2.2.1 bt622.2.2.2.2).bind fun bt627 => ((rr_want.f s0_0 bt627.2.1 bt627.2.2.1 bt627.2.2.2.1 bt627.2.2.2.2 (⟨#[40]⟩ : ByteArray)).bind fun bt633 => ((rr_is.f s0_0 bt633.1 bt633.2.1 bt633.2.2.1 bt633.2.2.2 (⟨#[41]⟩ : ByteArray)).bind fun bt637 => (if bt637.1 = true then (rr_proc.j1 k s0_0 bt637.2.1 bt637.2.2.1 bt637.2.2.2.1 bt637.2.2.2.2 bt627.1 ([] : List (S100)) false (⟨#[]⟩ : ByteArray) (⟨#[]⟩ : ByteArray) bt622.1) else (rr_proc.l0 k s0_0 bt637.2.1 bt637.2.2.1 bt637.2.2.2.1 bt637.2.2.2.2 bt627.1 ([] : List (S100)) false (⟨#[]⟩ : ByteArray) (⟨#[]⟩ : ByteArray) bt622.1)))))
theorem rr_proc.mono_l : ∀ k, (∀ y0 y1 y2 y3 y4 y5 y6 y7 y8 y9 y10, LeO (rr_proc.j1 k y0 y1 y2 y3 y4 y5 y6 y7 y8 y9 y10) (rr_proc.j1 (k + 1) y0 y1 y2 y3 y4 y5 y6 y7 y8 y9 y10)) ∧ (∀ y0 y1 y2 y3 y4 y5 y6 y7 y8 y9 y10, LeO (rr_proc.j2 k y0 y1 y2 y3 y4 y5 y6 y7 y8 y9 y10) (rr_proc.j2 (k + 1) y0 y1 y2 y3 y4 y5 y6 y7 y8 y9 y10)) ∧ (∀ y0 y1 y2 y3 y4 y5 y6 y7 y8 y9 y10 y11, LeO (rr_proc.l1 k y0 y1 y2 y3 y4 y5 y6 y7 y8 y9 y10 y11) (rr_proc.l1 (k + 1) y0 y1 y2 y3 y4 y5 y6 y7 y8 y9 y10 y11)) ∧ (∀ y0 y1 y2 y3 y4 y5 y6 y7 y8 y9 y10, LeO (rr_proc.l0 k y0 y1 y2 y3 y4 y5 y6 y7 y8 y9 y10) (rr_proc.l0 (k + 1) y0 y1 y2 y3 y4 y5 y6 y7 y8 y9 y10))
 | 0 => ⟨fun _ _ _ _ _ _ _ _ _ _ _ r h => by simp [rr_proc.j1] at h, fun _ _ _ _ _ _ _ _ _ _ _ r h => by simp [rr_proc.j2] at h, fun _ _ _ _ _ _ _ _ _ _ _ _ r h => by simp [rr_proc.l1] at h, fun _ _ _ _ _ _ _ _ _ _ _ r h => by simp [rr_proc.l0] at h⟩
 | k + 1 => by
  obtain ⟨ih0, ih1, ih2, ih3⟩ := rr_proc.mono_l k
  refine ⟨?_, ?_, ?_, ?_⟩
  ·
   intro y0 y1 y2 y3 y4 y5 y6 y7 y8 y9 y10
   unfold rr_proc.j1
   repeat' with_reducible first | apply ih0 | apply ih1 | apply ih2 | apply ih3 | apply rr_block.mono | exact LeO.refl _ | exact LeO.none _ | refine LeO.ite ?_ ?_ | refine LeO.bind ?_ (fun _ => ?_)
  ·
   intro y0 y1 y2 y3 y4 y5 y6 y7 y8 y9 y10
   unfold rr_proc.j2
   repeat' with_reducible first | apply ih0 | apply ih1 | apply ih2 | apply ih3 | apply rr_block.mono | exact LeO.refl _ | exact LeO.none _ | refine LeO.ite ?_ ?_ | refine LeO.bind ?_ (fun _ => ?_)
  ·
   intro y0 y1 y2 y3 y4 y5 y6 y7 y8 y9 y10 y11
   unfold rr_proc.l1
   repeat' with_reducible first | apply ih0 | apply ih1 | apply ih2 | apply ih3 | apply rr_block.mono | exact LeO.refl _ | exact LeO.none _ | refine LeO.ite ?_ ?_ | refine LeO.bind ?_ (fun _ => ?_)
  ·
   intro y0 y1 y2 y3 y4 y5 y6 y7 y8 y9 y10
   unfold rr_proc.l0
   repeat' with_reducible first | apply ih0 | apply ih1 | apply ih2 | apply ih3 | apply rr_block.mono | exact LeO.refl _ | exact LeO.none _ | refine LeO.ite ?_ ?_ | refine LeO.bind ?_ (fun _ => ?_)
theorem rr_proc.mono : ∀ a0 a1 a2 a3 a4 k, LeO (rr_proc.f k a0 a1 a2 a3 a4) (rr_proc.f (k + 1) a0 a1 a2 a3 a4) := by
 intro a0 a1 a2 a3 a4 k
 obtain ⟨ih0, ih1, ih2, ih3⟩ := rr_proc.mono_l k
 unfold rr_proc.f
 repeat' with_reducible first | apply ih0 | apply ih1 | apply ih2 | apply ih3 | apply rr_block.mono | exact LeO.refl _ | exact LeO.none _ | refine LeO.ite ?_ ?_ | refine LeO.bind ?_ (fun _ => ?_)
def rr_proc.T20 : Bool × List (List Nat × List Nat) := (true, [([], []), ([0], [0]), ([], []), ([2], [2]), ([3], [3]), ([1, 4, 3], [1, 4]), ([0, 1, 2, 3, 4, 5], []), ([6, 5, 5, 0, 1, 2, 3, 4, 5], [5, 6])])
def rr_proc.B20 : List Nat := [0, 1, 0, 4, 12, 31, 63, 127]
theorem rr_proc.tab20 : rtab .any (opsOf Try.f50 20) = rr_proc.T20 := by kernel_rfl
theorem rr_proc.bits20 : waitsOk rr_proc.T20.2 rr_proc.B20 = true := by kernel_rfl
set_option maxHeartbeats 8000000 in
set_option maxRecDepth 100000 in
theorem rr_proc.calls (k : Nat) (g : Nat) (s0_0 : List (S110)) (s0_1 : Int) (s0_2 : Int) (s0_3 : Int) (s0_4 : Int) (r1 : ByteArray) (r2 : List (S100)) (r3 : Bool) (r4 : ByteArray) (r5 : ByteArray) (r6 : List ByteArray) (r7 : List (S91)) (r8 : Int) (r9 : Int) (r10 : Int) (r11 : Int) (r12 : Int) (w0 w : World) (hI : IsS83 w0 w g s0_0 s0_1 s0_2 s0_3 s0_4) (hB : Below w0.heap.size w0 w) (h : rr_proc.f k s0_0 s0_1 s0_2 s0_3 s0_4 = some (r1, r2, r3, r4, r5, r6, r7, r8, r9, r10, r11, r12)) :
  Calls Try.prog 50 #[.pointer (some ⟨g, 0, none⟩)] w fun e w' => ∃ v1_ v5_ v6_ : Value, e = .returned (.agg #[.string r1, v1_, .bool r3, .string r4, .string r5, v5_, v6_, .int .i64 r8]) ∧ Kd.R k100 100 w' w.heap.size (fun _ => True) v1_ r2 ∧ Kd.R Kd.string 9 w' w.heap.size (fun _ => True) v5_ r6 ∧ Kd.R k91 91 w' w.heap.size (fun _ => True) v6_ r7 ∧ IsS83 w0 w' g s0_0 r9 r10 r11 r12 ∧ Below w0.heap.size w0 w' ∧ KeepBut w w' g none := by
 have hu44 := Try.underlying44
 have hu100 := Try.underlying100
 have HI0 := za hI
 have HK := za (KeepBut.refl w g none)
 have HL := za hB.size
 clear hI
 have HW0 := za hB.size
 have HB := za hB
 clear hB
 have H : ((rr_here.f s0_0 s0_1 s0_2 s0_3 s0_4).bind fun bt622 => ((rr_name.f s0_0 bt622.2.1 bt622.2.2.1 bt622.2.2.2.1 bt622.2.2.2.2).bind fun bt627 => ((rr_want.f s0_0 bt627.2.1 bt627.2.2.1 bt627.2.2.2.1 bt627.2.2.2.2 (⟨#[40]⟩ : ByteArray)).bind fun bt633 => ((rr_is.f s0_0 bt633.1 bt633.2.1 bt633.2.2.1 bt633.2.2.2 (⟨#[41]⟩ : ByteArray)).bind fun bt637 => (if bt637.1 = true then (rr_proc.j1 k s0_0 bt637.2.1 bt637.2.2.1 bt637.2.2.2.1 bt637.2.2.2.2 bt627.1 ([] : List (S100)) false (⟨#[]⟩ : ByteArray) (⟨#[]⟩ : ByteArray) bt622.1) else (rr_proc.l0 k s0_0 bt637.2.1 bt637.2.2.1 bt637.2.2.2.1 bt637.2.2.2.2 bt627.1 ([] : List (S100)) false (⟨#[]⟩ : ByteArray) (⟨#[]⟩ : ByteArray) bt622.1)))))) = some (r1, r2, r3, r4, r5, r6, r7, r8, r9, r10, r11, r12) := h
 clear h
 replace H := Option.bind_eq_some_iff.mp H
 obtain ⟨⟨t622, t623, t624, t625, t626⟩, A20, H⟩ := H
 (try dsimp only at H)
 have A2 := za A20
 clear A20
 replace H := Option.bind_eq_some_iff.mp H
 obtain ⟨⟨t627, t628, t629, t630, t631⟩, A30, H⟩ := H
 (try dsimp only at H)
 have A3 := za A30
 clear A30
 replace H := Option.bind_eq_some_iff.mp H
 obtain ⟨⟨t633, t634, t635, t636⟩, A40, H⟩ := H
 (try dsimp only at H)
 have A4 := za A40
 clear A40
 replace H := Option.bind_eq_some_iff.mp H
 obtain ⟨⟨t637, t638, t639, t640, t641⟩, A50, H⟩ := H
 (try dsimp only at H)
 have A5 := za A50
 clear A50
 have HC6 := za H
 clear H
 go_enter Try.func50, Try.ntmps50
 go_upto_if 14 with (first | ((with_reducible refine gate_dst (N := 2) rfl ?_); refine box_event ?hg (N := 2) ?hd (cs := #[.string (⟨#[]⟩ : ByteArray), .slice none 0 0, .bool false, .string (⟨#[]⟩ : ByteArray), .string (⟨#[]⟩ : ByteArray), .slice none 0 0, .slice none 0 0, .int .i64 0]) (t := 44) ?hr ?_; (case hd => rfl); (case hg => rfl); (case hr => exact zq19); intro gb621 hg w7 hbox hb; replace HB := za (below_step zq4 hb); have BK621 := za (hbox); have GW621 := za ((by rw [hg]; exact (keep_size (w := w) (g := g) (row := none) zq7) : w.heap.size ≤ gb621)); have GE621 := za ((Nat.le_trans HW0.out (by rw [hg]; exact (keep_size (w := w) (g := g) (row := none) zq7) : w.heap.size ≤ gb621) : w0.heap.size ≤ gb621)); replace HK := za (KeepBut.trans zq7 (KeepBut.of_below hb g none) (.inl rfl)); have NB0_621 := za ((by rw [hg]; exact Nat.ne_of_lt (IsS83.lt (show IsS83 w0 _ g s0_0 s0_1 s0_2 s0_3 s0_4 from zq0)) : g ≠ gb621)); have NB621_0 := za ((by rw [hg]; exact Nat.ne_of_gt (IsS83.lt (show IsS83 w0 _ g s0_0 s0_1 s0_2 s0_3 s0_4 from zq0)) : gb621 ≠ g)); replace HI0 := za (IsS83.below zq0 hb); clear hb hbox hg) | ((with_reducible refine gate_callee (f := 46) rfl ?_); refine goesL_ (some 6) rfl rfl Try.func46 zq13 rfl #[.pointer (some ⟨g, 0, none⟩)] rfl zq2 ?_; (with_reducible refine (rr_here.calls g s0_0 s0_1 s0_2 s0_3 s0_4 t622 t623 t624 t625 t626 w0 _ ?side1 ?side2 A2.out).mono ?_); (case side1 => exact zq47); (case side2 => exact zq77); rintro e w8 ⟨rfl, hi, hb, hk⟩; refine ⟨_, rfl, ?_⟩; replace BK621 := za (KeepBut.blk hk (g' := gb621) (zb BK621.out) NB621_0.out (by simp)); replace HK := za (KeepBut.trans zq66 hk (.inl rfl)); replace HB := za (hb); replace HI0 := za (hi); (try clear hb hk hi)) | ((with_reducible refine gate_callee (f := 47) rfl ?_); refine goesL_ (some 8) rfl rfl Try.func47 zq13 rfl #[.pointer (some ⟨g, 0, none⟩)] rfl zq2 ?_; (with_reducible refine (rr_name.calls g s0_0 t623 t624 t625 t626 t627 t628 t629 t630 t631 w0 _ ?side1 ?side2 A3.out).mono ?_); (case side1 => exact zq47); (case side2 => exact zq77); rintro e w9 ⟨rfl, hi, hb, hk⟩; refine ⟨_, rfl, ?_⟩; replace BK621 := za (KeepBut.blk hk (g' := gb621) (zb BK621.out) NB621_0.out (by simp)); replace HK := za (KeepBut.trans zq66 hk (.inl rfl)); replace HB := za (hb); replace HI0 := za (hi); (try clear hb hk hi)) | ((with_reducible refine gate_dst (N := 3) rfl ?_); refine box_event ?hg (N := 3) ?hd (cs := #[.string (⟨#[]⟩ : ByteArray), .slice none 0 0, .bool false, .string (⟨#[]⟩ : ByteArray), .string (⟨#[]⟩ : ByteArray), .slice none 0 0, .slice none 0 0, .int .i64 0]) (t := 44) ?hr ?_; (case hd => rfl); (case hg => rfl); (case hr => exact zq19); intro gb632 hg w10 hbox hb; replace HB := za (below_step zq77 hb); have BK632 := za (hbox); have GW632 := za ((by rw [hg]; exact (keep_size (w := w) (g := g) (row := none) zq66) : w.heap.size ≤ gb632)); have GE632 := za ((Nat.le_trans HW0.out (by rw [hg]; exact (keep_size (w := w) (g := g) (row := none) zq66) : w.heap.size ≤ gb632) : w0.heap.size ≤ gb632)); replace HK := za (KeepBut.trans zq66 (KeepBut.of_below hb g none) (.inl rfl)); have NB621_632 := za ((by rw [hg]; exact Nat.ne_of_lt (blk_lt (g := gb621) (zb BK621.out)) : gb621 ≠ gb632)); have NB632_621 := za ((by rw [hg]; exact Nat.ne_of_gt (blk_lt (g := gb621) (zb BK621.out)) : gb632 ≠ gb621)); replace BK621 := za (blk_below (g := gb621) (zb BK621.out) hb); have NB0_632 := za ((by rw [hg]; exact Nat.ne_of_lt (IsS83.lt (show IsS83 w0 _ g s0_0 t628 t629 t630 t631 from zq47)) : g ≠ gb632)); have NB632_0 := za ((by rw [hg]; exact Nat.ne_of_gt (IsS83.lt (show IsS83 w0 _ g s0_0 t628 t629 t630 t631 from zq47)) : gb632 ≠ g)); replace HI0 := za (IsS83.below zq47 hb); clear hb hbox hg; have hnb11 := NB632_621.out; have hnc11 := NB621_632.out; have hnb12 := NB632_0.out; have hnc12 := NB0_632.out; obtain ⟨hcz13_0, hcz13_1, hcz13_2, hcz13_3, hcz13_4, hcz13_5, hcz13_6, hcz13_7⟩ := zc8 BK632.out; obtain ⟨hfz13_0, hfz13_1, hfz13_2, hfz13_3, hfz13_4, hfz13_5, hfz13_6⟩ := zf7 BK632.out; have hfz13_7 := blk_frozen BK632.out 7) | ((with_reducible refine gate_callee (f := 45) rfl ?_); refine goesL_ (some 11) rfl rfl Try.func45 zq13 rfl #[.pointer (some ⟨g, 0, none⟩), .string (⟨#[40]⟩ : ByteArray)] rfl zq2 ?_; (with_reducible refine (rr_want.calls g s0_0 t628 t629 t630 t631 (⟨#[40]⟩ : ByteArray) t633 t634 t635 t636 w0 _ ?side1 ?side2 A4.out).mono ?_); (case side1 => exact zq1); (case side2 => exact zq6); rintro e w14 ⟨rfl, hi, hb, hk⟩; refine ⟨_, rfl, ?_⟩; replace BK621 := za (KeepBut.blk hk (g' := gb621) (o := .cells #[.string (⟨#[]⟩ : ByteArray), .slice none 0 0, .bool false, .string (⟨#[]⟩ : ByteArray), .string (⟨#[]⟩ : ByteArray), .slice none 0 0, .slice none 0 0, .int .i64 0] 44 (0, 0)) (by (with_reducible repeat (first | refine blk_drewN ?_ _ | refine blk_drew ?_ | refine blk_alloc ?_ _)); refine blk_far ?_ NB621_632.out _; (with_reducible repeat (first | refine blk_drewN ?_ _ | refine blk_drew ?_ | refine blk_alloc ?_ _)); refine blk_far ?_ NB621_632.out _; (with_reducible repeat (first | refine blk_drewN ?_ _ | refine blk_drew ?_ | refine blk_alloc ?_ _)); refine blk_far ?_ NB621_632.out _; (with_reducible repeat (first | refine blk_drewN ?_ _ | refine blk_drew ?_ | refine blk_alloc ?_ _)); refine blk_far ?_ NB621_632.out _; (with_reducible repeat (first | refine blk_drewN ?_ _ | refine blk_drew ?_ | refine blk_alloc ?_ _)); refine blk_far ?_ NB621_632.out _; (with_reducible repeat (first | refine blk_drewN ?_ _ | refine blk_drew ?_ | refine blk_alloc ?_ _)); refine blk_far ?_ NB621_632.out _; (with_reducible repeat (first | refine blk_drewN ?_ _ | refine blk_drew ?_ | refine blk_alloc ?_ _)); refine blk_far ?_ NB621_632.out _; (with_reducible repeat (first | refine blk_drewN ?_ _ | refine blk_drew ?_ | refine blk_alloc ?_ _)); refine blk_far ?_ NB621_632.out _; (with_reducible repeat (first | refine blk_drewN ?_ _ | refine blk_drew ?_ | refine blk_alloc ?_ _)); exact BK621.out) NB621_0.out (by simp)); replace BK632 := za (KeepBut.blk hk (g' := gb632) (o := .cells #[.string t627, .slice none 0 0, .bool false, .string (⟨#[]⟩ : ByteArray), .string (⟨#[]⟩ : ByteArray), .slice none 0 0, .slice none 0 0, .int .i64 t622] 44 (0, 0)) (by (with_reducible repeat (first | refine blk_drewN ?_ _ | refine blk_drew ?_ | refine blk_alloc ?_ _)); refine blk_put (cs := #[.string t627, .slice none 0 0, .bool false, .string (⟨#[]⟩ : ByteArray), .string (⟨#[]⟩ : ByteArray), .slice none 0 0, .slice none 0 0, .int .i64 0]) ?_ 7 _ rfl; (with_reducible repeat (first | refine blk_drewN ?_ _ | refine blk_drew ?_ | refine blk_alloc ?_ _)); refine blk_put (cs := #[.string t627, .slice none 0 0, .bool false, .string (⟨#[]⟩ : ByteArray), .string (⟨#[]⟩ : ByteArray), .slice none 0 0, .slice none 0 0, .int .i64 0]) ?_ 6 _ rfl; (with_reducible repeat (first | refine blk_drewN ?_ _ | refine blk_drew ?_ | refine blk_alloc ?_ _)); refine blk_put (cs := #[.string t627, .slice none 0 0, .bool false, .string (⟨#[]⟩ : ByteArray), .string (⟨#[]⟩ : ByteArray), .slice none 0 0, .slice none 0 0, .int .i64 0]) ?_ 5 _ rfl; (with_reducible repeat (first | refine blk_drewN ?_ _ | refine blk_drew ?_ | refine blk_alloc ?_ _)); refine blk_put (cs := #[.string t627, .slice none 0 0, .bool false, .string (⟨#[]⟩ : ByteArray), .string (⟨#[]⟩ : ByteArray), .slice none 0 0, .slice none 0 0, .int .i64 0]) ?_ 4 _ rfl; (with_reducible repeat (first | refine blk_drewN ?_ _ | refine blk_drew ?_ | refine blk_alloc ?_ _)); refine blk_put (cs := #[.string t627, .slice none 0 0, .bool false, .string (⟨#[]⟩ : ByteArray), .string (⟨#[]⟩ : ByteArray), .slice none 0 0, .slice none 0 0, .int .i64 0]) ?_ 3 _ rfl; (with_reducible repeat (first | refine blk_drewN ?_ _ | refine blk_drew ?_ | refine blk_alloc ?_ _)); refine blk_put (cs := #[.string t627, .slice none 0 0, .bool false, .string (⟨#[]⟩ : ByteArray), .string (⟨#[]⟩ : ByteArray), .slice none 0 0, .slice none 0 0, .int .i64 0]) ?_ 2 _ rfl; (with_reducible repeat (first | refine blk_drewN ?_ _ | refine blk_drew ?_ | refine blk_alloc ?_ _)); refine blk_put (cs := #[.string t627, .slice none 0 0, .bool false, .string (⟨#[]⟩ : ByteArray), .string (⟨#[]⟩ : ByteArray), .slice none 0 0, .slice none 0 0, .int .i64 0]) ?_ 1 _ rfl; (with_reducible repeat (first | refine blk_drewN ?_ _ | refine blk_drew ?_ | refine blk_alloc ?_ _)); refine blk_put (cs := #[.string (⟨#[]⟩ : ByteArray), .slice none 0 0, .bool false, .string (⟨#[]⟩ : ByteArray), .string (⟨#[]⟩ : ByteArray), .slice none 0 0, .slice none 0 0, .int .i64 0]) ?_ 0 _ rfl; (with_reducible repeat (first | refine blk_drewN ?_ _ | refine blk_drew ?_ | refine blk_alloc ?_ _)); exact BK632.out) NB632_0.out (by simp)); replace HK := za (KeepBut.trans zq5 hk (.inl rfl)); replace HB := za (hb); replace HI0 := za (hi); (try clear hb hk hi)) | ((with_reducible refine gate_callee (f := 54) rfl ?_); refine goesL_ (some 13) rfl rfl Try.func54 zq13 rfl #[.pointer (some ⟨g, 0, none⟩), .string (⟨#[41]⟩ : ByteArray)] rfl zq2 ?_; (with_reducible refine (rr_is.calls g s0_0 t633 t634 t635 t636 (⟨#[41]⟩ : ByteArray) t637 t638 t639 t640 t641 w0 _ ?side1 ?side2 A5.out).mono ?_); (case side1 => exact zq1); (case side2 => exact zq6); rintro e w15 ⟨rfl, hi, hb, hk⟩; refine ⟨_, rfl, ?_⟩; replace BK621 := za (KeepBut.blk hk (g' := gb621) (zb BK621.out) NB621_0.out (by simp)); replace BK632 := za (KeepBut.blk hk (g' := gb632) (zb BK632.out) NB632_0.out (by simp)); replace HK := za (KeepBut.trans zq5 hk (.inl rfl)); replace HB := za (hb); replace HI0 := za (hi); (try clear hb hk hi)))
 (try simp only [Act.put, List.setIfInBounds_toArray, List.set_cons_zero, List.set_cons_succ])
 go_cut [] (fun wc => ∃ (kq : Nat) (x1001_5 : Int) (x1002_5 : Int) (x1003_5 : Int) (x1004_5 : Int) (x633001_5 : List (S100)) (u633001 : Value), Aside0 (rr_proc.j1 kq s0_0 x1001_5 x1002_5 x1003_5 x1004_5 t627 x633001_5 false (⟨#[]⟩ : ByteArray) (⟨#[]⟩ : ByteArray) t622 = some (r1, r2, r3, r4, r5, r6, r7, r8, r9, r10, r11, r12)) ∧ Aside0 (kq ≤ k) ∧ Aside0 (Kd.R k100 100 wc w.heap.size (fun _ => True) u633001 x633001_5) ∧ Aside0 (wc.heap[gb621]? = some (.cells #[.string (⟨#[]⟩ : ByteArray), (.slice none 0 0), .bool false, .string (⟨#[]⟩ : ByteArray), .string (⟨#[]⟩ : ByteArray), (.slice none 0 0), (.slice none 0 0), .int .i64 0] 44 (0, 0))) ∧ Aside0 (wc.heap[gb632]? = some (.cells #[.string t627, u633001, .bool false, .string (⟨#[]⟩ : ByteArray), .string (⟨#[]⟩ : ByteArray), (.slice none 0 0), (.slice none 0 0), .int .i64 t622] 44 (0, 0))) ∧ Aside0 (IsS83 w0 wc g s0_0 x1001_5 x1002_5 x1003_5 x1004_5) ∧ Aside0 (KeepBut w wc g none) ∧ Aside0 (Below w0.heap.size w0 wc))
 case first =>
  have H := HC6.out
  clear HC6
  by_cases c16 : t637 = true
  ·
   subst c16
   rw [if_pos rfl] at H
   have H' := za H
   clear H
   go_wp2
   go_meet
   case rel => exact ⟨_, (t638), (t639), (t640), (t641), (([] : List (S100))), (.slice none 0 0), H', ⟨zq119⟩, ⟨zq33⟩, ⟨zq61⟩, ⟨zq62⟩, ⟨zq1⟩, ⟨zq5⟩, ⟨zq6⟩⟩
  ·
   replace c16 := Bool.eq_false_iff.mpr c16
   subst c16
   rw [if_neg (show ¬ (false = true) by decide)] at H
   have H' := za H
   clear H
   go_wp2
   go_loopg [] k (fun kq w' => ∃ (x1001_1 : Int) (x1002_1 : Int) (x1003_1 : Int) (x1004_1 : Int) (x633001_1 : List (S100)) (u633001 : Value), Aside0 (rr_proc.l0 kq s0_0 x1001_1 x1002_1 x1003_1 x1004_1 t627 x633001_1 false (⟨#[]⟩ : ByteArray) (⟨#[]⟩ : ByteArray) t622 = some (r1, r2, r3, r4, r5, r6, r7, r8, r9, r10, r11, r12)) ∧ Aside0 (kq ≤ k) ∧ Aside0 (Kd.R k100 100 w' w.heap.size (fun _ => True) u633001 x633001_1) ∧ Aside0 (w'.heap[gb621]? = some (.cells #[.string (⟨#[]⟩ : ByteArray), (.slice none 0 0), .bool false, .string (⟨#[]⟩ : ByteArray), .string (⟨#[]⟩ : ByteArray), (.slice none 0 0), (.slice none 0 0), .int .i64 0] 44 (0, 0))) ∧ Aside0 (w'.heap[gb632]? = some (.cells #[.string t627, u633001, .bool false, .string (⟨#[]⟩ : ByteArray), .string (⟨#[]⟩ : ByteArray), (.slice none 0 0), (.slice none 0 0), .int .i64 t622] 44 (0, 0))) ∧ Aside0 (IsS83 w0 w' g s0_0 x1001_1 x1002_1 x1003_1 x1004_1) ∧ Aside0 (KeepBut w w' g none) ∧ Aside0 (Below w0.heap.size w0 w'))
   case atStart => exact ⟨(t638), (t639), (t640), (t641), (([] : List (S100))), (.slice none 0 0), H', ⟨Nat.le_refl _⟩, ⟨zq33⟩, ⟨zq61⟩, ⟨zq62⟩, ⟨zq1⟩, ⟨zq5⟩, ⟨zq6⟩⟩
   case round =>
    clear H'
    obtain ⟨x1001_1, x1002_1, x1003_1, x1004_1, x633001_1, u633001, HA, HK1, HO_633001, BK621, BK632, HI0, HK, HB⟩ := hrel
    cases gk with
    | zero => exact absurd HA.out (by simp [rr_proc.l0])
    | succ k1 =>
     have H := HA.out
     clear HA
     simp only [rr_proc.l0] at H
     by_cases c17 : x1003_1 = 0
     ·
      rw [if_pos c17] at H
      have c17b0 := beq_iff_eq.mpr c17
      have c17b1 := bne_eq_false_iff_eq.mpr c17
      clear c17
      (first | rw [c17b0] | (simp only [i64_w, i32_w]; rw [c17b0]) | skip)
      replace H := Option.bind_eq_some_iff.mp H
      obtain ⟨⟨t642, t643, t644, t645, t646⟩, A180, H⟩ := H
      (try dsimp only at H)
      have A18 := za A180
      clear A180
      replace H := Option.bind_eq_some_iff.mp H
      obtain ⟨⟨t647, t648, t649, t650, t651⟩, A190, H⟩ := H
      (try dsimp only at H)
      have A19 := za A190
      clear A190
      replace H := Option.bind_eq_some_iff.mp H
      obtain ⟨⟨t653, t654, t655, t656⟩, A200, H⟩ := H
      (try dsimp only at H)
      have A20 := za A200
      clear A200
      replace H := Option.bind_eq_some_iff.mp H
      obtain ⟨⟨t657, t658, t659, t660, t661⟩, A210, H⟩ := H
      (try dsimp only at H)
      have A21 := za A210
      clear A210
      by_cases c22 : x633001_1.length < 3518437208883
      ·
       rw [if_pos c22] at H
       have LMc22 := za c22
       clear c22
       obtain ⟨y662, hy662⟩ : ∃ y_ : List (S100), y_ = (x633001_1 ++ [(⟨t647, t657, t642⟩ : S100)]) := ⟨_, rfl⟩
       replace H : ((rr_take.f s0_0 t658 t659 t660 t661 (⟨#[44]⟩ : ByteArray)).bind fun bt665 => (if bt665.1 = true then (rr_proc.l0 k1 s0_0 bt665.2.1 bt665.2.2.1 bt665.2.2.2.1 bt665.2.2.2.2 t627 y662 false (⟨#[]⟩ : ByteArray) (⟨#[]⟩ : ByteArray) t622) else (rr_proc.j1 k1 s0_0 bt665.2.1 bt665.2.2.1 bt665.2.2.2.1 bt665.2.2.2.2 t627 y662 false (⟨#[]⟩ : ByteArray) (⟨#[]⟩ : ByteArray) t622))) = some (r1, r2, r3, r4, r5, r6, r7, r8, r9, r10, r11, r12) := by first | (rw [hy662]; with_reducible exact H) | (have H2_ := (Option.bind_some _ _).symm.trans H; rw [hy662]; with_reducible exact H2_) | (have H2_ := (Option.bind_some _ _).symm.trans H; with_reducible exact H2_) | with_reducible exact H | (rw [hy662]; exact H) | exact H
       have Ny662 := za hy662
       clear hy662
       replace H := Option.bind_eq_some_iff.mp H
       obtain ⟨⟨t665, t666, t667, t668, t669⟩, A230, H⟩ := H
       (try dsimp only at H)
       have A23 := za A230
       clear A230
       by_cases c24 : t665 = true
       ·
        subst c24
        rw [if_pos rfl] at H
        have H' := za H
        clear H
        obtain ⟨ASz25_0, cSz25_0, HGz25, hgz25, HSz25_0⟩ := HI0.out
        have hcz25_0 := cellS83_0 HGz25
        have hcz25_1 := cellS83_1 HGz25
        have hcz25_2 := cellS83_2 HGz25
        have hcz25_3 := cellS83_3 HGz25
        have hcz25_4 := cellS83_4 HGz25
        have hfz25_1 := blk_frozen HGz25 1
        have hfz25_2 := blk_frozen HGz25 2
        have hfz25_3 := blk_frozen HGz25 3
        have hfz25_4 := blk_frozen HGz25 4
        clear HGz25 hgz25
        go_wp2_with (first | ((with_reducible refine gate_callee (f := 46) rfl ?_); refine goesL_ (some 21) rfl rfl Try.func46 zq13 rfl #[.pointer (some ⟨g, 0, none⟩)] rfl zq2 ?_; (with_reducible refine (rr_here.calls g s0_0 x1001_1 x1002_1 x1003_1 x1004_1 t642 t643 t644 t645 t646 w0 _ ?side1 ?side2 A18.out).mono ?_); (case side1 => exact zq1); (case side2 => exact zq6); rintro e w26 ⟨rfl, hi, hb, hk⟩; refine ⟨_, rfl, ?_⟩; replace HO_633001 := za (Kd.R_mono (Kd.R_keep (IsS83.apart (show IsS83 w0 _ g s0_0 x1001_1 x1002_1 x1003_1 x1004_1 from zq1) (zr HO_633001.out) (by decide)) hk (fun _ h => h.2)) (fun _ h => h.1)); replace BK621 := za (KeepBut.blk hk (g' := gb621) (zb BK621.out) NB621_0.out (by simp)); replace BK632 := za (KeepBut.blk hk (g' := gb632) (zb BK632.out) NB632_0.out (by simp)); replace HK := za (KeepBut.trans zq5 hk (.inl rfl)); replace HB := za (hb); replace HI0 := za (hi); (try clear hb hk hi)) | ((with_reducible refine gate_callee (f := 47) rfl ?_); refine goesL_ (some 23) rfl rfl Try.func47 zq13 rfl #[.pointer (some ⟨g, 0, none⟩)] rfl zq2 ?_; (with_reducible refine (rr_name.calls g s0_0 t643 t644 t645 t646 t647 t648 t649 t650 t651 w0 _ ?side1 ?side2 A19.out).mono ?_); (case side1 => exact zq1); (case side2 => exact zq6); rintro e w27 ⟨rfl, hi, hb, hk⟩; refine ⟨_, rfl, ?_⟩; replace HO_633001 := za (Kd.R_mono (Kd.R_keep (IsS83.apart (show IsS83 w0 _ g s0_0 t643 t644 t645 t646 from zq1) (zr HO_633001.out) (by decide)) hk (fun _ h => h.2)) (fun _ h => h.1)); replace BK621 := za (KeepBut.blk hk (g' := gb621) (zb BK621.out) NB621_0.out (by simp)); replace BK632 := za (KeepBut.blk hk (g' := gb632) (zb BK632.out) NB632_0.out (by simp)); replace HK := za (KeepBut.trans zq5 hk (.inl rfl)); replace HB := za (hb); replace HI0 := za (hi); (try clear hb hk hi)) | ((with_reducible refine gate_dst (N := 4) rfl ?_); refine box_event ?hg (N := 4) ?hd (cs := #[.string (⟨#[]⟩ : ByteArray), .string (⟨#[]⟩ : ByteArray), .int .i64 0]) (t := 100) ?hr ?_; (case hd => rfl); (case hg => rfl); (case hr => exact zq19); intro gb652 hg w28 hbox hb; replace HO_633001 := za (Kd.R_below (Kd.R_elderB (zr HO_633001.out) gb652 (Nat.le_of_eq hg.symm)) hb); replace HB := za (below_step zq6 hb); have BK652 := za (hbox); have GW652 := za ((by rw [hg]; exact (keep_size (w := w) (g := g) (row := none) zq5) : w.heap.size ≤ gb652)); have GE652 := za ((Nat.le_trans HW0.out (by rw [hg]; exact (keep_size (w := w) (g := g) (row := none) zq5) : w.heap.size ≤ gb652) : w0.heap.size ≤ gb652)); replace HK := za (KeepBut.trans zq5 (KeepBut.of_below hb g none) (.inl rfl)); have NB621_652 := za ((by rw [hg]; exact Nat.ne_of_lt (blk_lt (g := gb621) (zb BK621.out)) : gb621 ≠ gb652)); have NB652_621 := za ((by rw [hg]; exact Nat.ne_of_gt (blk_lt (g := gb621) (zb BK621.out)) : gb652 ≠ gb621)); replace BK621 := za (blk_below (g := gb621) (zb BK621.out) hb); have NB632_652 := za ((by rw [hg]; exact Nat.ne_of_lt (blk_lt (g := gb632) (zb BK632.out)) : gb632 ≠ gb652)); have NB652_632 := za ((by rw [hg]; exact Nat.ne_of_gt (blk_lt (g := gb632) (zb BK632.out)) : gb652 ≠ gb632)); replace BK632 := za (blk_below (g := gb632) (zb BK632.out) hb); have NB0_652 := za ((by rw [hg]; exact Nat.ne_of_lt (IsS83.lt (show IsS83 w0 _ g s0_0 t648 t649 t650 t651 from zq1)) : g ≠ gb652)); have NB652_0 := za ((by rw [hg]; exact Nat.ne_of_gt (IsS83.lt (show IsS83 w0 _ g s0_0 t648 t649 t650 t651 from zq1)) : gb652 ≠ g)); replace HI0 := za (IsS83.below zq1 hb); clear hb hbox hg; have hnb29 := NB652_621.out; have hnc29 := NB621_652.out; have hnb30 := NB652_632.out; have hnc30 := NB632_652.out; have hnb31 := NB652_0.out; have hnc31 := NB0_652.out; obtain ⟨hcz32_0, hcz32_1, hcz32_2⟩ := zc3 BK652.out; obtain ⟨hfz32_0, hfz32_1⟩ := zf2 BK652.out; have hfz32_2 := blk_frozen BK652.out 2) | ((with_reducible refine gate_callee (f := 45) rfl ?_); refine goesL_ (some 26) rfl rfl Try.func45 zq13 rfl #[.pointer (some ⟨g, 0, none⟩), .string (⟨#[58]⟩ : ByteArray)] rfl zq2 ?_; (with_reducible refine (rr_want.calls g s0_0 t648 t649 t650 t651 (⟨#[58]⟩ : ByteArray) t653 t654 t655 t656 w0 _ ?side1 ?side2 A20.out).mono ?_); (case side1 => exact zq15); (case side2 => exact zq24); rintro e w33 ⟨rfl, hi, hb, hk⟩; refine ⟨_, rfl, ?_⟩; replace HO_633001 := za (Kd.R_mono (Kd.R_keep (IsS83.apart (show IsS83 w0 _ g s0_0 t648 t649 t650 t651 from zq15) (by (with_reducible repeat (first | apply Kd.R_alloc | apply Kd.R_drewN | apply Kd.R_drew)); exact (Kd.R_mono (Kd.R_far (p := ⟨gb652, 2, none⟩) (Kd.R_far (p := ⟨gb652, 1, none⟩) (Kd.R_far (p := ⟨gb652, 0, none⟩) (Kd.R_mono HO_633001.out (fun k_ hk => (⟨hk, hk.2⟩ : _ ∧ k_ ≠ gb652))) (fun _ hk => hk.2) (.string t647)) (fun _ hk => hk.2) (.string (⟨#[]⟩ : ByteArray))) (fun _ hk => hk.2) (.int .i64 t642)) (fun _ h_ => h_.1))) (by decide)) hk (fun _ h => h.2)) (fun _ h => h.1)); replace BK621 := za (KeepBut.blk hk (g' := gb621) (o := .cells #[.string (⟨#[]⟩ : ByteArray), .slice none 0 0, .bool false, .string (⟨#[]⟩ : ByteArray), .string (⟨#[]⟩ : ByteArray), .slice none 0 0, .slice none 0 0, .int .i64 0] 44 (0, 0)) zq54 NB621_0.out (by simp)); replace BK632 := za (KeepBut.blk hk (g' := gb632) (o := .cells #[.string t627, u633001, .bool false, .string (⟨#[]⟩ : ByteArray), .string (⟨#[]⟩ : ByteArray), .slice none 0 0, .slice none 0 0, .int .i64 t622] 44 (0, 0)) zq55 NB632_0.out (by simp)); replace BK652 := za (KeepBut.blk hk (g' := gb652) (o := .cells #[.string t647, .string (⟨#[]⟩ : ByteArray), .int .i64 t642] 100 (0, 0)) (by (with_reducible repeat (first | refine blk_drewN ?_ _ | refine blk_drew ?_ | refine blk_alloc ?_ _)); refine blk_put (cs := #[.string t647, .string (⟨#[]⟩ : ByteArray), .int .i64 0]) ?_ 2 _ rfl; (with_reducible repeat (first | refine blk_drewN ?_ _ | refine blk_drew ?_ | refine blk_alloc ?_ _)); refine blk_put (cs := #[.string t647, .string (⟨#[]⟩ : ByteArray), .int .i64 0]) ?_ 1 _ rfl; (with_reducible repeat (first | refine blk_drewN ?_ _ | refine blk_drew ?_ | refine blk_alloc ?_ _)); refine blk_put (cs := #[.string (⟨#[]⟩ : ByteArray), .string (⟨#[]⟩ : ByteArray), .int .i64 0]) ?_ 0 _ rfl; (with_reducible repeat (first | refine blk_drewN ?_ _ | refine blk_drew ?_ | refine blk_alloc ?_ _)); exact BK652.out) NB652_0.out (by simp)); replace HK := za (KeepBut.trans zq23 hk (.inl rfl)); replace HB := za (hb); replace HI0 := za (hi); (try clear hb hk hi)) | ((with_reducible refine gate_callee (f := 47) rfl ?_); refine goesL_ (some 28) rfl rfl Try.func47 zq13 rfl #[.pointer (some ⟨g, 0, none⟩)] rfl zq2 ?_; (with_reducible refine (rr_name.calls g s0_0 t653 t654 t655 t656 t657 t658 t659 t660 t661 w0 _ ?side1 ?side2 A21.out).mono ?_); (case side1 => exact zq15); (case side2 => exact zq24); rintro e w34 ⟨rfl, hi, hb, hk⟩; refine ⟨_, rfl, ?_⟩; replace HO_633001 := za (Kd.R_mono (Kd.R_keep (IsS83.apart (show IsS83 w0 _ g s0_0 t653 t654 t655 t656 from zq15) (zr HO_633001.out) (by decide)) hk (fun _ h => h.2)) (fun _ h => h.1)); replace BK621 := za (KeepBut.blk hk (g' := gb621) (zb BK621.out) NB621_0.out (by simp)); replace BK632 := za (KeepBut.blk hk (g' := gb632) (zb BK632.out) NB632_0.out (by simp)); replace BK652 := za (KeepBut.blk hk (g' := gb652) (zb BK652.out) NB652_0.out (by simp)); replace HK := za (KeepBut.trans zq23 hk (.inl rfl)); replace HB := za (hb); replace HI0 := za (hi); (try clear hb hk hi); obtain ⟨hcz35_0, hcz35_1, hcz35_2⟩ := zc3 BK652.out; obtain ⟨hfz35_0, hfz35_1, hfz35_2⟩ := zf3 BK652.out; have hnb36 := NB632_621.out; have hnc36 := NB621_632.out; have hnb37 := NB632_0.out; have hnc37 := NB0_632.out; obtain ⟨hcz38_0, hcz38_1, hcz38_2, hcz38_3, hcz38_4, hcz38_5, hcz38_6, hcz38_7⟩ := zc8 BK632.out; obtain ⟨hfz38_0, hfz38_1, hfz38_2, hfz38_3, hfz38_4, hfz38_5, hfz38_6⟩ := zf7 BK632.out; have hfz38_7 := blk_frozen BK632.out 7) | ((with_reducible refine gate_builtin (b := .append) (xs := #[.tmp 31, .tmp 33]) rfl ?_); at_builtin; refine Kd.R_append k100 w.heap.size rfl (.tmp 31) (.tmp 33) 41 100 (.agg #[(.string ⟨#[]⟩), (.string ⟨#[]⟩), (.int .i64 0)]) 40 rfl Try.underlying41 info100 rfl (by decide) (by omega) u633001 x633001_1 (⟨t647, t657, t642⟩ : S100) [.string t647, .string t657, .int .i64 t642] (fun k_ => k_ ≠ gb652) (fun _ => False) rfl zq19 ?aP (fun _ hk => hk.elim) ?aF ?aO (Below.refl _ _) ?aS ?aL ?_; (case aP => exact k100_mkM _ _ _ (⟨t647, t657, t642⟩ : S100)); (case aF => exact (fun k_ hk => Kd.freshB (g := gb652) (o := .cells #[.string t647, .string t657, .int .i64 t642] 100 (0, 0)) (by (with_reducible repeat (first | refine blk_drewN ?_ _ | refine blk_drew ?_ | refine blk_alloc ?_ _)); refine blk_put (cs := #[.string t647, .string (⟨#[]⟩ : ByteArray), .int .i64 t642]) ?_ 1 _ rfl; (with_reducible repeat (first | refine blk_drewN ?_ _ | refine blk_drew ?_ | refine blk_alloc ?_ _)); exact BK652.out) k_ hk)); (case aO => exact (by (with_reducible repeat (first | apply Kd.R_alloc | apply Kd.R_drewN | apply Kd.R_drew)); exact Kd.R_mono (Kd.R_far (p := ⟨gb652, 1, none⟩) (Kd.R_mono HO_633001.out (fun k_ hk => (⟨hk, hk.2⟩ : _ ∧ k_ ≠ gb652))) (fun _ hk => hk.2) (.string t657)) (fun _ hk => hk.1.2))); (case aS => exact (keep_size (w := w) (g := g) (row := none) zq23)); (case aL => have := LMc22.out; omega); intro v663 w39 ho hb hg hat; rw [← Ny662.out] at ho; replace BK621 := za (blk_grown (g := gb621) (o := .cells #[.string (⟨#[]⟩ : ByteArray), .slice none 0 0, .bool false, .string (⟨#[]⟩ : ByteArray), .string (⟨#[]⟩ : ByteArray), .slice none 0 0, .slice none 0 0, .int .i64 0] 44 (0, 0)) zq83 hg (Kd.R_ne HO_633001.out BK621.out (by decide))); replace BK632 := za (blk_grown (g := gb632) (o := .cells #[.string t627, u633001, .bool false, .string (⟨#[]⟩ : ByteArray), .string (⟨#[]⟩ : ByteArray), .slice none 0 0, .slice none 0 0, .int .i64 t622] 44 (0, 0)) zq84 hg (Kd.R_ne HO_633001.out BK632.out (by decide))); replace BK652 := za (blk_grown (g := gb652) (o := .cells #[.string t647, .string t657, .int .i64 t642] 100 (0, 0)) (by (with_reducible repeat (first | refine blk_drewN ?_ _ | refine blk_drew ?_ | refine blk_alloc ?_ _)); refine blk_put (cs := #[.string t647, .string (⟨#[]⟩ : ByteArray), .int .i64 t642]) ?_ 1 _ rfl; (with_reducible repeat (first | refine blk_drewN ?_ _ | refine blk_drew ?_ | refine blk_alloc ?_ _)); exact BK652.out) hg (Kd.R_away HO_633001.out (fun _ hk => hk.2))); replace HB := za (below_weaken zq24 HL.out hb); replace HI0 := za (IsS83.grown zq15 hg (IsS83.own_ne HI0.out HO_633001.out (by decide))); replace HK := za (KeepBut.trans zq23 (KeepBut.of_grown hg g) (Kd.R_base2 HO_633001.out)); have HO664 := za (ho); clear HO_633001; clear ho hb hg hat; obtain ⟨Ao40, co40, eo40⟩ := Kd.R_slice HO664.out; subst eo40; obtain ⟨hcz41_0, hcz41_1, hcz41_2, hcz41_3, hcz41_4, hcz41_5, hcz41_6, hcz41_7⟩ := zc8 BK632.out; obtain ⟨hfz41_0, hfz41_1, hfz41_2, hfz41_3, hfz41_4, hfz41_5, hfz41_6⟩ := zf7 BK632.out; have hfz41_7 := blk_frozen BK632.out 7) | ((with_reducible refine gate_callee (f := 48) rfl ?_); refine goesL_ (some 37) rfl rfl Try.func48 zq13 rfl #[.pointer (some ⟨g, 0, none⟩), .string (⟨#[44]⟩ : ByteArray)] rfl zq2 ?_; (with_reducible refine (rr_take.calls g s0_0 t658 t659 t660 t661 (⟨#[44]⟩ : ByteArray) true t666 t667 t668 t669 w0 _ ?side1 ?side2 A23.out).mono ?_); (case side1 => exact zq15); (case side2 => exact zq24); rintro e w42 ⟨rfl, hi, hb, hk⟩; refine ⟨_, rfl, ?_⟩; replace BK621 := za (KeepBut.blk hk (g' := gb621) (o := .cells #[.string (⟨#[]⟩ : ByteArray), .slice none 0 0, .bool false, .string (⟨#[]⟩ : ByteArray), .string (⟨#[]⟩ : ByteArray), .slice none 0 0, .slice none 0 0, .int .i64 0] 44 (0, 0)) zq30 NB621_0.out (by simp)); replace BK652 := za (KeepBut.blk hk (g' := gb652) (o := .cells #[.string t647, .string t657, .int .i64 t642] 100 (0, 0)) zq85 NB652_0.out (by simp)); replace HO664 := za (Kd.R_mono (Kd.R_keep (IsS83.apart (show IsS83 w0 _ g s0_0 t658 t659 t660 t661 from zq15) (by (with_reducible repeat (first | apply Kd.R_alloc | apply Kd.R_drewN | apply Kd.R_drew)); exact (Kd.R_mono (Kd.R_far (p := ⟨gb632, 1, none⟩) (Kd.R_types HO664.out BK632.out (by decide)) (fun _ hk => hk.2) (.slice Ao40 y662.length co40)) (fun _ h_ => h_.1))) (by decide)) hk (fun _ h => h.2)) (fun _ h => h.1)); replace BK632 := za (KeepBut.blk hk (g' := gb632) (o := .cells #[.string t627, .slice Ao40 y662.length co40, .bool false, .string (⟨#[]⟩ : ByteArray), .string (⟨#[]⟩ : ByteArray), .slice none 0 0, .slice none 0 0, .int .i64 t622] 44 (0, 0)) (by (with_reducible repeat (first | refine blk_drewN ?_ _ | refine blk_drew ?_ | refine blk_alloc ?_ _)); refine blk_put (cs := #[.string t627, u633001, .bool false, .string (⟨#[]⟩ : ByteArray), .string (⟨#[]⟩ : ByteArray), .slice none 0 0, .slice none 0 0, .int .i64 t622]) ?_ 1 _ rfl; (with_reducible repeat (first | refine blk_drewN ?_ _ | refine blk_drew ?_ | refine blk_alloc ?_ _)); exact BK632.out) NB632_0.out (by simp)); replace HK := za (KeepBut.trans zq23 hk (.inl rfl)); replace HB := za (hb); replace HI0 := za (hi); (try clear hb hk hi)))
        go_roundg k1
        case measure => have := HK1.out; omega
        case rel => exact ⟨(t666), (t667), (t668), (t669), (y662), (.slice Ao40 y662.length co40), H', ⟨by have := HK1.out; omega⟩, ⟨zq125⟩, ⟨zq61⟩, ⟨zq62⟩, ⟨zq15⟩, ⟨zq23⟩, ⟨zq24⟩⟩
       ·
        replace c24 := Bool.eq_false_iff.mpr c24
        subst c24
        rw [if_neg (show ¬ (false = true) by decide)] at H
        have H' := za H
        clear H
        obtain ⟨ASz43_0, cSz43_0, HGz43, hgz43, HSz43_0⟩ := HI0.out
        have hcz43_0 := cellS83_0 HGz43
        have hcz43_1 := cellS83_1 HGz43
        have hcz43_2 := cellS83_2 HGz43
        have hcz43_3 := cellS83_3 HGz43
        have hcz43_4 := cellS83_4 HGz43
        have hfz43_1 := blk_frozen HGz43 1
        have hfz43_2 := blk_frozen HGz43 2
        have hfz43_3 := blk_frozen HGz43 3
        have hfz43_4 := blk_frozen HGz43 4
        clear HGz43 hgz43
        go_wp2_with (first | ((with_reducible refine gate_callee (f := 46) rfl ?_); refine goesL_ (some 21) rfl rfl Try.func46 zq13 rfl #[.pointer (some ⟨g, 0, none⟩)] rfl zq2 ?_; (with_reducible refine (rr_here.calls g s0_0 x1001_1 x1002_1 x1003_1 x1004_1 t642 t643 t644 t645 t646 w0 _ ?side1 ?side2 A18.out).mono ?_); (case side1 => exact zq1); (case side2 => exact zq6); rintro e w44 ⟨rfl, hi, hb, hk⟩; refine ⟨_, rfl, ?_⟩; replace HO_633001 := za (Kd.R_mono (Kd.R_keep (IsS83.apart (show IsS83 w0 _ g s0_0 x1001_1 x1002_1 x1003_1 x1004_1 from zq1) (zr HO_633001.out) (by decide)) hk (fun _ h => h.2)) (fun _ h => h.1)); replace BK621 := za (KeepBut.blk hk (g' := gb621) (zb BK621.out) NB621_0.out (by simp)); replace BK632 := za (KeepBut.blk hk (g' := gb632) (zb BK632.out) NB632_0.out (by simp)); replace HK := za (KeepBut.trans zq5 hk (.inl rfl)); replace HB := za (hb); replace HI0 := za (hi); (try clear hb hk hi)) | ((with_reducible refine gate_callee (f := 47) rfl ?_); refine goesL_ (some 23) rfl rfl Try.func47 zq13 rfl #[.pointer (some ⟨g, 0, none⟩)] rfl zq2 ?_; (with_reducible refine (rr_name.calls g s0_0 t643 t644 t645 t646 t647 t648 t649 t650 t651 w0 _ ?side1 ?side2 A19.out).mono ?_); (case side1 => exact zq1); (case side2 => exact zq6); rintro e w45 ⟨rfl, hi, hb, hk⟩; refine ⟨_, rfl, ?_⟩; replace HO_633001 := za (Kd.R_mono (Kd.R_keep (IsS83.apart (show IsS83 w0 _ g s0_0 t643 t644 t645 t646 from zq1) (zr HO_633001.out) (by decide)) hk (fun _ h => h.2)) (fun _ h => h.1)); replace BK621 := za (KeepBut.blk hk (g' := gb621) (zb BK621.out) NB621_0.out (by simp)); replace BK632 := za (KeepBut.blk hk (g' := gb632) (zb BK632.out) NB632_0.out (by simp)); replace HK := za (KeepBut.trans zq5 hk (.inl rfl)); replace HB := za (hb); replace HI0 := za (hi); (try clear hb hk hi)) | ((with_reducible refine gate_dst (N := 4) rfl ?_); refine box_event ?hg (N := 4) ?hd (cs := #[.string (⟨#[]⟩ : ByteArray), .string (⟨#[]⟩ : ByteArray), .int .i64 0]) (t := 100) ?hr ?_; (case hd => rfl); (case hg => rfl); (case hr => exact zq19); intro gb652 hg w46 hbox hb; replace HO_633001 := za (Kd.R_below (Kd.R_elderB (zr HO_633001.out) gb652 (Nat.le_of_eq hg.symm)) hb); replace HB := za (below_step zq6 hb); have BK652 := za (hbox); have GW652 := za ((by rw [hg]; exact (keep_size (w := w) (g := g) (row := none) zq5) : w.heap.size ≤ gb652)); have GE652 := za ((Nat.le_trans HW0.out (by rw [hg]; exact (keep_size (w := w) (g := g) (row := none) zq5) : w.heap.size ≤ gb652) : w0.heap.size ≤ gb652)); replace HK := za (KeepBut.trans zq5 (KeepBut.of_below hb g none) (.inl rfl)); have NB621_652 := za ((by rw [hg]; exact Nat.ne_of_lt (blk_lt (g := gb621) (zb BK621.out)) : gb621 ≠ gb652)); have NB652_621 := za ((by rw [hg]; exact Nat.ne_of_gt (blk_lt (g := gb621) (zb BK621.out)) : gb652 ≠ gb621)); replace BK621 := za (blk_below (g := gb621) (zb BK621.out) hb); have NB632_652 := za ((by rw [hg]; exact Nat.ne_of_lt (blk_lt (g := gb632) (zb BK632.out)) : gb632 ≠ gb652)); have NB652_632 := za ((by rw [hg]; exact Nat.ne_of_gt (blk_lt (g := gb632) (zb BK632.out)) : gb652 ≠ gb632)); replace BK632 := za (blk_below (g := gb632) (zb BK632.out) hb); have NB0_652 := za ((by rw [hg]; exact Nat.ne_of_lt (IsS83.lt (show IsS83 w0 _ g s0_0 t648 t649 t650 t651 from zq1)) : g ≠ gb652)); have NB652_0 := za ((by rw [hg]; exact Nat.ne_of_gt (IsS83.lt (show IsS83 w0 _ g s0_0 t648 t649 t650 t651 from zq1)) : gb652 ≠ g)); replace HI0 := za (IsS83.below zq1 hb); clear hb hbox hg; have hnb47 := NB652_621.out; have hnc47 := NB621_652.out; have hnb48 := NB652_632.out; have hnc48 := NB632_652.out; have hnb49 := NB652_0.out; have hnc49 := NB0_652.out; obtain ⟨hcz50_0, hcz50_1, hcz50_2⟩ := zc3 BK652.out; obtain ⟨hfz50_0, hfz50_1⟩ := zf2 BK652.out; have hfz50_2 := blk_frozen BK652.out 2) | ((with_reducible refine gate_callee (f := 45) rfl ?_); refine goesL_ (some 26) rfl rfl Try.func45 zq13 rfl #[.pointer (some ⟨g, 0, none⟩), .string (⟨#[58]⟩ : ByteArray)] rfl zq2 ?_; (with_reducible refine (rr_want.calls g s0_0 t648 t649 t650 t651 (⟨#[58]⟩ : ByteArray) t653 t654 t655 t656 w0 _ ?side1 ?side2 A20.out).mono ?_); (case side1 => exact zq15); (case side2 => exact zq24); rintro e w51 ⟨rfl, hi, hb, hk⟩; refine ⟨_, rfl, ?_⟩; replace HO_633001 := za (Kd.R_mono (Kd.R_keep (IsS83.apart (show IsS83 w0 _ g s0_0 t648 t649 t650 t651 from zq15) (by (with_reducible repeat (first | apply Kd.R_alloc | apply Kd.R_drewN | apply Kd.R_drew)); exact (Kd.R_mono (Kd.R_far (p := ⟨gb652, 2, none⟩) (Kd.R_far (p := ⟨gb652, 1, none⟩) (Kd.R_far (p := ⟨gb652, 0, none⟩) (Kd.R_mono HO_633001.out (fun k_ hk => (⟨hk, hk.2⟩ : _ ∧ k_ ≠ gb652))) (fun _ hk => hk.2) (.string t647)) (fun _ hk => hk.2) (.string (⟨#[]⟩ : ByteArray))) (fun _ hk => hk.2) (.int .i64 t642)) (fun _ h_ => h_.1))) (by decide)) hk (fun _ h => h.2)) (fun _ h => h.1)); replace BK621 := za (KeepBut.blk hk (g' := gb621) (o := .cells #[.string (⟨#[]⟩ : ByteArray), .slice none 0 0, .bool false, .string (⟨#[]⟩ : ByteArray), .string (⟨#[]⟩ : ByteArray), .slice none 0 0, .slice none 0 0, .int .i64 0] 44 (0, 0)) zq54 NB621_0.out (by simp)); replace BK632 := za (KeepBut.blk hk (g' := gb632) (o := .cells #[.string t627, u633001, .bool false, .string (⟨#[]⟩ : ByteArray), .string (⟨#[]⟩ : ByteArray), .slice none 0 0, .slice none 0 0, .int .i64 t622] 44 (0, 0)) zq55 NB632_0.out (by simp)); replace BK652 := za (KeepBut.blk hk (g' := gb652) (o := .cells #[.string t647, .string (⟨#[]⟩ : ByteArray), .int .i64 t642] 100 (0, 0)) (by (with_reducible repeat (first | refine blk_drewN ?_ _ | refine blk_drew ?_ | refine blk_alloc ?_ _)); refine blk_put (cs := #[.string t647, .string (⟨#[]⟩ : ByteArray), .int .i64 0]) ?_ 2 _ rfl; (with_reducible repeat (first | refine blk_drewN ?_ _ | refine blk_drew ?_ | refine blk_alloc ?_ _)); refine blk_put (cs := #[.string t647, .string (⟨#[]⟩ : ByteArray), .int .i64 0]) ?_ 1 _ rfl; (with_reducible repeat (first | refine blk_drewN ?_ _ | refine blk_drew ?_ | refine blk_alloc ?_ _)); refine blk_put (cs := #[.string (⟨#[]⟩ : ByteArray), .string (⟨#[]⟩ : ByteArray), .int .i64 0]) ?_ 0 _ rfl; (with_reducible repeat (first | refine blk_drewN ?_ _ | refine blk_drew ?_ | refine blk_alloc ?_ _)); exact BK652.out) NB652_0.out (by simp)); replace HK := za (KeepBut.trans zq23 hk (.inl rfl)); replace HB := za (hb); replace HI0 := za (hi); (try clear hb hk hi)) | ((with_reducible refine gate_callee (f := 47) rfl ?_); refine goesL_ (some 28) rfl rfl Try.func47 zq13 rfl #[.pointer (some ⟨g, 0, none⟩)] rfl zq2 ?_; (with_reducible refine (rr_name.calls g s0_0 t653 t654 t655 t656 t657 t658 t659 t660 t661 w0 _ ?side1 ?side2 A21.out).mono ?_); (case side1 => exact zq15); (case side2 => exact zq24); rintro e w52 ⟨rfl, hi, hb, hk⟩; refine ⟨_, rfl, ?_⟩; replace HO_633001 := za (Kd.R_mono (Kd.R_keep (IsS83.apart (show IsS83 w0 _ g s0_0 t653 t654 t655 t656 from zq15) (zr HO_633001.out) (by decide)) hk (fun _ h => h.2)) (fun _ h => h.1)); replace BK621 := za (KeepBut.blk hk (g' := gb621) (zb BK621.out) NB621_0.out (by simp)); replace BK632 := za (KeepBut.blk hk (g' := gb632) (zb BK632.out) NB632_0.out (by simp)); replace BK652 := za (KeepBut.blk hk (g' := gb652) (zb BK652.out) NB652_0.out (by simp)); replace HK := za (KeepBut.trans zq23 hk (.inl rfl)); replace HB := za (hb); replace HI0 := za (hi); (try clear hb hk hi); obtain ⟨hcz53_0, hcz53_1, hcz53_2⟩ := zc3 BK652.out; obtain ⟨hfz53_0, hfz53_1, hfz53_2⟩ := zf3 BK652.out; have hnb54 := NB632_621.out; have hnc54 := NB621_632.out; have hnb55 := NB632_0.out; have hnc55 := NB0_632.out; obtain ⟨hcz56_0, hcz56_1, hcz56_2, hcz56_3, hcz56_4, hcz56_5, hcz56_6, hcz56_7⟩ := zc8 BK632.out; obtain ⟨hfz56_0, hfz56_1, hfz56_2, hfz56_3, hfz56_4, hfz56_5, hfz56_6⟩ := zf7 BK632.out; have hfz56_7 := blk_frozen BK632.out 7) | ((with_reducible refine gate_builtin (b := .append) (xs := #[.tmp 31, .tmp 33]) rfl ?_); at_builtin; refine Kd.R_append k100 w.heap.size rfl (.tmp 31) (.tmp 33) 41 100 (.agg #[(.string ⟨#[]⟩), (.string ⟨#[]⟩), (.int .i64 0)]) 40 rfl Try.underlying41 info100 rfl (by decide) (by omega) u633001 x633001_1 (⟨t647, t657, t642⟩ : S100) [.string t647, .string t657, .int .i64 t642] (fun k_ => k_ ≠ gb652) (fun _ => False) rfl zq19 ?aP (fun _ hk => hk.elim) ?aF ?aO (Below.refl _ _) ?aS ?aL ?_; (case aP => exact k100_mkM _ _ _ (⟨t647, t657, t642⟩ : S100)); (case aF => exact (fun k_ hk => Kd.freshB (g := gb652) (o := .cells #[.string t647, .string t657, .int .i64 t642] 100 (0, 0)) (by (with_reducible repeat (first | refine blk_drewN ?_ _ | refine blk_drew ?_ | refine blk_alloc ?_ _)); refine blk_put (cs := #[.string t647, .string (⟨#[]⟩ : ByteArray), .int .i64 t642]) ?_ 1 _ rfl; (with_reducible repeat (first | refine blk_drewN ?_ _ | refine blk_drew ?_ | refine blk_alloc ?_ _)); exact BK652.out) k_ hk)); (case aO => exact (by (with_reducible repeat (first | apply Kd.R_alloc | apply Kd.R_drewN | apply Kd.R_drew)); exact Kd.R_mono (Kd.R_far (p := ⟨gb652, 1, none⟩) (Kd.R_mono HO_633001.out (fun k_ hk => (⟨hk, hk.2⟩ : _ ∧ k_ ≠ gb652))) (fun _ hk => hk.2) (.string t657)) (fun _ hk => hk.1.2))); (case aS => exact (keep_size (w := w) (g := g) (row := none) zq23)); (case aL => have := LMc22.out; omega); intro v663 w57 ho hb hg hat; rw [← Ny662.out] at ho; replace BK621 := za (blk_grown (g := gb621) (o := .cells #[.string (⟨#[]⟩ : ByteArray), .slice none 0 0, .bool false, .string (⟨#[]⟩ : ByteArray), .string (⟨#[]⟩ : ByteArray), .slice none 0 0, .slice none 0 0, .int .i64 0] 44 (0, 0)) zq83 hg (Kd.R_ne HO_633001.out BK621.out (by decide))); replace BK632 := za (blk_grown (g := gb632) (o := .cells #[.string t627, u633001, .bool false, .string (⟨#[]⟩ : ByteArray), .string (⟨#[]⟩ : ByteArray), .slice none 0 0, .slice none 0 0, .int .i64 t622] 44 (0, 0)) zq84 hg (Kd.R_ne HO_633001.out BK632.out (by decide))); replace BK652 := za (blk_grown (g := gb652) (o := .cells #[.string t647, .string t657, .int .i64 t642] 100 (0, 0)) (by (with_reducible repeat (first | refine blk_drewN ?_ _ | refine blk_drew ?_ | refine blk_alloc ?_ _)); refine blk_put (cs := #[.string t647, .string (⟨#[]⟩ : ByteArray), .int .i64 t642]) ?_ 1 _ rfl; (with_reducible repeat (first | refine blk_drewN ?_ _ | refine blk_drew ?_ | refine blk_alloc ?_ _)); exact BK652.out) hg (Kd.R_away HO_633001.out (fun _ hk => hk.2))); replace HB := za (below_weaken zq24 HL.out hb); replace HI0 := za (IsS83.grown zq15 hg (IsS83.own_ne HI0.out HO_633001.out (by decide))); replace HK := za (KeepBut.trans zq23 (KeepBut.of_grown hg g) (Kd.R_base2 HO_633001.out)); have HO664 := za (ho); clear HO_633001; clear ho hb hg hat; obtain ⟨Ao58, co58, eo58⟩ := Kd.R_slice HO664.out; subst eo58; obtain ⟨hcz59_0, hcz59_1, hcz59_2, hcz59_3, hcz59_4, hcz59_5, hcz59_6, hcz59_7⟩ := zc8 BK632.out; obtain ⟨hfz59_0, hfz59_1, hfz59_2, hfz59_3, hfz59_4, hfz59_5, hfz59_6⟩ := zf7 BK632.out; have hfz59_7 := blk_frozen BK632.out 7) | ((with_reducible refine gate_callee (f := 48) rfl ?_); refine goesL_ (some 37) rfl rfl Try.func48 zq13 rfl #[.pointer (some ⟨g, 0, none⟩), .string (⟨#[44]⟩ : ByteArray)] rfl zq2 ?_; (with_reducible refine (rr_take.calls g s0_0 t658 t659 t660 t661 (⟨#[44]⟩ : ByteArray) false t666 t667 t668 t669 w0 _ ?side1 ?side2 A23.out).mono ?_); (case side1 => exact zq15); (case side2 => exact zq24); rintro e w60 ⟨rfl, hi, hb, hk⟩; refine ⟨_, rfl, ?_⟩; replace BK621 := za (KeepBut.blk hk (g' := gb621) (o := .cells #[.string (⟨#[]⟩ : ByteArray), .slice none 0 0, .bool false, .string (⟨#[]⟩ : ByteArray), .string (⟨#[]⟩ : ByteArray), .slice none 0 0, .slice none 0 0, .int .i64 0] 44 (0, 0)) zq30 NB621_0.out (by simp)); replace BK652 := za (KeepBut.blk hk (g' := gb652) (o := .cells #[.string t647, .string t657, .int .i64 t642] 100 (0, 0)) zq85 NB652_0.out (by simp)); replace HO664 := za (Kd.R_mono (Kd.R_keep (IsS83.apart (show IsS83 w0 _ g s0_0 t658 t659 t660 t661 from zq15) (by (with_reducible repeat (first | apply Kd.R_alloc | apply Kd.R_drewN | apply Kd.R_drew)); exact (Kd.R_mono (Kd.R_far (p := ⟨gb632, 1, none⟩) (Kd.R_types HO664.out BK632.out (by decide)) (fun _ hk => hk.2) (.slice Ao58 y662.length co58)) (fun _ h_ => h_.1))) (by decide)) hk (fun _ h => h.2)) (fun _ h => h.1)); replace BK632 := za (KeepBut.blk hk (g' := gb632) (o := .cells #[.string t627, .slice Ao58 y662.length co58, .bool false, .string (⟨#[]⟩ : ByteArray), .string (⟨#[]⟩ : ByteArray), .slice none 0 0, .slice none 0 0, .int .i64 t622] 44 (0, 0)) (by (with_reducible repeat (first | refine blk_drewN ?_ _ | refine blk_drew ?_ | refine blk_alloc ?_ _)); refine blk_put (cs := #[.string t627, u633001, .bool false, .string (⟨#[]⟩ : ByteArray), .string (⟨#[]⟩ : ByteArray), .slice none 0 0, .slice none 0 0, .int .i64 t622]) ?_ 1 _ rfl; (with_reducible repeat (first | refine blk_drewN ?_ _ | refine blk_drew ?_ | refine blk_alloc ?_ _)); exact BK632.out) NB632_0.out (by simp)); replace HK := za (KeepBut.trans zq23 hk (.inl rfl)); replace HB := za (hb); replace HI0 := za (hi); (try clear hb hk hi)))
        go_meet
        case rel => exact ⟨_, (t666), (t667), (t668), (t669), (y662), (.slice Ao58 y662.length co58), H', ⟨by have := HK1.out; first | omega | exact Nat.le_refl _⟩, ⟨zq125⟩, ⟨zq61⟩, ⟨zq62⟩, ⟨zq15⟩, ⟨zq23⟩, ⟨zq24⟩⟩
      ·
       rw [if_neg c22] at H
       exact absurd H (by simp)
     ·
      rw [if_neg c17] at H
      have c17b0 := beq_eq_false_iff_ne.mpr c17
      have c17b1 := bne_iff_ne.mpr c17
      (first | rw [c17b0] | (simp only [i64_w, i32_w]; rw [c17b0]) | skip)
      have H' := za H
      clear H
      obtain ⟨ASz61_0, cSz61_0, HGz61, hgz61, HSz61_0⟩ := HI0.out
      have hcz61_0 := cellS83_0 HGz61
      have hcz61_1 := cellS83_1 HGz61
      have hcz61_2 := cellS83_2 HGz61
      have hcz61_3 := cellS83_3 HGz61
      have hcz61_4 := cellS83_4 HGz61
      have hfz61_1 := blk_frozen HGz61 1
      have hfz61_2 := blk_frozen HGz61 2
      have hfz61_3 := blk_frozen HGz61 3
      have hfz61_4 := blk_frozen HGz61 4
      clear HGz61 hgz61
      go_wp2
      go_meet
      case rel => exact ⟨_, (x1001_1), (x1002_1), (x1003_1), (x1004_1), (x633001_1), (u633001), H', ⟨by have := HK1.out; first | omega | exact Nat.le_refl _⟩, ⟨zq91⟩, ⟨zq61⟩, ⟨zq62⟩, ⟨zq1⟩, ⟨zq5⟩, ⟨zq6⟩⟩
 case rest =>
  clear HC6
  obtain ⟨kq, x1001_5, x1002_5, x1003_5, x1004_5, x633001_5, u633001, HA, HJ5, HO_633001, BK621, BK632, HI0, HK, HB⟩ := hcut
  cases kq with
  | zero => exact absurd HA.out (by simp [rr_proc.j1])
  | succ kj5 =>
   have H := HA.out
   clear HA
   simp only [rr_proc.j1] at H
   replace H := Option.bind_eq_some_iff.mp H
   obtain ⟨⟨t670, t671, t672, t673⟩, A620, H⟩ := H
   (try dsimp only at H)
   have A62 := za A620
   clear A620
   replace H := Option.bind_eq_some_iff.mp H
   obtain ⟨⟨t674, t675, t676, t677, t678⟩, A630, H⟩ := H
   (try dsimp only at H)
   have A63 := za A630
   clear A630
   have HC64 := za H
   clear H
   go_upto_if 42 with (first | ((with_reducible refine gate_callee (f := 45) rfl ?_); refine goesL_ (some 40) rfl rfl Try.func45 zq13 rfl #[.pointer (some ⟨g, 0, none⟩), .string (⟨#[41]⟩ : ByteArray)] rfl zq2 ?_; (with_reducible refine (rr_want.calls g s0_0 x1001_5 x1002_5 x1003_5 x1004_5 (⟨#[41]⟩ : ByteArray) t670 t671 t672 t673 w0 _ ?side1 ?side2 A62.out).mono ?_); (case side1 => exact zq1); (case side2 => exact zq6); rintro e w65 ⟨rfl, hi, hb, hk⟩; refine ⟨_, rfl, ?_⟩; replace HO_633001 := za (Kd.R_mono (Kd.R_keep (IsS83.apart (show IsS83 w0 _ g s0_0 x1001_5 x1002_5 x1003_5 x1004_5 from zq1) (zr HO_633001.out) (by decide)) hk (fun _ h => h.2)) (fun _ h => h.1)); replace BK621 := za (KeepBut.blk hk (g' := gb621) (zb BK621.out) NB621_0.out (by simp)); replace BK632 := za (KeepBut.blk hk (g' := gb632) (zb BK632.out) NB632_0.out (by simp)); replace HK := za (KeepBut.trans zq5 hk (.inl rfl)); replace HB := za (hb); replace HI0 := za (hi); (try clear hb hk hi)) | ((with_reducible refine gate_callee (f := 48) rfl ?_); refine goesL_ (some 42) rfl rfl Try.func48 zq13 rfl #[.pointer (some ⟨g, 0, none⟩), .string (⟨#[45, 62]⟩ : ByteArray)] rfl zq2 ?_; (with_reducible refine (rr_take.calls g s0_0 t670 t671 t672 t673 (⟨#[45, 62]⟩ : ByteArray) t674 t675 t676 t677 t678 w0 _ ?side1 ?side2 A63.out).mono ?_); (case side1 => exact zq1); (case side2 => exact zq6); rintro e w66 ⟨rfl, hi, hb, hk⟩; refine ⟨_, rfl, ?_⟩; replace HO_633001 := za (Kd.R_mono (Kd.R_keep (IsS83.apart (show IsS83 w0 _ g s0_0 t670 t671 t672 t673 from zq1) (zr HO_633001.out) (by decide)) hk (fun _ h => h.2)) (fun _ h => h.1)); replace BK621 := za (KeepBut.blk hk (g' := gb621) (zb BK621.out) NB621_0.out (by simp)); replace BK632 := za (KeepBut.blk hk (g' := gb632) (zb BK632.out) NB632_0.out (by simp)); replace HK := za (KeepBut.trans zq5 hk (.inl rfl)); replace HB := za (hb); replace HI0 := za (hi); (try clear hb hk hi)))
   (try simp only [Act.put, List.setIfInBounds_toArray, List.set_cons_zero, List.set_cons_succ])
   go_cut [] (fun wc => ∃ (kq : Nat) (x1001_63 : Int) (x1002_63 : Int) (x1003_63 : Int) (x1004_63 : Int) (x633002_63 : Bool) (x633003_63 : ByteArray), Aside0 (rr_proc.j2 kq s0_0 x1001_63 x1002_63 x1003_63 x1004_63 t627 x633001_5 x633002_63 x633003_63 (⟨#[]⟩ : ByteArray) t622 = some (r1, r2, r3, r4, r5, r6, r7, r8, r9, r10, r11, r12)) ∧ Aside0 (kq ≤ kj5) ∧ Aside0 (Kd.R k100 100 wc w.heap.size (fun _ => True) u633001 x633001_5) ∧ Aside0 (wc.heap[gb621]? = some (.cells #[.string (⟨#[]⟩ : ByteArray), (.slice none 0 0), .bool false, .string (⟨#[]⟩ : ByteArray), .string (⟨#[]⟩ : ByteArray), (.slice none 0 0), (.slice none 0 0), .int .i64 0] 44 (0, 0))) ∧ Aside0 (wc.heap[gb632]? = some (.cells #[.string t627, u633001, .bool x633002_63, .string x633003_63, .string (⟨#[]⟩ : ByteArray), (.slice none 0 0), (.slice none 0 0), .int .i64 t622] 44 (0, 0))) ∧ Aside0 (IsS83 w0 wc g s0_0 x1001_63 x1002_63 x1003_63 x1004_63) ∧ Aside0 (KeepBut w wc g none) ∧ Aside0 (Below w0.heap.size w0 wc))
   case first =>
    have H := HC64.out
    clear HC64
    by_cases c67 : t674 = true
    ·
     subst c67
     rw [if_pos rfl] at H
     replace H := Option.bind_eq_some_iff.mp H
     obtain ⟨⟨t679, t680, t681, t682, t683⟩, A680, H⟩ := H
     (try dsimp only at H)
     have A68 := za A680
     clear A680
     have H' := za H
     clear H
     have hnb69 := NB632_621.out
     have hnc69 := NB621_632.out
     have hnb70 := NB632_0.out
     have hnc70 := NB0_632.out
     obtain ⟨hcz71_0, hcz71_1, hcz71_2, hcz71_3, hcz71_4, hcz71_5, hcz71_6, hcz71_7⟩ := zc8 BK632.out
     obtain ⟨hfz71_0, hfz71_1, hfz71_2, hfz71_3, hfz71_4, hfz71_5, hfz71_6, hfz71_7⟩ := zf8 BK632.out
     go_wp2_with (first | ((with_reducible refine gate_callee (f := 47) rfl ?_); refine goesL_ (some 45) rfl rfl Try.func47 zq13 rfl #[.pointer (some ⟨g, 0, none⟩)] rfl zq2 ?_; (with_reducible refine (rr_name.calls g s0_0 t675 t676 t677 t678 t679 t680 t681 t682 t683 w0 _ ?side1 ?side2 A68.out).mono ?_); (case side1 => exact zq1); (case side2 => exact zq6); rintro e w72 ⟨rfl, hi, hb, hk⟩; refine ⟨_, rfl, ?_⟩; replace HO_633001 := za (Kd.R_mono (Kd.R_keep (IsS83.apart (show IsS83 w0 _ g s0_0 t675 t676 t677 t678 from zq1) (by (with_reducible repeat (first | apply Kd.R_alloc | apply Kd.R_drewN | apply Kd.R_drew)); exact (Kd.R_mono (Kd.R_far (p := ⟨gb632, 2, none⟩) (Kd.R_types HO_633001.out BK632.out (by decide)) (fun _ hk => hk.2) (.bool true)) (fun _ h_ => h_.1))) (by decide)) hk (fun _ h => h.2)) (fun _ h => h.1)); replace BK621 := za (KeepBut.blk hk (g' := gb621) (o := .cells #[.string (⟨#[]⟩ : ByteArray), .slice none 0 0, .bool false, .string (⟨#[]⟩ : ByteArray), .string (⟨#[]⟩ : ByteArray), .slice none 0 0, .slice none 0 0, .int .i64 0] 44 (0, 0)) zq30 NB621_0.out (by simp)); replace BK632 := za (KeepBut.blk hk (g' := gb632) (o := .cells #[.string t627, u633001, .bool true, .string (⟨#[]⟩ : ByteArray), .string (⟨#[]⟩ : ByteArray), .slice none 0 0, .slice none 0 0, .int .i64 t622] 44 (0, 0)) (by (with_reducible repeat (first | refine blk_drewN ?_ _ | refine blk_drew ?_ | refine blk_alloc ?_ _)); refine blk_put (cs := #[.string t627, u633001, .bool false, .string (⟨#[]⟩ : ByteArray), .string (⟨#[]⟩ : ByteArray), .slice none 0 0, .slice none 0 0, .int .i64 t622]) ?_ 2 _ rfl; (with_reducible repeat (first | refine blk_drewN ?_ _ | refine blk_drew ?_ | refine blk_alloc ?_ _)); exact BK632.out) NB632_0.out (by simp)); replace HK := za (KeepBut.trans zq5 hk (.inl rfl)); replace HB := za (hb); replace HI0 := za (hi); (try clear hb hk hi); obtain ⟨hcz73_0, hcz73_1, hcz73_2, hcz73_3, hcz73_4, hcz73_5, hcz73_6, hcz73_7⟩ := zc8 BK632.out; obtain ⟨hfz73_0, hfz73_1, hfz73_2, hfz73_3, hfz73_4, hfz73_5, hfz73_6⟩ := zf7 BK632.out; have hfz73_7 := blk_frozen BK632.out 7))
     go_meet
     case rel => exact ⟨_, (t680), (t681), (t682), (t683), (true), (t679), H', ⟨by have := HJ5.out; first | omega | exact Nat.le_refl _⟩, ⟨by (with_reducible repeat (first | apply Kd.R_alloc | apply Kd.R_drewN | apply Kd.R_drew)); exact Kd.R_mono (Kd.R_far (p := ⟨gb632, 3, none⟩) (Kd.R_types HO_633001.out BK632.out (by decide)) (fun _ hk => hk.2) (.string t679)) (fun _ hk => trivial)⟩, ⟨zq30⟩, ⟨by (with_reducible repeat (first | refine blk_drewN ?_ _ | refine blk_drew ?_ | refine blk_alloc ?_ _)); refine blk_put (cs := #[.string t627, u633001, .bool true, .string (⟨#[]⟩ : ByteArray), .string (⟨#[]⟩ : ByteArray), .slice none 0 0, .slice none 0 0, .int .i64 t622]) ?_ 3 _ rfl; (with_reducible repeat (first | refine blk_drewN ?_ _ | refine blk_drew ?_ | refine blk_alloc ?_ _)); exact BK632.out⟩, ⟨zq1⟩, ⟨zq5⟩, ⟨zq6⟩⟩
    ·
     replace c67 := Bool.eq_false_iff.mpr c67
     subst c67
     rw [if_neg (show ¬ (false = true) by decide)] at H
     have H' := za H
     clear H
     go_wp2
     go_meet
     case rel => exact ⟨_, (t675), (t676), (t677), (t678), (false), ((⟨#[]⟩ : ByteArray)), H', ⟨by have := HJ5.out; first | omega | exact Nat.le_refl _⟩, ⟨zq91⟩, ⟨zq61⟩, ⟨zq62⟩, ⟨zq1⟩, ⟨zq5⟩, ⟨zq6⟩⟩
   case rest =>
    clear HC64
    obtain ⟨kq, x1001_63, x1002_63, x1003_63, x1004_63, x633002_63, x633003_63, HA, HJ63, HO_633001, BK621, BK632, HI0, HK, HB⟩ := hcut
    cases kq with
    | zero => exact absurd HA.out (by simp [rr_proc.j2])
    | succ kj63 =>
     have H := HA.out
     clear HA
     simp only [rr_proc.j2] at H
     replace H := Option.bind_eq_some_iff.mp H
     obtain ⟨⟨t684, t685, t686, t687⟩, A740, H⟩ := H
     (try dsimp only at H)
     have A74 := za A740
     clear A740
     replace H := Option.bind_eq_some_iff.mp H
     obtain ⟨⟨t688, t689, t690, t691, t692⟩, A750, H⟩ := H
     (try dsimp only at H)
     have A75 := za A750
     clear A750
     replace H := Option.bind_eq_some_iff.mp H
     obtain ⟨⟨t693, t694, t695, t696⟩, A760, H⟩ := H
     (try dsimp only at H)
     have A76 := za A760
     clear A760
     replace H := Option.bind_eq_some_iff.mp H
     obtain ⟨⟨t697, t698, t699, t700⟩, A770, H⟩ := H
     (try dsimp only at H)
     have A77 := za A770
     clear A770
     replace H := Option.bind_eq_some_iff.mp H
     obtain ⟨⟨t701, t702, t703, t704, t705⟩, A780, H⟩ := H
     (try dsimp only at H)
     have A78 := za A780
     clear A780
     by_cases c79 : t701 = true
     ·
      subst c79
      rw [if_pos rfl] at H
      replace H := Option.bind_eq_some_iff.mp H
      obtain ⟨⟨t706, t707, t708, t709⟩, A800, H⟩ := H
      (try dsimp only at H)
      have A80 := za A800
      clear A800
      replace H := Option.bind_eq_some_iff.mp H
      obtain ⟨⟨t710, t713, t714, t715, t716⟩, A810, H⟩ := H
      (try dsimp only at H)
      have A81 := za A810
      clear A810
      simp only [Option.some.injEq, Prod.mk.injEq] at H
      obtain ⟨rfl, rfl, rfl, rfl, rfl, rfl, rfl, rfl, rfl, rfl, rfl, rfl⟩ := H
      go_wp2_with (first | ((with_reducible refine gate_callee (f := 45) rfl ?_); refine goesL_ (some 48) rfl rfl Try.func45 zq13 rfl #[.pointer (some ⟨g, 0, none⟩), .string (⟨#[112, 99]⟩ : ByteArray)] rfl zq2 ?_; (with_reducible refine (rr_want.calls g s0_0 x1001_63 x1002_63 x1003_63 x1004_63 (⟨#[112, 99]⟩ : ByteArray) t684 t685 t686 t687 w0 _ ?side1 ?side2 A74.out).mono ?_); (case side1 => exact zq1); (case side2 => exact zq6); rintro e w82 ⟨rfl, hi, hb, hk⟩; refine ⟨_, rfl, ?_⟩; replace HO_633001 := za (Kd.R_mono (Kd.R_keep (IsS83.apart (show IsS83 w0 _ g s0_0 x1001_63 x1002_63 x1003_63 x1004_63 from zq1) (zr HO_633001.out) (by decide)) hk (fun _ h => h.2)) (fun _ h => h.1)); replace BK621 := za (KeepBut.blk hk (g' := gb621) (zb BK621.out) NB621_0.out (by simp)); replace BK632 := za (KeepBut.blk hk (g' := gb632) (zb BK632.out) NB632_0.out (by simp)); replace HK := za (KeepBut.trans zq5 hk (.inl rfl)); replace HB := za (hb); replace HI0 := za (hi); (try clear hb hk hi)) | ((with_reducible refine gate_callee (f := 47) rfl ?_); refine goesL_ (some 50) rfl rfl Try.func47 zq13 rfl #[.pointer (some ⟨g, 0, none⟩)] rfl zq2 ?_; (with_reducible refine (rr_name.calls g s0_0 t684 t685 t686 t687 t688 t689 t690 t691 t692 w0 _ ?side1 ?side2 A75.out).mono ?_); (case side1 => exact zq1); (case side2 => exact zq6); rintro e w83 ⟨rfl, hi, hb, hk⟩; refine ⟨_, rfl, ?_⟩; replace HO_633001 := za (Kd.R_mono (Kd.R_keep (IsS83.apart (show IsS83 w0 _ g s0_0 t684 t685 t686 t687 from zq1) (zr HO_633001.out) (by decide)) hk (fun _ h => h.2)) (fun _ h => h.1)); replace BK621 := za (KeepBut.blk hk (g' := gb621) (zb BK621.out) NB621_0.out (by simp)); replace BK632 := za (KeepBut.blk hk (g' := gb632) (zb BK632.out) NB632_0.out (by simp)); replace HK := za (KeepBut.trans zq5 hk (.inl rfl)); replace HB := za (hb); replace HI0 := za (hi); (try clear hb hk hi); have hnb84 := NB632_621.out; have hnc84 := NB621_632.out; have hnb85 := NB632_0.out; have hnc85 := NB0_632.out; obtain ⟨hcz86_0, hcz86_1, hcz86_2, hcz86_3, hcz86_4, hcz86_5, hcz86_6, hcz86_7⟩ := zc8 BK632.out; obtain ⟨hfz86_0, hfz86_1, hfz86_2, hfz86_3, hfz86_4, hfz86_5, hfz86_6⟩ := zf7 BK632.out; have hfz86_7 := blk_frozen BK632.out 7) | ((with_reducible refine gate_callee (f := 45) rfl ?_); refine goesL_ (some 53) rfl rfl Try.func45 zq13 rfl #[.pointer (some ⟨g, 0, none⟩), .string (⟨#[117, 115, 101, 115]⟩ : ByteArray)] rfl zq2 ?_; (with_reducible refine (rr_want.calls g s0_0 t689 t690 t691 t692 (⟨#[117, 115, 101, 115]⟩ : ByteArray) t693 t694 t695 t696 w0 _ ?side1 ?side2 A76.out).mono ?_); (case side1 => exact zq1); (case side2 => exact zq6); rintro e w87 ⟨rfl, hi, hb, hk⟩; refine ⟨_, rfl, ?_⟩; replace HO_633001 := za (Kd.R_mono (Kd.R_keep (IsS83.apart (show IsS83 w0 _ g s0_0 t689 t690 t691 t692 from zq1) (by (with_reducible repeat (first | apply Kd.R_alloc | apply Kd.R_drewN | apply Kd.R_drew)); exact (Kd.R_mono (Kd.R_far (p := ⟨gb632, 4, none⟩) (Kd.R_types HO_633001.out BK632.out (by decide)) (fun _ hk => hk.2) (.string t688)) (fun _ h_ => h_.1))) (by decide)) hk (fun _ h => h.2)) (fun _ h => h.1)); replace BK621 := za (KeepBut.blk hk (g' := gb621) (o := .cells #[.string (⟨#[]⟩ : ByteArray), .slice none 0 0, .bool false, .string (⟨#[]⟩ : ByteArray), .string (⟨#[]⟩ : ByteArray), .slice none 0 0, .slice none 0 0, .int .i64 0] 44 (0, 0)) zq30 NB621_0.out (by simp)); replace BK632 := za (KeepBut.blk hk (g' := gb632) (o := .cells #[.string t627, u633001, .bool x633002_63, .string x633003_63, .string t688, .slice none 0 0, .slice none 0 0, .int .i64 t622] 44 (0, 0)) (by (with_reducible repeat (first | refine blk_drewN ?_ _ | refine blk_drew ?_ | refine blk_alloc ?_ _)); refine blk_put (cs := #[.string t627, u633001, .bool x633002_63, .string x633003_63, .string (⟨#[]⟩ : ByteArray), .slice none 0 0, .slice none 0 0, .int .i64 t622]) ?_ 4 _ rfl; (with_reducible repeat (first | refine blk_drewN ?_ _ | refine blk_drew ?_ | refine blk_alloc ?_ _)); exact BK632.out) NB632_0.out (by simp)); replace HK := za (KeepBut.trans zq5 hk (.inl rfl)); replace HB := za (hb); replace HI0 := za (hi); (try clear hb hk hi)) | ((with_reducible refine gate_callee (f := 45) rfl ?_); refine goesL_ (some 55) rfl rfl Try.func45 zq13 rfl #[.pointer (some ⟨g, 0, none⟩), .string (⟨#[123]⟩ : ByteArray)] rfl zq2 ?_; (with_reducible refine (rr_want.calls g s0_0 t693 t694 t695 t696 (⟨#[123]⟩ : ByteArray) t697 t698 t699 t700 w0 _ ?side1 ?side2 A77.out).mono ?_); (case side1 => exact zq1); (case side2 => exact zq6); rintro e w88 ⟨rfl, hi, hb, hk⟩; refine ⟨_, rfl, ?_⟩; replace HO_633001 := za (Kd.R_mono (Kd.R_keep (IsS83.apart (show IsS83 w0 _ g s0_0 t693 t694 t695 t696 from zq1) (zr HO_633001.out) (by decide)) hk (fun _ h => h.2)) (fun _ h => h.1)); replace BK621 := za (KeepBut.blk hk (g' := gb621) (zb BK621.out) NB621_0.out (by simp)); replace BK632 := za (KeepBut.blk hk (g' := gb632) (zb BK632.out) NB632_0.out (by simp)); replace HK := za (KeepBut.trans zq5 hk (.inl rfl)); replace HB := za (hb); replace HI0 := za (hi); (try clear hb hk hi)) | ((with_reducible refine gate_callee (f := 54) rfl ?_); refine goesL_ (some 57) rfl rfl Try.func54 zq13 rfl #[.pointer (some ⟨g, 0, none⟩), .string (⟨#[125]⟩ : ByteArray)] rfl zq2 ?_; (with_reducible refine (rr_is.calls g s0_0 t697 t698 t699 t700 (⟨#[125]⟩ : ByteArray) true t702 t703 t704 t705 w0 _ ?side1 ?side2 A78.out).mono ?_); (case side1 => exact zq1); (case side2 => exact zq6); rintro e w89 ⟨rfl, hi, hb, hk⟩; refine ⟨_, rfl, ?_⟩; replace HO_633001 := za (Kd.R_mono (Kd.R_keep (IsS83.apart (show IsS83 w0 _ g s0_0 t697 t698 t699 t700 from zq1) (zr HO_633001.out) (by decide)) hk (fun _ h => h.2)) (fun _ h => h.1)); replace BK621 := za (KeepBut.blk hk (g' := gb621) (zb BK621.out) NB621_0.out (by simp)); replace BK632 := za (KeepBut.blk hk (g' := gb632) (zb BK632.out) NB632_0.out (by simp)); replace HK := za (KeepBut.trans zq5 hk (.inl rfl)); replace HB := za (hb); replace HI0 := za (hi); (try clear hb hk hi)) | ((with_reducible refine gate_callee (f := 45) rfl ?_); refine goesL_ (some 75) rfl rfl Try.func45 zq13 rfl #[.pointer (some ⟨g, 0, none⟩), .string (⟨#[125]⟩ : ByteArray)] rfl zq2 ?_; (with_reducible refine (rr_want.calls g s0_0 t702 t703 t704 t705 (⟨#[125]⟩ : ByteArray) t706 t707 t708 t709 w0 _ ?side1 ?side2 A80.out).mono ?_); (case side1 => exact zq1); (case side2 => exact zq6); rintro e w90 ⟨rfl, hi, hb, hk⟩; refine ⟨_, rfl, ?_⟩; replace HO_633001 := za (Kd.R_mono (Kd.R_keep (IsS83.apart (show IsS83 w0 _ g s0_0 t702 t703 t704 t705 from zq1) (zr HO_633001.out) (by decide)) hk (fun _ h => h.2)) (fun _ h => h.1)); replace BK621 := za (KeepBut.blk hk (g' := gb621) (zb BK621.out) NB621_0.out (by simp)); replace BK632 := za (KeepBut.blk hk (g' := gb632) (zb BK632.out) NB632_0.out (by simp)); replace HK := za (KeepBut.trans zq5 hk (.inl rfl)); replace HB := za (hb); replace HI0 := za (hi); (try clear hb hk hi)) | ((with_reducible refine gate_callee (f := 56) rfl ?_); refine goesL_ (some 77) rfl rfl Try.func56 zq13 rfl #[.pointer (some ⟨g, 0, none⟩)] rfl zq2 ?_; (with_reducible refine (rr_block.calls kj63 g s0_0 t706 t707 t708 t709 t710 t713 t714 t715 t716 w0 _ ?side1 ?side2 A81.out).mono ?_); (case side1 => exact zq1); (case side2 => exact zq6); rintro e w91 ⟨v711, rfl, ho0, hi, hb, hk⟩; refine ⟨_, rfl, ?_⟩; replace HO_633001 := za (Kd.R_mono (Kd.R_keep (IsS83.apart (show IsS83 w0 _ g s0_0 t706 t707 t708 t709 from zq1) (zr HO_633001.out) (by decide)) hk (fun _ h => h.2)) (fun _ h => h.1)); replace BK621 := za (KeepBut.blk hk (g' := gb621) (zb BK621.out) NB621_0.out (by simp)); replace BK632 := za (KeepBut.blk hk (g' := gb632) (zb BK632.out) NB632_0.out (by simp)); have HO712 := za (Kd.R_lower ho0 (keep_size (w := w) (g := g) (row := none) zq5)); replace HK := za (KeepBut.trans zq5 hk (.inl rfl)); replace HB := za (hb); replace HI0 := za (hi); (try clear hb hk hi ho0); obtain ⟨Ao92, co92, eo92⟩ := Kd.R_slice HO712.out; subst eo92; obtain ⟨hcz93_0, hcz93_1, hcz93_2, hcz93_3, hcz93_4, hcz93_5, hcz93_6, hcz93_7⟩ := zc8 BK632.out; obtain ⟨hfz93_0, hfz93_1, hfz93_2, hfz93_3, hfz93_4, hfz93_5, hfz93_6, hfz93_7⟩ := zf8 BK632.out; have hnb94 := NB621_0.out; have hnc94 := NB0_621.out; obtain ⟨hcz95_0, hcz95_1, hcz95_2, hcz95_3, hcz95_4, hcz95_5, hcz95_6, hcz95_7⟩ := zc8 BK621.out; obtain ⟨hfz95_0, hfz95_1, hfz95_2, hfz95_3, hfz95_4, hfz95_5, hfz95_6, hfz95_7⟩ := zf8 BK621.out; obtain ⟨Ao96, co96, eo96⟩ := Kd.R_slice HO_633001.out; subst eo96))
      refine bodyPost_ret (results_cell_row rfl _ _ gb621 44 #[.string t627, .slice Ao96 x633001_5.length co96, .bool x633002_63, .string x633003_63, .string t688, .slice none 0 0, .slice Ao92 t710.length co92, .int .i64 t622] (0, 0) _ rfl (by (with_reducible repeat (first | refine blk_drewN ?_ _ | refine blk_drew ?_ | refine blk_alloc ?_ _)); refine blk_put (cs := #[.string t627, .slice Ao96 x633001_5.length co96, .bool x633002_63, .string x633003_63, .string t688, .slice none 0 0, .slice Ao92 t710.length co92, .int .i64 0]) ?_ 7 _ rfl; (with_reducible repeat (first | refine blk_drewN ?_ _ | refine blk_drew ?_ | refine blk_alloc ?_ _)); refine blk_put (cs := #[.string t627, .slice Ao96 x633001_5.length co96, .bool x633002_63, .string x633003_63, .string t688, .slice none 0 0, .slice none 0 0, .int .i64 0]) ?_ 6 _ rfl; (with_reducible repeat (first | refine blk_drewN ?_ _ | refine blk_drew ?_ | refine blk_alloc ?_ _)); refine blk_put (cs := #[.string t627, .slice Ao96 x633001_5.length co96, .bool x633002_63, .string x633003_63, .string t688, .slice none 0 0, .slice none 0 0, .int .i64 0]) ?_ 5 _ rfl; (with_reducible repeat (first | refine blk_drewN ?_ _ | refine blk_drew ?_ | refine blk_alloc ?_ _)); refine blk_put (cs := #[.string t627, .slice Ao96 x633001_5.length co96, .bool x633002_63, .string x633003_63, .string (⟨#[]⟩ : ByteArray), .slice none 0 0, .slice none 0 0, .int .i64 0]) ?_ 4 _ rfl; (with_reducible repeat (first | refine blk_drewN ?_ _ | refine blk_drew ?_ | refine blk_alloc ?_ _)); refine blk_put (cs := #[.string t627, .slice Ao96 x633001_5.length co96, .bool x633002_63, .string (⟨#[]⟩ : ByteArray), .string (⟨#[]⟩ : ByteArray), .slice none 0 0, .slice none 0 0, .int .i64 0]) ?_ 3 _ rfl; (with_reducible repeat (first | refine blk_drewN ?_ _ | refine blk_drew ?_ | refine blk_alloc ?_ _)); refine blk_put (cs := #[.string t627, .slice Ao96 x633001_5.length co96, .bool false, .string (⟨#[]⟩ : ByteArray), .string (⟨#[]⟩ : ByteArray), .slice none 0 0, .slice none 0 0, .int .i64 0]) ?_ 2 _ rfl; (with_reducible repeat (first | refine blk_drewN ?_ _ | refine blk_drew ?_ | refine blk_alloc ?_ _)); refine blk_put (cs := #[.string t627, .slice none 0 0, .bool false, .string (⟨#[]⟩ : ByteArray), .string (⟨#[]⟩ : ByteArray), .slice none 0 0, .slice none 0 0, .int .i64 0]) ?_ 1 _ rfl; (with_reducible repeat (first | refine blk_drewN ?_ _ | refine blk_drew ?_ | refine blk_alloc ?_ _)); refine blk_put (cs := #[.string (⟨#[]⟩ : ByteArray), .slice none 0 0, .bool false, .string (⟨#[]⟩ : ByteArray), .string (⟨#[]⟩ : ByteArray), .slice none 0 0, .slice none 0 0, .int .i64 0]) ?_ 0 _ rfl; (with_reducible repeat (first | refine blk_drewN ?_ _ | refine blk_drew ?_ | refine blk_alloc ?_ _)); refine blk_far ?_ NB621_632.out _; (with_reducible repeat (first | refine blk_drewN ?_ _ | refine blk_drew ?_ | refine blk_alloc ?_ _)); exact BK621.out) Try.underlying44 rfl zq13) rfl ?_
      exact ⟨_, _, _, zq16, by (with_reducible repeat (first | apply Kd.R_alloc | apply Kd.R_drewN | apply Kd.R_drew)); exact Kd.R_mono (Kd.R_far (p := ⟨gb621, 7, none⟩) (Kd.R_far (p := ⟨gb621, 6, none⟩) (Kd.R_far (p := ⟨gb621, 5, none⟩) (Kd.R_far (p := ⟨gb621, 4, none⟩) (Kd.R_far (p := ⟨gb621, 3, none⟩) (Kd.R_far (p := ⟨gb621, 2, none⟩) (Kd.R_far (p := ⟨gb621, 1, none⟩) (Kd.R_far (p := ⟨gb621, 0, none⟩) (Kd.R_far (p := ⟨gb632, 6, none⟩) (Kd.R_types (Kd.R_types HO_633001.out BK632.out (by decide)) BK621.out (by decide)) (fun _ hk => hk.1.2) (.slice Ao92 t710.length co92)) (fun _ hk => hk.2) (.string t627)) (fun _ hk => hk.2) (.slice Ao96 x633001_5.length co96)) (fun _ hk => hk.2) (.bool x633002_63)) (fun _ hk => hk.2) (.string x633003_63)) (fun _ hk => hk.2) (.string t688)) (fun _ hk => hk.2) (.slice none 0 0)) (fun _ hk => hk.2) (.slice Ao92 t710.length co92)) (fun _ hk => hk.2) (.int .i64 t622)) (fun _ hk => trivial), zq33, by (with_reducible repeat (first | apply Kd.R_alloc | apply Kd.R_drewN | apply Kd.R_drew)); exact Kd.R_mono (Kd.R_far (p := ⟨gb621, 7, none⟩) (Kd.R_far (p := ⟨gb621, 6, none⟩) (Kd.R_far (p := ⟨gb621, 5, none⟩) (Kd.R_far (p := ⟨gb621, 4, none⟩) (Kd.R_far (p := ⟨gb621, 3, none⟩) (Kd.R_far (p := ⟨gb621, 2, none⟩) (Kd.R_far (p := ⟨gb621, 1, none⟩) (Kd.R_far (p := ⟨gb621, 0, none⟩) (Kd.R_far (p := ⟨gb632, 6, none⟩) (Kd.R_types (Kd.R_types HO712.out BK632.out (by decide)) BK621.out (by decide)) (fun _ hk => hk.1.2) (.slice Ao92 t710.length co92)) (fun _ hk => hk.2) (.string t627)) (fun _ hk => hk.2) (.slice Ao96 x633001_5.length co96)) (fun _ hk => hk.2) (.bool x633002_63)) (fun _ hk => hk.2) (.string x633003_63)) (fun _ hk => hk.2) (.string t688)) (fun _ hk => hk.2) (.slice none 0 0)) (fun _ hk => hk.2) (.slice Ao92 t710.length co92)) (fun _ hk => hk.2) (.int .i64 t622)) (fun _ hk => trivial), zq1, zq6, zq5⟩
     ·
      replace c79 := Bool.eq_false_iff.mpr c79
      subst c79
      rw [if_neg (show ¬ (false = true) by decide)] at H
      have H' := za H
      clear H
      go_wp2_with (first | ((with_reducible refine gate_callee (f := 45) rfl ?_); refine goesL_ (some 48) rfl rfl Try.func45 zq13 rfl #[.pointer (some ⟨g, 0, none⟩), .string (⟨#[112, 99]⟩ : ByteArray)] rfl zq2 ?_; (with_reducible refine (rr_want.calls g s0_0 x1001_63 x1002_63 x1003_63 x1004_63 (⟨#[112, 99]⟩ : ByteArray) t684 t685 t686 t687 w0 _ ?side1 ?side2 A74.out).mono ?_); (case side1 => exact zq1); (case side2 => exact zq6); rintro e w97 ⟨rfl, hi, hb, hk⟩; refine ⟨_, rfl, ?_⟩; replace HO_633001 := za (Kd.R_mono (Kd.R_keep (IsS83.apart (show IsS83 w0 _ g s0_0 x1001_63 x1002_63 x1003_63 x1004_63 from zq1) (zr HO_633001.out) (by decide)) hk (fun _ h => h.2)) (fun _ h => h.1)); replace BK621 := za (KeepBut.blk hk (g' := gb621) (zb BK621.out) NB621_0.out (by simp)); replace BK632 := za (KeepBut.blk hk (g' := gb632) (zb BK632.out) NB632_0.out (by simp)); replace HK := za (KeepBut.trans zq5 hk (.inl rfl)); replace HB := za (hb); replace HI0 := za (hi); (try clear hb hk hi)) | ((with_reducible refine gate_callee (f := 47) rfl ?_); refine goesL_ (some 50) rfl rfl Try.func47 zq13 rfl #[.pointer (some ⟨g, 0, none⟩)] rfl zq2 ?_; (with_reducible refine (rr_name.calls g s0_0 t684 t685 t686 t687 t688 t689 t690 t691 t692 w0 _ ?side1 ?side2 A75.out).mono ?_); (case side1 => exact zq1); (case side2 => exact zq6); rintro e w98 ⟨rfl, hi, hb, hk⟩; refine ⟨_, rfl, ?_⟩; replace HO_633001 := za (Kd.R_mono (Kd.R_keep (IsS83.apart (show IsS83 w0 _ g s0_0 t684 t685 t686 t687 from zq1) (zr HO_633001.out) (by decide)) hk (fun _ h => h.2)) (fun _ h => h.1)); replace BK621 := za (KeepBut.blk hk (g' := gb621) (zb BK621.out) NB621_0.out (by simp)); replace BK632 := za (KeepBut.blk hk (g' := gb632) (zb BK632.out) NB632_0.out (by simp)); replace HK := za (KeepBut.trans zq5 hk (.inl rfl)); replace HB := za (hb); replace HI0 := za (hi); (try clear hb hk hi); have hnb99 := NB632_621.out; have hnc99 := NB621_632.out; have hnb100 := NB632_0.out; have hnc100 := NB0_632.out; obtain ⟨hcz101_0, hcz101_1, hcz101_2, hcz101_3, hcz101_4, hcz101_5, hcz101_6, hcz101_7⟩ := zc8 BK632.out; obtain ⟨hfz101_0, hfz101_1, hfz101_2, hfz101_3, hfz101_4, hfz101_5, hfz101_6⟩ := zf7 BK632.out; have hfz101_7 := blk_frozen BK632.out 7) | ((with_reducible refine gate_callee (f := 45) rfl ?_); refine goesL_ (some 53) rfl rfl Try.func45 zq13 rfl #[.pointer (some ⟨g, 0, none⟩), .string (⟨#[117, 115, 101, 115]⟩ : ByteArray)] rfl zq2 ?_; (with_reducible refine (rr_want.calls g s0_0 t689 t690 t691 t692 (⟨#[117, 115, 101, 115]⟩ : ByteArray) t693 t694 t695 t696 w0 _ ?side1 ?side2 A76.out).mono ?_); (case side1 => exact zq1); (case side2 => exact zq6); rintro e w102 ⟨rfl, hi, hb, hk⟩; refine ⟨_, rfl, ?_⟩; replace HO_633001 := za (Kd.R_mono (Kd.R_keep (IsS83.apart (show IsS83 w0 _ g s0_0 t689 t690 t691 t692 from zq1) (by (with_reducible repeat (first | apply Kd.R_alloc | apply Kd.R_drewN | apply Kd.R_drew)); exact (Kd.R_mono (Kd.R_far (p := ⟨gb632, 4, none⟩) (Kd.R_types HO_633001.out BK632.out (by decide)) (fun _ hk => hk.2) (.string t688)) (fun _ h_ => h_.1))) (by decide)) hk (fun _ h => h.2)) (fun _ h => h.1)); replace BK621 := za (KeepBut.blk hk (g' := gb621) (o := .cells #[.string (⟨#[]⟩ : ByteArray), .slice none 0 0, .bool false, .string (⟨#[]⟩ : ByteArray), .string (⟨#[]⟩ : ByteArray), .slice none 0 0, .slice none 0 0, .int .i64 0] 44 (0, 0)) zq30 NB621_0.out (by simp)); replace BK632 := za (KeepBut.blk hk (g' := gb632) (o := .cells #[.string t627, u633001, .bool x633002_63, .string x633003_63, .string t688, .slice none 0 0, .slice none 0 0, .int .i64 t622] 44 (0, 0)) (by (with_reducible repeat (first | refine blk_drewN ?_ _ | refine blk_drew ?_ | refine blk_alloc ?_ _)); refine blk_put (cs := #[.string t627, u633001, .bool x633002_63, .string x633003_63, .string (⟨#[]⟩ : ByteArray), .slice none 0 0, .slice none 0 0, .int .i64 t622]) ?_ 4 _ rfl; (with_reducible repeat (first | refine blk_drewN ?_ _ | refine blk_drew ?_ | refine blk_alloc ?_ _)); exact BK632.out) NB632_0.out (by simp)); replace HK := za (KeepBut.trans zq5 hk (.inl rfl)); replace HB := za (hb); replace HI0 := za (hi); (try clear hb hk hi)) | ((with_reducible refine gate_callee (f := 45) rfl ?_); refine goesL_ (some 55) rfl rfl Try.func45 zq13 rfl #[.pointer (some ⟨g, 0, none⟩), .string (⟨#[123]⟩ : ByteArray)] rfl zq2 ?_; (with_reducible refine (rr_want.calls g s0_0 t693 t694 t695 t696 (⟨#[123]⟩ : ByteArray) t697 t698 t699 t700 w0 _ ?side1 ?side2 A77.out).mono ?_); (case side1 => exact zq1); (case side2 => exact zq6); rintro e w103 ⟨rfl, hi, hb, hk⟩; refine ⟨_, rfl, ?_⟩; replace HO_633001 := za (Kd.R_mono (Kd.R_keep (IsS83.apart (show IsS83 w0 _ g s0_0 t693 t694 t695 t696 from zq1) (zr HO_633001.out) (by decide)) hk (fun _ h => h.2)) (fun _ h => h.1)); replace BK621 := za (KeepBut.blk hk (g' := gb621) (zb BK621.out) NB621_0.out (by simp)); replace BK632 := za (KeepBut.blk hk (g' := gb632) (zb BK632.out) NB632_0.out (by simp)); replace HK := za (KeepBut.trans zq5 hk (.inl rfl)); replace HB := za (hb); replace HI0 := za (hi); (try clear hb hk hi)) | ((with_reducible refine gate_callee (f := 54) rfl ?_); refine goesL_ (some 57) rfl rfl Try.func54 zq13 rfl #[.pointer (some ⟨g, 0, none⟩), .string (⟨#[125]⟩ : ByteArray)] rfl zq2 ?_; (with_reducible refine (rr_is.calls g s0_0 t697 t698 t699 t700 (⟨#[125]⟩ : ByteArray) false t702 t703 t704 t705 w0 _ ?side1 ?side2 A78.out).mono ?_); (case side1 => exact zq1); (case side2 => exact zq6); rintro e w104 ⟨rfl, hi, hb, hk⟩; refine ⟨_, rfl, ?_⟩; replace HO_633001 := za (Kd.R_mono (Kd.R_keep (IsS83.apart (show IsS83 w0 _ g s0_0 t697 t698 t699 t700 from zq1) (zr HO_633001.out) (by decide)) hk (fun _ h => h.2)) (fun _ h => h.1)); replace BK621 := za (KeepBut.blk hk (g' := gb621) (zb BK621.out) NB621_0.out (by simp)); replace BK632 := za (KeepBut.blk hk (g' := gb632) (zb BK632.out) NB632_0.out (by simp)); replace HK := za (KeepBut.trans zq5 hk (.inl rfl)); replace HB := za (hb); replace HI0 := za (hi); (try clear hb hk hi)))
      (try simp only [Act.put, List.setIfInBounds_toArray, List.set_cons_zero, List.set_cons_succ])
      go_loopg [] kj63 (fun kq w' => ∃ (x1001_3 : Int) (x1002_3 : Int) (x1003_3 : Int) (x1004_3 : Int) (x633005_3 : List ByteArray) (u633005 : Value), Aside0 (rr_proc.l1 kq s0_0 x1001_3 x1002_3 x1003_3 x1004_3 t627 x633001_5 x633002_63 x633003_63 t688 x633005_3 t622 = some (r1, r2, r3, r4, r5, r6, r7, r8, r9, r10, r11, r12)) ∧ Aside0 (kq ≤ kj63) ∧ Aside0 (Kd.R k100 100 w' w.heap.size (fun _ => True) u633001 x633001_5) ∧ Aside0 (Kd.R Kd.string 9 w' w.heap.size (fun _ => True) u633005 x633005_3) ∧ Aside0 (w'.heap[gb621]? = some (.cells #[.string (⟨#[]⟩ : ByteArray), (.slice none 0 0), .bool false, .string (⟨#[]⟩ : ByteArray), .string (⟨#[]⟩ : ByteArray), (.slice none 0 0), (.slice none 0 0), .int .i64 0] 44 (0, 0))) ∧ Aside0 (w'.heap[gb632]? = some (.cells #[.string t627, u633001, .bool x633002_63, .string x633003_63, .string t688, u633005, (.slice none 0 0), .int .i64 t622] 44 (0, 0))) ∧ Aside0 (IsS83 w0 w' g s0_0 x1001_3 x1002_3 x1003_3 x1004_3) ∧ Aside0 (KeepBut w w' g none) ∧ Aside0 (Below w0.heap.size w0 w'))
      case atStart => exact ⟨(t702), (t703), (t704), (t705), (([] : List ByteArray)), (.slice none 0 0), H', ⟨Nat.le_refl _⟩, ⟨zq91⟩, ⟨zq33⟩, ⟨zq61⟩, ⟨zq62⟩, ⟨zq1⟩, ⟨zq5⟩, ⟨zq6⟩⟩
      case round =>
       clear H'
       obtain ⟨x1001_3, x1002_3, x1003_3, x1004_3, x633005_3, u633005, HA, HK3, HO_633001, HO_633005, BK621, BK632, HI0, HK, HB⟩ := hrel
       cases gk with
       | zero => exact absurd HA.out (by simp [rr_proc.l1])
       | succ k3 =>
        have H := HA.out
        clear HA
        simp only [rr_proc.l1] at H
        by_cases c105 : x1003_3 = 0
        ·
         rw [if_pos c105] at H
         have c105b0 := beq_iff_eq.mpr c105
         have c105b1 := bne_eq_false_iff_eq.mpr c105
         clear c105
         replace H := Option.bind_eq_some_iff.mp H
         obtain ⟨⟨t717, t718, t719, t720, t721⟩, A1060, H⟩ := H
         (try dsimp only at H)
         have A106 := za A1060
         clear A1060
         by_cases c107 : x633005_3.length < 8796093022208
         ·
          rw [if_pos c107] at H
          have LMc107 := za c107
          clear c107
          obtain ⟨y722, hy722⟩ : ∃ y_ : List ByteArray, y_ = (x633005_3 ++ [t717]) := ⟨_, rfl⟩
          replace H : ((rr_take.f s0_0 t718 t719 t720 t721 (⟨#[44]⟩ : ByteArray)).bind fun bt725 => (if bt725.1 = true then (rr_proc.l1 k3 s0_0 bt725.2.1 bt725.2.2.1 bt725.2.2.2.1 bt725.2.2.2.2 t627 x633001_5 x633002_63 x633003_63 t688 y722 t622) else ((rr_want.f s0_0 bt725.2.1 bt725.2.2.1 bt725.2.2.2.1 bt725.2.2.2.2 (⟨#[125]⟩ : ByteArray)).bind fun bt730 => ((rr_block.f k3 s0_0 bt730.1 bt730.2.1 bt730.2.2.1 bt730.2.2.2).bind fun bt734 => (some (t627, x633001_5, x633002_63, x633003_63, t688, y722, bt734.1, t622, bt734.2.1, bt734.2.2.1, bt734.2.2.2.1, bt734.2.2.2.2)))))) = some (r1, r2, r3, r4, r5, r6, r7, r8, r9, r10, r11, r12) := by first | (rw [hy722]; with_reducible exact H) | (have H2_ := (Option.bind_some _ _).symm.trans H; rw [hy722]; with_reducible exact H2_) | (have H2_ := (Option.bind_some _ _).symm.trans H; with_reducible exact H2_) | with_reducible exact H | (rw [hy722]; exact H) | exact H
          have Ny722 := za hy722
          clear hy722
          replace H := Option.bind_eq_some_iff.mp H
          obtain ⟨⟨t725, t726, t727, t728, t729⟩, A1080, H⟩ := H
          (try dsimp only at H)
          have A108 := za A1080
          clear A1080
          by_cases c109 : t725 = true
          ·
           subst c109
           rw [if_pos rfl] at H
           have H' := za H
           clear H
           obtain ⟨ASz110_0, cSz110_0, HGz110, hgz110, HSz110_0⟩ := HI0.out
           have hcz110_0 := cellS83_0 HGz110
           have hcz110_1 := cellS83_1 HGz110
           have hcz110_2 := cellS83_2 HGz110
           have hcz110_3 := cellS83_3 HGz110
           have hcz110_4 := cellS83_4 HGz110
           have hfz110_1 := blk_frozen HGz110 1
           have hfz110_2 := blk_frozen HGz110 2
           have hfz110_3 := blk_frozen HGz110 3
           have hfz110_4 := blk_frozen HGz110 4
           clear HGz110 hgz110
           try go_wp2
           replace HO_633001 := za (Kd.R_drew HO_633001.out)
           replace HO_633005 := za (Kd.R_drew HO_633005.out)
           replace BK621 := za (blk_drew BK621.out)
           replace BK632 := za (blk_drew BK632.out)
           replace HI0 := za (IsS83.drew HI0.out)
           replace HK := za (keep_drew HK.out)
           replace HB := za (below_drew1 HB.out)
           refine start_ (n := 8) (S := fun w' => w'.cell? ⟨gb632, 0, none⟩ = some (.string t627) ∧ w'.cell? ⟨gb632, 1, none⟩ = some (u633001) ∧ w'.cell? ⟨gb632, 2, none⟩ = some (.bool x633002_63) ∧ w'.cell? ⟨gb632, 3, none⟩ = some (.string x633003_63) ∧ w'.cell? ⟨gb632, 4, none⟩ = some (.string t688) ∧ w'.cell? ⟨gb632, 5, none⟩ = some (u633005) ∧ w'.cell? ⟨gb632, 6, none⟩ = some (.slice none 0 0) ∧ w'.cell? ⟨gb632, 7, none⟩ = some (.int .i64 t622)) (ds := [7]) #[false, false, false, false, false, false, false, false] zq13 rfl rfl ⟨(blk_cell BK632.out 0).trans rfl, (blk_cell BK632.out 1).trans rfl, (blk_cell BK632.out 2).trans rfl, (blk_cell BK632.out 3).trans rfl, (blk_cell BK632.out 4).trans rfl, (blk_cell BK632.out 5).trans rfl, (blk_cell BK632.out 6).trans rfl, (blk_cell BK632.out 7).trans rfl⟩ (fun hHeld => ?_); refine with_tabW rr_proc.tab20 rr_proc.bits20 (fun HT_ HW_ => ?_)
           generalize wr.drew = w111 at HO_633001 HO_633005 BK621 BK632 HI0 HK HB hHeld ⊢
           refine pure_ (i := 0) (N := some 64) #[true, false, false, false, false, false, false, false] rfl rfl (any_of HT_.out zq13) (fun _ _ _ h => h) (Or.inl ⟨by rfl, zpv⟩) zpw ?_
           refine pure_ (i := 2) (N := some 66) #[true, false, true, false, false, false, false, false] rfl rfl (any_of HT_.out zq13) (fun _ _ _ h => h) (Or.inl ⟨by rfl, zpv⟩) zpw ?_
           refine take_ (i := 1) (N := some 65) (v := ?_) (a' := ?_) #[true, true, true, false, false, false, false, false] rfl rfl (take_ofW HT_.out HW_.out zq13) (fun _ _ _ h => h) (Or.inl ⟨by rfl, ?_⟩) hHeld ?_ ?_
           rotate_left
           ·
            rintro w' ⟨s0, s1, s2, s3, s4, s5, s6, s7⟩
            go_simp
            with_reducible rfl
           rotate_left
           ·
            simp only [Act.put, List.setIfInBounds_toArray, List.set_cons_zero, List.set_cons_succ, i64_w, i32_w]
            rfl
           refine one_ (i := 3) (N := some 67) #[true, true, true, true, false, false, false, false] rfl rfl (one_of HT_.out zq13) (by decide) (fun K hK => ?_)
           refine goes_ Try.func47 zq13 rfl #[.pointer (some ⟨g, 0, none⟩)] (by rfl) rfl rfl zq2 ?_
           with_reducible refine (rr_name.calls g s0_0 x1001_3 x1002_3 x1003_3 x1004_3 t717 t718 t719 t720 t721 w0 _ ?side1 ?side2 A106.out).mono ?_
           (case side1 => exact zq1)
           (case side2 => exact zq6)
           rintro e w112 ⟨rfl, hi, hb, hk⟩
           refine ⟨_, rfl, ?_⟩
           replace HO_633001 := za (Kd.R_mono (Kd.R_keep (IsS83.apart (show IsS83 w0 _ g s0_0 x1001_3 x1002_3 x1003_3 x1004_3 from zq1) (zr HO_633001.out) (by decide)) hk (fun _ h => h.2)) (fun _ h => h.1))
           replace HO_633005 := za (Kd.R_mono (Kd.R_keep (IsS83.apart (show IsS83 w0 _ g s0_0 x1001_3 x1002_3 x1003_3 x1004_3 from zq1) (zr HO_633005.out) (by decide)) hk (fun _ h => h.2)) (fun _ h => h.1))
           replace BK621 := za (KeepBut.blk hk (g' := gb621) (zb BK621.out) NB621_0.out (by simp))
           replace BK632 := za (KeepBut.blk hk (g' := gb632) (zb BK632.out) NB632_0.out (by simp))
           replace HK := za (KeepBut.trans zq5 hk (.inl rfl))
           replace HB := za (hb)
           replace HI0 := za (hi)
           refine hK.out _ _ ⟨(blk_cell BK632.out 0).trans rfl, (blk_cell BK632.out 1).trans rfl, (blk_cell BK632.out 2).trans rfl, (blk_cell BK632.out 3).trans rfl, (blk_cell BK632.out 4).trans rfl, (blk_cell BK632.out 5).trans rfl, (blk_cell BK632.out 6).trans rfl, (blk_cell BK632.out 7).trans rfl⟩ (fun hHeld => ?_)
           clear hK K
           refine norm_ (a' := ?_) ?_ ?_
           rotate_left
           ·
            show Act.put _ (some 67) _ = _
            simp only [Act.put, List.setIfInBounds_toArray, List.set_cons_zero, List.set_cons_succ, i64_w, i32_w]
            rfl
           refine one_ (i := 4) (N := some 68) #[true, true, true, true, true, false, false, false] rfl rfl (one_of HT_.out zq13) (by decide) (fun K hK => ?_)
           refine value_ (w1 := ?_) (v := ?_) (by rfl) rfl ?_ ?_
           rotate_left 2
           ·
            go_simp
            constructor
            ·
             rfl
            ·
             rfl
           refine hK.out _ _ ⟨(blk_cell (blk_alloc BK632.out _) 0).trans rfl, (blk_cell (blk_alloc BK632.out _) 1).trans rfl, (blk_cell (blk_alloc BK632.out _) 2).trans rfl, (blk_cell (blk_alloc BK632.out _) 3).trans rfl, (blk_cell (blk_alloc BK632.out _) 4).trans rfl, (blk_cell (blk_alloc BK632.out _) 5).trans rfl, (blk_cell (blk_alloc BK632.out _) 6).trans rfl, (blk_cell (blk_alloc BK632.out _) 7).trans rfl⟩ (fun hHeld => ?_)
           clear hK K
           refine norm_ (a' := ?_) ?_ ?_
           rotate_left
           ·
            show Act.put _ (some 68) _ = _
            simp only [Act.put, List.setIfInBounds_toArray, List.set_cons_zero, List.set_cons_succ, i64_w, i32_w]
            rfl
           refine one_ (i := 5) (N := some 69) #[true, true, true, true, true, true, false, false] rfl rfl (one_of HT_.out zq13) (by decide) (fun K hK => ?_)
           refine Kd.R_append_step Kd.string w.heap.size (by rfl) (.tmp 65) (.tmp 68) 22 9 (.string ⟨#[]⟩) 16 rfl Try.underlying22 info9 rfl (by decide) (by omega) u633005 x633005_3 t717 [.string t717] (fun _ => True) (fun _ => False) rfl rfl ?aP (fun _ hk => hk.elim) ?aF ?aO (Below.refl _ _) ?aS ?aL ?_
           (case aP => exact rfl)
           (case aF => exact (fun _ _ => trivial))
           (case aO => exact (zr HO_633005.out))
           (case aS => exact (keep_size (w := w) (g := g) (row := none) zq5))
           (case aL => have := LMc107.out; omega)
           intro v723 w113 ho hb hg hat
           rw [← Ny722.out] at ho
           replace HO_633001 := za (Kd.R_over' (zr HO_633001.out) (Kd.R_typed (zr HO_633005.out)) (by decide) hg)
           replace BK621 := za (blk_grown (g := gb621) (zb BK621.out) hg (Kd.R_ne HO_633005.out BK621.out (by decide)))
           replace BK632 := za (blk_grown (g := gb632) (zb BK632.out) hg (Kd.R_ne HO_633005.out BK632.out (by decide)))
           replace HB := za (below_weaken zq6 HL.out hb)
           replace HI0 := za (IsS83.grown zq1 hg (IsS83.own_ne HI0.out HO_633005.out (by decide)))
           replace HK := za (KeepBut.trans zq5 (KeepBut.of_grown hg g) (Kd.R_base2 HO_633005.out))
           have HO724 := za (ho)
           clear HO_633005
           clear ho hb hg hat
           obtain ⟨Ao114, co114, eo114⟩ := Kd.R_slice HO724.out
           (first | subst eo114 | (injection eo114 with f1_ f2_ f3_; have f4_ := f1_.symm; have f5_ := f3_.symm; clear f1_ f2_ f3_; subst f4_; subst f5_))
           refine hK.out _ _ ⟨(blk_cell BK632.out 0).trans rfl, (blk_cell BK632.out 1).trans rfl, (blk_cell BK632.out 2).trans rfl, (blk_cell BK632.out 3).trans rfl, (blk_cell BK632.out 4).trans rfl, (blk_cell BK632.out 5).trans rfl, (blk_cell BK632.out 6).trans rfl, (blk_cell BK632.out 7).trans rfl⟩ (fun hHeld => ?_)
           clear hK K
           refine norm_ (a' := ?_) ?_ ?_
           rotate_left
           ·
            show Act.put _ (some 69) _ = _
            simp only [Act.put, List.setIfInBounds_toArray, List.set_cons_zero, List.set_cons_succ, i64_w, i32_w]
            rfl
           refine pure_ (i := 6) (N := some 70) #[true, true, true, true, true, true, true, false] rfl rfl (any_of HT_.out zq13) (fun _ _ _ h => h) (Or.inl ⟨by rfl, zpv⟩) zpw ?_
           refine last_ (i := 7) (N := none) #[true, true, true, true, true, true, true, true] rfl rfl (one_of HT_.out zq13) (by decide) (fun K hK => ?_)
           have hs115 : w113.cell? ⟨gb632, 5, none⟩ = some (u633005) := (blk_cell BK632.out 5).trans rfl
           have hfs115 := blk_frozen BK632.out 5
           have hns115_0 := NB621_632.out
           have hms115_0 := NB632_621.out
           refine skip_ (w1 := ?_) (by rfl) rfl ?_ ?_
           rotate_left
           ·
            go_simp
            rfl
           refine hK.out _ _ ?_
           clear hK K
           refine done_ (done_of HT_.out zq13) ?_
           try go_wp2_with (first | ((with_reducible refine gate_callee (f := 48) rfl ?_); refine goesL_ (some 72) rfl rfl Try.func48 zq13 rfl #[.pointer (some ⟨g, 0, none⟩), .string (⟨#[44]⟩ : ByteArray)] rfl zq2 ?_; (with_reducible refine (rr_take.calls g s0_0 t718 t719 t720 t721 (⟨#[44]⟩ : ByteArray) true t726 t727 t728 t729 w0 _ ?side1 ?side2 A108.out).mono ?_); (case side1 => exact zq1); (case side2 => exact zq6); rintro e w116 ⟨rfl, hi, hb, hk⟩; refine ⟨_, rfl, ?_⟩; replace HO_633001 := za (Kd.R_mono (Kd.R_keep (IsS83.apart (show IsS83 w0 _ g s0_0 t718 t719 t720 t721 from zq1) (by (with_reducible repeat (first | apply Kd.R_alloc | apply Kd.R_drewN | apply Kd.R_drew)); exact (Kd.R_mono (Kd.R_far (p := ⟨gb632, 5, none⟩) (Kd.R_types HO_633001.out BK632.out (by decide)) (fun _ hk => hk.2) (.slice Ao114 y722.length co114)) (fun _ h_ => h_.1))) (by decide)) hk (fun _ h => h.2)) (fun _ h => h.1)); replace BK621 := za (KeepBut.blk hk (g' := gb621) (o := .cells #[.string (⟨#[]⟩ : ByteArray), .slice none 0 0, .bool false, .string (⟨#[]⟩ : ByteArray), .string (⟨#[]⟩ : ByteArray), .slice none 0 0, .slice none 0 0, .int .i64 0] 44 (0, 0)) zq30 NB621_0.out (by simp)); replace HO724 := za (Kd.R_mono (Kd.R_keep (IsS83.apart (show IsS83 w0 _ g s0_0 t718 t719 t720 t721 from zq1) (by (with_reducible repeat (first | apply Kd.R_alloc | apply Kd.R_drewN | apply Kd.R_drew)); exact (Kd.R_mono (Kd.R_far (p := ⟨gb632, 5, none⟩) (Kd.R_types HO724.out BK632.out (by decide)) (fun _ hk => hk.2) (.slice Ao114 y722.length co114)) (fun _ h_ => h_.1))) (by decide)) hk (fun _ h => h.2)) (fun _ h => h.1)); replace BK632 := za (KeepBut.blk hk (g' := gb632) (o := .cells #[.string t627, u633001, .bool x633002_63, .string x633003_63, .string t688, .slice Ao114 y722.length co114, .slice none 0 0, .int .i64 t622] 44 (0, 0)) (by (with_reducible repeat (first | refine blk_drewN ?_ _ | refine blk_drew ?_ | refine blk_alloc ?_ _)); refine blk_put (cs := #[.string t627, u633001, .bool x633002_63, .string x633003_63, .string t688, u633005, .slice none 0 0, .int .i64 t622]) ?_ 5 _ rfl; (with_reducible repeat (first | refine blk_drewN ?_ _ | refine blk_drew ?_ | refine blk_alloc ?_ _)); exact BK632.out) NB632_0.out (by simp)); replace HK := za (KeepBut.trans zq5 hk (.inl rfl)); replace HB := za (hb); replace HI0 := za (hi); (try clear hb hk hi)))
           go_roundg k3
           case measure => have := HJ5.out; have := HJ63.out; have := HK3.out; omega
           case rel => exact ⟨(t726), (t727), (t728), (t729), (y722), (.slice Ao114 y722.length co114), H', ⟨by have := HJ5.out; have := HJ63.out; have := HK3.out; omega⟩, ⟨zq91⟩, ⟨by (with_reducible repeat (first | apply Kd.R_alloc | apply Kd.R_drewN | apply Kd.R_drew)); exact HO724.out⟩, ⟨zq61⟩, ⟨zq62⟩, ⟨zq1⟩, ⟨zq5⟩, ⟨zq6⟩⟩
          ·
           replace c109 := Bool.eq_false_iff.mpr c109
           subst c109
           rw [if_neg (show ¬ (false = true) by decide)] at H
           replace H := Option.bind_eq_some_iff.mp H
           obtain ⟨⟨t730, t731, t732, t733⟩, A1170, H⟩ := H
           (try dsimp only at H)
           have A117 := za A1170
           clear A1170
           replace H := Option.bind_eq_some_iff.mp H
           obtain ⟨⟨t734, t737, t738, t739, t740⟩, A1180, H⟩ := H
           (try dsimp only at H)
           have A118 := za A1180
           clear A1180
           simp only [Option.some.injEq, Prod.mk.injEq] at H
           obtain ⟨rfl, rfl, rfl, rfl, rfl, rfl, rfl, rfl, rfl, rfl, rfl, rfl⟩ := H
           obtain ⟨ASz119_0, cSz119_0, HGz119, hgz119, HSz119_0⟩ := HI0.out
           have hcz119_0 := cellS83_0 HGz119
           have hcz119_1 := cellS83_1 HGz119
           have hcz119_2 := cellS83_2 HGz119
           have hcz119_3 := cellS83_3 HGz119
           have hcz119_4 := cellS83_4 HGz119
           have hfz119_1 := blk_frozen HGz119 1
           have hfz119_2 := blk_frozen HGz119 2
           have hfz119_3 := blk_frozen HGz119 3
           have hfz119_4 := blk_frozen HGz119 4
           clear HGz119 hgz119
           try go_wp2
           replace HO_633001 := za (Kd.R_drew HO_633001.out)
           replace HO_633005 := za (Kd.R_drew HO_633005.out)
           replace BK621 := za (blk_drew BK621.out)
           replace BK632 := za (blk_drew BK632.out)
           replace HI0 := za (IsS83.drew HI0.out)
           replace HK := za (keep_drew HK.out)
           replace HB := za (below_drew1 HB.out)
           refine start_ (n := 8) (S := fun w' => w'.cell? ⟨gb632, 0, none⟩ = some (.string t627) ∧ w'.cell? ⟨gb632, 1, none⟩ = some (u633001) ∧ w'.cell? ⟨gb632, 2, none⟩ = some (.bool x633002_63) ∧ w'.cell? ⟨gb632, 3, none⟩ = some (.string x633003_63) ∧ w'.cell? ⟨gb632, 4, none⟩ = some (.string t688) ∧ w'.cell? ⟨gb632, 5, none⟩ = some (u633005) ∧ w'.cell? ⟨gb632, 6, none⟩ = some (.slice none 0 0) ∧ w'.cell? ⟨gb632, 7, none⟩ = some (.int .i64 t622)) (ds := [7]) #[false, false, false, false, false, false, false, false] zq13 rfl rfl ⟨(blk_cell BK632.out 0).trans rfl, (blk_cell BK632.out 1).trans rfl, (blk_cell BK632.out 2).trans rfl, (blk_cell BK632.out 3).trans rfl, (blk_cell BK632.out 4).trans rfl, (blk_cell BK632.out 5).trans rfl, (blk_cell BK632.out 6).trans rfl, (blk_cell BK632.out 7).trans rfl⟩ (fun hHeld => ?_); refine with_tabW rr_proc.tab20 rr_proc.bits20 (fun HT_ HW_ => ?_)
           generalize wr.drew = w120 at HO_633001 HO_633005 BK621 BK632 HI0 HK HB hHeld ⊢
           refine pure_ (i := 0) (N := some 64) #[true, false, false, false, false, false, false, false] rfl rfl (any_of HT_.out zq13) (fun _ _ _ h => h) (Or.inl ⟨by rfl, zpv⟩) zpw ?_
           refine pure_ (i := 2) (N := some 66) #[true, false, true, false, false, false, false, false] rfl rfl (any_of HT_.out zq13) (fun _ _ _ h => h) (Or.inl ⟨by rfl, zpv⟩) zpw ?_
           refine take_ (i := 1) (N := some 65) (v := ?_) (a' := ?_) #[true, true, true, false, false, false, false, false] rfl rfl (take_ofW HT_.out HW_.out zq13) (fun _ _ _ h => h) (Or.inl ⟨by rfl, ?_⟩) hHeld ?_ ?_
           rotate_left
           ·
            rintro w' ⟨s0, s1, s2, s3, s4, s5, s6, s7⟩
            go_simp
            with_reducible rfl
           rotate_left
           ·
            simp only [Act.put, List.setIfInBounds_toArray, List.set_cons_zero, List.set_cons_succ, i64_w, i32_w]
            rfl
           refine one_ (i := 3) (N := some 67) #[true, true, true, true, false, false, false, false] rfl rfl (one_of HT_.out zq13) (by decide) (fun K hK => ?_)
           refine goes_ Try.func47 zq13 rfl #[.pointer (some ⟨g, 0, none⟩)] (by rfl) rfl rfl zq2 ?_
           with_reducible refine (rr_name.calls g s0_0 x1001_3 x1002_3 x1003_3 x1004_3 t717 t718 t719 t720 t721 w0 _ ?side1 ?side2 A106.out).mono ?_
           (case side1 => exact zq1)
           (case side2 => exact zq6)
           rintro e w121 ⟨rfl, hi, hb, hk⟩
           refine ⟨_, rfl, ?_⟩
           replace HO_633001 := za (Kd.R_mono (Kd.R_keep (IsS83.apart (show IsS83 w0 _ g s0_0 x1001_3 x1002_3 x1003_3 x1004_3 from zq1) (zr HO_633001.out) (by decide)) hk (fun _ h => h.2)) (fun _ h => h.1))
           replace HO_633005 := za (Kd.R_mono (Kd.R_keep (IsS83.apart (show IsS83 w0 _ g s0_0 x1001_3 x1002_3 x1003_3 x1004_3 from zq1) (zr HO_633005.out) (by decide)) hk (fun _ h => h.2)) (fun _ h => h.1))
           replace BK621 := za (KeepBut.blk hk (g' := gb621) (zb BK621.out) NB621_0.out (by simp))
           replace BK632 := za (KeepBut.blk hk (g' := gb632) (zb BK632.out) NB632_0.out (by simp))
           replace HK := za (KeepBut.trans zq5 hk (.inl rfl))
           replace HB := za (hb)
           replace HI0 := za (hi)
           refine hK.out _ _ ⟨(blk_cell BK632.out 0).trans rfl, (blk_cell BK632.out 1).trans rfl, (blk_cell BK632.out 2).trans rfl, (blk_cell BK632.out 3).trans rfl, (blk_cell BK632.out 4).trans rfl, (blk_cell BK632.out 5).trans rfl, (blk_cell BK632.out 6).trans rfl, (blk_cell BK632.out 7).trans rfl⟩ (fun hHeld => ?_)
           clear hK K
           refine norm_ (a' := ?_) ?_ ?_
           rotate_left
           ·
            show Act.put _ (some 67) _ = _
            simp only [Act.put, List.setIfInBounds_toArray, List.set_cons_zero, List.set_cons_succ, i64_w, i32_w]
            rfl
           refine one_ (i := 4) (N := some 68) #[true, true, true, true, true, false, false, false] rfl rfl (one_of HT_.out zq13) (by decide) (fun K hK => ?_)
           refine value_ (w1 := ?_) (v := ?_) (by rfl) rfl ?_ ?_
           rotate_left 2
           ·
            go_simp
            constructor
            ·
             rfl
            ·
             rfl
           refine hK.out _ _ ⟨(blk_cell (blk_alloc BK632.out _) 0).trans rfl, (blk_cell (blk_alloc BK632.out _) 1).trans rfl, (blk_cell (blk_alloc BK632.out _) 2).trans rfl, (blk_cell (blk_alloc BK632.out _) 3).trans rfl, (blk_cell (blk_alloc BK632.out _) 4).trans rfl, (blk_cell (blk_alloc BK632.out _) 5).trans rfl, (blk_cell (blk_alloc BK632.out _) 6).trans rfl, (blk_cell (blk_alloc BK632.out _) 7).trans rfl⟩ (fun hHeld => ?_)
           clear hK K
           refine norm_ (a' := ?_) ?_ ?_
           rotate_left
           ·
            show Act.put _ (some 68) _ = _
            simp only [Act.put, List.setIfInBounds_toArray, List.set_cons_zero, List.set_cons_succ, i64_w, i32_w]
            rfl
           refine one_ (i := 5) (N := some 69) #[true, true, true, true, true, true, false, false] rfl rfl (one_of HT_.out zq13) (by decide) (fun K hK => ?_)
           refine Kd.R_append_step Kd.string w.heap.size (by rfl) (.tmp 65) (.tmp 68) 22 9 (.string ⟨#[]⟩) 16 rfl Try.underlying22 info9 rfl (by decide) (by omega) u633005 x633005_3 t717 [.string t717] (fun _ => True) (fun _ => False) rfl rfl ?aP (fun _ hk => hk.elim) ?aF ?aO (Below.refl _ _) ?aS ?aL ?_
           (case aP => exact rfl)
           (case aF => exact (fun _ _ => trivial))
           (case aO => exact (zr HO_633005.out))
           (case aS => exact (keep_size (w := w) (g := g) (row := none) zq5))
           (case aL => have := LMc107.out; omega)
           intro v723 w122 ho hb hg hat
           rw [← Ny722.out] at ho
           replace HO_633001 := za (Kd.R_over' (zr HO_633001.out) (Kd.R_typed (zr HO_633005.out)) (by decide) hg)
           replace BK621 := za (blk_grown (g := gb621) (zb BK621.out) hg (Kd.R_ne HO_633005.out BK621.out (by decide)))
           replace BK632 := za (blk_grown (g := gb632) (zb BK632.out) hg (Kd.R_ne HO_633005.out BK632.out (by decide)))
           replace HB := za (below_weaken zq6 HL.out hb)
           replace HI0 := za (IsS83.grown zq1 hg (IsS83.own_ne HI0.out HO_633005.out (by decide)))
           replace HK := za (KeepBut.trans zq5 (KeepBut.of_grown hg g) (Kd.R_base2 HO_633005.out))
           have HO724 := za (ho)
           clear HO_633005
           clear ho hb hg hat
           obtain ⟨Ao123, co123, eo123⟩ := Kd.R_slice HO724.out
           (first | subst eo123 | (injection eo123 with f1_ f2_ f3_; have f4_ := f1_.symm; have f5_ := f3_.symm; clear f1_ f2_ f3_; subst f4_; subst f5_))
           refine hK.out _ _ ⟨(blk_cell BK632.out 0).trans rfl, (blk_cell BK632.out 1).trans rfl, (blk_cell BK632.out 2).trans rfl, (blk_cell BK632.out 3).trans rfl, (blk_cell BK632.out 4).trans rfl, (blk_cell BK632.out 5).trans rfl, (blk_cell BK632.out 6).trans rfl, (blk_cell BK632.out 7).trans rfl⟩ (fun hHeld => ?_)
           clear hK K
           refine norm_ (a' := ?_) ?_ ?_
           rotate_left
           ·
            show Act.put _ (some 69) _ = _
            simp only [Act.put, List.setIfInBounds_toArray, List.set_cons_zero, List.set_cons_succ, i64_w, i32_w]
            rfl
           refine pure_ (i := 6) (N := some 70) #[true, true, true, true, true, true, true, false] rfl rfl (any_of HT_.out zq13) (fun _ _ _ h => h) (Or.inl ⟨by rfl, zpv⟩) zpw ?_
           refine last_ (i := 7) (N := none) #[true, true, true, true, true, true, true, true] rfl rfl (one_of HT_.out zq13) (by decide) (fun K hK => ?_)
           have hs124 : w122.cell? ⟨gb632, 5, none⟩ = some (u633005) := (blk_cell BK632.out 5).trans rfl
           have hfs124 := blk_frozen BK632.out 5
           have hns124_0 := NB621_632.out
           have hms124_0 := NB632_621.out
           refine skip_ (w1 := ?_) (by rfl) rfl ?_ ?_
           rotate_left
           ·
            go_simp
            rfl
           refine hK.out _ _ ?_
           clear hK K
           refine done_ (done_of HT_.out zq13) ?_
           try go_wp2_with (first | ((with_reducible refine gate_callee (f := 48) rfl ?_); refine goesL_ (some 72) rfl rfl Try.func48 zq13 rfl #[.pointer (some ⟨g, 0, none⟩), .string (⟨#[44]⟩ : ByteArray)] rfl zq2 ?_; (with_reducible refine (rr_take.calls g s0_0 t718 t719 t720 t721 (⟨#[44]⟩ : ByteArray) false t726 t727 t728 t729 w0 _ ?side1 ?side2 A108.out).mono ?_); (case side1 => exact zq1); (case side2 => exact zq6); rintro e w125 ⟨rfl, hi, hb, hk⟩; refine ⟨_, rfl, ?_⟩; replace HO_633001 := za (Kd.R_mono (Kd.R_keep (IsS83.apart (show IsS83 w0 _ g s0_0 t718 t719 t720 t721 from zq1) (by (with_reducible repeat (first | apply Kd.R_alloc | apply Kd.R_drewN | apply Kd.R_drew)); exact (Kd.R_mono (Kd.R_far (p := ⟨gb632, 5, none⟩) (Kd.R_types HO_633001.out BK632.out (by decide)) (fun _ hk => hk.2) (.slice Ao123 y722.length co123)) (fun _ h_ => h_.1))) (by decide)) hk (fun _ h => h.2)) (fun _ h => h.1)); replace BK621 := za (KeepBut.blk hk (g' := gb621) (o := .cells #[.string (⟨#[]⟩ : ByteArray), .slice none 0 0, .bool false, .string (⟨#[]⟩ : ByteArray), .string (⟨#[]⟩ : ByteArray), .slice none 0 0, .slice none 0 0, .int .i64 0] 44 (0, 0)) zq30 NB621_0.out (by simp)); replace HO724 := za (Kd.R_mono (Kd.R_keep (IsS83.apart (show IsS83 w0 _ g s0_0 t718 t719 t720 t721 from zq1) (by (with_reducible repeat (first | apply Kd.R_alloc | apply Kd.R_drewN | apply Kd.R_drew)); exact (Kd.R_mono (Kd.R_far (p := ⟨gb632, 5, none⟩) (Kd.R_types HO724.out BK632.out (by decide)) (fun _ hk => hk.2) (.slice Ao123 y722.length co123)) (fun _ h_ => h_.1))) (by decide)) hk (fun _ h => h.2)) (fun _ h => h.1)); replace BK632 := za (KeepBut.blk hk (g' := gb632) (o := .cells #[.string t627, u633001, .bool x633002_63, .string x633003_63, .string t688, .slice Ao123 y722.length co123, .slice none 0 0, .int .i64 t622] 44 (0, 0)) (by (with_reducible repeat (first | refine blk_drewN ?_ _ | refine blk_drew ?_ | refine blk_alloc ?_ _)); refine blk_put (cs := #[.string t627, u633001, .bool x633002_63, .string x633003_63, .string t688, u633005, .slice none 0 0, .int .i64 t622]) ?_ 5 _ rfl; (with_reducible repeat (first | refine blk_drewN ?_ _ | refine blk_drew ?_ | refine blk_alloc ?_ _)); exact BK632.out) NB632_0.out (by simp)); replace HK := za (KeepBut.trans zq5 hk (.inl rfl)); replace HB := za (hb); replace HI0 := za (hi); (try clear hb hk hi)) | ((with_reducible refine gate_callee (f := 45) rfl ?_); refine goesL_ (some 75) rfl rfl Try.func45 zq13 rfl #[.pointer (some ⟨g, 0, none⟩), .string (⟨#[125]⟩ : ByteArray)] rfl zq2 ?_; (with_reducible refine (rr_want.calls g s0_0 t726 t727 t728 t729 (⟨#[125]⟩ : ByteArray) t730 t731 t732 t733 w0 _ ?side1 ?side2 A117.out).mono ?_); (case side1 => exact zq1); (case side2 => exact zq6); rintro e w126 ⟨rfl, hi, hb, hk⟩; refine ⟨_, rfl, ?_⟩; replace HO_633001 := za (Kd.R_mono (Kd.R_keep (IsS83.apart (show IsS83 w0 _ g s0_0 t726 t727 t728 t729 from zq1) (zr HO_633001.out) (by decide)) hk (fun _ h => h.2)) (fun _ h => h.1)); replace BK621 := za (KeepBut.blk hk (g' := gb621) (zb BK621.out) NB621_0.out (by simp)); replace BK632 := za (KeepBut.blk hk (g' := gb632) (zb BK632.out) NB632_0.out (by simp)); replace HO724 := za (Kd.R_mono (Kd.R_keep (IsS83.apart (show IsS83 w0 _ g s0_0 t726 t727 t728 t729 from zq1) (zr HO724.out) (by decide)) hk (fun _ h => h.2)) (fun _ h => h.1)); replace HK := za (KeepBut.trans zq5 hk (.inl rfl)); replace HB := za (hb); replace HI0 := za (hi); (try clear hb hk hi)) | ((with_reducible refine gate_callee (f := 56) rfl ?_); refine goesL_ (some 77) rfl rfl Try.func56 zq13 rfl #[.pointer (some ⟨g, 0, none⟩)] rfl zq2 ?_; (with_reducible refine (rr_block.calls k3 g s0_0 t730 t731 t732 t733 t734 t737 t738 t739 t740 w0 _ ?side1 ?side2 A118.out).mono ?_); (case side1 => exact zq1); (case side2 => exact zq6); rintro e w127 ⟨v735, rfl, ho0, hi, hb, hk⟩; refine ⟨_, rfl, ?_⟩; replace HO_633001 := za (Kd.R_mono (Kd.R_keep (IsS83.apart (show IsS83 w0 _ g s0_0 t730 t731 t732 t733 from zq1) (zr HO_633001.out) (by decide)) hk (fun _ h => h.2)) (fun _ h => h.1)); replace BK621 := za (KeepBut.blk hk (g' := gb621) (zb BK621.out) NB621_0.out (by simp)); replace BK632 := za (KeepBut.blk hk (g' := gb632) (zb BK632.out) NB632_0.out (by simp)); replace HO724 := za (Kd.R_mono (Kd.R_keep (IsS83.apart (show IsS83 w0 _ g s0_0 t730 t731 t732 t733 from zq1) (zr HO724.out) (by decide)) hk (fun _ h => h.2)) (fun _ h => h.1)); have HO736 := za (Kd.R_lower ho0 (keep_size (w := w) (g := g) (row := none) zq5)); replace HK := za (KeepBut.trans zq5 hk (.inl rfl)); replace HB := za (hb); replace HI0 := za (hi); (try clear hb hk hi ho0); obtain ⟨Ao128, co128, eo128⟩ := Kd.R_slice HO736.out; subst eo128; have hnb129 := NB632_621.out; have hnc129 := NB621_632.out; have hnb130 := NB632_0.out; have hnc130 := NB0_632.out; obtain ⟨hcz131_0, hcz131_1, hcz131_2, hcz131_3, hcz131_4, hcz131_5, hcz131_6, hcz131_7⟩ := zc8 BK632.out; obtain ⟨hfz131_0, hfz131_1, hfz131_2, hfz131_3, hfz131_4, hfz131_5, hfz131_6, hfz131_7⟩ := zf8 BK632.out; have hnb132 := NB621_0.out; have hnc132 := NB0_621.out; obtain ⟨hcz133_0, hcz133_1, hcz133_2, hcz133_3, hcz133_4, hcz133_5, hcz133_6, hcz133_7⟩ := zc8 BK621.out; obtain ⟨hfz133_0, hfz133_1, hfz133_2, hfz133_3, hfz133_4, hfz133_5, hfz133_6, hfz133_7⟩ := zf8 BK621.out; obtain ⟨Ao134, co134, eo134⟩ := Kd.R_slice HO_633001.out; subst eo134))
           refine bodyPost_ret (results_cell_row rfl _ _ gb621 44 #[.string t627, .slice Ao134 x633001_5.length co134, .bool x633002_63, .string x633003_63, .string t688, .slice Ao123 y722.length co123, .slice Ao128 t734.length co128, .int .i64 t622] (0, 0) _ rfl (by (with_reducible repeat (first | refine blk_drewN ?_ _ | refine blk_drew ?_ | refine blk_alloc ?_ _)); refine blk_put (cs := #[.string t627, .slice Ao134 x633001_5.length co134, .bool x633002_63, .string x633003_63, .string t688, .slice Ao123 y722.length co123, .slice Ao128 t734.length co128, .int .i64 0]) ?_ 7 _ rfl; (with_reducible repeat (first | refine blk_drewN ?_ _ | refine blk_drew ?_ | refine blk_alloc ?_ _)); refine blk_put (cs := #[.string t627, .slice Ao134 x633001_5.length co134, .bool x633002_63, .string x633003_63, .string t688, .slice Ao123 y722.length co123, .slice none 0 0, .int .i64 0]) ?_ 6 _ rfl; (with_reducible repeat (first | refine blk_drewN ?_ _ | refine blk_drew ?_ | refine blk_alloc ?_ _)); refine blk_put (cs := #[.string t627, .slice Ao134 x633001_5.length co134, .bool x633002_63, .string x633003_63, .string t688, .slice none 0 0, .slice none 0 0, .int .i64 0]) ?_ 5 _ rfl; (with_reducible repeat (first | refine blk_drewN ?_ _ | refine blk_drew ?_ | refine blk_alloc ?_ _)); refine blk_put (cs := #[.string t627, .slice Ao134 x633001_5.length co134, .bool x633002_63, .string x633003_63, .string (⟨#[]⟩ : ByteArray), .slice none 0 0, .slice none 0 0, .int .i64 0]) ?_ 4 _ rfl; (with_reducible repeat (first | refine blk_drewN ?_ _ | refine blk_drew ?_ | refine blk_alloc ?_ _)); refine blk_put (cs := #[.string t627, .slice Ao134 x633001_5.length co134, .bool x633002_63, .string (⟨#[]⟩ : ByteArray), .string (⟨#[]⟩ : ByteArray), .slice none 0 0, .slice none 0 0, .int .i64 0]) ?_ 3 _ rfl; (with_reducible repeat (first | refine blk_drewN ?_ _ | refine blk_drew ?_ | refine blk_alloc ?_ _)); refine blk_put (cs := #[.string t627, .slice Ao134 x633001_5.length co134, .bool false, .string (⟨#[]⟩ : ByteArray), .string (⟨#[]⟩ : ByteArray), .slice none 0 0, .slice none 0 0, .int .i64 0]) ?_ 2 _ rfl; (with_reducible repeat (first | refine blk_drewN ?_ _ | refine blk_drew ?_ | refine blk_alloc ?_ _)); refine blk_put (cs := #[.string t627, .slice none 0 0, .bool false, .string (⟨#[]⟩ : ByteArray), .string (⟨#[]⟩ : ByteArray), .slice none 0 0, .slice none 0 0, .int .i64 0]) ?_ 1 _ rfl; (with_reducible repeat (first | refine blk_drewN ?_ _ | refine blk_drew ?_ | refine blk_alloc ?_ _)); refine blk_put (cs := #[.string (⟨#[]⟩ : ByteArray), .slice none 0 0, .bool false, .string (⟨#[]⟩ : ByteArray), .string (⟨#[]⟩ : ByteArray), .slice none 0 0, .slice none 0 0, .int .i64 0]) ?_ 0 _ rfl; (with_reducible repeat (first | refine blk_drewN ?_ _ | refine blk_drew ?_ | refine blk_alloc ?_ _)); refine blk_far ?_ NB621_632.out _; (with_reducible repeat (first | refine blk_drewN ?_ _ | refine blk_drew ?_ | refine blk_alloc ?_ _)); exact BK621.out) Try.underlying44 rfl zq13) rfl ?_
           exact ⟨_, _, _, zq16, by (with_reducible repeat (first | apply Kd.R_alloc | apply Kd.R_drewN | apply Kd.R_drew)); exact Kd.R_mono (Kd.R_far (p := ⟨gb621, 7, none⟩) (Kd.R_far (p := ⟨gb621, 6, none⟩) (Kd.R_far (p := ⟨gb621, 5, none⟩) (Kd.R_far (p := ⟨gb621, 4, none⟩) (Kd.R_far (p := ⟨gb621, 3, none⟩) (Kd.R_far (p := ⟨gb621, 2, none⟩) (Kd.R_far (p := ⟨gb621, 1, none⟩) (Kd.R_far (p := ⟨gb621, 0, none⟩) (Kd.R_far (p := ⟨gb632, 6, none⟩) (Kd.R_types (Kd.R_types HO_633001.out BK632.out (by decide)) BK621.out (by decide)) (fun _ hk => hk.1.2) (.slice Ao128 t734.length co128)) (fun _ hk => hk.2) (.string t627)) (fun _ hk => hk.2) (.slice Ao134 x633001_5.length co134)) (fun _ hk => hk.2) (.bool x633002_63)) (fun _ hk => hk.2) (.string x633003_63)) (fun _ hk => hk.2) (.string t688)) (fun _ hk => hk.2) (.slice Ao123 y722.length co123)) (fun _ hk => hk.2) (.slice Ao128 t734.length co128)) (fun _ hk => hk.2) (.int .i64 t622)) (fun _ hk => trivial), by (with_reducible repeat (first | apply Kd.R_alloc | apply Kd.R_drewN | apply Kd.R_drew)); exact Kd.R_mono (Kd.R_far (p := ⟨gb621, 7, none⟩) (Kd.R_far (p := ⟨gb621, 6, none⟩) (Kd.R_far (p := ⟨gb621, 5, none⟩) (Kd.R_far (p := ⟨gb621, 4, none⟩) (Kd.R_far (p := ⟨gb621, 3, none⟩) (Kd.R_far (p := ⟨gb621, 2, none⟩) (Kd.R_far (p := ⟨gb621, 1, none⟩) (Kd.R_far (p := ⟨gb621, 0, none⟩) (Kd.R_far (p := ⟨gb632, 6, none⟩) (Kd.R_types (Kd.R_types HO724.out BK632.out (by decide)) BK621.out (by decide)) (fun _ hk => hk.1.2) (.slice Ao128 t734.length co128)) (fun _ hk => hk.2) (.string t627)) (fun _ hk => hk.2) (.slice Ao134 x633001_5.length co134)) (fun _ hk => hk.2) (.bool x633002_63)) (fun _ hk => hk.2) (.string x633003_63)) (fun _ hk => hk.2) (.string t688)) (fun _ hk => hk.2) (.slice Ao123 y722.length co123)) (fun _ hk => hk.2) (.slice Ao128 t734.length co128)) (fun _ hk => hk.2) (.int .i64 t622)) (fun _ hk => trivial), by (with_reducible repeat (first | apply Kd.R_alloc | apply Kd.R_drewN | apply Kd.R_drew)); exact Kd.R_mono (Kd.R_far (p := ⟨gb621, 7, none⟩) (Kd.R_far (p := ⟨gb621, 6, none⟩) (Kd.R_far (p := ⟨gb621, 5, none⟩) (Kd.R_far (p := ⟨gb621, 4, none⟩) (Kd.R_far (p := ⟨gb621, 3, none⟩) (Kd.R_far (p := ⟨gb621, 2, none⟩) (Kd.R_far (p := ⟨gb621, 1, none⟩) (Kd.R_far (p := ⟨gb621, 0, none⟩) (Kd.R_far (p := ⟨gb632, 6, none⟩) (Kd.R_types (Kd.R_types HO736.out BK632.out (by decide)) BK621.out (by decide)) (fun _ hk => hk.1.2) (.slice Ao128 t734.length co128)) (fun _ hk => hk.2) (.string t627)) (fun _ hk => hk.2) (.slice Ao134 x633001_5.length co134)) (fun _ hk => hk.2) (.bool x633002_63)) (fun _ hk => hk.2) (.string x633003_63)) (fun _ hk => hk.2) (.string t688)) (fun _ hk => hk.2) (.slice Ao123 y722.length co123)) (fun _ hk => hk.2) (.slice Ao128 t734.length co128)) (fun _ hk => hk.2) (.int .i64 t622)) (fun _ hk => trivial), zq1, zq6, zq5⟩
         ·
          rw [if_neg c107] at H
          exact absurd H (by simp)
        ·
         rw [if_neg c105] at H
         exact absurd H (by simp)
end Go.Proofs.Ytcjnhnnfoadklaa.QRunBranches
