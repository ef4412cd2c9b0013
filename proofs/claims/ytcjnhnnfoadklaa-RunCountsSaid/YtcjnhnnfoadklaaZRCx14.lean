import Derived.Test.YtcjnhnnfoadklaaZRCx13
namespace Go.Proofs.Ytcjnhnnfoadklaa.QRunCounts
open Go.RowKit Go.Proofs.YtcjnhnnfoadklaaW.PrintWords Go.Proofs.YtcjnhnnfoadklaaW.PrintLast Go.Proofs.YtcjnhnnfoadklaaW.PrintMore
attribute [local go_sem] max2_int min2_int max_two min_two max_three min_three max_four min_four
set_option linter.unusedVariables false
set_option linter.unusedSimpArgs false
mutual
def rr_proc.j0 : Nat → List (S110) → Int → Int → Int → Int → ByteArray → Bool → ByteArray → ByteArray → Int → Option (ByteArray × (List (S100)) × Bool × ByteArray × ByteArray × List ByteArray × (List (S91)) × Int × Int × Int × Int × Int)
 | 0, _, _, _, _, _, _, _, _, _, _ => none
 | k + 1, x1000, x1001, x1002, x1003, x1004, x628000, x628002, x628003, x628004, x628007 => (rr_want.f x1000 x1001 x1002 x1003 x1004 (⟨#[112, 99]⟩ : ByteArray)).bind fun bt651 => ((rr_name.f x1000 bt651.1 bt651.2.1 bt651.2.2.1 bt651.2.2.2).bind fun bt655 => ((rr_want.f x1000 bt655.2.1 bt655.2.2.1 bt655.2.2.2.1 bt655.2.2.2.2 (⟨#[117, 115, 101, 115]⟩ : ByteArray)).bind fun bt660 => ((rr_want.f x1000 bt660.1 bt660.2.1 bt660.2.2.1 bt660.2.2.2 (⟨#[123]⟩ : ByteArray)).bind fun bt664 => ((rr_is.f x1000 bt664.1 bt664.2.1 bt664.2.2.1 bt664.2.2.2 (⟨#[125]⟩ : ByteArray)).bind fun bt668 => (if bt668.1 = true then ((rr_want.f x1000 bt668.2.1 bt668.2.2.1 bt668.2.2.2.1 bt668.2.2.2.2 (⟨#[125]⟩ : ByteArray)).bind fun bt673 => ((rr_block.f k x1000 bt673.1 bt673.2.1 bt673.2.2.1 bt673.2.2.2).bind fun bt677 => (some (x628000, ([] : List (S100)), x628002, x628003, bt655.1, ([] : List ByteArray), bt677.1, x628007, bt677.2.1, bt677.2.2.1, bt677.2.2.2.1, bt677.2.2.2.2)))) else (rr_proc.l1 k x1000 bt668.2.1 bt668.2.2.1 bt668.2.2.2.1 bt668.2.2.2.2 x628000 x628002 x628003 bt655.1 ([] : List ByteArray) x628007))))))
def rr_proc.l1 : Nat → List (S110) → Int → Int → Int → Int → ByteArray → Bool → ByteArray → ByteArray → List ByteArray → Int → Option (ByteArray × (List (S100)) × Bool × ByteArray × ByteArray × List ByteArray × (List (S91)) × Int × Int × Int × Int × Int)
 | 0, _, _, _, _, _, _, _, _, _, _, _ => none
 | k + 1, x1000, x1001, x1002, x1003, x1004, x628000, x628002, x628003, x628004, x628005, x628007 => if x1003 = 0 then ((rr_name.f x1000 x1001 x1002 x1003 x1004).bind fun bt695 => (if x628005.length < 8796093022208 then ((some (x628005 ++ [bt695.1] : List ByteArray)).bind fun y700 => ((rr_take.f x1000 bt695.2.1 bt695.2.2.1 bt695.2.2.2.1 bt695.2.2.2.2 (⟨#[44]⟩ : ByteArray)).bind fun bt703 => (if bt703.1 = true then (rr_proc.l1 k x1000 bt703.2.1 bt703.2.2.1 bt703.2.2.2.1 bt703.2.2.2.2 x628000 x628002 x628003 x628004 y700 x628007) else ((rr_want.f x1000 bt703.2.1 bt703.2.2.1 bt703.2.2.2.1 bt703.2.2.2.2 (⟨#[125]⟩ : ByteArray)).bind fun bt708 => ((rr_block.f k x1000 bt708.1 bt708.2.1 bt708.2.2.1 bt708.2.2.2).bind fun bt712 => (some (x628000, ([] : List (S100)), x628002, x628003, x628004, y700, bt712.1, x628007, bt712.2.1, bt712.2.2.1, bt712.2.2.2.1, bt712.2.2.2.2))))))) else (none))) else ((rr_want.f x1000 x1001 x1002 x1003 x1004 (⟨#[125]⟩ : ByteArray)).bind fun bt684 => ((rr_block.f k x1000 bt684.1 bt684.2.1 bt684.2.2.1 bt684.2.2.2).bind fun bt688 => (some (x628000, ([] : List (S100)), x628002, x628003, x628004, x628005, bt688.1, x628007, bt688.2.1, bt688.2.2.1, bt688.2.2.2.1, bt688.2.2.2.2))))
end
def rr_proc.f (k : Nat) (s0_0 : List (S110)) (s0_1 : Int) (s0_2 : Int) (s0_3 : Int) (s0_4 : Int) : Option (ByteArray × (List (S100)) × Bool × ByteArray × ByteArray × List ByteArray × (List (S91)) × Int × Int × Int × Int × Int) := (rr_here.f s0_0 s0_1 s0_2 s0_3 s0_4).bind fun bt617 => ((rr_name.f s0_0 bt617.2.1 bt617.2.2.1 bt617.2.2.2.1 bt617.2.2.2.2).bind fun bt622 => ((rr_want.f s0_0 bt622.2.1 bt622.2.2.1 bt622.2.2.2.1 bt622.2.2.2.2 (⟨#[40]⟩ : ByteArray)).bind fun bt628 => ((rr_is.f s0_0 bt628.1 bt628.2.1 bt628.2.2.1 bt628.2.2.2 (⟨#[41]⟩ : ByteArray)).bind fun bt632 => (if bt632.1 = true then ((rr_want.f s0_0 bt632.2.1 bt632.2.2.1 bt632.2.2.2.1 bt632.2.2.2.2 (⟨#[41]⟩ : ByteArray)).bind fun bt637 => ((rr_take.f s0_0 bt637.1 bt637.2.1 bt637.2.2.1 bt637.2.2.2 (⟨#[45, 62]⟩ : ByteArray)).bind fun bt641 => (if bt641.1 = true then ((rr_name.f s0_0 bt641.2.1 bt641.2.2.1 bt641.2.2.2.1 bt641.2.2.2.2).bind fun bt646 => (rr_proc.j0 k s0_0 bt646.2.1 bt646.2.2.1 bt646.2.2.2.1 bt646.2.2.2.2 bt622.1 true bt646.1 (⟨#[]⟩ : ByteArray) bt617.1)) else (rr_proc.j0 k s0_0 bt641.2.1 bt641.2.2.1 bt641.2.2.2.1 bt641.2.2.2.2 bt622.1 false (⟨#[]⟩ : ByteArray) (⟨#[]⟩ : ByteArray) bt617.1)))) else (none)))))
theorem rr_proc.mono_l : ∀ k, (∀ y0 y1 y2 y3 y4 y5 y6 y7 y8 y9, LeO (rr_proc.j0 k y0 y1 y2 y3 y4 y5 y6 y7 y8 y9) (rr_proc.j0 (k + 1) y0 y1 y2 y3 y4 y5 y6 y7 y8 y9)) ∧ (∀ y0 y1 y2 y3 y4 y5 y6 y7 y8 y9 y10, LeO (rr_proc.l1 k y0 y1 y2 y3 y4 y5 y6 y7 y8 y9 y10) (rr_proc.l1 (k + 1) y0 y1 y2 y3 y4 y5 y6 y7 y8 y9 y10))
 | 0 => ⟨fun _ _ _ _ _ _ _ _ _ _ r h => by simp [rr_proc.j0] at h, fun _ _ _ _ _ _ _ _ _ _ _ r h => by simp [rr_proc.l1] at h⟩
 | k + 1 => by
  obtain ⟨ih0, ih1⟩ := rr_proc.mono_l k
  refine ⟨?_, ?_⟩
  ·
   intro y0 y1 y2 y3 y4 y5 y6 y7 y8 y9
   unfold rr_proc.j0
   repeat' with_reducible first | apply ih0 | apply ih1 | apply rr_block.mono | exact LeO.refl _ | exact LeO.none _ | refine LeO.ite ?_ ?_ | refine LeO.bind ?_ (fun _ => ?_)
  ·
   intro y0 y1 y2 y3 y4 y5 y6 y7 y8 y9 y10
   unfold rr_proc.l1
   repeat' with_reducible first | apply ih0 | apply ih1 | apply rr_block.mono | exact LeO.refl _ | exact LeO.none _ | refine LeO.ite ?_ ?_ | refine LeO.bind ?_ (fun _ => ?_)
theorem rr_proc.mono : ∀ a0 a1 a2 a3 a4 k, LeO (rr_proc.f k a0 a1 a2 a3 a4) (rr_proc.f (k + 1) a0 a1 a2 a3 a4) := by
 intro a0 a1 a2 a3 a4 k
 obtain ⟨ih0, ih1⟩ := rr_proc.mono_l k
 unfold rr_proc.f
 repeat' with_reducible first | apply ih0 | apply ih1 | apply rr_block.mono | exact LeO.refl _ | exact LeO.none _ | refine LeO.ite ?_ ?_ | refine LeO.bind ?_ (fun _ => ?_)
def rr_proc.T20 : Bool × List (List Nat × List Nat) := (true, [([], []), ([0], [0]), ([], []), ([2], [2]), ([3], [3]), ([1, 4, 3], [1, 4]), ([0, 1, 2, 3, 4, 5], []), ([6, 5, 5, 0, 1, 2, 3, 4, 5], [5, 6])])
def rr_proc.B20 : List Nat := [0, 1, 0, 4, 12, 31, 63, 127]
theorem rr_proc.tab20 : rtab .any (opsOf Try.f50 20) = rr_proc.T20 := by kernel_rfl
theorem rr_proc.bits20 : waitsOk rr_proc.T20.2 rr_proc.B20 = true := by kernel_rfl
set_option maxHeartbeats 8000000 in
set_option maxRecDepth 100000 in
theorem rr_proc.calls (k : Nat) (g : Nat) (s0_0 : List (S110)) (s0_1 : Int) (s0_2 : Int) (s0_3 : Int) (s0_4 : Int) (r1 : ByteArray) (r2 : List (S100)) (r3 : Bool) (r4 : ByteArray) (r5 : ByteArray) (r6 : List ByteArray) (r7 : List (S91)) (r8 : Int) (r9 : Int) (r10 : Int) (r11 : Int) (r12 : Int) (w0 w : World) (hI : IsS83 w0 w g s0_0 s0_1 s0_2 s0_3 s0_4) (hB : Below w0.heap.size w0 w) (h : rr_proc.f k s0_0 s0_1 s0_2 s0_3 s0_4 = some (r1, r2, r3, r4, r5, r6, r7, r8, r9, r10, r11, r12)) :
  Calls Try.prog 50 #[.pointer (some ⟨g, 0, none⟩)] w fun e w' => ∃ v1_ v5_ v6_ : Value, e = .returned (.agg #[.string r1, v1_, .bool r3, .string r4, .string r5, v5_, v6_, .int .i64 r8]) ∧ Kd.R k100 100 w' w.heap.size (fun _ => True) v1_ r2 ∧ Kd.R Kd.string 9 w' w.heap.size (fun _ => True) v5_ r6 ∧ Kd.R k91 91 w' w.heap.size (fun _ => True) v6_ r7 ∧ IsS83 w0 w' g s0_0 r9 r10 r11 r12 ∧ Below w0.heap.size w0 w' ∧ KeepBut w w' g none := by
 have hu44 := Try.underlying44
 have hu100 := Try.underlying100
 have HI0 := za hI
 have HK := za (KeepBut.refl w g none)
 have HL := za hB.size
 clear hI
 have HW0 := za hB.size
 have HB := za hB
 clear hB
 have H : ((rr_here.f s0_0 s0_1 s0_2 s0_3 s0_4).bind fun bt617 => ((rr_name.f s0_0 bt617.2.1 bt617.2.2.1 bt617.2.2.2.1 bt617.2.2.2.2).bind fun bt622 => ((rr_want.f s0_0 bt622.2.1 bt622.2.2.1 bt622.2.2.2.1 bt622.2.2.2.2 (⟨#[40]⟩ : ByteArray)).bind fun bt628 => ((rr_is.f s0_0 bt628.1 bt628.2.1 bt628.2.2.1 bt628.2.2.2 (⟨#[41]⟩ : ByteArray)).bind fun bt632 => (if bt632.1 = true then ((rr_want.f s0_0 bt632.2.1 bt632.2.2.1 bt632.2.2.2.1 bt632.2.2.2.2 (⟨#[41]⟩ : ByteArray)).bind fun bt637 => ((rr_take.f s0_0 bt637.1 bt637.2.1 bt637.2.2.1 bt637.2.2.2 (⟨#[45, 62]⟩ : ByteArray)).bind fun bt641 => (if bt641.1 = true then ((rr_name.f s0_0 bt641.2.1 bt641.2.2.1 bt641.2.2.2.1 bt641.2.2.2.2).bind fun bt646 => (rr_proc.j0 k s0_0 bt646.2.1 bt646.2.2.1 bt646.2.2.2.1 bt646.2.2.2.2 bt622.1 true bt646.1 (⟨#[]⟩ : ByteArray) bt617.1)) else (rr_proc.j0 k s0_0 bt641.2.1 bt641.2.2.1 bt641.2.2.2.1 bt641.2.2.2.2 bt622.1 false (⟨#[]⟩ : ByteArray) (⟨#[]⟩ : ByteArray) bt617.1)))) else (none)))))) = some (r1, r2, r3, r4, r5, r6, r7, r8, r9, r10, r11, r12) := h
 clear h
 replace H := Option.bind_eq_some_iff.mp H
 obtain ⟨⟨t617, t618, t619, t620, t621⟩, A20, H⟩ := H
 (try dsimp only at H)
 have A2 := za A20
 clear A20
 replace H := Option.bind_eq_some_iff.mp H
 obtain ⟨⟨t622, t623, t624, t625, t626⟩, A30, H⟩ := H
 (try dsimp only at H)
 have A3 := za A30
 clear A30
 replace H := Option.bind_eq_some_iff.mp H
 obtain ⟨⟨t628, t629, t630, t631⟩, A40, H⟩ := H
 (try dsimp only at H)
 have A4 := za A40
 clear A40
 replace H := Option.bind_eq_some_iff.mp H
 obtain ⟨⟨t632, t633, t634, t635, t636⟩, A50, H⟩ := H
 (try dsimp only at H)
 have A5 := za A50
 clear A50
 by_cases c6 : t632 = true
 ·
  subst c6
  rw [if_pos rfl] at H
  replace H := Option.bind_eq_some_iff.mp H
  obtain ⟨⟨t637, t638, t639, t640⟩, A70, H⟩ := H
  (try dsimp only at H)
  have A7 := za A70
  clear A70
  replace H := Option.bind_eq_some_iff.mp H
  obtain ⟨⟨t641, t642, t643, t644, t645⟩, A80, H⟩ := H
  (try dsimp only at H)
  have A8 := za A80
  clear A80
  have HC9 := za H
  clear H
  go_enter Try.func50, Try.ntmps50
  go_upto_if 42 with (first | ((with_reducible refine gate_dst (N := 2) rfl ?_); refine box_event ?hg (N := 2) ?hd (cs := #[.string (⟨#[]⟩ : ByteArray), .slice none 0 0, .bool false, .string (⟨#[]⟩ : ByteArray), .string (⟨#[]⟩ : ByteArray), .slice none 0 0, .slice none 0 0, .int .i64 0]) (t := 44) ?hr ?_; (case hd => rfl); (case hg => rfl); (case hr => exact zq17); intro gb616 hg w10 hbox hb; replace HB := za (below_step zq3 hb); have BK616 := za (hbox); have GW616 := za ((by rw [hg]; exact (keep_size (w := w) (g := g) (row := none) zq5) : w.heap.size ≤ gb616)); have GE616 := za ((Nat.le_trans HW0.out (by rw [hg]; exact (keep_size (w := w) (g := g) (row := none) zq5) : w.heap.size ≤ gb616) : w0.heap.size ≤ gb616)); replace HK := za (KeepBut.trans zq5 (KeepBut.of_below hb g none) (.inl rfl)); have NB0_616 := za ((by rw [hg]; exact Nat.ne_of_lt (IsS83.lt (show IsS83 w0 _ g s0_0 s0_1 s0_2 s0_3 s0_4 from zq0)) : g ≠ gb616)); have NB616_0 := za ((by rw [hg]; exact Nat.ne_of_gt (IsS83.lt (show IsS83 w0 _ g s0_0 s0_1 s0_2 s0_3 s0_4 from zq0)) : gb616 ≠ g)); replace HI0 := za (IsS83.below zq0 hb); clear hb hbox hg) | ((with_reducible refine gate_callee (f := 46) rfl ?_); refine goesL_ (some 6) rfl rfl Try.func46 zq12 rfl #[.pointer (some ⟨g, 0, none⟩)] rfl zq1 ?_; (with_reducible refine (rr_here.calls g s0_0 s0_1 s0_2 s0_3 s0_4 t617 t618 t619 t620 t621 w0 _ ?side1 ?side2 A2.out).mono ?_); (case side1 => exact zq42); (case side2 => exact zq68); rintro e w11 ⟨rfl, hi, hb, hk⟩; refine ⟨_, rfl, ?_⟩; replace BK616 := za (KeepBut.blk hk (g' := gb616) (zb BK616.out) NB616_0.out (by simp)); replace HK := za (KeepBut.trans zq54 hk (.inl rfl)); replace HB := za (hb); replace HI0 := za (hi); (try clear hb hk hi)) | ((with_reducible refine gate_callee (f := 47) rfl ?_); refine goesL_ (some 8) rfl rfl Try.func47 zq12 rfl #[.pointer (some ⟨g, 0, none⟩)] rfl zq1 ?_; (with_reducible refine (rr_name.calls g s0_0 t618 t619 t620 t621 t622 t623 t624 t625 t626 w0 _ ?side1 ?side2 A3.out).mono ?_); (case side1 => exact zq42); (case side2 => exact zq68); rintro e w12 ⟨rfl, hi, hb, hk⟩; refine ⟨_, rfl, ?_⟩; replace BK616 := za (KeepBut.blk hk (g' := gb616) (zb BK616.out) NB616_0.out (by simp)); replace HK := za (KeepBut.trans zq54 hk (.inl rfl)); replace HB := za (hb); replace HI0 := za (hi); (try clear hb hk hi)) | ((with_reducible refine gate_dst (N := 3) rfl ?_); refine box_event ?hg (N := 3) ?hd (cs := #[.string (⟨#[]⟩ : ByteArray), .slice none 0 0, .bool false, .string (⟨#[]⟩ : ByteArray), .string (⟨#[]⟩ : ByteArray), .slice none 0 0, .slice none 0 0, .int .i64 0]) (t := 44) ?hr ?_; (case hd => rfl); (case hg => rfl); (case hr => exact zq17); intro gb627 hg w13 hbox hb; replace HB := za (below_step zq68 hb); have BK627 := za (hbox); have GW627 := za ((by rw [hg]; exact (keep_size (w := w) (g := g) (row := none) zq54) : w.heap.size ≤ gb627)); have GE627 := za ((Nat.le_trans HW0.out (by rw [hg]; exact (keep_size (w := w) (g := g) (row := none) zq54) : w.heap.size ≤ gb627) : w0.heap.size ≤ gb627)); replace HK := za (KeepBut.trans zq54 (KeepBut.of_below hb g none) (.inl rfl)); have NB616_627 := za ((by rw [hg]; exact Nat.ne_of_lt (blk_lt (g := gb616) (zb BK616.out)) : gb616 ≠ gb627)); have NB627_616 := za ((by rw [hg]; exact Nat.ne_of_gt (blk_lt (g := gb616) (zb BK616.out)) : gb627 ≠ gb616)); replace BK616 := za (blk_below (g := gb616) (zb BK616.out) hb); have NB0_627 := za ((by rw [hg]; exact Nat.ne_of_lt (IsS83.lt (show IsS83 w0 _ g s0_0 t623 t624 t625 t626 from zq42)) : g ≠ gb627)); have NB627_0 := za ((by rw [hg]; exact Nat.ne_of_gt (IsS83.lt (show IsS83 w0 _ g s0_0 t623 t624 t625 t626 from zq42)) : gb627 ≠ g)); replace HI0 := za (IsS83.below zq42 hb); clear hb hbox hg; have hnb14 := NB627_616.out; have hnc14 := NB616_627.out; have hnb15 := NB627_0.out; have hnc15 := NB0_627.out; obtain ⟨hcz16_0, hcz16_1, hcz16_2, hcz16_3, hcz16_4, hcz16_5, hcz16_6, hcz16_7⟩ := zc8 BK627.out; obtain ⟨hfz16_0, hfz16_1, hfz16_2, hfz16_3, hfz16_4, hfz16_5, hfz16_6⟩ := zf7 BK627.out; have hfz16_7 := blk_frozen BK627.out 7) | ((with_reducible refine gate_callee (f := 45) rfl ?_); refine goesL_ (some 11) rfl rfl Try.func45 zq12 rfl #[.pointer (some ⟨g, 0, none⟩), .string (⟨#[40]⟩ : ByteArray)] rfl zq1 ?_; (with_reducible refine (rr_want.calls g s0_0 t623 t624 t625 t626 (⟨#[40]⟩ : ByteArray) t628 t629 t630 t631 w0 _ ?side1 ?side2 A4.out).mono ?_); (case side1 => exact zq4); (case side2 => exact zq8); rintro e w17 ⟨rfl, hi, hb, hk⟩; refine ⟨_, rfl, ?_⟩; replace BK616 := za (KeepBut.blk hk (g' := gb616) (o := .cells #[.string (⟨#[]⟩ : ByteArray), .slice none 0 0, .bool false, .string (⟨#[]⟩ : ByteArray), .string (⟨#[]⟩ : ByteArray), .slice none 0 0, .slice none 0 0, .int .i64 0] 44 (0, 0)) (by (with_reducible repeat (first | refine blk_drewN ?_ _ | refine blk_drew ?_ | refine blk_alloc ?_ _)); refine blk_far ?_ NB616_627.out _; (with_reducible repeat (first | refine blk_drewN ?_ _ | refine blk_drew ?_ | refine blk_alloc ?_ _)); refine blk_far ?_ NB616_627.out _; (with_reducible repeat (first | refine blk_drewN ?_ _ | refine blk_drew ?_ | refine blk_alloc ?_ _)); refine blk_far ?_ NB616_627.out _; (with_reducible repeat (first | refine blk_drewN ?_ _ | refine blk_drew ?_ | refine blk_alloc ?_ _)); refine blk_far ?_ NB616_627.out _; (with_reducible repeat (first | refine blk_drewN ?_ _ | refine blk_drew ?_ | refine blk_alloc ?_ _)); refine blk_far ?_ NB616_627.out _; (with_reducible repeat (first | refine blk_drewN ?_ _ | refine blk_drew ?_ | refine blk_alloc ?_ _)); refine blk_far ?_ NB616_627.out _; (with_reducible repeat (first | refine blk_drewN ?_ _ | refine blk_drew ?_ | refine blk_alloc ?_ _)); refine blk_far ?_ NB616_627.out _; (with_reducible repeat (first | refine blk_drewN ?_ _ | refine blk_drew ?_ | refine blk_alloc ?_ _)); refine blk_far ?_ NB616_627.out _; (with_reducible repeat (first | refine blk_drewN ?_ _ | refine blk_drew ?_ | refine blk_alloc ?_ _)); exact BK616.out) NB616_0.out (by simp)); replace BK627 := za (KeepBut.blk hk (g' := gb627) (o := .cells #[.string t622, .slice none 0 0, .bool false, .string (⟨#[]⟩ : ByteArray), .string (⟨#[]⟩ : ByteArray), .slice none 0 0, .slice none 0 0, .int .i64 t617] 44 (0, 0)) (by (with_reducible repeat (first | refine blk_drewN ?_ _ | refine blk_drew ?_ | refine blk_alloc ?_ _)); refine blk_put (cs := #[.string t622, .slice none 0 0, .bool false, .string (⟨#[]⟩ : ByteArray), .string (⟨#[]⟩ : ByteArray), .slice none 0 0, .slice none 0 0, .int .i64 0]) ?_ 7 _ rfl; (with_reducible repeat (first | refine blk_drewN ?_ _ | refine blk_drew ?_ | refine blk_alloc ?_ _)); refine blk_put (cs := #[.string t622, .slice none 0 0, .bool false, .string (⟨#[]⟩ : ByteArray), .string (⟨#[]⟩ : ByteArray), .slice none 0 0, .slice none 0 0, .int .i64 0]) ?_ 6 _ rfl; (with_reducible repeat (first | refine blk_drewN ?_ _ | refine blk_drew ?_ | refine blk_alloc ?_ _)); refine blk_put (cs := #[.string t622, .slice none 0 0, .bool false, .string (⟨#[]⟩ : ByteArray), .string (⟨#[]⟩ : ByteArray), .slice none 0 0, .slice none 0 0, .int .i64 0]) ?_ 5 _ rfl; (with_reducible repeat (first | refine blk_drewN ?_ _ | refine blk_drew ?_ | refine blk_alloc ?_ _)); refine blk_put (cs := #[.string t622, .slice none 0 0, .bool false, .string (⟨#[]⟩ : ByteArray), .string (⟨#[]⟩ : ByteArray), .slice none 0 0, .slice none 0 0, .int .i64 0]) ?_ 4 _ rfl; (with_reducible repeat (first | refine blk_drewN ?_ _ | refine blk_drew ?_ | refine blk_alloc ?_ _)); refine blk_put (cs := #[.string t622, .slice none 0 0, .bool false, .string (⟨#[]⟩ : ByteArray), .string (⟨#[]⟩ : ByteArray), .slice none 0 0, .slice none 0 0, .int .i64 0]) ?_ 3 _ rfl; (with_reducible repeat (first | refine blk_drewN ?_ _ | refine blk_drew ?_ | refine blk_alloc ?_ _)); refine blk_put (cs := #[.string t622, .slice none 0 0, .bool false, .string (⟨#[]⟩ : ByteArray), .string (⟨#[]⟩ : ByteArray), .slice none 0 0, .slice none 0 0, .int .i64 0]) ?_ 2 _ rfl; (with_reducible repeat (first | refine blk_drewN ?_ _ | refine blk_drew ?_ | refine blk_alloc ?_ _)); refine blk_put (cs := #[.string t622, .slice none 0 0, .bool false, .string (⟨#[]⟩ : ByteArray), .string (⟨#[]⟩ : ByteArray), .slice none 0 0, .slice none 0 0, .int .i64 0]) ?_ 1 _ rfl; (with_reducible repeat (first | refine blk_drewN ?_ _ | refine blk_drew ?_ | refine blk_alloc ?_ _)); refine blk_put (cs := #[.string (⟨#[]⟩ : ByteArray), .slice none 0 0, .bool false, .string (⟨#[]⟩ : ByteArray), .string (⟨#[]⟩ : ByteArray), .slice none 0 0, .slice none 0 0, .int .i64 0]) ?_ 0 _ rfl; (with_reducible repeat (first | refine blk_drewN ?_ _ | refine blk_drew ?_ | refine blk_alloc ?_ _)); exact BK627.out) NB627_0.out (by simp)); replace HK := za (KeepBut.trans zq7 hk (.inl rfl)); replace HB := za (hb); replace HI0 := za (hi); (try clear hb hk hi)) | ((with_reducible refine gate_callee (f := 54) rfl ?_); refine goesL_ (some 13) rfl rfl Try.func54 zq12 rfl #[.pointer (some ⟨g, 0, none⟩), .string (⟨#[41]⟩ : ByteArray)] rfl zq1 ?_; (with_reducible refine (rr_is.calls g s0_0 t628 t629 t630 t631 (⟨#[41]⟩ : ByteArray) true t633 t634 t635 t636 w0 _ ?side1 ?side2 A5.out).mono ?_); (case side1 => exact zq4); (case side2 => exact zq8); rintro e w18 ⟨rfl, hi, hb, hk⟩; refine ⟨_, rfl, ?_⟩; replace BK616 := za (KeepBut.blk hk (g' := gb616) (zb BK616.out) NB616_0.out (by simp)); replace BK627 := za (KeepBut.blk hk (g' := gb627) (zb BK627.out) NB627_0.out (by simp)); replace HK := za (KeepBut.trans zq7 hk (.inl rfl)); replace HB := za (hb); replace HI0 := za (hi); (try clear hb hk hi)) | ((with_reducible refine gate_callee (f := 45) rfl ?_); refine goesL_ (some 40) rfl rfl Try.func45 zq12 rfl #[.pointer (some ⟨g, 0, none⟩), .string (⟨#[41]⟩ : ByteArray)] rfl zq1 ?_; (with_reducible refine (rr_want.calls g s0_0 t633 t634 t635 t636 (⟨#[41]⟩ : ByteArray) t637 t638 t639 t640 w0 _ ?side1 ?side2 A7.out).mono ?_); (case side1 => exact zq4); (case side2 => exact zq8); rintro e w19 ⟨rfl, hi, hb, hk⟩; refine ⟨_, rfl, ?_⟩; replace BK616 := za (KeepBut.blk hk (g' := gb616) (zb BK616.out) NB616_0.out (by simp)); replace BK627 := za (KeepBut.blk hk (g' := gb627) (zb BK627.out) NB627_0.out (by simp)); replace HK := za (KeepBut.trans zq7 hk (.inl rfl)); replace HB := za (hb); replace HI0 := za (hi); (try clear hb hk hi)) | ((with_reducible refine gate_callee (f := 48) rfl ?_); refine goesL_ (some 42) rfl rfl Try.func48 zq12 rfl #[.pointer (some ⟨g, 0, none⟩), .string (⟨#[45, 62]⟩ : ByteArray)] rfl zq1 ?_; (with_reducible refine (rr_take.calls g s0_0 t637 t638 t639 t640 (⟨#[45, 62]⟩ : ByteArray) t641 t642 t643 t644 t645 w0 _ ?side1 ?side2 A8.out).mono ?_); (case side1 => exact zq4); (case side2 => exact zq8); rintro e w20 ⟨rfl, hi, hb, hk⟩; refine ⟨_, rfl, ?_⟩; replace BK616 := za (KeepBut.blk hk (g' := gb616) (zb BK616.out) NB616_0.out (by simp)); replace BK627 := za (KeepBut.blk hk (g' := gb627) (zb BK627.out) NB627_0.out (by simp)); replace HK := za (KeepBut.trans zq7 hk (.inl rfl)); replace HB := za (hb); replace HI0 := za (hi); (try clear hb hk hi)))
  (try simp only [Act.put, List.setIfInBounds_toArray, List.set_cons_zero, List.set_cons_succ])
  go_cut [] (fun wc => ∃ (kq : Nat) (x1001_8 : Int) (x1002_8 : Int) (x1003_8 : Int) (x1004_8 : Int) (x628002_8 : Bool) (x628003_8 : ByteArray), Aside0 (rr_proc.j0 kq s0_0 x1001_8 x1002_8 x1003_8 x1004_8 t622 x628002_8 x628003_8 (⟨#[]⟩ : ByteArray) t617 = some (r1, r2, r3, r4, r5, r6, r7, r8, r9, r10, r11, r12)) ∧ Aside0 (kq ≤ k) ∧ Aside0 (wc.heap[gb616]? = some (.cells #[.string (⟨#[]⟩ : ByteArray), (.slice none 0 0), .bool false, .string (⟨#[]⟩ : ByteArray), .string (⟨#[]⟩ : ByteArray), (.slice none 0 0), (.slice none 0 0), .int .i64 0] 44 (0, 0))) ∧ Aside0 (wc.heap[gb627]? = some (.cells #[.string t622, (.slice none 0 0), .bool x628002_8, .string x628003_8, .string (⟨#[]⟩ : ByteArray), (.slice none 0 0), (.slice none 0 0), .int .i64 t617] 44 (0, 0))) ∧ Aside0 (IsS83 w0 wc g s0_0 x1001_8 x1002_8 x1003_8 x1004_8) ∧ Aside0 (KeepBut w wc g none) ∧ Aside0 (Below w0.heap.size w0 wc))
  case first =>
   have H := HC9.out
   clear HC9
   by_cases c21 : t641 = true
   ·
    subst c21
    rw [if_pos rfl] at H
    replace H := Option.bind_eq_some_iff.mp H
    obtain ⟨⟨t646, t647, t648, t649, t650⟩, A220, H⟩ := H
    (try dsimp only at H)
    have A22 := za A220
    clear A220
    have H' := za H
    clear H
    have hnb23 := NB627_616.out
    have hnc23 := NB616_627.out
    have hnb24 := NB627_0.out
    have hnc24 := NB0_627.out
    obtain ⟨hcz25_0, hcz25_1, hcz25_2, hcz25_3, hcz25_4, hcz25_5, hcz25_6, hcz25_7⟩ := zc8 BK627.out
    obtain ⟨hfz25_0, hfz25_1, hfz25_2, hfz25_3, hfz25_4, hfz25_5, hfz25_6, hfz25_7⟩ := zf8 BK627.out
    go_wp2_with (first | ((with_reducible refine gate_callee (f := 47) rfl ?_); refine goesL_ (some 45) rfl rfl Try.func47 zq12 rfl #[.pointer (some ⟨g, 0, none⟩)] rfl zq1 ?_; (with_reducible refine (rr_name.calls g s0_0 t642 t643 t644 t645 t646 t647 t648 t649 t650 w0 _ ?side1 ?side2 A22.out).mono ?_); (case side1 => exact zq4); (case side2 => exact zq8); rintro e w26 ⟨rfl, hi, hb, hk⟩; refine ⟨_, rfl, ?_⟩; replace BK616 := za (KeepBut.blk hk (g' := gb616) (o := .cells #[.string (⟨#[]⟩ : ByteArray), .slice none 0 0, .bool false, .string (⟨#[]⟩ : ByteArray), .string (⟨#[]⟩ : ByteArray), .slice none 0 0, .slice none 0 0, .int .i64 0] 44 (0, 0)) zq34 NB616_0.out (by simp)); replace BK627 := za (KeepBut.blk hk (g' := gb627) (o := .cells #[.string t622, .slice none 0 0, .bool true, .string (⟨#[]⟩ : ByteArray), .string (⟨#[]⟩ : ByteArray), .slice none 0 0, .slice none 0 0, .int .i64 t617] 44 (0, 0)) (by (with_reducible repeat (first | refine blk_drewN ?_ _ | refine blk_drew ?_ | refine blk_alloc ?_ _)); refine blk_put (cs := #[.string t622, .slice none 0 0, .bool false, .string (⟨#[]⟩ : ByteArray), .string (⟨#[]⟩ : ByteArray), .slice none 0 0, .slice none 0 0, .int .i64 t617]) ?_ 2 _ rfl; (with_reducible repeat (first | refine blk_drewN ?_ _ | refine blk_drew ?_ | refine blk_alloc ?_ _)); exact BK627.out) NB627_0.out (by simp)); replace HK := za (KeepBut.trans zq7 hk (.inl rfl)); replace HB := za (hb); replace HI0 := za (hi); (try clear hb hk hi); obtain ⟨hcz27_0, hcz27_1, hcz27_2, hcz27_3, hcz27_4, hcz27_5, hcz27_6, hcz27_7⟩ := zc8 BK627.out; obtain ⟨hfz27_0, hfz27_1, hfz27_2, hfz27_3, hfz27_4, hfz27_5, hfz27_6⟩ := zf7 BK627.out; have hfz27_7 := blk_frozen BK627.out 7))
    go_meet
    case rel => exact ⟨_, (t647), (t648), (t649), (t650), (true), (t646), H', ⟨zq83⟩, ⟨zq34⟩, ⟨by (with_reducible repeat (first | refine blk_drewN ?_ _ | refine blk_drew ?_ | refine blk_alloc ?_ _)); refine blk_put (cs := #[.string t622, .slice none 0 0, .bool true, .string (⟨#[]⟩ : ByteArray), .string (⟨#[]⟩ : ByteArray), .slice none 0 0, .slice none 0 0, .int .i64 t617]) ?_ 3 _ rfl; (with_reducible repeat (first | refine blk_drewN ?_ _ | refine blk_drew ?_ | refine blk_alloc ?_ _)); exact BK627.out⟩, ⟨zq4⟩, ⟨zq7⟩, ⟨zq8⟩⟩
   ·
    replace c21 := Bool.eq_false_iff.mpr c21
    subst c21
    rw [if_neg (show ¬ (false = true) by decide)] at H
    have H' := za H
    clear H
    go_wp2
    go_meet
    case rel => exact ⟨_, (t642), (t643), (t644), (t645), (false), ((⟨#[]⟩ : ByteArray)), H', ⟨zq83⟩, ⟨zq81⟩, ⟨zq82⟩, ⟨zq4⟩, ⟨zq7⟩, ⟨zq8⟩⟩
  case rest =>
   clear HC9
   obtain ⟨kq, x1001_8, x1002_8, x1003_8, x1004_8, x628002_8, x628003_8, HA, HJ8, BK616, BK627, HI0, HK, HB⟩ := hcut
   cases kq with
   | zero => exact absurd HA.out (by simp [rr_proc.j0])
   | succ kj8 =>
    have H := HA.out
    clear HA
    simp only [rr_proc.j0] at H
    replace H := Option.bind_eq_some_iff.mp H
    obtain ⟨⟨t651, t652, t653, t654⟩, A280, H⟩ := H
    (try dsimp only at H)
    have A28 := za A280
    clear A280
    replace H := Option.bind_eq_some_iff.mp H
    obtain ⟨⟨t655, t656, t657, t658, t659⟩, A290, H⟩ := H
    (try dsimp only at H)
    have A29 := za A290
    clear A290
    replace H := Option.bind_eq_some_iff.mp H
    obtain ⟨⟨t660, t661, t662, t663⟩, A300, H⟩ := H
    (try dsimp only at H)
    have A30 := za A300
    clear A300
    replace H := Option.bind_eq_some_iff.mp H
    obtain ⟨⟨t664, t665, t666, t667⟩, A310, H⟩ := H
    (try dsimp only at H)
    have A31 := za A310
    clear A310
    replace H := Option.bind_eq_some_iff.mp H
    obtain ⟨⟨t668, t669, t670, t671, t672⟩, A320, H⟩ := H
    (try dsimp only at H)
    have A32 := za A320
    clear A320
    by_cases c33 : t668 = true
    ·
     subst c33
     rw [if_pos rfl] at H
     replace H := Option.bind_eq_some_iff.mp H
     obtain ⟨⟨t673, t674, t675, t676⟩, A340, H⟩ := H
     (try dsimp only at H)
     have A34 := za A340
     clear A340
     replace H := Option.bind_eq_some_iff.mp H
     obtain ⟨⟨t677, t680, t681, t682, t683⟩, A350, H⟩ := H
     (try dsimp only at H)
     have A35 := za A350
     clear A350
     simp only [Option.some.injEq, Prod.mk.injEq] at H
     obtain ⟨rfl, rfl, rfl, rfl, rfl, rfl, rfl, rfl, rfl, rfl, rfl, rfl⟩ := H
     go_wp2_with (first | ((with_reducible refine gate_callee (f := 45) rfl ?_); refine goesL_ (some 48) rfl rfl Try.func45 zq12 rfl #[.pointer (some ⟨g, 0, none⟩), .string (⟨#[112, 99]⟩ : ByteArray)] rfl zq1 ?_; (with_reducible refine (rr_want.calls g s0_0 x1001_8 x1002_8 x1003_8 x1004_8 (⟨#[112, 99]⟩ : ByteArray) t651 t652 t653 t654 w0 _ ?side1 ?side2 A28.out).mono ?_); (case side1 => exact zq4); (case side2 => exact zq8); rintro e w36 ⟨rfl, hi, hb, hk⟩; refine ⟨_, rfl, ?_⟩; replace BK616 := za (KeepBut.blk hk (g' := gb616) (zb BK616.out) NB616_0.out (by simp)); replace BK627 := za (KeepBut.blk hk (g' := gb627) (zb BK627.out) NB627_0.out (by simp)); replace HK := za (KeepBut.trans zq7 hk (.inl rfl)); replace HB := za (hb); replace HI0 := za (hi); (try clear hb hk hi)) | ((with_reducible refine gate_callee (f := 47) rfl ?_); refine goesL_ (some 50) rfl rfl Try.func47 zq12 rfl #[.pointer (some ⟨g, 0, none⟩)] rfl zq1 ?_; (with_reducible refine (rr_name.calls g s0_0 t651 t652 t653 t654 t655 t656 t657 t658 t659 w0 _ ?side1 ?side2 A29.out).mono ?_); (case side1 => exact zq4); (case side2 => exact zq8); rintro e w37 ⟨rfl, hi, hb, hk⟩; refine ⟨_, rfl, ?_⟩; replace BK616 := za (KeepBut.blk hk (g' := gb616) (zb BK616.out) NB616_0.out (by simp)); replace BK627 := za (KeepBut.blk hk (g' := gb627) (zb BK627.out) NB627_0.out (by simp)); replace HK := za (KeepBut.trans zq7 hk (.inl rfl)); replace HB := za (hb); replace HI0 := za (hi); (try clear hb hk hi); have hnb38 := NB627_616.out; have hnc38 := NB616_627.out; have hnb39 := NB627_0.out; have hnc39 := NB0_627.out; obtain ⟨hcz40_0, hcz40_1, hcz40_2, hcz40_3, hcz40_4, hcz40_5, hcz40_6, hcz40_7⟩ := zc8 BK627.out; obtain ⟨hfz40_0, hfz40_1, hfz40_2, hfz40_3, hfz40_4, hfz40_5, hfz40_6⟩ := zf7 BK627.out; have hfz40_7 := blk_frozen BK627.out 7) | ((with_reducible refine gate_callee (f := 45) rfl ?_); refine goesL_ (some 53) rfl rfl Try.func45 zq12 rfl #[.pointer (some ⟨g, 0, none⟩), .string (⟨#[117, 115, 101, 115]⟩ : ByteArray)] rfl zq1 ?_; (with_reducible refine (rr_want.calls g s0_0 t656 t657 t658 t659 (⟨#[117, 115, 101, 115]⟩ : ByteArray) t660 t661 t662 t663 w0 _ ?side1 ?side2 A30.out).mono ?_); (case side1 => exact zq4); (case side2 => exact zq8); rintro e w41 ⟨rfl, hi, hb, hk⟩; refine ⟨_, rfl, ?_⟩; replace BK616 := za (KeepBut.blk hk (g' := gb616) (o := .cells #[.string (⟨#[]⟩ : ByteArray), .slice none 0 0, .bool false, .string (⟨#[]⟩ : ByteArray), .string (⟨#[]⟩ : ByteArray), .slice none 0 0, .slice none 0 0, .int .i64 0] 44 (0, 0)) zq34 NB616_0.out (by simp)); replace BK627 := za (KeepBut.blk hk (g' := gb627) (o := .cells #[.string t622, .slice none 0 0, .bool x628002_8, .string x628003_8, .string t655, .slice none 0 0, .slice none 0 0, .int .i64 t617] 44 (0, 0)) (by (with_reducible repeat (first | refine blk_drewN ?_ _ | refine blk_drew ?_ | refine blk_alloc ?_ _)); refine blk_put (cs := #[.string t622, .slice none 0 0, .bool x628002_8, .string x628003_8, .string (⟨#[]⟩ : ByteArray), .slice none 0 0, .slice none 0 0, .int .i64 t617]) ?_ 4 _ rfl; (with_reducible repeat (first | refine blk_drewN ?_ _ | refine blk_drew ?_ | refine blk_alloc ?_ _)); exact BK627.out) NB627_0.out (by simp)); replace HK := za (KeepBut.trans zq7 hk (.inl rfl)); replace HB := za (hb); replace HI0 := za (hi); (try clear hb hk hi)) | ((with_reducible refine gate_callee (f := 45) rfl ?_); refine goesL_ (some 55) rfl rfl Try.func45 zq12 rfl #[.pointer (some ⟨g, 0, none⟩), .string (⟨#[123]⟩ : ByteArray)] rfl zq1 ?_; (with_reducible refine (rr_want.calls g s0_0 t660 t661 t662 t663 (⟨#[123]⟩ : ByteArray) t664 t665 t666 t667 w0 _ ?side1 ?side2 A31.out).mono ?_); (case side1 => exact zq4); (case side2 => exact zq8); rintro e w42 ⟨rfl, hi, hb, hk⟩; refine ⟨_, rfl, ?_⟩; replace BK616 := za (KeepBut.blk hk (g' := gb616) (zb BK616.out) NB616_0.out (by simp)); replace BK627 := za (KeepBut.blk hk (g' := gb627) (zb BK627.out) NB627_0.out (by simp)); replace HK := za (KeepBut.trans zq7 hk (.inl rfl)); replace HB := za (hb); replace HI0 := za (hi); (try clear hb hk hi)) | ((with_reducible refine gate_callee (f := 54) rfl ?_); refine goesL_ (some 57) rfl rfl Try.func54 zq12 rfl #[.pointer (some ⟨g, 0, none⟩), .string (⟨#[125]⟩ : ByteArray)] rfl zq1 ?_; (with_reducible refine (rr_is.calls g s0_0 t664 t665 t666 t667 (⟨#[125]⟩ : ByteArray) true t669 t670 t671 t672 w0 _ ?side1 ?side2 A32.out).mono ?_); (case side1 => exact zq4); (case side2 => exact zq8); rintro e w43 ⟨rfl, hi, hb, hk⟩; refine ⟨_, rfl, ?_⟩; replace BK616 := za (KeepBut.blk hk (g' := gb616) (zb BK616.out) NB616_0.out (by simp)); replace BK627 := za (KeepBut.blk hk (g' := gb627) (zb BK627.out) NB627_0.out (by simp)); replace HK := za (KeepBut.trans zq7 hk (.inl rfl)); replace HB := za (hb); replace HI0 := za (hi); (try clear hb hk hi)) | ((with_reducible refine gate_callee (f := 45) rfl ?_); refine goesL_ (some 75) rfl rfl Try.func45 zq12 rfl #[.pointer (some ⟨g, 0, none⟩), .string (⟨#[125]⟩ : ByteArray)] rfl zq1 ?_; (with_reducible refine (rr_want.calls g s0_0 t669 t670 t671 t672 (⟨#[125]⟩ : ByteArray) t673 t674 t675 t676 w0 _ ?side1 ?side2 A34.out).mono ?_); (case side1 => exact zq4); (case side2 => exact zq8); rintro e w44 ⟨rfl, hi, hb, hk⟩; refine ⟨_, rfl, ?_⟩; replace BK616 := za (KeepBut.blk hk (g' := gb616) (zb BK616.out) NB616_0.out (by simp)); replace BK627 := za (KeepBut.blk hk (g' := gb627) (zb BK627.out) NB627_0.out (by simp)); replace HK := za (KeepBut.trans zq7 hk (.inl rfl)); replace HB := za (hb); replace HI0 := za (hi); (try clear hb hk hi)) | ((with_reducible refine gate_callee (f := 56) rfl ?_); refine goesL_ (some 77) rfl rfl Try.func56 zq12 rfl #[.pointer (some ⟨g, 0, none⟩)] rfl zq1 ?_; (with_reducible refine (rr_block.calls kj8 g s0_0 t673 t674 t675 t676 t677 t680 t681 t682 t683 w0 _ ?side1 ?side2 A35.out).mono ?_); (case side1 => exact zq4); (case side2 => exact zq8); rintro e w45 ⟨v678, rfl, ho0, hi, hb, hk⟩; refine ⟨_, rfl, ?_⟩; replace BK616 := za (KeepBut.blk hk (g' := gb616) (zb BK616.out) NB616_0.out (by simp)); replace BK627 := za (KeepBut.blk hk (g' := gb627) (zb BK627.out) NB627_0.out (by simp)); have HO679 := za (Kd.R_lower ho0 (keep_size (w := w) (g := g) (row := none) zq7)); replace HK := za (KeepBut.trans zq7 hk (.inl rfl)); replace HB := za (hb); replace HI0 := za (hi); (try clear hb hk hi ho0); obtain ⟨Ao46, co46, eo46⟩ := Kd.R_slice HO679.out; subst eo46; obtain ⟨hcz47_0, hcz47_1, hcz47_2, hcz47_3, hcz47_4, hcz47_5, hcz47_6, hcz47_7⟩ := zc8 BK627.out; obtain ⟨hfz47_0, hfz47_1, hfz47_2, hfz47_3, hfz47_4, hfz47_5, hfz47_6, hfz47_7⟩ := zf8 BK627.out; have hnb48 := NB616_0.out; have hnc48 := NB0_616.out; obtain ⟨hcz49_0, hcz49_1, hcz49_2, hcz49_3, hcz49_4, hcz49_5, hcz49_6, hcz49_7⟩ := zc8 BK616.out; obtain ⟨hfz49_0, hfz49_1, hfz49_2, hfz49_3, hfz49_4, hfz49_5, hfz49_6⟩ := zf7 BK616.out; have hfz49_7 := blk_frozen BK616.out 7))
     refine bodyPost_ret (results_cell_row rfl _ _ gb616 44 #[.string t622, .slice none 0 0, .bool x628002_8, .string x628003_8, .string t655, .slice none 0 0, .slice Ao46 t677.length co46, .int .i64 t617] (0, 0) _ rfl (by (with_reducible repeat (first | refine blk_drewN ?_ _ | refine blk_drew ?_ | refine blk_alloc ?_ _)); refine blk_put (cs := #[.string t622, .slice none 0 0, .bool x628002_8, .string x628003_8, .string t655, .slice none 0 0, .slice Ao46 t677.length co46, .int .i64 0]) ?_ 7 _ rfl; (with_reducible repeat (first | refine blk_drewN ?_ _ | refine blk_drew ?_ | refine blk_alloc ?_ _)); refine blk_put (cs := #[.string t622, .slice none 0 0, .bool x628002_8, .string x628003_8, .string t655, .slice none 0 0, .slice none 0 0, .int .i64 0]) ?_ 6 _ rfl; (with_reducible repeat (first | refine blk_drewN ?_ _ | refine blk_drew ?_ | refine blk_alloc ?_ _)); refine blk_put (cs := #[.string t622, .slice none 0 0, .bool x628002_8, .string x628003_8, .string t655, .slice none 0 0, .slice none 0 0, .int .i64 0]) ?_ 5 _ rfl; (with_reducible repeat (first | refine blk_drewN ?_ _ | refine blk_drew ?_ | refine blk_alloc ?_ _)); refine blk_put (cs := #[.string t622, .slice none 0 0, .bool x628002_8, .string x628003_8, .string (⟨#[]⟩ : ByteArray), .slice none 0 0, .slice none 0 0, .int .i64 0]) ?_ 4 _ rfl; (with_reducible repeat (first | refine blk_drewN ?_ _ | refine blk_drew ?_ | refine blk_alloc ?_ _)); refine blk_put (cs := #[.string t622, .slice none 0 0, .bool x628002_8, .string (⟨#[]⟩ : ByteArray), .string (⟨#[]⟩ : ByteArray), .slice none 0 0, .slice none 0 0, .int .i64 0]) ?_ 3 _ rfl; (with_reducible repeat (first | refine blk_drewN ?_ _ | refine blk_drew ?_ | refine blk_alloc ?_ _)); refine blk_put (cs := #[.string t622, .slice none 0 0, .bool false, .string (⟨#[]⟩ : ByteArray), .string (⟨#[]⟩ : ByteArray), .slice none 0 0, .slice none 0 0, .int .i64 0]) ?_ 2 _ rfl; (with_reducible repeat (first | refine blk_drewN ?_ _ | refine blk_drew ?_ | refine blk_alloc ?_ _)); refine blk_put (cs := #[.string t622, .slice none 0 0, .bool false, .string (⟨#[]⟩ : ByteArray), .string (⟨#[]⟩ : ByteArray), .slice none 0 0, .slice none 0 0, .int .i64 0]) ?_ 1 _ rfl; (with_reducible repeat (first | refine blk_drewN ?_ _ | refine blk_drew ?_ | refine blk_alloc ?_ _)); refine blk_put (cs := #[.string (⟨#[]⟩ : ByteArray), .slice none 0 0, .bool false, .string (⟨#[]⟩ : ByteArray), .string (⟨#[]⟩ : ByteArray), .slice none 0 0, .slice none 0 0, .int .i64 0]) ?_ 0 _ rfl; (with_reducible repeat (first | refine blk_drewN ?_ _ | refine blk_drew ?_ | refine blk_alloc ?_ _)); refine blk_far ?_ NB616_627.out _; (with_reducible repeat (first | refine blk_drewN ?_ _ | refine blk_drew ?_ | refine blk_alloc ?_ _)); exact BK616.out) Try.underlying44 rfl zq12) rfl ?_
     exact ⟨_, _, _, zq14, zq29, zq29, by (with_reducible repeat (first | apply Kd.R_alloc | apply Kd.R_drewN | apply Kd.R_drew)); exact Kd.R_mono (Kd.R_far (p := ⟨gb616, 7, none⟩) (Kd.R_far (p := ⟨gb616, 6, none⟩) (Kd.R_far (p := ⟨gb616, 5, none⟩) (Kd.R_far (p := ⟨gb616, 4, none⟩) (Kd.R_far (p := ⟨gb616, 3, none⟩) (Kd.R_far (p := ⟨gb616, 2, none⟩) (Kd.R_far (p := ⟨gb616, 1, none⟩) (Kd.R_far (p := ⟨gb616, 0, none⟩) (Kd.R_far (p := ⟨gb627, 6, none⟩) (Kd.R_types (Kd.R_types HO679.out BK627.out (by decide)) BK616.out (by decide)) (fun _ hk => hk.1.2) (.slice Ao46 t677.length co46)) (fun _ hk => hk.2) (.string t622)) (fun _ hk => hk.2) (.slice none 0 0)) (fun _ hk => hk.2) (.bool x628002_8)) (fun _ hk => hk.2) (.string x628003_8)) (fun _ hk => hk.2) (.string t655)) (fun _ hk => hk.2) (.slice none 0 0)) (fun _ hk => hk.2) (.slice Ao46 t677.length co46)) (fun _ hk => hk.2) (.int .i64 t617)) (fun _ hk => trivial), zq4, zq8, zq7⟩
    ·
     replace c33 := Bool.eq_false_iff.mpr c33
     subst c33
     rw [if_neg (show ¬ (false = true) by decide)] at H
     have H' := za H
     clear H
     go_wp2_with (first | ((with_reducible refine gate_callee (f := 45) rfl ?_); refine goesL_ (some 48) rfl rfl Try.func45 zq12 rfl #[.pointer (some ⟨g, 0, none⟩), .string (⟨#[112, 99]⟩ : ByteArray)] rfl zq1 ?_; (with_reducible refine (rr_want.calls g s0_0 x1001_8 x1002_8 x1003_8 x1004_8 (⟨#[112, 99]⟩ : ByteArray) t651 t652 t653 t654 w0 _ ?side1 ?side2 A28.out).mono ?_); (case side1 => exact zq4); (case side2 => exact zq8); rintro e w50 ⟨rfl, hi, hb, hk⟩; refine ⟨_, rfl, ?_⟩; replace BK616 := za (KeepBut.blk hk (g' := gb616) (zb BK616.out) NB616_0.out (by simp)); replace BK627 := za (KeepBut.blk hk (g' := gb627) (zb BK627.out) NB627_0.out (by simp)); replace HK := za (KeepBut.trans zq7 hk (.inl rfl)); replace HB := za (hb); replace HI0 := za (hi); (try clear hb hk hi)) | ((with_reducible refine gate_callee (f := 47) rfl ?_); refine goesL_ (some 50) rfl rfl Try.func47 zq12 rfl #[.pointer (some ⟨g, 0, none⟩)] rfl zq1 ?_; (with_reducible refine (rr_name.calls g s0_0 t651 t652 t653 t654 t655 t656 t657 t658 t659 w0 _ ?side1 ?side2 A29.out).mono ?_); (case side1 => exact zq4); (case side2 => exact zq8); rintro e w51 ⟨rfl, hi, hb, hk⟩; refine ⟨_, rfl, ?_⟩; replace BK616 := za (KeepBut.blk hk (g' := gb616) (zb BK616.out) NB616_0.out (by simp)); replace BK627 := za (KeepBut.blk hk (g' := gb627) (zb BK627.out) NB627_0.out (by simp)); replace HK := za (KeepBut.trans zq7 hk (.inl rfl)); replace HB := za (hb); replace HI0 := za (hi); (try clear hb hk hi); have hnb52 := NB627_616.out; have hnc52 := NB616_627.out; have hnb53 := NB627_0.out; have hnc53 := NB0_627.out; obtain ⟨hcz54_0, hcz54_1, hcz54_2, hcz54_3, hcz54_4, hcz54_5, hcz54_6, hcz54_7⟩ := zc8 BK627.out; obtain ⟨hfz54_0, hfz54_1, hfz54_2, hfz54_3, hfz54_4, hfz54_5, hfz54_6⟩ := zf7 BK627.out; have hfz54_7 := blk_frozen BK627.out 7) | ((with_reducible refine gate_callee (f := 45) rfl ?_); refine goesL_ (some 53) rfl rfl Try.func45 zq12 rfl #[.pointer (some ⟨g, 0, none⟩), .string (⟨#[117, 115, 101, 115]⟩ : ByteArray)] rfl zq1 ?_; (with_reducible refine (rr_want.calls g s0_0 t656 t657 t658 t659 (⟨#[117, 115, 101, 115]⟩ : ByteArray) t660 t661 t662 t663 w0 _ ?side1 ?side2 A30.out).mono ?_); (case side1 => exact zq4); (case side2 => exact zq8); rintro e w55 ⟨rfl, hi, hb, hk⟩; refine ⟨_, rfl, ?_⟩; replace BK616 := za (KeepBut.blk hk (g' := gb616) (o := .cells #[.string (⟨#[]⟩ : ByteArray), .slice none 0 0, .bool false, .string (⟨#[]⟩ : ByteArray), .string (⟨#[]⟩ : ByteArray), .slice none 0 0, .slice none 0 0, .int .i64 0] 44 (0, 0)) zq34 NB616_0.out (by simp)); replace BK627 := za (KeepBut.blk hk (g' := gb627) (o := .cells #[.string t622, .slice none 0 0, .bool x628002_8, .string x628003_8, .string t655, .slice none 0 0, .slice none 0 0, .int .i64 t617] 44 (0, 0)) (by (with_reducible repeat (first | refine blk_drewN ?_ _ | refine blk_drew ?_ | refine blk_alloc ?_ _)); refine blk_put (cs := #[.string t622, .slice none 0 0, .bool x628002_8, .string x628003_8, .string (⟨#[]⟩ : ByteArray), .slice none 0 0, .slice none 0 0, .int .i64 t617]) ?_ 4 _ rfl; (with_reducible repeat (first | refine blk_drewN ?_ _ | refine blk_drew ?_ | refine blk_alloc ?_ _)); exact BK627.out) NB627_0.out (by simp)); replace HK := za (KeepBut.trans zq7 hk (.inl rfl)); replace HB := za (hb); replace HI0 := za (hi); (try clear hb hk hi)) | ((with_reducible refine gate_callee (f := 45) rfl ?_); refine goesL_ (some 55) rfl rfl Try.func45 zq12 rfl #[.pointer (some ⟨g, 0, none⟩), .string (⟨#[123]⟩ : ByteArray)] rfl zq1 ?_; (with_reducible refine (rr_want.calls g s0_0 t660 t661 t662 t663 (⟨#[123]⟩ : ByteArray) t664 t665 t666 t667 w0 _ ?side1 ?side2 A31.out).mono ?_); (case side1 => exact zq4); (case side2 => exact zq8); rintro e w56 ⟨rfl, hi, hb, hk⟩; refine ⟨_, rfl, ?_⟩; replace BK616 := za (KeepBut.blk hk (g' := gb616) (zb BK616.out) NB616_0.out (by simp)); replace BK627 := za (KeepBut.blk hk (g' := gb627) (zb BK627.out) NB627_0.out (by simp)); replace HK := za (KeepBut.trans zq7 hk (.inl rfl)); replace HB := za (hb); replace HI0 := za (hi); (try clear hb hk hi)) | ((with_reducible refine gate_callee (f := 54) rfl ?_); refine goesL_ (some 57) rfl rfl Try.func54 zq12 rfl #[.pointer (some ⟨g, 0, none⟩), .string (⟨#[125]⟩ : ByteArray)] rfl zq1 ?_; (with_reducible refine (rr_is.calls g s0_0 t664 t665 t666 t667 (⟨#[125]⟩ : ByteArray) false t669 t670 t671 t672 w0 _ ?side1 ?side2 A32.out).mono ?_); (case side1 => exact zq4); (case side2 => exact zq8); rintro e w57 ⟨rfl, hi, hb, hk⟩; refine ⟨_, rfl, ?_⟩; replace BK616 := za (KeepBut.blk hk (g' := gb616) (zb BK616.out) NB616_0.out (by simp)); replace BK627 := za (KeepBut.blk hk (g' := gb627) (zb BK627.out) NB627_0.out (by simp)); replace HK := za (KeepBut.trans zq7 hk (.inl rfl)); replace HB := za (hb); replace HI0 := za (hi); (try clear hb hk hi)))
     (try simp only [Act.put, List.setIfInBounds_toArray, List.set_cons_zero, List.set_cons_succ])
     go_loopg [] kj8 (fun kq w' => ∃ (x1001_2 : Int) (x1002_2 : Int) (x1003_2 : Int) (x1004_2 : Int) (x628005_2 : List ByteArray) (u628005 : Value), Aside0 (rr_proc.l1 kq s0_0 x1001_2 x1002_2 x1003_2 x1004_2 t622 x628002_8 x628003_8 t655 x628005_2 t617 = some (r1, r2, r3, r4, r5, r6, r7, r8, r9, r10, r11, r12)) ∧ Aside0 (kq ≤ kj8) ∧ Aside0 (Kd.R Kd.string 9 w' w.heap.size (fun _ => True) u628005 x628005_2) ∧ Aside0 (w'.heap[gb616]? = some (.cells #[.string (⟨#[]⟩ : ByteArray), (.slice none 0 0), .bool false, .string (⟨#[]⟩ : ByteArray), .string (⟨#[]⟩ : ByteArray), (.slice none 0 0), (.slice none 0 0), .int .i64 0] 44 (0, 0))) ∧ Aside0 (w'.heap[gb627]? = some (.cells #[.string t622, (.slice none 0 0), .bool x628002_8, .string x628003_8, .string t655, u628005, (.slice none 0 0), .int .i64 t617] 44 (0, 0))) ∧ Aside0 (IsS83 w0 w' g s0_0 x1001_2 x1002_2 x1003_2 x1004_2) ∧ Aside0 (KeepBut w w' g none) ∧ Aside0 (Below w0.heap.size w0 w'))
     case atStart => exact ⟨(t669), (t670), (t671), (t672), (([] : List ByteArray)), (.slice none 0 0), H', ⟨Nat.le_refl _⟩, ⟨zq29⟩, ⟨zq81⟩, ⟨zq82⟩, ⟨zq4⟩, ⟨zq7⟩, ⟨zq8⟩⟩
     case round =>
      clear H'
      obtain ⟨x1001_2, x1002_2, x1003_2, x1004_2, x628005_2, u628005, HA, HK2, HO_628005, BK616, BK627, HI0, HK, HB⟩ := hrel
      cases gk with
      | zero => exact absurd HA.out (by simp [rr_proc.l1])
      | succ k2 =>
       have H := HA.out
       clear HA
       simp only [rr_proc.l1] at H
       by_cases c58 : x1003_2 = 0
       ·
        rw [if_pos c58] at H
        have c58b0 := beq_iff_eq.mpr c58
        have c58b1 := bne_eq_false_iff_eq.mpr c58
        clear c58
        replace H := Option.bind_eq_some_iff.mp H
        obtain ⟨⟨t695, t696, t697, t698, t699⟩, A590, H⟩ := H
        (try dsimp only at H)
        have A59 := za A590
        clear A590
        by_cases c60 : x628005_2.length < 8796093022208
        ·
         rw [if_pos c60] at H
         have LMc60 := za c60
         clear c60
         obtain ⟨y700, hy700⟩ : ∃ y_ : List ByteArray, y_ = (x628005_2 ++ [t695]) := ⟨_, rfl⟩
         replace H : ((rr_take.f s0_0 t696 t697 t698 t699 (⟨#[44]⟩ : ByteArray)).bind fun bt703 => (if bt703.1 = true then (rr_proc.l1 k2 s0_0 bt703.2.1 bt703.2.2.1 bt703.2.2.2.1 bt703.2.2.2.2 t622 x628002_8 x628003_8 t655 y700 t617) else ((rr_want.f s0_0 bt703.2.1 bt703.2.2.1 bt703.2.2.2.1 bt703.2.2.2.2 (⟨#[125]⟩ : ByteArray)).bind fun bt708 => ((rr_block.f k2 s0_0 bt708.1 bt708.2.1 bt708.2.2.1 bt708.2.2.2).bind fun bt712 => (some (t622, ([] : List (S100)), x628002_8, x628003_8, t655, y700, bt712.1, t617, bt712.2.1, bt712.2.2.1, bt712.2.2.2.1, bt712.2.2.2.2)))))) = some (r1, r2, r3, r4, r5, r6, r7, r8, r9, r10, r11, r12) := by first | (rw [hy700]; with_reducible exact H) | (have H2_ := (Option.bind_some _ _).symm.trans H; rw [hy700]; with_reducible exact H2_) | (have H2_ := (Option.bind_some _ _).symm.trans H; with_reducible exact H2_) | with_reducible exact H | (rw [hy700]; exact H) | exact H
         have Ny700 := za hy700
         clear hy700
         replace H := Option.bind_eq_some_iff.mp H
         obtain ⟨⟨t703, t704, t705, t706, t707⟩, A610, H⟩ := H
         (try dsimp only at H)
         have A61 := za A610
         clear A610
         by_cases c62 : t703 = true
         ·
          subst c62
          rw [if_pos rfl] at H
          have H' := za H
          clear H
          obtain ⟨ASz63_0, cSz63_0, HGz63, hgz63, HSz63_0⟩ := HI0.out
          have hcz63_0 := cellS83_0 HGz63
          have hcz63_1 := cellS83_1 HGz63
          have hcz63_2 := cellS83_2 HGz63
          have hcz63_3 := cellS83_3 HGz63
          have hcz63_4 := cellS83_4 HGz63
          have hfz63_1 := blk_frozen HGz63 1
          have hfz63_2 := blk_frozen HGz63 2
          have hfz63_3 := blk_frozen HGz63 3
          have hfz63_4 := blk_frozen HGz63 4
          clear HGz63 hgz63
          try go_wp2
          replace HO_628005 := za (Kd.R_drew HO_628005.out)
          replace BK616 := za (blk_drew BK616.out)
          replace BK627 := za (blk_drew BK627.out)
          replace HI0 := za (IsS83.drew HI0.out)
          replace HK := za (keep_drew HK.out)
          replace HB := za (below_drew1 HB.out)
          refine start_ (n := 8) (S := fun w' => w'.cell? ⟨gb627, 0, none⟩ = some (.string t622) ∧ w'.cell? ⟨gb627, 1, none⟩ = some (.slice none 0 0) ∧ w'.cell? ⟨gb627, 2, none⟩ = some (.bool x628002_8) ∧ w'.cell? ⟨gb627, 3, none⟩ = some (.string x628003_8) ∧ w'.cell? ⟨gb627, 4, none⟩ = some (.string t655) ∧ w'.cell? ⟨gb627, 5, none⟩ = some (u628005) ∧ w'.cell? ⟨gb627, 6, none⟩ = some (.slice none 0 0) ∧ w'.cell? ⟨gb627, 7, none⟩ = some (.int .i64 t617)) (ds := [7]) #[false, false, false, false, false, false, false, false] zq12 rfl rfl ⟨(blk_cell BK627.out 0).trans rfl, (blk_cell BK627.out 1).trans rfl, (blk_cell BK627.out 2).trans rfl, (blk_cell BK627.out 3).trans rfl, (blk_cell BK627.out 4).trans rfl, (blk_cell BK627.out 5).trans rfl, (blk_cell BK627.out 6).trans rfl, (blk_cell BK627.out 7).trans rfl⟩ (fun hHeld => ?_); refine with_tabW rr_proc.tab20 rr_proc.bits20 (fun HT_ HW_ => ?_)
          generalize wr.drew = w64 at HO_628005 BK616 BK627 HI0 HK HB hHeld ⊢
          refine pure_ (i := 0) (N := some 64) #[true, false, false, false, false, false, false, false] rfl rfl (any_of HT_.out zq12) (fun _ _ _ h => h) (Or.inl ⟨by rfl, zpv⟩) zpw ?_
          refine pure_ (i := 2) (N := some 66) #[true, false, true, false, false, false, false, false] rfl rfl (any_of HT_.out zq12) (fun _ _ _ h => h) (Or.inl ⟨by rfl, zpv⟩) zpw ?_
          refine take_ (i := 1) (N := some 65) (v := ?_) (a' := ?_) #[true, true, true, false, false, false, false, false] rfl rfl (take_ofW HT_.out HW_.out zq12) (fun _ _ _ h => h) (Or.inl ⟨by rfl, ?_⟩) hHeld ?_ ?_
          rotate_left
          ·
           rintro w' ⟨s0, s1, s2, s3, s4, s5, s6, s7⟩
           go_simp
           with_reducible rfl
          rotate_left
          ·
           simp only [Act.put, List.setIfInBounds_toArray, List.set_cons_zero, List.set_cons_succ, i64_w, i32_w]
           rfl
          refine one_ (i := 3) (N := some 67) #[true, true, true, true, false, false, false, false] rfl rfl (one_of HT_.out zq12) (by decide) (fun K hK => ?_)
          refine goes_ Try.func47 zq12 rfl #[.pointer (some ⟨g, 0, none⟩)] (by rfl) rfl rfl zq1 ?_
          with_reducible refine (rr_name.calls g s0_0 x1001_2 x1002_2 x1003_2 x1004_2 t695 t696 t697 t698 t699 w0 _ ?side1 ?side2 A59.out).mono ?_
          (case side1 => exact zq4)
          (case side2 => exact zq8)
          rintro e w65 ⟨rfl, hi, hb, hk⟩
          refine ⟨_, rfl, ?_⟩
          replace HO_628005 := za (Kd.R_mono (Kd.R_keep (IsS83.apart (show IsS83 w0 _ g s0_0 x1001_2 x1002_2 x1003_2 x1004_2 from zq4) (zr HO_628005.out) (by decide)) hk (fun _ h => h.2)) (fun _ h => h.1))
          replace BK616 := za (KeepBut.blk hk (g' := gb616) (zb BK616.out) NB616_0.out (by simp))
          replace BK627 := za (KeepBut.blk hk (g' := gb627) (zb BK627.out) NB627_0.out (by simp))
          replace HK := za (KeepBut.trans zq7 hk (.inl rfl))
          replace HB := za (hb)
          replace HI0 := za (hi)
          refine hK.out _ _ ⟨(blk_cell BK627.out 0).trans rfl, (blk_cell BK627.out 1).trans rfl, (blk_cell BK627.out 2).trans rfl, (blk_cell BK627.out 3).trans rfl, (blk_cell BK627.out 4).trans rfl, (blk_cell BK627.out 5).trans rfl, (blk_cell BK627.out 6).trans rfl, (blk_cell BK627.out 7).trans rfl⟩ (fun hHeld => ?_)
          clear hK K
          refine norm_ (a' := ?_) ?_ ?_
          rotate_left
          ·
           show Act.put _ (some 67) _ = _
           simp only [Act.put, List.setIfInBounds_toArray, List.set_cons_zero, List.set_cons_succ, i64_w, i32_w]
           rfl
          refine one_ (i := 4) (N := some 68) #[true, true, true, true, true, false, false, false] rfl rfl (one_of HT_.out zq12) (by decide) (fun K hK => ?_)
          refine value_ (w1 := ?_) (v := ?_) (by rfl) rfl ?_ ?_
          rotate_left 2
          ·
           go_simp
           constructor
           ·
            rfl
           ·
            rfl
          refine hK.out _ _ ⟨(blk_cell (blk_alloc BK627.out _) 0).trans rfl, (blk_cell (blk_alloc BK627.out _) 1).trans rfl, (blk_cell (blk_alloc BK627.out _) 2).trans rfl, (blk_cell (blk_alloc BK627.out _) 3).trans rfl, (blk_cell (blk_alloc BK627.out _) 4).trans rfl, (blk_cell (blk_alloc BK627.out _) 5).trans rfl, (blk_cell (blk_alloc BK627.out _) 6).trans rfl, (blk_cell (blk_alloc BK627.out _) 7).trans rfl⟩ (fun hHeld => ?_)
          clear hK K
          refine norm_ (a' := ?_) ?_ ?_
          rotate_left
          ·
           show Act.put _ (some 68) _ = _
           simp only [Act.put, List.setIfInBounds_toArray, List.set_cons_zero, List.set_cons_succ, i64_w, i32_w]
           rfl
          refine one_ (i := 5) (N := some 69) #[true, true, true, true, true, true, false, false] rfl rfl (one_of HT_.out zq12) (by decide) (fun K hK => ?_)
          refine Kd.R_append_step Kd.string w.heap.size (by rfl) (.tmp 65) (.tmp 68) 22 9 (.string ⟨#[]⟩) 16 rfl Try.underlying22 info9 rfl (by decide) (by omega) u628005 x628005_2 t695 [.string t695] (fun _ => True) (fun _ => False) rfl rfl ?aP (fun _ hk => hk.elim) ?aF ?aO (Below.refl _ _) ?aS ?aL ?_
          (case aP => exact rfl)
          (case aF => exact (fun _ _ => trivial))
          (case aO => exact (zr HO_628005.out))
          (case aS => exact (keep_size (w := w) (g := g) (row := none) zq7))
          (case aL => have := LMc60.out; omega)
          intro v701 w66 ho hb hg hat
          rw [← Ny700.out] at ho
          replace BK616 := za (blk_grown (g := gb616) (zb BK616.out) hg (Kd.R_ne HO_628005.out BK616.out (by decide)))
          replace BK627 := za (blk_grown (g := gb627) (zb BK627.out) hg (Kd.R_ne HO_628005.out BK627.out (by decide)))
          replace HB := za (below_weaken zq8 HL.out hb)
          replace HI0 := za (IsS83.grown zq4 hg (IsS83.own_ne HI0.out HO_628005.out (by decide)))
          replace HK := za (KeepBut.trans zq7 (KeepBut.of_grown hg g) (Kd.R_base2 HO_628005.out))
          have HO702 := za (ho)
          clear HO_628005
          clear ho hb hg hat
          obtain ⟨Ao67, co67, eo67⟩ := Kd.R_slice HO702.out
          (first | subst eo67 | (injection eo67 with f1_ f2_ f3_; have f4_ := f1_.symm; have f5_ := f3_.symm; clear f1_ f2_ f3_; subst f4_; subst f5_))
          refine hK.out _ _ ⟨(blk_cell BK627.out 0).trans rfl, (blk_cell BK627.out 1).trans rfl, (blk_cell BK627.out 2).trans rfl, (blk_cell BK627.out 3).trans rfl, (blk_cell BK627.out 4).trans rfl, (blk_cell BK627.out 5).trans rfl, (blk_cell BK627.out 6).trans rfl, (blk_cell BK627.out 7).trans rfl⟩ (fun hHeld => ?_)
          clear hK K
          refine norm_ (a' := ?_) ?_ ?_
          rotate_left
          ·
           show Act.put _ (some 69) _ = _
           simp only [Act.put, List.setIfInBounds_toArray, List.set_cons_zero, List.set_cons_succ, i64_w, i32_w]
           rfl
          refine pure_ (i := 6) (N := some 70) #[true, true, true, true, true, true, true, false] rfl rfl (any_of HT_.out zq12) (fun _ _ _ h => h) (Or.inl ⟨by rfl, zpv⟩) zpw ?_
          refine last_ (i := 7) (N := none) #[true, true, true, true, true, true, true, true] rfl rfl (one_of HT_.out zq12) (by decide) (fun K hK => ?_)
          have hs68 : w66.cell? ⟨gb627, 5, none⟩ = some (u628005) := (blk_cell BK627.out 5).trans rfl
          have hfs68 := blk_frozen BK627.out 5
          have hns68_0 := NB616_627.out
          have hms68_0 := NB627_616.out
          refine skip_ (w1 := ?_) (by rfl) rfl ?_ ?_
          rotate_left
          ·
           go_simp
           rfl
          refine hK.out _ _ ?_
          clear hK K
          refine done_ (done_of HT_.out zq12) ?_
          try go_wp2_with (first | ((with_reducible refine gate_callee (f := 48) rfl ?_); refine goesL_ (some 72) rfl rfl Try.func48 zq12 rfl #[.pointer (some ⟨g, 0, none⟩), .string (⟨#[44]⟩ : ByteArray)] rfl zq1 ?_; (with_reducible refine (rr_take.calls g s0_0 t696 t697 t698 t699 (⟨#[44]⟩ : ByteArray) true t704 t705 t706 t707 w0 _ ?side1 ?side2 A61.out).mono ?_); (case side1 => exact zq4); (case side2 => exact zq8); rintro e w69 ⟨rfl, hi, hb, hk⟩; refine ⟨_, rfl, ?_⟩; replace BK616 := za (KeepBut.blk hk (g' := gb616) (o := .cells #[.string (⟨#[]⟩ : ByteArray), .slice none 0 0, .bool false, .string (⟨#[]⟩ : ByteArray), .string (⟨#[]⟩ : ByteArray), .slice none 0 0, .slice none 0 0, .int .i64 0] 44 (0, 0)) zq34 NB616_0.out (by simp)); replace HO702 := za (Kd.R_mono (Kd.R_keep (IsS83.apart (show IsS83 w0 _ g s0_0 t696 t697 t698 t699 from zq4) (by (with_reducible repeat (first | apply Kd.R_alloc | apply Kd.R_drewN | apply Kd.R_drew)); exact (Kd.R_mono (Kd.R_far (p := ⟨gb627, 5, none⟩) (Kd.R_types HO702.out BK627.out (by decide)) (fun _ hk => hk.2) (.slice Ao67 y700.length co67)) (fun _ h_ => h_.1))) (by decide)) hk (fun _ h => h.2)) (fun _ h => h.1)); replace BK627 := za (KeepBut.blk hk (g' := gb627) (o := .cells #[.string t622, .slice none 0 0, .bool x628002_8, .string x628003_8, .string t655, .slice Ao67 y700.length co67, .slice none 0 0, .int .i64 t617] 44 (0, 0)) (by (with_reducible repeat (first | refine blk_drewN ?_ _ | refine blk_drew ?_ | refine blk_alloc ?_ _)); refine blk_put (cs := #[.string t622, .slice none 0 0, .bool x628002_8, .string x628003_8, .string t655, u628005, .slice none 0 0, .int .i64 t617]) ?_ 5 _ rfl; (with_reducible repeat (first | refine blk_drewN ?_ _ | refine blk_drew ?_ | refine blk_alloc ?_ _)); exact BK627.out) NB627_0.out (by simp)); replace HK := za (KeepBut.trans zq7 hk (.inl rfl)); replace HB := za (hb); replace HI0 := za (hi); (try clear hb hk hi)))
          go_roundg k2
          case measure => have := HJ8.out; have := HK2.out; omega
          case rel => exact ⟨(t704), (t705), (t706), (t707), (y700), (.slice Ao67 y700.length co67), H', ⟨by have := HJ8.out; have := HK2.out; omega⟩, ⟨by (with_reducible repeat (first | apply Kd.R_alloc | apply Kd.R_drewN | apply Kd.R_drew)); exact HO702.out⟩, ⟨zq81⟩, ⟨zq82⟩, ⟨zq4⟩, ⟨zq7⟩, ⟨zq8⟩⟩
         ·
          replace c62 := Bool.eq_false_iff.mpr c62
          subst c62
          rw [if_neg (show ¬ (false = true) by decide)] at H
          replace H := Option.bind_eq_some_iff.mp H
          obtain ⟨⟨t708, t709, t710, t711⟩, A700, H⟩ := H
          (try dsimp only at H)
          have A70 := za A700
          clear A700
          replace H := Option.bind_eq_some_iff.mp H
          obtain ⟨⟨t712, t715, t716, t717, t718⟩, A710, H⟩ := H
          (try dsimp only at H)
          have A71 := za A710
          clear A710
          simp only [Option.some.injEq, Prod.mk.injEq] at H
          obtain ⟨rfl, rfl, rfl, rfl, rfl, rfl, rfl, rfl, rfl, rfl, rfl, rfl⟩ := H
          obtain ⟨ASz72_0, cSz72_0, HGz72, hgz72, HSz72_0⟩ := HI0.out
          have hcz72_0 := cellS83_0 HGz72
          have hcz72_1 := cellS83_1 HGz72
          have hcz72_2 := cellS83_2 HGz72
          have hcz72_3 := cellS83_3 HGz72
          have hcz72_4 := cellS83_4 HGz72
          have hfz72_1 := blk_frozen HGz72 1
          have hfz72_2 := blk_frozen HGz72 2
          have hfz72_3 := blk_frozen HGz72 3
          have hfz72_4 := blk_frozen HGz72 4
          clear HGz72 hgz72
          try go_wp2
          replace HO_628005 := za (Kd.R_drew HO_628005.out)
          replace BK616 := za (blk_drew BK616.out)
          replace BK627 := za (blk_drew BK627.out)
          replace HI0 := za (IsS83.drew HI0.out)
          replace HK := za (keep_drew HK.out)
          replace HB := za (below_drew1 HB.out)
          refine start_ (n := 8) (S := fun w' => w'.cell? ⟨gb627, 0, none⟩ = some (.string t622) ∧ w'.cell? ⟨gb627, 1, none⟩ = some (.slice none 0 0) ∧ w'.cell? ⟨gb627, 2, none⟩ = some (.bool x628002_8) ∧ w'.cell? ⟨gb627, 3, none⟩ = some (.string x628003_8) ∧ w'.cell? ⟨gb627, 4, none⟩ = some (.string t655) ∧ w'.cell? ⟨gb627, 5, none⟩ = some (u628005) ∧ w'.cell? ⟨gb627, 6, none⟩ = some (.slice none 0 0) ∧ w'.cell? ⟨gb627, 7, none⟩ = some (.int .i64 t617)) (ds := [7]) #[false, false, false, false, false, false, false, false] zq12 rfl rfl ⟨(blk_cell BK627.out 0).trans rfl, (blk_cell BK627.out 1).trans rfl, (blk_cell BK627.out 2).trans rfl, (blk_cell BK627.out 3).trans rfl, (blk_cell BK627.out 4).trans rfl, (blk_cell BK627.out 5).trans rfl, (blk_cell BK627.out 6).trans rfl, (blk_cell BK627.out 7).trans rfl⟩ (fun hHeld => ?_); refine with_tabW rr_proc.tab20 rr_proc.bits20 (fun HT_ HW_ => ?_)
          generalize wr.drew = w73 at HO_628005 BK616 BK627 HI0 HK HB hHeld ⊢
          refine pure_ (i := 0) (N := some 64) #[true, false, false, false, false, false, false, false] rfl rfl (any_of HT_.out zq12) (fun _ _ _ h => h) (Or.inl ⟨by rfl, zpv⟩) zpw ?_
          refine pure_ (i := 2) (N := some 66) #[true, false, true, false, false, false, false, false] rfl rfl (any_of HT_.out zq12) (fun _ _ _ h => h) (Or.inl ⟨by rfl, zpv⟩) zpw ?_
          refine take_ (i := 1) (N := some 65) (v := ?_) (a' := ?_) #[true, true, true, false, false, false, false, false] rfl rfl (take_ofW HT_.out HW_.out zq12) (fun _ _ _ h => h) (Or.inl ⟨by rfl, ?_⟩) hHeld ?_ ?_
          rotate_left
          ·
           rintro w' ⟨s0, s1, s2, s3, s4, s5, s6, s7⟩
           go_simp
           with_reducible rfl
          rotate_left
          ·
           simp only [Act.put, List.setIfInBounds_toArray, List.set_cons_zero, List.set_cons_succ, i64_w, i32_w]
           rfl
          refine one_ (i := 3) (N := some 67) #[true, true, true, true, false, false, false, false] rfl rfl (one_of HT_.out zq12) (by decide) (fun K hK => ?_)
          refine goes_ Try.func47 zq12 rfl #[.pointer (some ⟨g, 0, none⟩)] (by rfl) rfl rfl zq1 ?_
          with_reducible refine (rr_name.calls g s0_0 x1001_2 x1002_2 x1003_2 x1004_2 t695 t696 t697 t698 t699 w0 _ ?side1 ?side2 A59.out).mono ?_
          (case side1 => exact zq4)
          (case side2 => exact zq8)
          rintro e w74 ⟨rfl, hi, hb, hk⟩
          refine ⟨_, rfl, ?_⟩
          replace HO_628005 := za (Kd.R_mono (Kd.R_keep (IsS83.apart (show IsS83 w0 _ g s0_0 x1001_2 x1002_2 x1003_2 x1004_2 from zq4) (zr HO_628005.out) (by decide)) hk (fun _ h => h.2)) (fun _ h => h.1))
          replace BK616 := za (KeepBut.blk hk (g' := gb616) (zb BK616.out) NB616_0.out (by simp))
          replace BK627 := za (KeepBut.blk hk (g' := gb627) (zb BK627.out) NB627_0.out (by simp))
          replace HK := za (KeepBut.trans zq7 hk (.inl rfl))
          replace HB := za (hb)
          replace HI0 := za (hi)
          refine hK.out _ _ ⟨(blk_cell BK627.out 0).trans rfl, (blk_cell BK627.out 1).trans rfl, (blk_cell BK627.out 2).trans rfl, (blk_cell BK627.out 3).trans rfl, (blk_cell BK627.out 4).trans rfl, (blk_cell BK627.out 5).trans rfl, (blk_cell BK627.out 6).trans rfl, (blk_cell BK627.out 7).trans rfl⟩ (fun hHeld => ?_)
          clear hK K
          refine norm_ (a' := ?_) ?_ ?_
          rotate_left
          ·
           show Act.put _ (some 67) _ = _
           simp only [Act.put, List.setIfInBounds_toArray, List.set_cons_zero, List.set_cons_succ, i64_w, i32_w]
           rfl
          refine one_ (i := 4) (N := some 68) #[true, true, true, true, true, false, false, false] rfl rfl (one_of HT_.out zq12) (by decide) (fun K hK => ?_)
          refine value_ (w1 := ?_) (v := ?_) (by rfl) rfl ?_ ?_
          rotate_left 2
          ·
           go_simp
           constructor
           ·
            rfl
           ·
            rfl
          refine hK.out _ _ ⟨(blk_cell (blk_alloc BK627.out _) 0).trans rfl, (blk_cell (blk_alloc BK627.out _) 1).trans rfl, (blk_cell (blk_alloc BK627.out _) 2).trans rfl, (blk_cell (blk_alloc BK627.out _) 3).trans rfl, (blk_cell (blk_alloc BK627.out _) 4).trans rfl, (blk_cell (blk_alloc BK627.out _) 5).trans rfl, (blk_cell (blk_alloc BK627.out _) 6).trans rfl, (blk_cell (blk_alloc BK627.out _) 7).trans rfl⟩ (fun hHeld => ?_)
          clear hK K
          refine norm_ (a' := ?_) ?_ ?_
          rotate_left
          ·
           show Act.put _ (some 68) _ = _
           simp only [Act.put, List.setIfInBounds_toArray, List.set_cons_zero, List.set_cons_succ, i64_w, i32_w]
           rfl
          refine one_ (i := 5) (N := some 69) #[true, true, true, true, true, true, false, false] rfl rfl (one_of HT_.out zq12) (by decide) (fun K hK => ?_)
          refine Kd.R_append_step Kd.string w.heap.size (by rfl) (.tmp 65) (.tmp 68) 22 9 (.string ⟨#[]⟩) 16 rfl Try.underlying22 info9 rfl (by decide) (by omega) u628005 x628005_2 t695 [.string t695] (fun _ => True) (fun _ => False) rfl rfl ?aP (fun _ hk => hk.elim) ?aF ?aO (Below.refl _ _) ?aS ?aL ?_
          (case aP => exact rfl)
          (case aF => exact (fun _ _ => trivial))
          (case aO => exact (zr HO_628005.out))
          (case aS => exact (keep_size (w := w) (g := g) (row := none) zq7))
          (case aL => have := LMc60.out; omega)
          intro v701 w75 ho hb hg hat
          rw [← Ny700.out] at ho
          replace BK616 := za (blk_grown (g := gb616) (zb BK616.out) hg (Kd.R_ne HO_628005.out BK616.out (by decide)))
          replace BK627 := za (blk_grown (g := gb627) (zb BK627.out) hg (Kd.R_ne HO_628005.out BK627.out (by decide)))
          replace HB := za (below_weaken zq8 HL.out hb)
          replace HI0 := za (IsS83.grown zq4 hg (IsS83.own_ne HI0.out HO_628005.out (by decide)))
          replace HK := za (KeepBut.trans zq7 (KeepBut.of_grown hg g) (Kd.R_base2 HO_628005.out))
          have HO702 := za (ho)
          clear HO_628005
          clear ho hb hg hat
          obtain ⟨Ao76, co76, eo76⟩ := Kd.R_slice HO702.out
          (first | subst eo76 | (injection eo76 with f1_ f2_ f3_; have f4_ := f1_.symm; have f5_ := f3_.symm; clear f1_ f2_ f3_; subst f4_; subst f5_))
          refine hK.out _ _ ⟨(blk_cell BK627.out 0).trans rfl, (blk_cell BK627.out 1).trans rfl, (blk_cell BK627.out 2).trans rfl, (blk_cell BK627.out 3).trans rfl, (blk_cell BK627.out 4).trans rfl, (blk_cell BK627.out 5).trans rfl, (blk_cell BK627.out 6).trans rfl, (blk_cell BK627.out 7).trans rfl⟩ (fun hHeld => ?_)
          clear hK K
          refine norm_ (a' := ?_) ?_ ?_
          rotate_left
          ·
           show Act.put _ (some 69) _ = _
           simp only [Act.put, List.setIfInBounds_toArray, List.set_cons_zero, List.set_cons_succ, i64_w, i32_w]
           rfl
          refine pure_ (i := 6) (N := some 70) #[true, true, true, true, true, true, true, false] rfl rfl (any_of HT_.out zq12) (fun _ _ _ h => h) (Or.inl ⟨by rfl, zpv⟩) zpw ?_
          refine last_ (i := 7) (N := none) #[true, true, true, true, true, true, true, true] rfl rfl (one_of HT_.out zq12) (by decide) (fun K hK => ?_)
          have hs77 : w75.cell? ⟨gb627, 5, none⟩ = some (u628005) := (blk_cell BK627.out 5).trans rfl
          have hfs77 := blk_frozen BK627.out 5
          have hns77_0 := NB616_627.out
          have hms77_0 := NB627_616.out
          refine skip_ (w1 := ?_) (by rfl) rfl ?_ ?_
          rotate_left
          ·
           go_simp
           rfl
          refine hK.out _ _ ?_
          clear hK K
          refine done_ (done_of HT_.out zq12) ?_
          try go_wp2_with (first | ((with_reducible refine gate_callee (f := 48) rfl ?_); refine goesL_ (some 72) rfl rfl Try.func48 zq12 rfl #[.pointer (some ⟨g, 0, none⟩), .string (⟨#[44]⟩ : ByteArray)] rfl zq1 ?_; (with_reducible refine (rr_take.calls g s0_0 t696 t697 t698 t699 (⟨#[44]⟩ : ByteArray) false t704 t705 t706 t707 w0 _ ?side1 ?side2 A61.out).mono ?_); (case side1 => exact zq4); (case side2 => exact zq8); rintro e w78 ⟨rfl, hi, hb, hk⟩; refine ⟨_, rfl, ?_⟩; replace BK616 := za (KeepBut.blk hk (g' := gb616) (o := .cells #[.string (⟨#[]⟩ : ByteArray), .slice none 0 0, .bool false, .string (⟨#[]⟩ : ByteArray), .string (⟨#[]⟩ : ByteArray), .slice none 0 0, .slice none 0 0, .int .i64 0] 44 (0, 0)) zq34 NB616_0.out (by simp)); replace HO702 := za (Kd.R_mono (Kd.R_keep (IsS83.apart (show IsS83 w0 _ g s0_0 t696 t697 t698 t699 from zq4) (by (with_reducible repeat (first | apply Kd.R_alloc | apply Kd.R_drewN | apply Kd.R_drew)); exact (Kd.R_mono (Kd.R_far (p := ⟨gb627, 5, none⟩) (Kd.R_types HO702.out BK627.out (by decide)) (fun _ hk => hk.2) (.slice Ao76 y700.length co76)) (fun _ h_ => h_.1))) (by decide)) hk (fun _ h => h.2)) (fun _ h => h.1)); replace BK627 := za (KeepBut.blk hk (g' := gb627) (o := .cells #[.string t622, .slice none 0 0, .bool x628002_8, .string x628003_8, .string t655, .slice Ao76 y700.length co76, .slice none 0 0, .int .i64 t617] 44 (0, 0)) (by (with_reducible repeat (first | refine blk_drewN ?_ _ | refine blk_drew ?_ | refine blk_alloc ?_ _)); refine blk_put (cs := #[.string t622, .slice none 0 0, .bool x628002_8, .string x628003_8, .string t655, u628005, .slice none 0 0, .int .i64 t617]) ?_ 5 _ rfl; (with_reducible repeat (first | refine blk_drewN ?_ _ | refine blk_drew ?_ | refine blk_alloc ?_ _)); exact BK627.out) NB627_0.out (by simp)); replace HK := za (KeepBut.trans zq7 hk (.inl rfl)); replace HB := za (hb); replace HI0 := za (hi); (try clear hb hk hi)) | ((with_reducible refine gate_callee (f := 45) rfl ?_); refine goesL_ (some 75) rfl rfl Try.func45 zq12 rfl #[.pointer (some ⟨g, 0, none⟩), .string (⟨#[125]⟩ : ByteArray)] rfl zq1 ?_; (with_reducible refine (rr_want.calls g s0_0 t704 t705 t706 t707 (⟨#[125]⟩ : ByteArray) t708 t709 t710 t711 w0 _ ?side1 ?side2 A70.out).mono ?_); (case side1 => exact zq4); (case side2 => exact zq8); rintro e w79 ⟨rfl, hi, hb, hk⟩; refine ⟨_, rfl, ?_⟩; replace BK616 := za (KeepBut.blk hk (g' := gb616) (zb BK616.out) NB616_0.out (by simp)); replace BK627 := za (KeepBut.blk hk (g' := gb627) (zb BK627.out) NB627_0.out (by simp)); replace HO702 := za (Kd.R_mono (Kd.R_keep (IsS83.apart (show IsS83 w0 _ g s0_0 t704 t705 t706 t707 from zq4) (zr HO702.out) (by decide)) hk (fun _ h => h.2)) (fun _ h => h.1)); replace HK := za (KeepBut.trans zq7 hk (.inl rfl)); replace HB := za (hb); replace HI0 := za (hi); (try clear hb hk hi)) | ((with_reducible refine gate_callee (f := 56) rfl ?_); refine goesL_ (some 77) rfl rfl Try.func56 zq12 rfl #[.pointer (some ⟨g, 0, none⟩)] rfl zq1 ?_; (with_reducible refine (rr_block.calls k2 g s0_0 t708 t709 t710 t711 t712 t715 t716 t717 t718 w0 _ ?side1 ?side2 A71.out).mono ?_); (case side1 => exact zq4); (case side2 => exact zq8); rintro e w80 ⟨v713, rfl, ho0, hi, hb, hk⟩; refine ⟨_, rfl, ?_⟩; replace BK616 := za (KeepBut.blk hk (g' := gb616) (zb BK616.out) NB616_0.out (by simp)); replace BK627 := za (KeepBut.blk hk (g' := gb627) (zb BK627.out) NB627_0.out (by simp)); replace HO702 := za (Kd.R_mono (Kd.R_keep (IsS83.apart (show IsS83 w0 _ g s0_0 t708 t709 t710 t711 from zq4) (zr HO702.out) (by decide)) hk (fun _ h => h.2)) (fun _ h => h.1)); have HO714 := za (Kd.R_lower ho0 (keep_size (w := w) (g := g) (row := none) zq7)); replace HK := za (KeepBut.trans zq7 hk (.inl rfl)); replace HB := za (hb); replace HI0 := za (hi); (try clear hb hk hi ho0); obtain ⟨Ao81, co81, eo81⟩ := Kd.R_slice HO714.out; subst eo81; have hnb82 := NB627_616.out; have hnc82 := NB616_627.out; have hnb83 := NB627_0.out; have hnc83 := NB0_627.out; obtain ⟨hcz84_0, hcz84_1, hcz84_2, hcz84_3, hcz84_4, hcz84_5, hcz84_6, hcz84_7⟩ := zc8 BK627.out; obtain ⟨hfz84_0, hfz84_1, hfz84_2, hfz84_3, hfz84_4, hfz84_5, hfz84_6, hfz84_7⟩ := zf8 BK627.out; have hnb85 := NB616_0.out; have hnc85 := NB0_616.out; obtain ⟨hcz86_0, hcz86_1, hcz86_2, hcz86_3, hcz86_4, hcz86_5, hcz86_6, hcz86_7⟩ := zc8 BK616.out; obtain ⟨hfz86_0, hfz86_1, hfz86_2, hfz86_3, hfz86_4, hfz86_5, hfz86_6⟩ := zf7 BK616.out; have hfz86_7 := blk_frozen BK616.out 7))
          refine bodyPost_ret (results_cell_row rfl _ _ gb616 44 #[.string t622, .slice none 0 0, .bool x628002_8, .string x628003_8, .string t655, .slice Ao76 y700.length co76, .slice Ao81 t712.length co81, .int .i64 t617] (0, 0) _ rfl (by (with_reducible repeat (first | refine blk_drewN ?_ _ | refine blk_drew ?_ | refine blk_alloc ?_ _)); refine blk_put (cs := #[.string t622, .slice none 0 0, .bool x628002_8, .string x628003_8, .string t655, .slice Ao76 y700.length co76, .slice Ao81 t712.length co81, .int .i64 0]) ?_ 7 _ rfl; (with_reducible repeat (first | refine blk_drewN ?_ _ | refine blk_drew ?_ | refine blk_alloc ?_ _)); refine blk_put (cs := #[.string t622, .slice none 0 0, .bool x628002_8, .string x628003_8, .string t655, .slice Ao76 y700.length co76, .slice none 0 0, .int .i64 0]) ?_ 6 _ rfl; (with_reducible repeat (first | refine blk_drewN ?_ _ | refine blk_drew ?_ | refine blk_alloc ?_ _)); refine blk_put (cs := #[.string t622, .slice none 0 0, .bool x628002_8, .string x628003_8, .string t655, .slice none 0 0, .slice none 0 0, .int .i64 0]) ?_ 5 _ rfl; (with_reducible repeat (first | refine blk_drewN ?_ _ | refine blk_drew ?_ | refine blk_alloc ?_ _)); refine blk_put (cs := #[.string t622, .slice none 0 0, .bool x628002_8, .string x628003_8, .string (⟨#[]⟩ : ByteArray), .slice none 0 0, .slice none 0 0, .int .i64 0]) ?_ 4 _ rfl; (with_reducible repeat (first | refine blk_drewN ?_ _ | refine blk_drew ?_ | refine blk_alloc ?_ _)); refine blk_put (cs := #[.string t622, .slice none 0 0, .bool x628002_8, .string (⟨#[]⟩ : ByteArray), .string (⟨#[]⟩ : ByteArray), .slice none 0 0, .slice none 0 0, .int .i64 0]) ?_ 3 _ rfl; (with_reducible repeat (first | refine blk_drewN ?_ _ | refine blk_drew ?_ | refine blk_alloc ?_ _)); refine blk_put (cs := #[.string t622, .slice none 0 0, .bool false, .string (⟨#[]⟩ : ByteArray), .string (⟨#[]⟩ : ByteArray), .slice none 0 0, .slice none 0 0, .int .i64 0]) ?_ 2 _ rfl; (with_reducible repeat (first | refine blk_drewN ?_ _ | refine blk_drew ?_ | refine blk_alloc ?_ _)); refine blk_put (cs := #[.string t622, .slice none 0 0, .bool false, .string (⟨#[]⟩ : ByteArray), .string (⟨#[]⟩ : ByteArray), .slice none 0 0, .slice none 0 0, .int .i64 0]) ?_ 1 _ rfl; (with_reducible repeat (first | refine blk_drewN ?_ _ | refine blk_drew ?_ | refine blk_alloc ?_ _)); refine blk_put (cs := #[.string (⟨#[]⟩ : ByteArray), .slice none 0 0, .bool false, .string (⟨#[]⟩ : ByteArray), .string (⟨#[]⟩ : ByteArray), .slice none 0 0, .slice none 0 0, .int .i64 0]) ?_ 0 _ rfl; (with_reducible repeat (first | refine blk_drewN ?_ _ | refine blk_drew ?_ | refine blk_alloc ?_ _)); refine blk_far ?_ NB616_627.out _; (with_reducible repeat (first | refine blk_drewN ?_ _ | refine blk_drew ?_ | refine blk_alloc ?_ _)); exact BK616.out) Try.underlying44 rfl zq12) rfl ?_
          exact ⟨_, _, _, zq14, zq29, by (with_reducible repeat (first | apply Kd.R_alloc | apply Kd.R_drewN | apply Kd.R_drew)); exact Kd.R_mono (Kd.R_far (p := ⟨gb616, 7, none⟩) (Kd.R_far (p := ⟨gb616, 6, none⟩) (Kd.R_far (p := ⟨gb616, 5, none⟩) (Kd.R_far (p := ⟨gb616, 4, none⟩) (Kd.R_far (p := ⟨gb616, 3, none⟩) (Kd.R_far (p := ⟨gb616, 2, none⟩) (Kd.R_far (p := ⟨gb616, 1, none⟩) (Kd.R_far (p := ⟨gb616, 0, none⟩) (Kd.R_far (p := ⟨gb627, 6, none⟩) (Kd.R_types (Kd.R_types HO702.out BK627.out (by decide)) BK616.out (by decide)) (fun _ hk => hk.1.2) (.slice Ao81 t712.length co81)) (fun _ hk => hk.2) (.string t622)) (fun _ hk => hk.2) (.slice none 0 0)) (fun _ hk => hk.2) (.bool x628002_8)) (fun _ hk => hk.2) (.string x628003_8)) (fun _ hk => hk.2) (.string t655)) (fun _ hk => hk.2) (.slice Ao76 y700.length co76)) (fun _ hk => hk.2) (.slice Ao81 t712.length co81)) (fun _ hk => hk.2) (.int .i64 t617)) (fun _ hk => trivial), by (with_reducible repeat (first | apply Kd.R_alloc | apply Kd.R_drewN | apply Kd.R_drew)); exact Kd.R_mono (Kd.R_far (p := ⟨gb616, 7, none⟩) (Kd.R_far (p := ⟨gb616, 6, none⟩) (Kd.R_far (p := ⟨gb616, 5, none⟩) (Kd.R_far (p := ⟨gb616, 4, none⟩) (Kd.R_far (p := ⟨gb616, 3, none⟩) (Kd.R_far (p := ⟨gb616, 2, none⟩) (Kd.R_far (p := ⟨gb616, 1, none⟩) (Kd.R_far (p := ⟨gb616, 0, none⟩) (Kd.R_far (p := ⟨gb627, 6, none⟩) (Kd.R_types (Kd.R_types HO714.out BK627.out (by decide)) BK616.out (by decide)) (fun _ hk => hk.1.2) (.slice Ao81 t712.length co81)) (fun _ hk => hk.2) (.string t622)) (fun _ hk => hk.2) (.slice none 0 0)) (fun _ hk => hk.2) (.bool x628002_8)) (fun _ hk => hk.2) (.string x628003_8)) (fun _ hk => hk.2) (.string t655)) (fun _ hk => hk.2) (.slice Ao76 y700.length co76)) (fun _ hk => hk.2) (.slice Ao81 t712.length co81)) (fun _ hk => hk.2) (.int .i64 t617)) (fun _ hk => trivial), zq4, zq8, zq7⟩
        ·
         rw [if_neg c60] at H
         exact absurd H (by simp)
       ·
        rw [if_neg c58] at H
        have c58b0 := beq_eq_false_iff_ne.mpr c58
        have c58b1 := bne_iff_ne.mpr c58
        replace H := Option.bind_eq_some_iff.mp H
        obtain ⟨⟨t684, t685, t686, t687⟩, A870, H⟩ := H
        (try dsimp only at H)
        have A87 := za A870
        clear A870
        replace H := Option.bind_eq_some_iff.mp H
        obtain ⟨⟨t688, t691, t692, t693, t694⟩, A880, H⟩ := H
        (try dsimp only at H)
        have A88 := za A880
        clear A880
        simp only [Option.some.injEq, Prod.mk.injEq] at H
        obtain ⟨rfl, rfl, rfl, rfl, rfl, rfl, rfl, rfl, rfl, rfl, rfl, rfl⟩ := H
        obtain ⟨ASz89_0, cSz89_0, HGz89, hgz89, HSz89_0⟩ := HI0.out
        have hcz89_0 := cellS83_0 HGz89
        have hcz89_1 := cellS83_1 HGz89
        have hcz89_2 := cellS83_2 HGz89
        have hcz89_3 := cellS83_3 HGz89
        have hcz89_4 := cellS83_4 HGz89
        have hfz89_1 := blk_frozen HGz89 1
        have hfz89_2 := blk_frozen HGz89 2
        have hfz89_3 := blk_frozen HGz89 3
        have hfz89_4 := blk_frozen HGz89 4
        clear HGz89 hgz89
        go_wp2_with (first | ((with_reducible refine gate_callee (f := 45) rfl ?_); refine goesL_ (some 75) rfl rfl Try.func45 zq12 rfl #[.pointer (some ⟨g, 0, none⟩), .string (⟨#[125]⟩ : ByteArray)] rfl zq1 ?_; (with_reducible refine (rr_want.calls g s0_0 x1001_2 x1002_2 x1003_2 x1004_2 (⟨#[125]⟩ : ByteArray) t684 t685 t686 t687 w0 _ ?side1 ?side2 A87.out).mono ?_); (case side1 => exact zq4); (case side2 => exact zq8); rintro e w90 ⟨rfl, hi, hb, hk⟩; refine ⟨_, rfl, ?_⟩; replace HO_628005 := za (Kd.R_mono (Kd.R_keep (IsS83.apart (show IsS83 w0 _ g s0_0 x1001_2 x1002_2 x1003_2 x1004_2 from zq4) (zr HO_628005.out) (by decide)) hk (fun _ h => h.2)) (fun _ h => h.1)); replace BK616 := za (KeepBut.blk hk (g' := gb616) (zb BK616.out) NB616_0.out (by simp)); replace BK627 := za (KeepBut.blk hk (g' := gb627) (zb BK627.out) NB627_0.out (by simp)); replace HK := za (KeepBut.trans zq7 hk (.inl rfl)); replace HB := za (hb); replace HI0 := za (hi); (try clear hb hk hi)) | ((with_reducible refine gate_callee (f := 56) rfl ?_); refine goesL_ (some 77) rfl rfl Try.func56 zq12 rfl #[.pointer (some ⟨g, 0, none⟩)] rfl zq1 ?_; (with_reducible refine (rr_block.calls k2 g s0_0 t684 t685 t686 t687 t688 t691 t692 t693 t694 w0 _ ?side1 ?side2 A88.out).mono ?_); (case side1 => exact zq4); (case side2 => exact zq8); rintro e w91 ⟨v689, rfl, ho0, hi, hb, hk⟩; refine ⟨_, rfl, ?_⟩; replace HO_628005 := za (Kd.R_mono (Kd.R_keep (IsS83.apart (show IsS83 w0 _ g s0_0 t684 t685 t686 t687 from zq4) (zr HO_628005.out) (by decide)) hk (fun _ h => h.2)) (fun _ h => h.1)); replace BK616 := za (KeepBut.blk hk (g' := gb616) (zb BK616.out) NB616_0.out (by simp)); replace BK627 := za (KeepBut.blk hk (g' := gb627) (zb BK627.out) NB627_0.out (by simp)); have HO690 := za (Kd.R_lower ho0 (keep_size (w := w) (g := g) (row := none) zq7)); replace HK := za (KeepBut.trans zq7 hk (.inl rfl)); replace HB := za (hb); replace HI0 := za (hi); (try clear hb hk hi ho0); obtain ⟨Ao92, co92, eo92⟩ := Kd.R_slice HO690.out; subst eo92; have hnb93 := NB627_616.out; have hnc93 := NB616_627.out; have hnb94 := NB627_0.out; have hnc94 := NB0_627.out; obtain ⟨hcz95_0, hcz95_1, hcz95_2, hcz95_3, hcz95_4, hcz95_5, hcz95_6, hcz95_7⟩ := zc8 BK627.out; obtain ⟨hfz95_0, hfz95_1, hfz95_2, hfz95_3, hfz95_4, hfz95_5, hfz95_6, hfz95_7⟩ := zf8 BK627.out; have hnb96 := NB616_0.out; have hnc96 := NB0_616.out; obtain ⟨hcz97_0, hcz97_1, hcz97_2, hcz97_3, hcz97_4, hcz97_5, hcz97_6, hcz97_7⟩ := zc8 BK616.out; obtain ⟨hfz97_0, hfz97_1, hfz97_2, hfz97_3, hfz97_4, hfz97_5, hfz97_6, hfz97_7⟩ := zf8 BK616.out; obtain ⟨Ao98, co98, eo98⟩ := Kd.R_slice HO_628005.out; subst eo98))
        refine bodyPost_ret (results_cell_row rfl _ _ gb616 44 #[.string t622, .slice none 0 0, .bool x628002_8, .string x628003_8, .string t655, .slice Ao98 x628005_2.length co98, .slice Ao92 t688.length co92, .int .i64 t617] (0, 0) _ rfl (by (with_reducible repeat (first | refine blk_drewN ?_ _ | refine blk_drew ?_ | refine blk_alloc ?_ _)); refine blk_put (cs := #[.string t622, .slice none 0 0, .bool x628002_8, .string x628003_8, .string t655, .slice Ao98 x628005_2.length co98, .slice Ao92 t688.length co92, .int .i64 0]) ?_ 7 _ rfl; (with_reducible repeat (first | refine blk_drewN ?_ _ | refine blk_drew ?_ | refine blk_alloc ?_ _)); refine blk_put (cs := #[.string t622, .slice none 0 0, .bool x628002_8, .string x628003_8, .string t655, .slice Ao98 x628005_2.length co98, .slice none 0 0, .int .i64 0]) ?_ 6 _ rfl; (with_reducible repeat (first | refine blk_drewN ?_ _ | refine blk_drew ?_ | refine blk_alloc ?_ _)); refine blk_put (cs := #[.string t622, .slice none 0 0, .bool x628002_8, .string x628003_8, .string t655, .slice none 0 0, .slice none 0 0, .int .i64 0]) ?_ 5 _ rfl; (with_reducible repeat (first | refine blk_drewN ?_ _ | refine blk_drew ?_ | refine blk_alloc ?_ _)); refine blk_put (cs := #[.string t622, .slice none 0 0, .bool x628002_8, .string x628003_8, .string (⟨#[]⟩ : ByteArray), .slice none 0 0, .slice none 0 0, .int .i64 0]) ?_ 4 _ rfl; (with_reducible repeat (first | refine blk_drewN ?_ _ | refine blk_drew ?_ | refine blk_alloc ?_ _)); refine blk_put (cs := #[.string t622, .slice none 0 0, .bool x628002_8, .string (⟨#[]⟩ : ByteArray), .string (⟨#[]⟩ : ByteArray), .slice none 0 0, .slice none 0 0, .int .i64 0]) ?_ 3 _ rfl; (with_reducible repeat (first | refine blk_drewN ?_ _ | refine blk_drew ?_ | refine blk_alloc ?_ _)); refine blk_put (cs := #[.string t622, .slice none 0 0, .bool false, .string (⟨#[]⟩ : ByteArray), .string (⟨#[]⟩ : ByteArray), .slice none 0 0, .slice none 0 0, .int .i64 0]) ?_ 2 _ rfl; (with_reducible repeat (first | refine blk_drewN ?_ _ | refine blk_drew ?_ | refine blk_alloc ?_ _)); refine blk_put (cs := #[.string t622, .slice none 0 0, .bool false, .string (⟨#[]⟩ : ByteArray), .string (⟨#[]⟩ : ByteArray), .slice none 0 0, .slice none 0 0, .int .i64 0]) ?_ 1 _ rfl; (with_reducible repeat (first | refine blk_drewN ?_ _ | refine blk_drew ?_ | refine blk_alloc ?_ _)); refine blk_put (cs := #[.string (⟨#[]⟩ : ByteArray), .slice none 0 0, .bool false, .string (⟨#[]⟩ : ByteArray), .string (⟨#[]⟩ : ByteArray), .slice none 0 0, .slice none 0 0, .int .i64 0]) ?_ 0 _ rfl; (with_reducible repeat (first | refine blk_drewN ?_ _ | refine blk_drew ?_ | refine blk_alloc ?_ _)); refine blk_far ?_ NB616_627.out _; (with_reducible repeat (first | refine blk_drewN ?_ _ | refine blk_drew ?_ | refine blk_alloc ?_ _)); exact BK616.out) Try.underlying44 rfl zq12) rfl ?_
        exact ⟨_, _, _, zq14, zq29, by (with_reducible repeat (first | apply Kd.R_alloc | apply Kd.R_drewN | apply Kd.R_drew)); exact Kd.R_mono (Kd.R_far (p := ⟨gb616, 7, none⟩) (Kd.R_far (p := ⟨gb616, 6, none⟩) (Kd.R_far (p := ⟨gb616, 5, none⟩) (Kd.R_far (p := ⟨gb616, 4, none⟩) (Kd.R_far (p := ⟨gb616, 3, none⟩) (Kd.R_far (p := ⟨gb616, 2, none⟩) (Kd.R_far (p := ⟨gb616, 1, none⟩) (Kd.R_far (p := ⟨gb616, 0, none⟩) (Kd.R_far (p := ⟨gb627, 6, none⟩) (Kd.R_types (Kd.R_types HO_628005.out BK627.out (by decide)) BK616.out (by decide)) (fun _ hk => hk.1.2) (.slice Ao92 t688.length co92)) (fun _ hk => hk.2) (.string t622)) (fun _ hk => hk.2) (.slice none 0 0)) (fun _ hk => hk.2) (.bool x628002_8)) (fun _ hk => hk.2) (.string x628003_8)) (fun _ hk => hk.2) (.string t655)) (fun _ hk => hk.2) (.slice Ao98 x628005_2.length co98)) (fun _ hk => hk.2) (.slice Ao92 t688.length co92)) (fun _ hk => hk.2) (.int .i64 t617)) (fun _ hk => trivial), by (with_reducible repeat (first | apply Kd.R_alloc | apply Kd.R_drewN | apply Kd.R_drew)); exact Kd.R_mono (Kd.R_far (p := ⟨gb616, 7, none⟩) (Kd.R_far (p := ⟨gb616, 6, none⟩) (Kd.R_far (p := ⟨gb616, 5, none⟩) (Kd.R_far (p := ⟨gb616, 4, none⟩) (Kd.R_far (p := ⟨gb616, 3, none⟩) (Kd.R_far (p := ⟨gb616, 2, none⟩) (Kd.R_far (p := ⟨gb616, 1, none⟩) (Kd.R_far (p := ⟨gb616, 0, none⟩) (Kd.R_far (p := ⟨gb627, 6, none⟩) (Kd.R_types (Kd.R_types HO690.out BK627.out (by decide)) BK616.out (by decide)) (fun _ hk => hk.1.2) (.slice Ao92 t688.length co92)) (fun _ hk => hk.2) (.string t622)) (fun _ hk => hk.2) (.slice none 0 0)) (fun _ hk => hk.2) (.bool x628002_8)) (fun _ hk => hk.2) (.string x628003_8)) (fun _ hk => hk.2) (.string t655)) (fun _ hk => hk.2) (.slice Ao98 x628005_2.length co98)) (fun _ hk => hk.2) (.slice Ao92 t688.length co92)) (fun _ hk => hk.2) (.int .i64 t617)) (fun _ hk => trivial), zq4, zq8, zq7⟩
 ·
  replace c6 := Bool.eq_false_iff.mpr c6
  subst c6
  rw [if_neg (show ¬ (false = true) by decide)] at H
  exact absurd H (by simp)
end Go.Proofs.Ytcjnhnnfoadklaa.QRunCounts
