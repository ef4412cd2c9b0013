import Derived.Test.YtcjnhnnfoadklaaZRLx10
namespace Go.Proofs.Ytcjnhnnfoadklaa.QRunCalls
open Go.RowKit Go.Proofs.YtcjnhnnfoadklaaW.PrintWords Go.Proofs.YtcjnhnnfoadklaaW.PrintLast Go.Proofs.YtcjnhnnfoadklaaW.PrintMore
attribute [local go_sem] max2_int min2_int max_two min_two max_three min_three max_four min_four
set_option linter.unusedVariables false
set_option linter.unusedSimpArgs false
def rr_call.l0 : Nat → List (S110) → Int → Int → Int → Int → Int → Int → ByteArray → ByteArray → ByteArray → Bool → ByteArray → ByteArray → List (List (S140)) → Option (Int × Int × ByteArray × ByteArray × ByteArray × Bool × ByteArray × ByteArray × (List (S140)) × (List (List (S140))) × (List (S91)) × (List (S91)) × Int × Int × Int × Int)
 | 0, _, _, _, _, _, _, _, _, _, _, _, _, _, _ => none
 | k + 1, x1000, x1001, x1002, x1003, x1004, x332000, x332001, x332002, x332003, x332004, x332005, x332006, x332007, x332009 => if x1003 = 0 then ((rr_expr.f k x1000 x1001 x1002 x1003 x1004 ([] : List (S140))).bind fun bt359 => (if x332009.length < 5864062014805 then ((some (x332009 ++ [bt359.1] : List (List (S140)))).bind fun y366 => ((rr_take.f x1000 bt359.2.1 bt359.2.2.1 bt359.2.2.2.1 bt359.2.2.2.2 (⟨#[44]⟩ : ByteArray)).bind fun bt369 => (if bt369.1 = true then (rr_call.l0 k x1000 bt369.2.1 bt369.2.2.1 bt369.2.2.2.1 bt369.2.2.2.2 x332000 x332001 x332002 x332003 x332004 x332005 x332006 x332007 y366) else ((rr_want.f x1000 bt369.2.1 bt369.2.2.1 bt369.2.2.2.1 bt369.2.2.2.2 (⟨#[41]⟩ : ByteArray)).bind fun bt374 => (some (x332000, x332001, x332002, x332003, x332004, x332005, x332006, x332007, ([] : List (S140)), y366, ([] : List (S91)), ([] : List (S91)), bt374.1, bt374.2.1, bt374.2.2.1, bt374.2.2.2)))))) else (none))) else (none)
def rr_call.f (k : Nat) (s0_0 : List (S110)) (s0_1 : Int) (s0_2 : Int) (s0_3 : Int) (s0_4 : Int) (a1_0 : Int) (a1_1 : Int) (a1_2 : ByteArray) (a1_3 : ByteArray) (a1_4 : ByteArray) (a1_5 : Bool) (a1_6 : ByteArray) (a1_7 : ByteArray) : Option (Int × Int × ByteArray × ByteArray × ByteArray × Bool × ByteArray × ByteArray × (List (S140)) × (List (List (S140))) × (List (S91)) × (List (S91)) × Int × Int × Int × Int) := (rr_qname.f s0_0 s0_1 s0_2 s0_3 s0_4).bind fun bt333 => ((rr_take.f s0_0 bt333.2.2.1 bt333.2.2.2.1 bt333.2.2.2.2.1 bt333.2.2.2.2.2 (⟨#[61]⟩ : ByteArray)).bind fun bt339 => (if bt339.1 = true then ((rr_qname.f s0_0 bt339.2.1 bt339.2.2.1 bt339.2.2.2.1 bt339.2.2.2.2).bind fun bt344 => ((rr_want.f s0_0 bt344.2.2.1 bt344.2.2.2.1 bt344.2.2.2.2.1 bt344.2.2.2.2.2 (⟨#[40]⟩ : ByteArray)).bind fun bt350 => ((rr_is.f s0_0 bt350.1 bt350.2.1 bt350.2.2.1 bt350.2.2.2 (⟨#[41]⟩ : ByteArray)).bind fun bt354 => (if bt354.1 = true then (none) else (rr_call.l0 k s0_0 bt354.2.1 bt354.2.2.1 bt354.2.2.2.1 bt354.2.2.2.2 4 a1_1 bt333.1 bt333.2.1 a1_4 true bt344.1 bt344.2.1 ([] : List (List (S140)))))))) else (none)))
theorem rr_call.mono_l : ∀ k, (∀ y0 y1 y2 y3 y4 y5 y6 y7 y8 y9 y10 y11 y12 y13, LeO (rr_call.l0 k y0 y1 y2 y3 y4 y5 y6 y7 y8 y9 y10 y11 y12 y13) (rr_call.l0 (k + 1) y0 y1 y2 y3 y4 y5 y6 y7 y8 y9 y10 y11 y12 y13))
 | 0 => fun _ _ _ _ _ _ _ _ _ _ _ _ _ _ r h => by simp [rr_call.l0] at h
 | k + 1 => by
  have ih0 := rr_call.mono_l k
  ·
   intro y0 y1 y2 y3 y4 y5 y6 y7 y8 y9 y10 y11 y12 y13
   unfold rr_call.l0
   repeat' with_reducible first | apply ih0 | apply rr_expr.mono | exact LeO.refl _ | exact LeO.none _ | refine LeO.ite ?_ ?_ | refine LeO.bind ?_ (fun _ => ?_)
theorem rr_call.mono : ∀ a0 a1 a2 a3 a4 a5 a6 a7 a8 a9 a10 a11 a12 k, LeO (rr_call.f k a0 a1 a2 a3 a4 a5 a6 a7 a8 a9 a10 a11 a12) (rr_call.f (k + 1) a0 a1 a2 a3 a4 a5 a6 a7 a8 a9 a10 a11 a12) := by
 intro a0 a1 a2 a3 a4 a5 a6 a7 a8 a9 a10 a11 a12 k
 have ih0 := rr_call.mono_l k
 unfold rr_call.f
 repeat' with_reducible first | apply ih0 | apply rr_expr.mono | exact LeO.refl _ | exact LeO.none _ | refine LeO.ite ?_ ?_ | refine LeO.bind ?_ (fun _ => ?_)
def rr_call.T15 : Bool × List (List Nat × List Nat) := (true, [([], []), ([0], [0]), ([], []), ([2], [2]), ([3], [3]), ([1, 4, 3], [1, 4]), ([0, 1, 2, 3, 4, 5], []), ([6, 5, 5, 0, 1, 2, 3, 4, 5], [5, 6])])
def rr_call.B15 : List Nat := [0, 1, 0, 4, 12, 31, 63, 127]
theorem rr_call.tab15 : rtab .any (opsOf Try.f74 15) = rr_call.T15 := by kernel_rfl
theorem rr_call.bits15 : waitsOk rr_call.T15.2 rr_call.B15 = true := by kernel_rfl
set_option maxHeartbeats 8000000 in
set_option maxRecDepth 100000 in
theorem rr_call.calls (k : Nat) (g : Nat) (s0_0 : List (S110)) (s0_1 : Int) (s0_2 : Int) (s0_3 : Int) (s0_4 : Int) (a1_0 : Int) (a1_1 : Int) (a1_2 : ByteArray) (a1_3 : ByteArray) (a1_4 : ByteArray) (a1_5 : Bool) (a1_6 : ByteArray) (a1_7 : ByteArray) (r1 : Int) (r2 : Int) (r3 : ByteArray) (r4 : ByteArray) (r5 : ByteArray) (r6 : Bool) (r7 : ByteArray) (r8 : ByteArray) (r9 : List (S140)) (r10 : List (List (S140))) (r11 : List (S91)) (r12 : List (S91)) (r13 : Int) (r14 : Int) (r15 : Int) (r16 : Int) (w0 w : World) (hI : IsS83 w0 w g s0_0 s0_1 s0_2 s0_3 s0_4) (hB : Below w0.heap.size w0 w) (h : rr_call.f k s0_0 s0_1 s0_2 s0_3 s0_4 a1_0 a1_1 a1_2 a1_3 a1_4 a1_5 a1_6 a1_7 = some (r1, r2, r3, r4, r5, r6, r7, r8, r9, r10, r11, r12, r13, r14, r15, r16)) :
  Calls Try.prog 74 #[.pointer (some ⟨g, 0, none⟩), .agg #[.int .i64 a1_0, .int .i64 a1_1, .string a1_2, .string a1_3, .string a1_4, .bool a1_5, .string a1_6, .string a1_7, .slice none 0 0, .slice none 0 0, .slice none 0 0, .slice none 0 0]] w fun e w' => ∃ v8_ v9_ v10_ v11_ : Value, e = .returned (.agg #[.int .i64 r1, .int .i64 r2, .string r3, .string r4, .string r5, .bool r6, .string r7, .string r8, v8_, v9_, v10_, v11_]) ∧ Kd.R k140 140 w' w.heap.size (fun _ => True) v8_ r9 ∧ Kd.S (Kd.slice 140 k140) 88 w' w.heap.size (fun k_ => some k_ ≠ (v8_ : Value).ownBlock) v9_ r10 ∧ Kd.R k91 91 w' w.heap.size (fun k_ => some k_ ≠ (v8_ : Value).ownBlock ∧ some k_ ≠ (v9_ : Value).ownBlock ∧ some k_ ≠ (v11_ : Value).ownBlock) v10_ r11 ∧ Kd.R k91 91 w' w.heap.size (fun k_ => some k_ ≠ (v8_ : Value).ownBlock ∧ some k_ ≠ (v9_ : Value).ownBlock ∧ some k_ ≠ (v10_ : Value).ownBlock) v11_ r12 ∧ IsS83 w0 w' g s0_0 r13 r14 r15 r16 ∧ Below w0.heap.size w0 w' ∧ KeepBut w w' g none := by
 have hu91 := Try.underlying91
 have HI0 := za hI
 have HK := za (KeepBut.refl w g none)
 have HL := za hB.size
 clear hI
 have HW0 := za hB.size
 have HB := za hB
 clear hB
 have H : ((rr_qname.f s0_0 s0_1 s0_2 s0_3 s0_4).bind fun bt333 => ((rr_take.f s0_0 bt333.2.2.1 bt333.2.2.2.1 bt333.2.2.2.2.1 bt333.2.2.2.2.2 (⟨#[61]⟩ : ByteArray)).bind fun bt339 => (if bt339.1 = true then ((rr_qname.f s0_0 bt339.2.1 bt339.2.2.1 bt339.2.2.2.1 bt339.2.2.2.2).bind fun bt344 => ((rr_want.f s0_0 bt344.2.2.1 bt344.2.2.2.1 bt344.2.2.2.2.1 bt344.2.2.2.2.2 (⟨#[40]⟩ : ByteArray)).bind fun bt350 => ((rr_is.f s0_0 bt350.1 bt350.2.1 bt350.2.2.1 bt350.2.2.2 (⟨#[41]⟩ : ByteArray)).bind fun bt354 => (if bt354.1 = true then (none) else (rr_call.l0 k s0_0 bt354.2.1 bt354.2.2.1 bt354.2.2.2.1 bt354.2.2.2.2 4 a1_1 bt333.1 bt333.2.1 a1_4 true bt344.1 bt344.2.1 ([] : List (List (S140)))))))) else (none)))) = some (r1, r2, r3, r4, r5, r6, r7, r8, r9, r10, r11, r12, r13, r14, r15, r16) := h
 clear h
 replace H := Option.bind_eq_some_iff.mp H
 obtain ⟨⟨t333, t334, t335, t336, t337, t338⟩, A30, H⟩ := H
 (try dsimp only at H)
 have A3 := za A30
 clear A30
 replace H := Option.bind_eq_some_iff.mp H
 obtain ⟨⟨t339, t340, t341, t342, t343⟩, A40, H⟩ := H
 (try dsimp only at H)
 have A4 := za A40
 clear A40
 by_cases c5 : t339 = true
 ·
  subst c5
  rw [if_pos rfl] at H
  replace H := Option.bind_eq_some_iff.mp H
  obtain ⟨⟨t344, t345, t346, t347, t348, t349⟩, A60, H⟩ := H
  (try dsimp only at H)
  have A6 := za A60
  clear A60
  replace H := Option.bind_eq_some_iff.mp H
  obtain ⟨⟨t350, t351, t352, t353⟩, A70, H⟩ := H
  (try dsimp only at H)
  have A7 := za A70
  clear A70
  replace H := Option.bind_eq_some_iff.mp H
  obtain ⟨⟨t354, t355, t356, t357, t358⟩, A80, H⟩ := H
  (try dsimp only at H)
  have A8 := za A80
  clear A80
  by_cases c9 : t354 = true
  ·
   subst c9
   rw [if_pos rfl] at H
   exact absurd H (by simp)
  ·
   replace c9 := Bool.eq_false_iff.mpr c9
   subst c9
   rw [if_neg (show ¬ (false = true) by decide)] at H
   have H' := za H
   clear H
   go_enter Try.func74, Try.ntmps74
   go_wp2_with (first | ((with_reducible refine gate_dst (N := 3) rfl ?_); refine box_event ?hg (N := 3) ?hd (cs := #[.int .i64 a1_0, .int .i64 a1_1, .string a1_2, .string a1_3, .string a1_4, .bool a1_5, .string a1_6, .string a1_7, .slice none 0 0, .slice none 0 0, .slice none 0 0, .slice none 0 0]) (t := 91) ?hr ?_; (case hd => rfl); (case hg => rfl); (case hr => exact zq21); intro gb331 hg w10 hbox hb; replace HB := za (below_step zq2 hb); have BK331 := za (hbox); have GW331 := za ((by rw [hg]; exact (keep_size (w := w) (g := g) (row := none) zq5) : w.heap.size ≤ gb331)); have GE331 := za ((Nat.le_trans HW0.out (by rw [hg]; exact (keep_size (w := w) (g := g) (row := none) zq5) : w.heap.size ≤ gb331) : w0.heap.size ≤ gb331)); replace HK := za (KeepBut.trans zq5 (KeepBut.of_below hb g none) (.inl rfl)); have NB0_331 := za ((by rw [hg]; exact Nat.ne_of_lt (IsS83.lt (show IsS83 w0 _ g s0_0 s0_1 s0_2 s0_3 s0_4 from zq0)) : g ≠ gb331)); have NB331_0 := za ((by rw [hg]; exact Nat.ne_of_gt (IsS83.lt (show IsS83 w0 _ g s0_0 s0_1 s0_2 s0_3 s0_4 from zq0)) : gb331 ≠ g)); replace HI0 := za (IsS83.below zq0 hb); clear hb hbox hg) | ((with_reducible refine gate_dst (N := 4) rfl ?_); refine box_event ?hg (N := 4) ?hd (cs := #[.int .i64 0, .int .i64 0, .string (⟨#[]⟩ : ByteArray), .string (⟨#[]⟩ : ByteArray), .string (⟨#[]⟩ : ByteArray), .bool false, .string (⟨#[]⟩ : ByteArray), .string (⟨#[]⟩ : ByteArray), .slice none 0 0, .slice none 0 0, .slice none 0 0, .slice none 0 0]) (t := 91) ?hr ?_; (case hd => rfl); (case hg => rfl); (case hr => exact zq21); intro gb332 hg w11 hbox hb; replace HB := za (below_step (by repeat (first | (with_reducible first | exact HB.out | apply below_alloc | apply pw_below_drewN | apply below_drew1 | refine below_set ?_ (IsS83.ge HI0.out) | refine below_set ?_ GE331.out) | exact HB.out)) hb); have BK332 := za (hbox); have GW332 := za ((by rw [hg]; exact (keep_size (w := w) (g := g) (row := none) zq63) : w.heap.size ≤ gb332)); have GE332 := za ((Nat.le_trans HW0.out (by rw [hg]; exact (keep_size (w := w) (g := g) (row := none) zq63) : w.heap.size ≤ gb332) : w0.heap.size ≤ gb332)); replace HK := za (KeepBut.trans zq63 (KeepBut.of_below hb g none) (.inl rfl)); have NB331_332 := za ((by rw [hg]; exact Nat.ne_of_lt (blk_lt (g := gb331) (zb BK331.out)) : gb331 ≠ gb332)); have NB332_331 := za ((by rw [hg]; exact Nat.ne_of_gt (blk_lt (g := gb331) (zb BK331.out)) : gb332 ≠ gb331)); replace BK331 := za (blk_below (g := gb331) (zb BK331.out) hb); have NB0_332 := za ((by rw [hg]; exact Nat.ne_of_lt (IsS83.lt (show IsS83 w0 _ g s0_0 s0_1 s0_2 s0_3 s0_4 from zq53)) : g ≠ gb332)); have NB332_0 := za ((by rw [hg]; exact Nat.ne_of_gt (IsS83.lt (show IsS83 w0 _ g s0_0 s0_1 s0_2 s0_3 s0_4 from zq53)) : gb332 ≠ g)); replace HI0 := za (IsS83.below zq53 hb); clear hb hbox hg; have hnb12 := NB331_332.out; have hnc12 := NB332_331.out; have hnb13 := NB331_0.out; have hnc13 := NB0_331.out; obtain ⟨hcz14_0, hcz14_1, hcz14_2, hcz14_3, hcz14_4, hcz14_5, hcz14_6, hcz14_7, hcz14_8, hcz14_9, hcz14_10, hcz14_11⟩ := zc12 BK331.out; obtain ⟨hfz14_0, hfz14_1, hfz14_2, hfz14_3, hfz14_4, hfz14_5, hfz14_6, hfz14_7, hfz14_8, hfz14_9, hfz14_10⟩ := zf11 BK331.out; have hfz14_11 := blk_frozen BK331.out 11) | ((with_reducible refine gate_callee (f := 72) rfl ?_); refine goesL_ (some 12) rfl rfl Try.func72 zq13 rfl #[.pointer (some ⟨g, 0, none⟩)] rfl zq1 ?_; (with_reducible refine (rr_qname.calls g s0_0 s0_1 s0_2 s0_3 s0_4 t333 t334 t335 t336 t337 t338 w0 _ ?side1 ?side2 A3.out).mono ?_); (case side1 => exact zq12); (case side2 => exact zq20); rintro e w15 ⟨rfl, hi, hb, hk⟩; refine ⟨_, rfl, ?_⟩; replace BK331 := za (KeepBut.blk hk (g' := gb331) (o := .cells #[.int .i64 4, .int .i64 a1_1, .string a1_2, .string a1_3, .string a1_4, .bool a1_5, .string a1_6, .string a1_7, .slice none 0 0, .slice none 0 0, .slice none 0 0, .slice none 0 0] 91 (0, 0)) (by (with_reducible repeat (first | refine blk_drewN ?_ _ | refine blk_drew ?_ | refine blk_alloc ?_ _)); refine blk_put (cs := #[.int .i64 a1_0, .int .i64 a1_1, .string a1_2, .string a1_3, .string a1_4, .bool a1_5, .string a1_6, .string a1_7, .slice none 0 0, .slice none 0 0, .slice none 0 0, .slice none 0 0]) ?_ 0 _ rfl; (with_reducible repeat (first | refine blk_drewN ?_ _ | refine blk_drew ?_ | refine blk_alloc ?_ _)); exact BK331.out) NB331_0.out (by simp)); replace BK332 := za (KeepBut.blk hk (g' := gb332) (o := .cells #[.int .i64 0, .int .i64 0, .string (⟨#[]⟩ : ByteArray), .string (⟨#[]⟩ : ByteArray), .string (⟨#[]⟩ : ByteArray), .bool false, .string (⟨#[]⟩ : ByteArray), .string (⟨#[]⟩ : ByteArray), .slice none 0 0, .slice none 0 0, .slice none 0 0, .slice none 0 0] 91 (0, 0)) zq52 NB332_0.out (by simp)); replace HK := za (KeepBut.trans zq18 hk (.inl rfl)); replace HB := za (hb); replace HI0 := za (hi); (try clear hb hk hi)) | ((with_reducible refine gate_callee (f := 48) rfl ?_); refine goesL_ (some 16) rfl rfl Try.func48 zq13 rfl #[.pointer (some ⟨g, 0, none⟩), .string (⟨#[61]⟩ : ByteArray)] rfl zq1 ?_; (with_reducible refine (rr_take.calls g s0_0 t335 t336 t337 t338 (⟨#[61]⟩ : ByteArray) true t340 t341 t342 t343 w0 _ ?side1 ?side2 A4.out).mono ?_); (case side1 => exact zq12); (case side2 => exact zq20); rintro e w16 ⟨rfl, hi, hb, hk⟩; refine ⟨_, rfl, ?_⟩; replace BK331 := za (KeepBut.blk hk (g' := gb331) (zb BK331.out) NB331_0.out (by simp)); replace BK332 := za (KeepBut.blk hk (g' := gb332) (zb BK332.out) NB332_0.out (by simp)); replace HK := za (KeepBut.trans zq18 hk (.inl rfl)); replace HB := za (hb); replace HI0 := za (hi); (try clear hb hk hi); obtain ⟨hcz17_0, hcz17_1, hcz17_2, hcz17_3, hcz17_4, hcz17_5, hcz17_6, hcz17_7, hcz17_8, hcz17_9, hcz17_10, hcz17_11⟩ := zc12 BK331.out; obtain ⟨hfz17_0, hfz17_1, hfz17_2, hfz17_3, hfz17_4, hfz17_5, hfz17_6, hfz17_7, hfz17_8, hfz17_9, hfz17_10⟩ := zf11 BK331.out; have hfz17_11 := blk_frozen BK331.out 11) | ((with_reducible refine gate_callee (f := 72) rfl ?_); refine goesL_ (some 24) rfl rfl Try.func72 zq13 rfl #[.pointer (some ⟨g, 0, none⟩)] rfl zq1 ?_; (with_reducible refine (rr_qname.calls g s0_0 t340 t341 t342 t343 t344 t345 t346 t347 t348 t349 w0 _ ?side1 ?side2 A6.out).mono ?_); (case side1 => exact zq12); (case side2 => exact zq20); rintro e w18 ⟨rfl, hi, hb, hk⟩; refine ⟨_, rfl, ?_⟩; replace BK331 := za (KeepBut.blk hk (g' := gb331) (o := .cells #[.int .i64 4, .int .i64 a1_1, .string t333, .string t334, .string a1_4, .bool true, .string a1_6, .string a1_7, .slice none 0 0, .slice none 0 0, .slice none 0 0, .slice none 0 0] 91 (0, 0)) (by (with_reducible repeat (first | refine blk_drewN ?_ _ | refine blk_drew ?_ | refine blk_alloc ?_ _)); refine blk_put (cs := #[.int .i64 4, .int .i64 a1_1, .string t333, .string a1_3, .string a1_4, .bool true, .string a1_6, .string a1_7, .slice none 0 0, .slice none 0 0, .slice none 0 0, .slice none 0 0]) ?_ 3 _ rfl; (with_reducible repeat (first | refine blk_drewN ?_ _ | refine blk_drew ?_ | refine blk_alloc ?_ _)); refine blk_put (cs := #[.int .i64 4, .int .i64 a1_1, .string a1_2, .string a1_3, .string a1_4, .bool true, .string a1_6, .string a1_7, .slice none 0 0, .slice none 0 0, .slice none 0 0, .slice none 0 0]) ?_ 2 _ rfl; (with_reducible repeat (first | refine blk_drewN ?_ _ | refine blk_drew ?_ | refine blk_alloc ?_ _)); refine blk_put (cs := #[.int .i64 4, .int .i64 a1_1, .string a1_2, .string a1_3, .string a1_4, .bool a1_5, .string a1_6, .string a1_7, .slice none 0 0, .slice none 0 0, .slice none 0 0, .slice none 0 0]) ?_ 5 _ rfl; (with_reducible repeat (first | refine blk_drewN ?_ _ | refine blk_drew ?_ | refine blk_alloc ?_ _)); exact BK331.out) NB331_0.out (by simp)); replace BK332 := za (KeepBut.blk hk (g' := gb332) (o := .cells #[.int .i64 0, .int .i64 0, .string (⟨#[]⟩ : ByteArray), .string (⟨#[]⟩ : ByteArray), .string (⟨#[]⟩ : ByteArray), .bool false, .string (⟨#[]⟩ : ByteArray), .string (⟨#[]⟩ : ByteArray), .slice none 0 0, .slice none 0 0, .slice none 0 0, .slice none 0 0] 91 (0, 0)) (by (with_reducible repeat (first | refine blk_drewN ?_ _ | refine blk_drew ?_ | refine blk_alloc ?_ _)); refine blk_far ?_ NB332_331.out _; (with_reducible repeat (first | refine blk_drewN ?_ _ | refine blk_drew ?_ | refine blk_alloc ?_ _)); refine blk_far ?_ NB332_331.out _; (with_reducible repeat (first | refine blk_drewN ?_ _ | refine blk_drew ?_ | refine blk_alloc ?_ _)); refine blk_far ?_ NB332_331.out _; (with_reducible repeat (first | refine blk_drewN ?_ _ | refine blk_drew ?_ | refine blk_alloc ?_ _)); exact BK332.out) NB332_0.out (by simp)); replace HK := za (KeepBut.trans zq18 hk (.inl rfl)); replace HB := za (hb); replace HI0 := za (hi); (try clear hb hk hi); obtain ⟨hcz19_0, hcz19_1, hcz19_2, hcz19_3, hcz19_4, hcz19_5, hcz19_6, hcz19_7, hcz19_8, hcz19_9, hcz19_10, hcz19_11⟩ := zc12 BK331.out; obtain ⟨hfz19_0, hfz19_1, hfz19_2, hfz19_3, hfz19_4, hfz19_5, hfz19_6, hfz19_7, hfz19_8, hfz19_9, hfz19_10⟩ := zf11 BK331.out; have hfz19_11 := blk_frozen BK331.out 11) | ((with_reducible refine gate_callee (f := 45) rfl ?_); refine goesL_ (some 34) rfl rfl Try.func45 zq13 rfl #[.pointer (some ⟨g, 0, none⟩), .string (⟨#[40]⟩ : ByteArray)] rfl zq1 ?_; (with_reducible refine (rr_want.calls g s0_0 t346 t347 t348 t349 (⟨#[40]⟩ : ByteArray) t350 t351 t352 t353 w0 _ ?side1 ?side2 A7.out).mono ?_); (case side1 => exact zq12); (case side2 => exact zq20); rintro e w20 ⟨rfl, hi, hb, hk⟩; refine ⟨_, rfl, ?_⟩; replace BK331 := za (KeepBut.blk hk (g' := gb331) (o := .cells #[.int .i64 4, .int .i64 a1_1, .string t333, .string t334, .string a1_4, .bool true, .string t344, .string t345, .slice none 0 0, .slice none 0 0, .slice none 0 0, .slice none 0 0] 91 (0, 0)) (by (with_reducible repeat (first | refine blk_drewN ?_ _ | refine blk_drew ?_ | refine blk_alloc ?_ _)); refine blk_put (cs := #[.int .i64 4, .int .i64 a1_1, .string t333, .string t334, .string a1_4, .bool true, .string t344, .string a1_7, .slice none 0 0, .slice none 0 0, .slice none 0 0, .slice none 0 0]) ?_ 7 _ rfl; (with_reducible repeat (first | refine blk_drewN ?_ _ | refine blk_drew ?_ | refine blk_alloc ?_ _)); refine blk_put (cs := #[.int .i64 4, .int .i64 a1_1, .string t333, .string t334, .string a1_4, .bool true, .string a1_6, .string a1_7, .slice none 0 0, .slice none 0 0, .slice none 0 0, .slice none 0 0]) ?_ 6 _ rfl; (with_reducible repeat (first | refine blk_drewN ?_ _ | refine blk_drew ?_ | refine blk_alloc ?_ _)); exact BK331.out) NB331_0.out (by simp)); replace BK332 := za (KeepBut.blk hk (g' := gb332) (o := .cells #[.int .i64 0, .int .i64 0, .string (⟨#[]⟩ : ByteArray), .string (⟨#[]⟩ : ByteArray), .string (⟨#[]⟩ : ByteArray), .bool false, .string (⟨#[]⟩ : ByteArray), .string (⟨#[]⟩ : ByteArray), .slice none 0 0, .slice none 0 0, .slice none 0 0, .slice none 0 0] 91 (0, 0)) (by (with_reducible repeat (first | refine blk_drewN ?_ _ | refine blk_drew ?_ | refine blk_alloc ?_ _)); refine blk_far ?_ NB332_331.out _; (with_reducible repeat (first | refine blk_drewN ?_ _ | refine blk_drew ?_ | refine blk_alloc ?_ _)); refine blk_far ?_ NB332_331.out _; (with_reducible repeat (first | refine blk_drewN ?_ _ | refine blk_drew ?_ | refine blk_alloc ?_ _)); exact BK332.out) NB332_0.out (by simp)); replace HK := za (KeepBut.trans zq18 hk (.inl rfl)); replace HB := za (hb); replace HI0 := za (hi); (try clear hb hk hi)) | ((with_reducible refine gate_callee (f := 54) rfl ?_); refine goesL_ (some 36) rfl rfl Try.func54 zq13 rfl #[.pointer (some ⟨g, 0, none⟩), .string (⟨#[41]⟩ : ByteArray)] rfl zq1 ?_; (with_reducible refine (rr_is.calls g s0_0 t350 t351 t352 t353 (⟨#[41]⟩ : ByteArray) false t355 t356 t357 t358 w0 _ ?side1 ?side2 A8.out).mono ?_); (case side1 => exact zq12); (case side2 => exact zq20); rintro e w21 ⟨rfl, hi, hb, hk⟩; refine ⟨_, rfl, ?_⟩; replace BK331 := za (KeepBut.blk hk (g' := gb331) (zb BK331.out) NB331_0.out (by simp)); replace BK332 := za (KeepBut.blk hk (g' := gb332) (zb BK332.out) NB332_0.out (by simp)); replace HK := za (KeepBut.trans zq18 hk (.inl rfl)); replace HB := za (hb); replace HI0 := za (hi); (try clear hb hk hi)))
   (try simp only [Act.put, List.setIfInBounds_toArray, List.set_cons_zero, List.set_cons_succ])
   go_loopg [] k (fun kq w' => ∃ (x1001_1 : Int) (x1002_1 : Int) (x1003_1 : Int) (x1004_1 : Int) (x332009_1 : List (List (S140))) (u332009 : Value), Aside0 (rr_call.l0 kq s0_0 x1001_1 x1002_1 x1003_1 x1004_1 4 a1_1 t333 t334 a1_4 true t344 t345 x332009_1 = some (r1, r2, r3, r4, r5, r6, r7, r8, r9, r10, r11, r12, r13, r14, r15, r16)) ∧ Aside0 (kq ≤ k) ∧ Aside0 (Kd.S (Kd.slice 140 k140) 88 w' w.heap.size (fun _ => True) u332009 x332009_1) ∧ Aside0 (w'.heap[gb331]? = some (.cells #[.int .i64 4, .int .i64 a1_1, .string t333, .string t334, .string a1_4, .bool true, .string t344, .string t345, (.slice none 0 0), u332009, (.slice none 0 0), (.slice none 0 0)] 91 (0, 0))) ∧ Aside0 (w'.heap[gb332]? = some (.cells #[.int .i64 0, .int .i64 0, .string (⟨#[]⟩ : ByteArray), .string (⟨#[]⟩ : ByteArray), .string (⟨#[]⟩ : ByteArray), .bool false, .string (⟨#[]⟩ : ByteArray), .string (⟨#[]⟩ : ByteArray), (.slice none 0 0), (.slice none 0 0), (.slice none 0 0), (.slice none 0 0)] 91 (0, 0))) ∧ Aside0 (IsS83 w0 w' g s0_0 x1001_1 x1002_1 x1003_1 x1004_1) ∧ Aside0 (KeepBut w w' g none) ∧ Aside0 (Below w0.heap.size w0 w'))
   case atStart => exact ⟨(t355), (t356), (t357), (t358), (([] : List (List (S140)))), (.slice none 0 0), H', ⟨Nat.le_refl _⟩, ⟨by first | exact Kd.S_nil _ _ _ _ _ | exact Kd.N_nil _ _ _ _ _ | exact Kd.V_nil _ _ _ _ _ | exact Kd.Q_nil _ _ _ _ _ | exact Kd.R_nil _ _ _ _ _⟩, ⟨zq90⟩, ⟨zq91⟩, ⟨zq12⟩, ⟨zq18⟩, ⟨zq20⟩⟩
   case round =>
    clear H'
    obtain ⟨x1001_1, x1002_1, x1003_1, x1004_1, x332009_1, u332009, HA, HK1, HO_332009, BK331, BK332, HI0, HK, HB⟩ := hrel
    cases gk with
    | zero => exact absurd HA.out (by simp [rr_call.l0])
    | succ k1 =>
     have H := HA.out
     clear HA
     simp only [rr_call.l0] at H
     by_cases c22 : x1003_1 = 0
     ·
      rw [if_pos c22] at H
      have c22b0 := beq_iff_eq.mpr c22
      have c22b1 := bne_eq_false_iff_eq.mpr c22
      clear c22
      replace H := Option.bind_eq_some_iff.mp H
      obtain ⟨⟨t359, t362, t363, t364, t365⟩, A230, H⟩ := H
      (try dsimp only at H)
      have A23 := za A230
      clear A230
      by_cases c24 : x332009_1.length < 5864062014805
      ·
       rw [if_pos c24] at H
       have LMc24 := za c24
       clear c24
       obtain ⟨y366, hy366⟩ : ∃ y_ : List (List (S140)), y_ = (x332009_1 ++ [t359]) := ⟨_, rfl⟩
       replace H : ((rr_take.f s0_0 t362 t363 t364 t365 (⟨#[44]⟩ : ByteArray)).bind fun bt369 => (if bt369.1 = true then (rr_call.l0 k1 s0_0 bt369.2.1 bt369.2.2.1 bt369.2.2.2.1 bt369.2.2.2.2 4 a1_1 t333 t334 a1_4 true t344 t345 y366) else ((rr_want.f s0_0 bt369.2.1 bt369.2.2.1 bt369.2.2.2.1 bt369.2.2.2.2 (⟨#[41]⟩ : ByteArray)).bind fun bt374 => (some (4, a1_1, t333, t334, a1_4, true, t344, t345, ([] : List (S140)), y366, ([] : List (S91)), ([] : List (S91)), bt374.1, bt374.2.1, bt374.2.2.1, bt374.2.2.2))))) = some (r1, r2, r3, r4, r5, r6, r7, r8, r9, r10, r11, r12, r13, r14, r15, r16) := by first | (rw [hy366]; with_reducible exact H) | (have H2_ := (Option.bind_some _ _).symm.trans H; rw [hy366]; with_reducible exact H2_) | (have H2_ := (Option.bind_some _ _).symm.trans H; with_reducible exact H2_) | with_reducible exact H | (rw [hy366]; exact H) | exact H
       have Ny366 := za hy366
       clear hy366
       replace H := Option.bind_eq_some_iff.mp H
       obtain ⟨⟨t369, t370, t371, t372, t373⟩, A250, H⟩ := H
       (try dsimp only at H)
       have A25 := za A250
       clear A250
       by_cases c26 : t369 = true
       ·
        subst c26
        rw [if_pos rfl] at H
        have H' := za H
        clear H
        obtain ⟨ASz27_0, cSz27_0, HGz27, hgz27, HSz27_0⟩ := HI0.out
        have hcz27_0 := cellS83_0 HGz27
        have hcz27_1 := cellS83_1 HGz27
        have hcz27_2 := cellS83_2 HGz27
        have hcz27_3 := cellS83_3 HGz27
        have hcz27_4 := cellS83_4 HGz27
        have hfz27_1 := blk_frozen HGz27 1
        have hfz27_2 := blk_frozen HGz27 2
        have hfz27_3 := blk_frozen HGz27 3
        have hfz27_4 := blk_frozen HGz27 4
        clear HGz27 hgz27
        try go_wp2
        replace HO_332009 := za (Kd.S_drew HO_332009.out)
        replace BK331 := za (blk_drew BK331.out)
        replace BK332 := za (blk_drew BK332.out)
        replace HI0 := za (IsS83.drew HI0.out)
        replace HK := za (keep_drew HK.out)
        replace HB := za (below_drew1 HB.out)
        refine start_ (n := 8) (S := fun w' => w'.cell? ⟨gb331, 0, none⟩ = some (.int .i64 4) ∧ w'.cell? ⟨gb331, 1, none⟩ = some (.int .i64 a1_1) ∧ w'.cell? ⟨gb331, 2, none⟩ = some (.string t333) ∧ w'.cell? ⟨gb331, 3, none⟩ = some (.string t334) ∧ w'.cell? ⟨gb331, 4, none⟩ = some (.string a1_4) ∧ w'.cell? ⟨gb331, 5, none⟩ = some (.bool true) ∧ w'.cell? ⟨gb331, 6, none⟩ = some (.string t344) ∧ w'.cell? ⟨gb331, 7, none⟩ = some (.string t345) ∧ w'.cell? ⟨gb331, 8, none⟩ = some (.slice none 0 0) ∧ w'.cell? ⟨gb331, 9, none⟩ = some (u332009) ∧ w'.cell? ⟨gb331, 10, none⟩ = some (.slice none 0 0) ∧ w'.cell? ⟨gb331, 11, none⟩ = some (.slice none 0 0)) (ds := [7]) #[false, false, false, false, false, false, false, false] zq13 rfl rfl ⟨(blk_cell BK331.out 0).trans rfl, (blk_cell BK331.out 1).trans rfl, (blk_cell BK331.out 2).trans rfl, (blk_cell BK331.out 3).trans rfl, (blk_cell BK331.out 4).trans rfl, (blk_cell BK331.out 5).trans rfl, (blk_cell BK331.out 6).trans rfl, (blk_cell BK331.out 7).trans rfl, (blk_cell BK331.out 8).trans rfl, (blk_cell BK331.out 9).trans rfl, (blk_cell BK331.out 10).trans rfl, (blk_cell BK331.out 11).trans rfl⟩ (fun hHeld => ?_); refine with_tabW rr_call.tab15 rr_call.bits15 (fun HT_ HW_ => ?_)
        generalize wr.drew = w28 at HO_332009 BK331 BK332 HI0 HK HB hHeld ⊢
        refine pure_ (i := 0) (N := some 43) #[true, false, false, false, false, false, false, false] rfl rfl (any_of HT_.out zq13) (fun _ _ _ h => h) (Or.inl ⟨by rfl, zpv⟩) zpw ?_
        refine pure_ (i := 2) (N := some 45) #[true, false, true, false, false, false, false, false] rfl rfl (any_of HT_.out zq13) (fun _ _ _ h => h) (Or.inl ⟨by rfl, zpv⟩) zpw ?_
        refine take_ (i := 1) (N := some 44) (v := ?_) (a' := ?_) #[true, true, true, false, false, false, false, false] rfl rfl (take_ofW HT_.out HW_.out zq13) (fun _ _ _ h => h) (Or.inl ⟨by rfl, ?_⟩) hHeld ?_ ?_
        rotate_left
        ·
         rintro w' ⟨s0, s1, s2, s3, s4, s5, s6, s7, s8, s9, s10, s11⟩
         go_simp
         with_reducible rfl
        rotate_left
        ·
         simp only [Act.put, List.setIfInBounds_toArray, List.set_cons_zero, List.set_cons_succ, i64_w, i32_w]
         rfl
        refine one_ (i := 3) (N := some 46) #[true, true, true, true, false, false, false, false] rfl rfl (one_of HT_.out zq13) (by decide) (fun K hK => ?_)
        refine goes_ Try.func73 zq13 rfl #[.pointer (some ⟨g, 0, none⟩), .slice none 0 0] (by rfl) rfl rfl zq1 ?_
        refine (rr_expr.calls k1 g s0_0 x1001_1 x1002_1 x1003_1 x1004_1 (fun k_ => some k_ = (.slice none 0 0 : Value).ownBlock) (.slice none 0 0) ([] : List (S140)) t359 t362 t363 t364 t365 w0 _ ?side1 ?side2 ?side3 A23.out).mono ?_
        (case side1 => exact zq12)
        (case side2 => exact zq20)
        (case side3 => exact Kd.R_nil _ _ _ _ _)
        rintro e w29 ⟨v360, rfl, ho0, hi, hb, hkp⟩
        refine ⟨_, rfl, ?_⟩
        replace HO_332009 := za (Kd.S_mono (ok' := fun k_ => some k_ ≠ (v360 : Value).ownBlock) (Kd.S_keptB ((IsS83.apartS HI0.out HO_332009.out (by decide))) hkp (fun k_ hk_ hs_ => Or.elim hs_ (fun hs_ => (fun e_ => by simp [Value.ownBlock] at e_) hs_) (fun e_ => (hk_.2) e_))) (fun k_ hk_ => fun e_ => Or.elim (ho0.1 k_ e_.symm) (fun hs_ => hk_.2.1 (.inl hs_)) (fun hn_ => Nat.not_le.2 hk_.2.2 hn_)))
        replace BK331 := za (blk_kept (zb BK331.out) hkp (fun hs_ => Or.elim hs_ (fun hs_ => (fun e_ => by simp [Value.ownBlock] at e_) hs_) (fun e_ => NB331_0.out e_)))
        replace BK332 := za (blk_kept (zb BK332.out) hkp (fun hs_ => Or.elim hs_ (fun hs_ => (fun e_ => by simp [Value.ownBlock] at e_) hs_) (fun e_ => NB332_0.out e_)))
        replace HI0 := za (hi)
        have HO361 := za (Kd.R_mono (ok' := fun k_ => True) (Kd.R_raise (d := k140) (b := w0.heap.size) (b' := w.heap.size) (fun _ _ _ _ h_ => h_) ho0 (fun k_ e_ => Or.elim (ho0.1 k_ e_) (fun hs_ => (fun e_ => by simp [Value.ownBlock] at e_) hs_) (fun hn_ => Nat.le_trans (keep_size (w := w) (g := g) (row := none) zq18) hn_))) (fun k_ hk_ => trivial))
        replace HK := za (Kept.keepG zq18 hkp (fun k_ hs_ => Or.elim hs_ (fun hs_ => (fun e_ => by simp [Value.ownBlock] at e_) hs_) (fun e_ => .inl e_)))
        replace HB := za (hb)
        obtain ⟨Ao31, co31, eo31⟩ := Kd.R_slice HO361.out
        (first | subst eo31 | (injection eo31 with f1_ f2_ f3_; have f4_ := f1_.symm; have f5_ := f3_.symm; clear f1_ f2_ f3_; subst f4_; subst f5_))
        refine hK.out _ _ ⟨(blk_cell BK331.out 0).trans rfl, (blk_cell BK331.out 1).trans rfl, (blk_cell BK331.out 2).trans rfl, (blk_cell BK331.out 3).trans rfl, (blk_cell BK331.out 4).trans rfl, (blk_cell BK331.out 5).trans rfl, (blk_cell BK331.out 6).trans rfl, (blk_cell BK331.out 7).trans rfl, (blk_cell BK331.out 8).trans rfl, (blk_cell BK331.out 9).trans rfl, (blk_cell BK331.out 10).trans rfl, (blk_cell BK331.out 11).trans rfl⟩ (fun hHeld => ?_)
        clear hK K
        refine norm_ (a' := ?_) ?_ ?_
        rotate_left
        ·
         show Act.put _ (some 46) _ = _
         simp only [Act.put, List.setIfInBounds_toArray, List.set_cons_zero, List.set_cons_succ, i64_w, i32_w]
         rfl
        refine one_ (i := 4) (N := some 47) #[true, true, true, true, true, false, false, false] rfl rfl (one_of HT_.out zq13) (by decide) (fun K hK => ?_)
        refine value_ (w1 := ?_) (v := ?_) (by rfl) rfl ?_ ?_
        rotate_left 2
        ·
         go_simp
         constructor
         ·
          rfl
         ·
          rfl
        refine hK.out _ _ ⟨(blk_cell (blk_alloc BK331.out _) 0).trans rfl, (blk_cell (blk_alloc BK331.out _) 1).trans rfl, (blk_cell (blk_alloc BK331.out _) 2).trans rfl, (blk_cell (blk_alloc BK331.out _) 3).trans rfl, (blk_cell (blk_alloc BK331.out _) 4).trans rfl, (blk_cell (blk_alloc BK331.out _) 5).trans rfl, (blk_cell (blk_alloc BK331.out _) 6).trans rfl, (blk_cell (blk_alloc BK331.out _) 7).trans rfl, (blk_cell (blk_alloc BK331.out _) 8).trans rfl, (blk_cell (blk_alloc BK331.out _) 9).trans rfl, (blk_cell (blk_alloc BK331.out _) 10).trans rfl, (blk_cell (blk_alloc BK331.out _) 11).trans rfl⟩ (fun hHeld => ?_)
        clear hK K
        refine norm_ (a' := ?_) ?_ ?_
        rotate_left
        ·
         show Act.put _ (some 47) _ = _
         simp only [Act.put, List.setIfInBounds_toArray, List.set_cons_zero, List.set_cons_succ, i64_w, i32_w]
         rfl
        refine one_ (i := 5) (N := some 48) #[true, true, true, true, true, true, false, false] rfl rfl (one_of HT_.out zq13) (by decide) (fun K hK => ?_)
        refine Kd.S_append_step (Kd.slice 140 k140) w.heap.size (by rfl) (.tmp 44) (.tmp 47) 89 88 (.slice none 0 0) 24 rfl Try.underlying89 info88 rfl (by decide) (by omega) u332009 x332009_1 t359 [.slice Ao31 t359.length co31] (fun _ => True) (fun k_ => some k_ = (.slice Ao31 t359.length co31 : Value).ownBlock) rfl rfl ?aP (fun k_ hk_ => ((Kd.R_mono (ok' := fun k_ => ((fun _ => True)) k_ ∧ some k_ ≠ (u332009 : Value).ownBlock) (Kd.R_apart' (HO361.out) (Kd.S_typed HO_332009.out) (by decide)) (fun k_ hk => ⟨trivial, hk.2⟩))).1 k_ hk_.symm) ?aF ?aO (Below.refl _ _) ?aS ?aL ?_
        (case aP => exact Kd.M_row (Kd.R_mono (Kd.R_tight rfl (Kd.R_mono (ok' := fun k_ => ((fun _ => True)) k_ ∧ some k_ ≠ (u332009 : Value).ownBlock) (Kd.R_apart' (HO361.out) (Kd.S_typed HO_332009.out) (by decide)) (fun k_ hk => ⟨trivial, hk.2⟩))) (fun _ h_ => h_)))
        (case aF => exact (fun _ _ => trivial))
        (case aO => exact zq82)
        (case aS => exact (keep_size (w := w) (g := g) (row := none) zq18))
        (case aL => have := LMc24.out; omega)
        intro v367 w30 ho hb hg hat
        rw [← Ny366.out] at ho
        replace BK331 := za (blk_grown (g := gb331) (zb BK331.out) hg (Kd.S_ne HO_332009.out BK331.out (by decide)))
        replace BK332 := za (blk_grown (g := gb332) (zb BK332.out) hg (Kd.S_ne HO_332009.out BK332.out (by decide)))
        replace HB := za (below_weaken zq20 HL.out hb)
        replace HI0 := za (IsS83.grown zq12 hg (IsS83.own_neS HI0.out HO_332009.out (by decide)))
        replace HK := za (KeepBut.trans zq18 (KeepBut.of_grown hg g) (Kd.S_base2 HO_332009.out))
        have HO368 := za (ho)
        clear HO_332009 HO361
        clear ho hb hg hat
        obtain ⟨Ao32, co32, eo32⟩ := Kd.S_slice HO368.out
        (first | subst eo32 | (injection eo32 with f1_ f2_ f3_; have f4_ := f1_.symm; have f5_ := f3_.symm; clear f1_ f2_ f3_; subst f4_; subst f5_))
        refine hK.out _ _ ⟨(blk_cell BK331.out 0).trans rfl, (blk_cell BK331.out 1).trans rfl, (blk_cell BK331.out 2).trans rfl, (blk_cell BK331.out 3).trans rfl, (blk_cell BK331.out 4).trans rfl, (blk_cell BK331.out 5).trans rfl, (blk_cell BK331.out 6).trans rfl, (blk_cell BK331.out 7).trans rfl, (blk_cell BK331.out 8).trans rfl, (blk_cell BK331.out 9).trans rfl, (blk_cell BK331.out 10).trans rfl, (blk_cell BK331.out 11).trans rfl⟩ (fun hHeld => ?_)
        clear hK K
        refine norm_ (a' := ?_) ?_ ?_
        rotate_left
        ·
         show Act.put _ (some 48) _ = _
         simp only [Act.put, List.setIfInBounds_toArray, List.set_cons_zero, List.set_cons_succ, i64_w, i32_w]
         rfl
        refine pure_ (i := 6) (N := some 49) #[true, true, true, true, true, true, true, false] rfl rfl (any_of HT_.out zq13) (fun _ _ _ h => h) (Or.inl ⟨by rfl, zpv⟩) zpw ?_
        refine last_ (i := 7) (N := none) #[true, true, true, true, true, true, true, true] rfl rfl (one_of HT_.out zq13) (by decide) (fun K hK => ?_)
        have hs33 : w30.cell? ⟨gb331, 9, none⟩ = some (u332009) := (blk_cell BK331.out 9).trans rfl
        have hfs33 := blk_frozen BK331.out 9
        have hns33_1 := NB332_331.out
        have hms33_1 := NB331_332.out
        refine skip_ (w1 := ?_) (by rfl) rfl ?_ ?_
        rotate_left
        ·
         go_simp
         rfl
        refine hK.out _ _ ?_
        clear hK K
        refine done_ (done_of HT_.out zq13) ?_
        try go_wp2_with (first | ((with_reducible refine gate_callee (f := 48) rfl ?_); refine goesL_ (some 51) rfl rfl Try.func48 zq13 rfl #[.pointer (some ⟨g, 0, none⟩), .string (⟨#[44]⟩ : ByteArray)] rfl zq1 ?_; (with_reducible refine (rr_take.calls g s0_0 t362 t363 t364 t365 (⟨#[44]⟩ : ByteArray) true t370 t371 t372 t373 w0 _ ?side1 ?side2 A25.out).mono ?_); (case side1 => exact zq12); (case side2 => exact zq20); rintro e w34 ⟨rfl, hi, hb, hk⟩; refine ⟨_, rfl, ?_⟩; replace BK332 := za (KeepBut.blk hk (g' := gb332) (o := .cells #[.int .i64 0, .int .i64 0, .string (⟨#[]⟩ : ByteArray), .string (⟨#[]⟩ : ByteArray), .string (⟨#[]⟩ : ByteArray), .bool false, .string (⟨#[]⟩ : ByteArray), .string (⟨#[]⟩ : ByteArray), .slice none 0 0, .slice none 0 0, .slice none 0 0, .slice none 0 0] 91 (0, 0)) zq52 NB332_0.out (by simp)); replace HO368 := za (Kd.S_mono (Kd.S_keep (IsS83.apartS (show IsS83 w0 _ g s0_0 t362 t363 t364 t365 from zq12) (by (with_reducible repeat (first | apply Kd.S_alloc | apply Kd.S_drewN | apply Kd.S_drew)); exact (Kd.S_mono (Kd.S_far (p := ⟨gb331, 9, none⟩) (Kd.S_types HO368.out BK331.out (by decide)) (fun _ hk => hk.2) (.slice Ao32 y366.length co32)) (fun _ h_ => h_.1))) (by decide)) hk (fun _ h => h.2)) (fun _ h => h.1)); replace BK331 := za (KeepBut.blk hk (g' := gb331) (o := .cells #[.int .i64 4, .int .i64 a1_1, .string t333, .string t334, .string a1_4, .bool true, .string t344, .string t345, .slice none 0 0, .slice Ao32 y366.length co32, .slice none 0 0, .slice none 0 0] 91 (0, 0)) (by (with_reducible repeat (first | refine blk_drewN ?_ _ | refine blk_drew ?_ | refine blk_alloc ?_ _)); refine blk_put (cs := #[.int .i64 4, .int .i64 a1_1, .string t333, .string t334, .string a1_4, .bool true, .string t344, .string t345, .slice none 0 0, u332009, .slice none 0 0, .slice none 0 0]) ?_ 9 _ rfl; (with_reducible repeat (first | refine blk_drewN ?_ _ | refine blk_drew ?_ | refine blk_alloc ?_ _)); exact BK331.out) NB331_0.out (by simp)); replace HK := za (KeepBut.trans zq18 hk (.inl rfl)); replace HB := za (hb); replace HI0 := za (hi); (try clear hb hk hi)))
        go_roundg k1
        case measure => have := HK1.out; omega
        case rel => exact ⟨(t370), (t371), (t372), (t373), (y366), (.slice Ao32 y366.length co32), H', ⟨by have := HK1.out; omega⟩, ⟨by (with_reducible repeat (first | apply Kd.S_alloc | apply Kd.S_drewN | apply Kd.S_drew)); exact HO368.out⟩, ⟨zq90⟩, ⟨zq91⟩, ⟨zq12⟩, ⟨zq18⟩, ⟨zq20⟩⟩
       ·
        replace c26 := Bool.eq_false_iff.mpr c26
        subst c26
        rw [if_neg (show ¬ (false = true) by decide)] at H
        replace H := Option.bind_eq_some_iff.mp H
        obtain ⟨⟨t374, t375, t376, t377⟩, A350, H⟩ := H
        (try dsimp only at H)
        have A35 := za A350
        clear A350
        simp only [Option.some.injEq, Prod.mk.injEq] at H
        obtain ⟨rfl, rfl, rfl, rfl, rfl, rfl, rfl, rfl, rfl, rfl, rfl, rfl, rfl, rfl, rfl, rfl⟩ := H
        obtain ⟨ASz36_0, cSz36_0, HGz36, hgz36, HSz36_0⟩ := HI0.out
        have hcz36_0 := cellS83_0 HGz36
        have hcz36_1 := cellS83_1 HGz36
        have hcz36_2 := cellS83_2 HGz36
        have hcz36_3 := cellS83_3 HGz36
        have hcz36_4 := cellS83_4 HGz36
        have hfz36_1 := blk_frozen HGz36 1
        have hfz36_2 := blk_frozen HGz36 2
        have hfz36_3 := blk_frozen HGz36 3
        have hfz36_4 := blk_frozen HGz36 4
        clear HGz36 hgz36
        try go_wp2
        replace HO_332009 := za (Kd.S_drew HO_332009.out)
        replace BK331 := za (blk_drew BK331.out)
        replace BK332 := za (blk_drew BK332.out)
        replace HI0 := za (IsS83.drew HI0.out)
        replace HK := za (keep_drew HK.out)
        replace HB := za (below_drew1 HB.out)
        refine start_ (n := 8) (S := fun w' => w'.cell? ⟨gb331, 0, none⟩ = some (.int .i64 4) ∧ w'.cell? ⟨gb331, 1, none⟩ = some (.int .i64 a1_1) ∧ w'.cell? ⟨gb331, 2, none⟩ = some (.string t333) ∧ w'.cell? ⟨gb331, 3, none⟩ = some (.string t334) ∧ w'.cell? ⟨gb331, 4, none⟩ = some (.string a1_4) ∧ w'.cell? ⟨gb331, 5, none⟩ = some (.bool true) ∧ w'.cell? ⟨gb331, 6, none⟩ = some (.string t344) ∧ w'.cell? ⟨gb331, 7, none⟩ = some (.string t345) ∧ w'.cell? ⟨gb331, 8, none⟩ = some (.slice none 0 0) ∧ w'.cell? ⟨gb331, 9, none⟩ = some (u332009) ∧ w'.cell? ⟨gb331, 10, none⟩ = some (.slice none 0 0) ∧ w'.cell? ⟨gb331, 11, none⟩ = some (.slice none 0 0)) (ds := [7]) #[false, false, false, false, false, false, false, false] zq13 rfl rfl ⟨(blk_cell BK331.out 0).trans rfl, (blk_cell BK331.out 1).trans rfl, (blk_cell BK331.out 2).trans rfl, (blk_cell BK331.out 3).trans rfl, (blk_cell BK331.out 4).trans rfl, (blk_cell BK331.out 5).trans rfl, (blk_cell BK331.out 6).trans rfl, (blk_cell BK331.out 7).trans rfl, (blk_cell BK331.out 8).trans rfl, (blk_cell BK331.out 9).trans rfl, (blk_cell BK331.out 10).trans rfl, (blk_cell BK331.out 11).trans rfl⟩ (fun hHeld => ?_); refine with_tabW rr_call.tab15 rr_call.bits15 (fun HT_ HW_ => ?_)
        generalize wr.drew = w37 at HO_332009 BK331 BK332 HI0 HK HB hHeld ⊢
        refine pure_ (i := 0) (N := some 43) #[true, false, false, false, false, false, false, false] rfl rfl (any_of HT_.out zq13) (fun _ _ _ h => h) (Or.inl ⟨by rfl, zpv⟩) zpw ?_
        refine pure_ (i := 2) (N := some 45) #[true, false, true, false, false, false, false, false] rfl rfl (any_of HT_.out zq13) (fun _ _ _ h => h) (Or.inl ⟨by rfl, zpv⟩) zpw ?_
        refine take_ (i := 1) (N := some 44) (v := ?_) (a' := ?_) #[true, true, true, false, false, false, false, false] rfl rfl (take_ofW HT_.out HW_.out zq13) (fun _ _ _ h => h) (Or.inl ⟨by rfl, ?_⟩) hHeld ?_ ?_
        rotate_left
        ·
         rintro w' ⟨s0, s1, s2, s3, s4, s5, s6, s7, s8, s9, s10, s11⟩
         go_simp
         with_reducible rfl
        rotate_left
        ·
         simp only [Act.put, List.setIfInBounds_toArray, List.set_cons_zero, List.set_cons_succ, i64_w, i32_w]
         rfl
        refine one_ (i := 3) (N := some 46) #[true, true, true, true, false, false, false, false] rfl rfl (one_of HT_.out zq13) (by decide) (fun K hK => ?_)
        refine goes_ Try.func73 zq13 rfl #[.pointer (some ⟨g, 0, none⟩), .slice none 0 0] (by rfl) rfl rfl zq1 ?_
        refine (rr_expr.calls k1 g s0_0 x1001_1 x1002_1 x1003_1 x1004_1 (fun k_ => some k_ = (.slice none 0 0 : Value).ownBlock) (.slice none 0 0) ([] : List (S140)) t359 t362 t363 t364 t365 w0 _ ?side1 ?side2 ?side3 A23.out).mono ?_
        (case side1 => exact zq12)
        (case side2 => exact zq20)
        (case side3 => exact Kd.R_nil _ _ _ _ _)
        rintro e w38 ⟨v360, rfl, ho0, hi, hb, hkp⟩
        refine ⟨_, rfl, ?_⟩
        replace HO_332009 := za (Kd.S_mono (ok' := fun k_ => some k_ ≠ (v360 : Value).ownBlock) (Kd.S_keptB ((IsS83.apartS HI0.out HO_332009.out (by decide))) hkp (fun k_ hk_ hs_ => Or.elim hs_ (fun hs_ => (fun e_ => by simp [Value.ownBlock] at e_) hs_) (fun e_ => (hk_.2) e_))) (fun k_ hk_ => fun e_ => Or.elim (ho0.1 k_ e_.symm) (fun hs_ => hk_.2.1 (.inl hs_)) (fun hn_ => Nat.not_le.2 hk_.2.2 hn_)))
        replace BK331 := za (blk_kept (zb BK331.out) hkp (fun hs_ => Or.elim hs_ (fun hs_ => (fun e_ => by simp [Value.ownBlock] at e_) hs_) (fun e_ => NB331_0.out e_)))
        replace BK332 := za (blk_kept (zb BK332.out) hkp (fun hs_ => Or.elim hs_ (fun hs_ => (fun e_ => by simp [Value.ownBlock] at e_) hs_) (fun e_ => NB332_0.out e_)))
        replace HI0 := za (hi)
        have HO361 := za (Kd.R_mono (ok' := fun k_ => True) (Kd.R_raise (d := k140) (b := w0.heap.size) (b' := w.heap.size) (fun _ _ _ _ h_ => h_) ho0 (fun k_ e_ => Or.elim (ho0.1 k_ e_) (fun hs_ => (fun e_ => by simp [Value.ownBlock] at e_) hs_) (fun hn_ => Nat.le_trans (keep_size (w := w) (g := g) (row := none) zq18) hn_))) (fun k_ hk_ => trivial))
        replace HK := za (Kept.keepG zq18 hkp (fun k_ hs_ => Or.elim hs_ (fun hs_ => (fun e_ => by simp [Value.ownBlock] at e_) hs_) (fun e_ => .inl e_)))
        replace HB := za (hb)
        obtain ⟨Ao40, co40, eo40⟩ := Kd.R_slice HO361.out
        (first | subst eo40 | (injection eo40 with f1_ f2_ f3_; have f4_ := f1_.symm; have f5_ := f3_.symm; clear f1_ f2_ f3_; subst f4_; subst f5_))
        refine hK.out _ _ ⟨(blk_cell BK331.out 0).trans rfl, (blk_cell BK331.out 1).trans rfl, (blk_cell BK331.out 2).trans rfl, (blk_cell BK331.out 3).trans rfl, (blk_cell BK331.out 4).trans rfl, (blk_cell BK331.out 5).trans rfl, (blk_cell BK331.out 6).trans rfl, (blk_cell BK331.out 7).trans rfl, (blk_cell BK331.out 8).trans rfl, (blk_cell BK331.out 9).trans rfl, (blk_cell BK331.out 10).trans rfl, (blk_cell BK331.out 11).trans rfl⟩ (fun hHeld => ?_)
        clear hK K
        refine norm_ (a' := ?_) ?_ ?_
        rotate_left
        ·
         show Act.put _ (some 46) _ = _
         simp only [Act.put, List.setIfInBounds_toArray, List.set_cons_zero, List.set_cons_succ, i64_w, i32_w]
         rfl
        refine one_ (i := 4) (N := some 47) #[true, true, true, true, true, false, false, false] rfl rfl (one_of HT_.out zq13) (by decide) (fun K hK => ?_)
        refine value_ (w1 := ?_) (v := ?_) (by rfl) rfl ?_ ?_
        rotate_left 2
        ·
         go_simp
         constructor
         ·
          rfl
         ·
          rfl
        refine hK.out _ _ ⟨(blk_cell (blk_alloc BK331.out _) 0).trans rfl, (blk_cell (blk_alloc BK331.out _) 1).trans rfl, (blk_cell (blk_alloc BK331.out _) 2).trans rfl, (blk_cell (blk_alloc BK331.out _) 3).trans rfl, (blk_cell (blk_alloc BK331.out _) 4).trans rfl, (blk_cell (blk_alloc BK331.out _) 5).trans rfl, (blk_cell (blk_alloc BK331.out _) 6).trans rfl, (blk_cell (blk_alloc BK331.out _) 7).trans rfl, (blk_cell (blk_alloc BK331.out _) 8).trans rfl, (blk_cell (blk_alloc BK331.out _) 9).trans rfl, (blk_cell (blk_alloc BK331.out _) 10).trans rfl, (blk_cell (blk_alloc BK331.out _) 11).trans rfl⟩ (fun hHeld => ?_)
        clear hK K
        refine norm_ (a' := ?_) ?_ ?_
        rotate_left
        ·
         show Act.put _ (some 47) _ = _
         simp only [Act.put, List.setIfInBounds_toArray, List.set_cons_zero, List.set_cons_succ, i64_w, i32_w]
         rfl
        refine one_ (i := 5) (N := some 48) #[true, true, true, true, true, true, false, false] rfl rfl (one_of HT_.out zq13) (by decide) (fun K hK => ?_)
        refine Kd.S_append_step (Kd.slice 140 k140) w.heap.size (by rfl) (.tmp 44) (.tmp 47) 89 88 (.slice none 0 0) 24 rfl Try.underlying89 info88 rfl (by decide) (by omega) u332009 x332009_1 t359 [.slice Ao40 t359.length co40] (fun _ => True) (fun k_ => some k_ = (.slice Ao40 t359.length co40 : Value).ownBlock) rfl rfl ?aP (fun k_ hk_ => ((Kd.R_mono (ok' := fun k_ => ((fun _ => True)) k_ ∧ some k_ ≠ (u332009 : Value).ownBlock) (Kd.R_apart' (HO361.out) (Kd.S_typed HO_332009.out) (by decide)) (fun k_ hk => ⟨trivial, hk.2⟩))).1 k_ hk_.symm) ?aF ?aO (Below.refl _ _) ?aS ?aL ?_
        (case aP => exact Kd.M_row (Kd.R_mono (Kd.R_tight rfl (Kd.R_mono (ok' := fun k_ => ((fun _ => True)) k_ ∧ some k_ ≠ (u332009 : Value).ownBlock) (Kd.R_apart' (HO361.out) (Kd.S_typed HO_332009.out) (by decide)) (fun k_ hk => ⟨trivial, hk.2⟩))) (fun _ h_ => h_)))
        (case aF => exact (fun _ _ => trivial))
        (case aO => exact zq82)
        (case aS => exact (keep_size (w := w) (g := g) (row := none) zq18))
        (case aL => have := LMc24.out; omega)
        intro v367 w39 ho hb hg hat
        rw [← Ny366.out] at ho
        replace BK331 := za (blk_grown (g := gb331) (zb BK331.out) hg (Kd.S_ne HO_332009.out BK331.out (by decide)))
        replace BK332 := za (blk_grown (g := gb332) (zb BK332.out) hg (Kd.S_ne HO_332009.out BK332.out (by decide)))
        replace HB := za (below_weaken zq20 HL.out hb)
        replace HI0 := za (IsS83.grown zq12 hg (IsS83.own_neS HI0.out HO_332009.out (by decide)))
        replace HK := za (KeepBut.trans zq18 (KeepBut.of_grown hg g) (Kd.S_base2 HO_332009.out))
        have HO368 := za (ho)
        clear HO_332009 HO361
        clear ho hb hg hat
        obtain ⟨Ao41, co41, eo41⟩ := Kd.S_slice HO368.out
        (first | subst eo41 | (injection eo41 with f1_ f2_ f3_; have f4_ := f1_.symm; have f5_ := f3_.symm; clear f1_ f2_ f3_; subst f4_; subst f5_))
        refine hK.out _ _ ⟨(blk_cell BK331.out 0).trans rfl, (blk_cell BK331.out 1).trans rfl, (blk_cell BK331.out 2).trans rfl, (blk_cell BK331.out 3).trans rfl, (blk_cell BK331.out 4).trans rfl, (blk_cell BK331.out 5).trans rfl, (blk_cell BK331.out 6).trans rfl, (blk_cell BK331.out 7).trans rfl, (blk_cell BK331.out 8).trans rfl, (blk_cell BK331.out 9).trans rfl, (blk_cell BK331.out 10).trans rfl, (blk_cell BK331.out 11).trans rfl⟩ (fun hHeld => ?_)
        clear hK K
        refine norm_ (a' := ?_) ?_ ?_
        rotate_left
        ·
         show Act.put _ (some 48) _ = _
         simp only [Act.put, List.setIfInBounds_toArray, List.set_cons_zero, List.set_cons_succ, i64_w, i32_w]
         rfl
        refine pure_ (i := 6) (N := some 49) #[true, true, true, true, true, true, true, false] rfl rfl (any_of HT_.out zq13) (fun _ _ _ h => h) (Or.inl ⟨by rfl, zpv⟩) zpw ?_
        refine last_ (i := 7) (N := none) #[true, true, true, true, true, true, true, true] rfl rfl (one_of HT_.out zq13) (by decide) (fun K hK => ?_)
        have hs42 : w39.cell? ⟨gb331, 9, none⟩ = some (u332009) := (blk_cell BK331.out 9).trans rfl
        have hfs42 := blk_frozen BK331.out 9
        have hns42_1 := NB332_331.out
        have hms42_1 := NB331_332.out
        refine skip_ (w1 := ?_) (by rfl) rfl ?_ ?_
        rotate_left
        ·
         go_simp
         rfl
        refine hK.out _ _ ?_
        clear hK K
        refine done_ (done_of HT_.out zq13) ?_
        try go_wp2_with (first | ((with_reducible refine gate_callee (f := 48) rfl ?_); refine goesL_ (some 51) rfl rfl Try.func48 zq13 rfl #[.pointer (some ⟨g, 0, none⟩), .string (⟨#[44]⟩ : ByteArray)] rfl zq1 ?_; (with_reducible refine (rr_take.calls g s0_0 t362 t363 t364 t365 (⟨#[44]⟩ : ByteArray) false t370 t371 t372 t373 w0 _ ?side1 ?side2 A25.out).mono ?_); (case side1 => exact zq12); (case side2 => exact zq20); rintro e w43 ⟨rfl, hi, hb, hk⟩; refine ⟨_, rfl, ?_⟩; replace BK332 := za (KeepBut.blk hk (g' := gb332) (o := .cells #[.int .i64 0, .int .i64 0, .string (⟨#[]⟩ : ByteArray), .string (⟨#[]⟩ : ByteArray), .string (⟨#[]⟩ : ByteArray), .bool false, .string (⟨#[]⟩ : ByteArray), .string (⟨#[]⟩ : ByteArray), .slice none 0 0, .slice none 0 0, .slice none 0 0, .slice none 0 0] 91 (0, 0)) zq52 NB332_0.out (by simp)); replace HO368 := za (Kd.S_mono (Kd.S_keep (IsS83.apartS (show IsS83 w0 _ g s0_0 t362 t363 t364 t365 from zq12) (by (with_reducible repeat (first | apply Kd.S_alloc | apply Kd.S_drewN | apply Kd.S_drew)); exact (Kd.S_mono (Kd.S_far (p := ⟨gb331, 9, none⟩) (Kd.S_types HO368.out BK331.out (by decide)) (fun _ hk => hk.2) (.slice Ao41 y366.length co41)) (fun _ h_ => h_.1))) (by decide)) hk (fun _ h => h.2)) (fun _ h => h.1)); replace BK331 := za (KeepBut.blk hk (g' := gb331) (o := .cells #[.int .i64 4, .int .i64 a1_1, .string t333, .string t334, .string a1_4, .bool true, .string t344, .string t345, .slice none 0 0, .slice Ao41 y366.length co41, .slice none 0 0, .slice none 0 0] 91 (0, 0)) (by (with_reducible repeat (first | refine blk_drewN ?_ _ | refine blk_drew ?_ | refine blk_alloc ?_ _)); refine blk_put (cs := #[.int .i64 4, .int .i64 a1_1, .string t333, .string t334, .string a1_4, .bool true, .string t344, .string t345, .slice none 0 0, u332009, .slice none 0 0, .slice none 0 0]) ?_ 9 _ rfl; (with_reducible repeat (first | refine blk_drewN ?_ _ | refine blk_drew ?_ | refine blk_alloc ?_ _)); exact BK331.out) NB331_0.out (by simp)); replace HK := za (KeepBut.trans zq18 hk (.inl rfl)); replace HB := za (hb); replace HI0 := za (hi); (try clear hb hk hi)) | ((with_reducible refine gate_callee (f := 45) rfl ?_); refine goesL_ (some 54) rfl rfl Try.func45 zq13 rfl #[.pointer (some ⟨g, 0, none⟩), .string (⟨#[41]⟩ : ByteArray)] rfl zq1 ?_; (with_reducible refine (rr_want.calls g s0_0 t370 t371 t372 t373 (⟨#[41]⟩ : ByteArray) t374 t375 t376 t377 w0 _ ?side1 ?side2 A35.out).mono ?_); (case side1 => exact zq12); (case side2 => exact zq20); rintro e w44 ⟨rfl, hi, hb, hk⟩; refine ⟨_, rfl, ?_⟩; replace BK331 := za (KeepBut.blk hk (g' := gb331) (zb BK331.out) NB331_0.out (by simp)); replace BK332 := za (KeepBut.blk hk (g' := gb332) (zb BK332.out) NB332_0.out (by simp)); replace HO368 := za (Kd.S_mono (Kd.S_keep (IsS83.apartS (show IsS83 w0 _ g s0_0 t370 t371 t372 t373 from zq12) (by (with_reducible repeat (first | apply Kd.S_alloc | apply Kd.S_drewN | apply Kd.S_drew)); exact HO368.out) (by decide)) hk (fun _ h => h.2)) (fun _ h => h.1)); replace HK := za (KeepBut.trans zq18 hk (.inl rfl)); replace HB := za (hb); replace HI0 := za (hi); (try clear hb hk hi); have hnb45 := NB331_332.out; have hnc45 := NB332_331.out; have hnb46 := NB331_0.out; have hnc46 := NB0_331.out; obtain ⟨hcz47_0, hcz47_1, hcz47_2, hcz47_3, hcz47_4, hcz47_5, hcz47_6, hcz47_7, hcz47_8, hcz47_9, hcz47_10, hcz47_11⟩ := zc12 BK331.out; obtain ⟨hfz47_0, hfz47_1, hfz47_2, hfz47_3, hfz47_4, hfz47_5, hfz47_6, hfz47_7, hfz47_8, hfz47_9, hfz47_10, hfz47_11⟩ := zf12 BK331.out; have hnb48 := NB332_0.out; have hnc48 := NB0_332.out; obtain ⟨hcz49_0, hcz49_1, hcz49_2, hcz49_3, hcz49_4, hcz49_5, hcz49_6, hcz49_7, hcz49_8, hcz49_9, hcz49_10, hcz49_11⟩ := zc12 BK332.out; obtain ⟨hfz49_0, hfz49_1, hfz49_2, hfz49_3, hfz49_4, hfz49_5, hfz49_6, hfz49_7, hfz49_8, hfz49_9, hfz49_10⟩ := zf11 BK332.out; have hfz49_11 := blk_frozen BK332.out 11))
        refine bodyPost_ret (results_cell_row rfl _ _ gb332 91 #[.int .i64 4, .int .i64 a1_1, .string t333, .string t334, .string a1_4, .bool true, .string t344, .string t345, .slice none 0 0, .slice Ao41 y366.length co41, .slice none 0 0, .slice none 0 0] (0, 0) _ rfl (by (with_reducible repeat (first | refine blk_drewN ?_ _ | refine blk_drew ?_ | refine blk_alloc ?_ _)); refine blk_put (cs := #[.int .i64 4, .int .i64 a1_1, .string t333, .string t334, .string a1_4, .bool true, .string t344, .string t345, .slice none 0 0, .slice Ao41 y366.length co41, .slice none 0 0, .slice none 0 0]) ?_ 11 _ rfl; (with_reducible repeat (first | refine blk_drewN ?_ _ | refine blk_drew ?_ | refine blk_alloc ?_ _)); refine blk_put (cs := #[.int .i64 4, .int .i64 a1_1, .string t333, .string t334, .string a1_4, .bool true, .string t344, .string t345, .slice none 0 0, .slice Ao41 y366.length co41, .slice none 0 0, .slice none 0 0]) ?_ 10 _ rfl; (with_reducible repeat (first | refine blk_drewN ?_ _ | refine blk_drew ?_ | refine blk_alloc ?_ _)); refine blk_put (cs := #[.int .i64 4, .int .i64 a1_1, .string t333, .string t334, .string a1_4, .bool true, .string t344, .string t345, .slice none 0 0, .slice none 0 0, .slice none 0 0, .slice none 0 0]) ?_ 9 _ rfl; (with_reducible repeat (first | refine blk_drewN ?_ _ | refine blk_drew ?_ | refine blk_alloc ?_ _)); refine blk_put (cs := #[.int .i64 4, .int .i64 a1_1, .string t333, .string t334, .string a1_4, .bool true, .string t344, .string t345, .slice none 0 0, .slice none 0 0, .slice none 0 0, .slice none 0 0]) ?_ 8 _ rfl; (with_reducible repeat (first | refine blk_drewN ?_ _ | refine blk_drew ?_ | refine blk_alloc ?_ _)); refine blk_put (cs := #[.int .i64 4, .int .i64 a1_1, .string t333, .string t334, .string a1_4, .bool true, .string t344, .string (⟨#[]⟩ : ByteArray), .slice none 0 0, .slice none 0 0, .slice none 0 0, .slice none 0 0]) ?_ 7 _ rfl; (with_reducible repeat (first | refine blk_drewN ?_ _ | refine blk_drew ?_ | refine blk_alloc ?_ _)); refine blk_put (cs := #[.int .i64 4, .int .i64 a1_1, .string t333, .string t334, .string a1_4, .bool true, .string (⟨#[]⟩ : ByteArray), .string (⟨#[]⟩ : ByteArray), .slice none 0 0, .slice none 0 0, .slice none 0 0, .slice none 0 0]) ?_ 6 _ rfl; (with_reducible repeat (first | refine blk_drewN ?_ _ | refine blk_drew ?_ | refine blk_alloc ?_ _)); refine blk_put (cs := #[.int .i64 4, .int .i64 a1_1, .string t333, .string t334, .string a1_4, .bool false, .string (⟨#[]⟩ : ByteArray), .string (⟨#[]⟩ : ByteArray), .slice none 0 0, .slice none 0 0, .slice none 0 0, .slice none 0 0]) ?_ 5 _ rfl; (with_reducible repeat (first | refine blk_drewN ?_ _ | refine blk_drew ?_ | refine blk_alloc ?_ _)); refine blk_put (cs := #[.int .i64 4, .int .i64 a1_1, .string t333, .string t334, .string (⟨#[]⟩ : ByteArray), .bool false, .string (⟨#[]⟩ : ByteArray), .string (⟨#[]⟩ : ByteArray), .slice none 0 0, .slice none 0 0, .slice none 0 0, .slice none 0 0]) ?_ 4 _ rfl; (with_reducible repeat (first | refine blk_drewN ?_ _ | refine blk_drew ?_ | refine blk_alloc ?_ _)); refine blk_put (cs := #[.int .i64 4, .int .i64 a1_1, .string t333, .string (⟨#[]⟩ : ByteArray), .string (⟨#[]⟩ : ByteArray), .bool false, .string (⟨#[]⟩ : ByteArray), .string (⟨#[]⟩ : ByteArray), .slice none 0 0, .slice none 0 0, .slice none 0 0, .slice none 0 0]) ?_ 3 _ rfl; (with_reducible repeat (first | refine blk_drewN ?_ _ | refine blk_drew ?_ | refine blk_alloc ?_ _)); refine blk_put (cs := #[.int .i64 4, .int .i64 a1_1, .string (⟨#[]⟩ : ByteArray), .string (⟨#[]⟩ : ByteArray), .string (⟨#[]⟩ : ByteArray), .bool false, .string (⟨#[]⟩ : ByteArray), .string (⟨#[]⟩ : ByteArray), .slice none 0 0, .slice none 0 0, .slice none 0 0, .slice none 0 0]) ?_ 2 _ rfl; (with_reducible repeat (first | refine blk_drewN ?_ _ | refine blk_drew ?_ | refine blk_alloc ?_ _)); refine blk_put (cs := #[.int .i64 4, .int .i64 0, .string (⟨#[]⟩ : ByteArray), .string (⟨#[]⟩ : ByteArray), .string (⟨#[]⟩ : ByteArray), .bool false, .string (⟨#[]⟩ : ByteArray), .string (⟨#[]⟩ : ByteArray), .slice none 0 0, .slice none 0 0, .slice none 0 0, .slice none 0 0]) ?_ 1 _ rfl; (with_reducible repeat (first | refine blk_drewN ?_ _ | refine blk_drew ?_ | refine blk_alloc ?_ _)); refine blk_put (cs := #[.int .i64 0, .int .i64 0, .string (⟨#[]⟩ : ByteArray), .string (⟨#[]⟩ : ByteArray), .string (⟨#[]⟩ : ByteArray), .bool false, .string (⟨#[]⟩ : ByteArray), .string (⟨#[]⟩ : ByteArray), .slice none 0 0, .slice none 0 0, .slice none 0 0, .slice none 0 0]) ?_ 0 _ rfl; (with_reducible repeat (first | refine blk_drewN ?_ _ | refine blk_drew ?_ | refine blk_alloc ?_ _)); exact BK332.out) Try.underlying91 rfl zq13) rfl ?_
        exact ⟨_, _, _, _, zq19, zq36, by (with_reducible repeat (first | apply Kd.S_alloc | apply Kd.S_drewN | apply Kd.S_drew)); exact Kd.S_mono (Kd.S_far (p := ⟨gb332, 11, none⟩) (Kd.S_far (p := ⟨gb332, 10, none⟩) (Kd.S_far (p := ⟨gb332, 9, none⟩) (Kd.S_far (p := ⟨gb332, 8, none⟩) (Kd.S_far (p := ⟨gb332, 7, none⟩) (Kd.S_far (p := ⟨gb332, 6, none⟩) (Kd.S_far (p := ⟨gb332, 5, none⟩) (Kd.S_far (p := ⟨gb332, 4, none⟩) (Kd.S_far (p := ⟨gb332, 3, none⟩) (Kd.S_far (p := ⟨gb332, 2, none⟩) (Kd.S_far (p := ⟨gb332, 1, none⟩) (Kd.S_far (p := ⟨gb332, 0, none⟩) (Kd.S_types HO368.out BK332.out (by decide)) (fun _ hk => hk.2) (.int .i64 4)) (fun _ hk => hk.2) (.int .i64 a1_1)) (fun _ hk => hk.2) (.string t333)) (fun _ hk => hk.2) (.string t334)) (fun _ hk => hk.2) (.string a1_4)) (fun _ hk => hk.2) (.bool true)) (fun _ hk => hk.2) (.string t344)) (fun _ hk => hk.2) (.string t345)) (fun _ hk => hk.2) (.slice none 0 0)) (fun _ hk => hk.2) (.slice Ao41 y366.length co41)) (fun _ hk => hk.2) (.slice none 0 0)) (fun _ hk => hk.2) (.slice none 0 0)) (fun _ hk => zq92), zq36, zq36, zq12, zq20, zq18⟩
      ·
       rw [if_neg c24] at H
       exact absurd H (by simp)
     ·
      rw [if_neg c22] at H
      exact absurd H (by simp)
 ·
  replace c5 := Bool.eq_false_iff.mpr c5
  subst c5
  rw [if_neg (show ¬ (false = true) by decide)] at H
  exact absurd H (by simp)
mutual
def rr_stmt.j0 : Nat → Bool → List (S110) → Int → Int → Int → Int → Int → Int → ByteArray → ByteArray → ByteArray → Bool → ByteArray → ByteArray → Option (Int × Int × ByteArray × ByteArray × ByteArray × Bool × ByteArray × ByteArray × (List (S140)) × (List (List (S140))) × (List (S91)) × (List (S91)) × Int × Int × Int × Int)
 | 0, _, _, _, _, _, _, _, _, _, _, _, _, _, _ => none
 | k + 1, x12, x1000, x1001, x1002, x1003, x1004, x385000, x385001, x385002, x385003, x385004, x385005, x385006, x385007 => if x12 = true then ((rr_qname.f x1000 x1001 x1002 x1003 x1004).bind fun bt386 => ((rr_want.f x1000 bt386.2.2.1 bt386.2.2.2.1 bt386.2.2.2.2.1 bt386.2.2.2.2.2 (⟨#[61]⟩ : ByteArray)).bind fun bt392 => ((rr_expr.f k x1000 bt392.1 bt392.2.1 bt392.2.2.1 bt392.2.2.2 ([] : List (S140))).bind fun bt396 => ((rr_want.f x1000 bt396.2.1 bt396.2.2.1 bt396.2.2.2.1 bt396.2.2.2.2 (⟨#[59]⟩ : ByteArray)).bind fun bt403 => (some (2, x385001, bt386.1, bt386.2.1, x385004, x385005, x385006, x385007, bt396.1, ([] : List (List (S140))), ([] : List (S91)), ([] : List (S91)), bt403.1, bt403.2.1, bt403.2.2.1, bt403.2.2.2)))))) else ((rr_take.f x1000 x1001 x1002 x1003 x1004 (⟨#[108, 101, 116]⟩ : ByteArray)).bind fun bt407 => (if bt407.1 = true then ((rr_name.f x1000 bt407.2.1 bt407.2.2.1 bt407.2.2.2.1 bt407.2.2.2.2).bind fun bt412 => ((rr_want.f x1000 bt412.2.1 bt412.2.2.1 bt412.2.2.2.1 bt412.2.2.2.2 (⟨#[58]⟩ : ByteArray)).bind fun bt417 => ((rr_name.f x1000 bt417.1 bt417.2.1 bt417.2.2.1 bt417.2.2.2).bind fun bt421 => ((rr_want.f x1000 bt421.2.1 bt421.2.2.1 bt421.2.2.2.1 bt421.2.2.2.2 (⟨#[61]⟩ : ByteArray)).bind fun bt426 => ((rr_expr.f k x1000 bt426.1 bt426.2.1 bt426.2.2.1 bt426.2.2.2 ([] : List (S140))).bind fun bt430 => ((rr_want.f x1000 bt430.2.1 bt430.2.2.1 bt430.2.2.2.1 bt430.2.2.2.2 (⟨#[59]⟩ : ByteArray)).bind fun bt437 => (some (1, x385001, x385002, bt412.1, bt421.1, x385005, x385006, x385007, bt430.1, ([] : List (List (S140))), ([] : List (S91)), ([] : List (S91)), bt437.1, bt437.2.1, bt437.2.2.1, bt437.2.2.2)))))))) else ((rr_take.f x1000 bt407.2.1 bt407.2.2.1 bt407.2.2.2.1 bt407.2.2.2.2 (⟨#[114, 101, 115, 117, 108, 116]⟩ : ByteArray)).bind fun bt441 => (if bt441.1 = true then ((rr_want.f x1000 bt441.2.1 bt441.2.2.1 bt441.2.2.2.1 bt441.2.2.2.2 (⟨#[61]⟩ : ByteArray)).bind fun bt446 => ((rr_expr.f k x1000 bt446.1 bt446.2.1 bt446.2.2.1 bt446.2.2.2 ([] : List (S140))).bind fun bt450 => ((rr_want.f x1000 bt450.2.1 bt450.2.2.1 bt450.2.2.2.1 bt450.2.2.2.2 (⟨#[59]⟩ : ByteArray)).bind fun bt457 => (some (3, x385001, x385002, x385003, x385004, x385005, x385006, x385007, bt450.1, ([] : List (List (S140))), ([] : List (S91)), ([] : List (S91)), bt457.1, bt457.2.1, bt457.2.2.1, bt457.2.2.2))))) else ((rr_take.f x1000 bt441.2.1 bt441.2.2.1 bt441.2.2.2.1 bt441.2.2.2.2 (⟨#[99, 97, 108, 108]⟩ : ByteArray)).bind fun bt461 => (if bt461.1 = true then ((rr_call.f k x1000 bt461.2.1 bt461.2.2.1 bt461.2.2.2.1 bt461.2.2.2.2 x385000 x385001 x385002 x385003 x385004 x385005 x385006 x385007).bind fun bt466 => ((rr_want.f x1000 bt466.2.2.2.2.2.2.2.2.2.2.2.2.1 bt466.2.2.2.2.2.2.2.2.2.2.2.2.2.1 bt466.2.2.2.2.2.2.2.2.2.2.2.2.2.2.1 bt466.2.2.2.2.2.2.2.2.2.2.2.2.2.2.2 (⟨#[59]⟩ : ByteArray)).bind fun bt490 => (some (bt466.1, bt466.2.1, bt466.2.2.1, bt466.2.2.2.1, bt466.2.2.2.2.1, bt466.2.2.2.2.2.1, bt466.2.2.2.2.2.2.1, bt466.2.2.2.2.2.2.2.1, bt466.2.2.2.2.2.2.2.2.1, bt466.2.2.2.2.2.2.2.2.2.1, bt466.2.2.2.2.2.2.2.2.2.2.1, bt466.2.2.2.2.2.2.2.2.2.2.2.1, bt490.1, bt490.2.1, bt490.2.2.1, bt490.2.2.2)))) else ((rr_take.f x1000 bt461.2.1 bt461.2.2.1 bt461.2.2.2.1 bt461.2.2.2.2 (⟨#[101, 109, 105, 116]⟩ : ByteArray)).bind fun bt494 => (if bt494.1 = true then ((rr_name.f x1000 bt494.2.1 bt494.2.2.1 bt494.2.2.2.1 bt494.2.2.2.2).bind fun bt499 => ((rr_want.f x1000 bt499.2.1 bt499.2.2.1 bt499.2.2.2.1 bt499.2.2.2.2 (⟨#[59]⟩ : ByteArray)).bind fun bt504 => (some (7, x385001, x385002, bt499.1, x385004, x385005, x385006, x385007, ([] : List (S140)), ([] : List (List (S140))), ([] : List (S91)), ([] : List (S91)), bt504.1, bt504.2.1, bt504.2.2.1, bt504.2.2.2)))) else ((rr_take.f x1000 bt494.2.1 bt494.2.2.1 bt494.2.2.2.1 bt494.2.2.2.2 (⟨#[115, 107, 105, 112]⟩ : ByteArray)).bind fun bt508 => (if bt508.1 = true then ((rr_want.f x1000 bt508.2.1 bt508.2.2.1 bt508.2.2.2.1 bt508.2.2.2.2 (⟨#[59]⟩ : ByteArray)).bind fun bt513 => (some (8, x385001, x385002, x385003, x385004, x385005, x385006, x385007, ([] : List (S140)), ([] : List (List (S140))), ([] : List (S91)), ([] : List (S91)), bt513.1, bt513.2.1, bt513.2.2.1, bt513.2.2.2))) else ((rr_take.f x1000 bt508.2.1 bt508.2.2.1 bt508.2.2.2.1 bt508.2.2.2.2 (⟨#[105, 102]⟩ : ByteArray)).bind fun bt517 => (if bt517.1 = true then ((rr_expr.f k x1000 bt517.2.1 bt517.2.2.1 bt517.2.2.2.1 bt517.2.2.2.2 ([] : List (S140))).bind fun bt522 => ((rr_block.f k x1000 bt522.2.1 bt522.2.2.1 bt522.2.2.2.1 bt522.2.2.2.2).bind fun bt529 => ((rr_take.f x1000 bt529.2.1 bt529.2.2.1 bt529.2.2.2.1 bt529.2.2.2.2 (⟨#[101, 108, 115, 101]⟩ : ByteArray)).bind fun bt536 => (if bt536.1 = true then ((rr_block.f k x1000 bt536.2.1 bt536.2.2.1 bt536.2.2.2.1 bt536.2.2.2.2).bind fun bt541 => (some (5, x385001, x385002, x385003, x385004, x385005, x385006, x385007, bt522.1, ([] : List (List (S140))), bt529.1, bt541.1, bt541.2.1, bt541.2.2.1, bt541.2.2.2.1, bt541.2.2.2.2))) else (some (5, x385001, x385002, x385003, x385004, x385005, x385006, x385007, bt522.1, ([] : List (List (S140))), bt529.1, ([] : List (S91)), bt536.2.1, bt536.2.2.1, bt536.2.2.2.1, bt536.2.2.2.2)))))) else ((rr_take.f x1000 bt517.2.1 bt517.2.2.1 bt517.2.2.2.1 bt517.2.2.2.2 (⟨#[119, 104, 105, 108, 101]⟩ : ByteArray)).bind fun bt548 => (if bt548.1 = true then ((rr_expr.f k x1000 bt548.2.1 bt548.2.2.1 bt548.2.2.2.1 bt548.2.2.2.2 ([] : List (S140))).bind fun bt553 => ((rr_block.f k x1000 bt553.2.1 bt553.2.2.1 bt553.2.2.2.1 bt553.2.2.2.2).bind fun bt560 => (some (6, x385001, x385002, x385003, x385004, x385005, x385006, x385007, bt553.1, ([] : List (List (S140))), bt560.1, ([] : List (S91)), bt560.2.1, bt560.2.2.1, bt560.2.2.2.1, bt560.2.2.2.2)))) else ((rr_fail.f x1000 bt548.2.1 bt548.2.2.1 bt548.2.2.2.1 bt548.2.2.2.2 11).bind fun bt567 => (some (x385000, x385001, x385002, x385003, x385004, x385005, x385006, x385007, ([] : List (S140)), ([] : List (List (S140))), ([] : List (S91)), ([] : List (S91)), bt567.1, bt567.2.1, bt567.2.2.1, bt567.2.2.2)))))))))))))))))
def rr_stmt.f : Nat → List (S110) → Int → Int → Int → Int → Option (Int × Int × ByteArray × ByteArray × ByteArray × Bool × ByteArray × ByteArray × (List (S140)) × (List (List (S140))) × (List (S91)) × (List (S91)) × Int × Int × Int × Int)
 | 0, _, _, _, _, _ => none
 | k + 1, s0_0, s0_1, s0_2, s0_3, s0_4 => (rr_here.f s0_0 s0_1 s0_2 s0_3 s0_4).bind fun bt379 => (if bt379.2.2.2.1 = 0 then (if 0 ≤ bt379.2.1 then (if bt379.2.1 < (s0_0.length : Int) then (rr_stmt.j0 k (((rd_T110 s0_0 bt379.2.1).f0) == 1) s0_0 bt379.2.1 bt379.2.2.1 bt379.2.2.2.1 bt379.2.2.2.2 0 bt379.1 (⟨#[]⟩ : ByteArray) (⟨#[]⟩ : ByteArray) (⟨#[]⟩ : ByteArray) false (⟨#[]⟩ : ByteArray) (⟨#[]⟩ : ByteArray)) else (none)) else (none)) else (rr_stmt.j0 k false s0_0 bt379.2.1 bt379.2.2.1 bt379.2.2.2.1 bt379.2.2.2.2 0 bt379.1 (⟨#[]⟩ : ByteArray) (⟨#[]⟩ : ByteArray) (⟨#[]⟩ : ByteArray) false (⟨#[]⟩ : ByteArray) (⟨#[]⟩ : ByteArray)))
def rr_block.l0 : Nat → List (S91) → List (S110) → Int → Int → Int → Int → Option ((List (S91)) × Int × Int × Int × Int)
 | 0, _, _, _, _, _, _ => none
 | k + 1, x3, x1000, x1001, x1002, x1003, x1004 => if x1003 = 0 then ((rr_is.f x1000 x1001 x1002 x1003 x1004 (⟨#[125]⟩ : ByteArray)).bind fun bt575 => (if bt575.1 = true then ((rr_want.f x1000 bt575.2.1 bt575.2.2.1 bt575.2.2.2.1 bt575.2.2.2.2 (⟨#[125]⟩ : ByteArray)).bind fun bt580 => (some (x3, bt580.1, wrap64 (bt580.2.1 - 1), bt580.2.2.1, bt580.2.2.2))) else ((rr_stmt.f k x1000 bt575.2.1 bt575.2.2.1 bt575.2.2.2.1 bt575.2.2.2.2).bind fun bt584 => (if x3.length < 703687441776 then (rr_block.l0 k (x3 ++ [(⟨bt584.1, bt584.2.1, bt584.2.2.1, bt584.2.2.2.1, bt584.2.2.2.2.1, bt584.2.2.2.2.2.1, bt584.2.2.2.2.2.2.1, bt584.2.2.2.2.2.2.2.1, bt584.2.2.2.2.2.2.2.2.1, bt584.2.2.2.2.2.2.2.2.2.1, bt584.2.2.2.2.2.2.2.2.2.2.1, bt584.2.2.2.2.2.2.2.2.2.2.2.1⟩ : S91)]) x1000 bt584.2.2.2.2.2.2.2.2.2.2.2.2.1 bt584.2.2.2.2.2.2.2.2.2.2.2.2.2.1 bt584.2.2.2.2.2.2.2.2.2.2.2.2.2.2.1 bt584.2.2.2.2.2.2.2.2.2.2.2.2.2.2.2) else (none))))) else ((rr_want.f x1000 x1001 x1002 x1003 x1004 (⟨#[125]⟩ : ByteArray)).bind fun bt611 => (some (x3, bt611.1, wrap64 (bt611.2.1 - 1), bt611.2.2.1, bt611.2.2.2)))
def rr_block.f : Nat → List (S110) → Int → Int → Int → Int → Option ((List (S91)) × Int × Int × Int × Int)
 | 0, _, _, _, _, _ => none
 | k + 1, s0_0, s0_1, s0_2, s0_3, s0_4 => (rr_open.f k s0_0 s0_1 s0_2 s0_3 s0_4 (⟨#[123]⟩ : ByteArray)).bind fun bt571 => (rr_block.l0 k ([] : List (S91)) s0_0 bt571.1 bt571.2.1 bt571.2.2.1 bt571.2.2.2)
end
theorem rr_stmt_group.mono_l : ∀ k, (∀ y0 y1 y2 y3 y4, LeO (rr_stmt.f k y0 y1 y2 y3 y4) (rr_stmt.f (k + 1) y0 y1 y2 y3 y4)) ∧ (∀ y0 y1 y2 y3 y4 y5 y6 y7 y8 y9 y10 y11 y12 y13, LeO (rr_stmt.j0 k y0 y1 y2 y3 y4 y5 y6 y7 y8 y9 y10 y11 y12 y13) (rr_stmt.j0 (k + 1) y0 y1 y2 y3 y4 y5 y6 y7 y8 y9 y10 y11 y12 y13)) ∧ (∀ y0 y1 y2 y3 y4, LeO (rr_block.f k y0 y1 y2 y3 y4) (rr_block.f (k + 1) y0 y1 y2 y3 y4)) ∧ (∀ y0 y1 y2 y3 y4 y5, LeO (rr_block.l0 k y0 y1 y2 y3 y4 y5) (rr_block.l0 (k + 1) y0 y1 y2 y3 y4 y5))
 | 0 => ⟨fun _ _ _ _ _ r h => by simp [rr_stmt.f] at h, fun _ _ _ _ _ _ _ _ _ _ _ _ _ _ r h => by simp [rr_stmt.j0] at h, fun _ _ _ _ _ r h => by simp [rr_block.f] at h, fun _ _ _ _ _ _ r h => by simp [rr_block.l0] at h⟩
 | k + 1 => by
  obtain ⟨ih0, ih1, ih2, ih3⟩ := rr_stmt_group.mono_l k
  refine ⟨?_, ?_, ?_, ?_⟩
  ·
   intro y0 y1 y2 y3 y4
   unfold rr_stmt.f
   repeat' with_reducible first | apply ih0 | apply ih1 | apply ih2 | apply ih3 | apply rr_call.mono | apply rr_expr.mono | apply rr_open.mono | exact LeO.refl _ | exact LeO.none _ | refine LeO.ite ?_ ?_ | refine LeO.bind ?_ (fun _ => ?_)
  ·
   intro y0 y1 y2 y3 y4 y5 y6 y7 y8 y9 y10 y11 y12 y13
   unfold rr_stmt.j0
   repeat' with_reducible first | apply ih0 | apply ih1 | apply ih2 | apply ih3 | apply rr_call.mono | apply rr_expr.mono | apply rr_open.mono | exact LeO.refl _ | exact LeO.none _ | refine LeO.ite ?_ ?_ | refine LeO.bind ?_ (fun _ => ?_)
  ·
   intro y0 y1 y2 y3 y4
   unfold rr_block.f
   repeat' with_reducible first | apply ih0 | apply ih1 | apply ih2 | apply ih3 | apply rr_call.mono | apply rr_expr.mono | apply rr_open.mono | exact LeO.refl _ | exact LeO.none _ | refine LeO.ite ?_ ?_ | refine LeO.bind ?_ (fun _ => ?_)
  ·
   intro y0 y1 y2 y3 y4 y5
   unfold rr_block.l0
   repeat' with_reducible first | apply ih0 | apply ih1 | apply ih2 | apply ih3 | apply rr_call.mono | apply rr_expr.mono | apply rr_open.mono | exact LeO.refl _ | exact LeO.none _ | refine LeO.ite ?_ ?_ | refine LeO.bind ?_ (fun _ => ?_)
theorem rr_stmt.mono : ∀ a0 a1 a2 a3 a4 k, LeO (rr_stmt.f k a0 a1 a2 a3 a4) (rr_stmt.f (k + 1) a0 a1 a2 a3 a4) := fun a0 a1 a2 a3 a4 k => (rr_stmt_group.mono_l k).1 a0 a1 a2 a3 a4
theorem rr_block.mono : ∀ a0 a1 a2 a3 a4 k, LeO (rr_block.f k a0 a1 a2 a3 a4) (rr_block.f (k + 1) a0 a1 a2 a3 a4) := fun a0 a1 a2 a3 a4 k => (rr_stmt_group.mono_l k).2.2.1 a0 a1 a2 a3 a4
end Go.Proofs.Ytcjnhnnfoadklaa.QRunCalls
