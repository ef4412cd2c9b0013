import Derived.Test.YtcmpmlklednhbaaZEJx10
namespace Go.Proofs.Ytcmpmlklednhbaa.QEvalJoins
open Go.RowKit Go.Proofs.YtcmpmlklednhbaaW.PrintWords Go.Proofs.YtcmpmlklednhbaaW.PrintLast Go.Proofs.YtcmpmlklednhbaaW.PrintMore
set_option maxHeartbeats 8000000
set_option maxRecDepth 100000
attribute [local go_sem] max2_int min2_int max_two min_two max_three min_three max_four min_four
set_option linter.unusedVariables false
set_option linter.unusedSimpArgs false
mutual
def rr_call.j0 : Nat → ByteArray → ByteArray → List (S69) → Int → Int → Int → Int → Int → Int → ByteArray → ByteArray → ByteArray → Bool → ByteArray → ByteArray → Option (Int × Int × ByteArray × ByteArray × ByteArray × Bool × ByteArray × ByteArray × (List (S48)) × (List (List (S48))) × (List (S45)) × (List (S45)) × Int × Int × Int × Int)
 | 0, _, _, _, _, _, _, _, _, _, _, _, _, _, _, _ => none
 | k + 1, x5, x6, x1000, x1001, x1002, x1003, x1004, x450000, x450001, x450002, x450003, x450004, x450005, x450006, x450007 => (rr_want.f x1000 x1001 x1002 x1003 x1004 (⟨#[40]⟩ : ByteArray)).bind fun bt468 => ((rr_is.f x1000 bt468.1 bt468.2.1 bt468.2.2.1 bt468.2.2.2 (⟨#[41]⟩ : ByteArray)).bind fun bt472 => (if bt472.1 = true then ((rr_want.f x1000 bt472.2.1 bt472.2.2.1 bt472.2.2.2.1 bt472.2.2.2.2 (⟨#[41]⟩ : ByteArray)).bind fun bt477 => (some (x450000, x450001, x450002, x450003, x450004, x450005, x5, x6, ([] : List (S48)), ([] : List (List (S48))), ([] : List (S45)), ([] : List (S45)), bt477.1, bt477.2.1, bt477.2.2.1, bt477.2.2.2))) else (rr_call.l0 k x1000 bt472.2.1 bt472.2.2.1 bt472.2.2.2.1 bt472.2.2.2.2 x450000 x450001 x450002 x450003 x450004 x450005 x5 x6 ([] : List (List (S48))))))
def rr_call.l0 : Nat → List (S69) → Int → Int → Int → Int → Int → Int → ByteArray → ByteArray → ByteArray → Bool → ByteArray → ByteArray → List (List (S48)) → Option (Int × Int × ByteArray × ByteArray × ByteArray × Bool × ByteArray × ByteArray × (List (S48)) × (List (List (S48))) × (List (S45)) × (List (S45)) × Int × Int × Int × Int)
 | 0, _, _, _, _, _, _, _, _, _, _, _, _, _, _ => none
 | k + 1, x1000, x1001, x1002, x1003, x1004, x450000, x450001, x450002, x450003, x450004, x450005, x450006, x450007, x450009 => if x1003 = 0 then ((rr_expr.f k x1000 x1001 x1002 x1003 x1004 ([] : List (S48))).bind fun bt485 => (if x450009.length < 5864062014805 then ((some (x450009 ++ [bt485.1] : List (List (S48)))).bind fun y492 => ((rr_take.f x1000 bt485.2.1 bt485.2.2.1 bt485.2.2.2.1 bt485.2.2.2.2 (⟨#[44]⟩ : ByteArray)).bind fun bt495 => (if bt495.1 = true then (rr_call.l0 k x1000 bt495.2.1 bt495.2.2.1 bt495.2.2.2.1 bt495.2.2.2.2 x450000 x450001 x450002 x450003 x450004 x450005 x450006 x450007 y492) else ((rr_want.f x1000 bt495.2.1 bt495.2.2.1 bt495.2.2.2.1 bt495.2.2.2.2 (⟨#[41]⟩ : ByteArray)).bind fun bt500 => (some (x450000, x450001, x450002, x450003, x450004, x450005, x450006, x450007, ([] : List (S48)), y492, ([] : List (S45)), ([] : List (S45)), bt500.1, bt500.2.1, bt500.2.2.1, bt500.2.2.2)))))) else (none))) else ((rr_want.f x1000 x1001 x1002 x1003 x1004 (⟨#[41]⟩ : ByteArray)).bind fun bt481 => (some (x450000, x450001, x450002, x450003, x450004, x450005, x450006, x450007, ([] : List (S48)), x450009, ([] : List (S45)), ([] : List (S45)), bt481.1, bt481.2.1, bt481.2.2.1, bt481.2.2.2)))
end
def rr_call.f (k : Nat) (s0_0 : List (S69)) (s0_1 : Int) (s0_2 : Int) (s0_3 : Int) (s0_4 : Int) (a1_0 : Int) (a1_1 : Int) (a1_2 : ByteArray) (a1_3 : ByteArray) (a1_4 : ByteArray) (a1_5 : Bool) (a1_6 : ByteArray) (a1_7 : ByteArray) : Option (Int × Int × ByteArray × ByteArray × ByteArray × Bool × ByteArray × ByteArray × (List (S48)) × (List (List (S48))) × (List (S45)) × (List (S45)) × Int × Int × Int × Int) := (rr_qname.f s0_0 s0_1 s0_2 s0_3 s0_4).bind fun bt451 => ((rr_take.f s0_0 bt451.2.2.1 bt451.2.2.2.1 bt451.2.2.2.2.1 bt451.2.2.2.2.2 (⟨#[61]⟩ : ByteArray)).bind fun bt457 => (if bt457.1 = true then ((rr_qname.f s0_0 bt457.2.1 bt457.2.2.1 bt457.2.2.2.1 bt457.2.2.2.2).bind fun bt462 => (rr_call.j0 k bt462.1 bt462.2.1 s0_0 bt462.2.2.1 bt462.2.2.2.1 bt462.2.2.2.2.1 bt462.2.2.2.2.2 4 a1_1 bt451.1 bt451.2.1 a1_4 true a1_6 a1_7)) else (rr_call.j0 k bt451.1 bt451.2.1 s0_0 bt457.2.1 bt457.2.2.1 bt457.2.2.2.1 bt457.2.2.2.2 4 a1_1 a1_2 a1_3 a1_4 a1_5 a1_6 a1_7)))
theorem rr_call.mono_l : ∀ k, (∀ y0 y1 y2 y3 y4 y5 y6 y7 y8 y9 y10 y11 y12 y13 y14, LeO (rr_call.j0 k y0 y1 y2 y3 y4 y5 y6 y7 y8 y9 y10 y11 y12 y13 y14) (rr_call.j0 (k + 1) y0 y1 y2 y3 y4 y5 y6 y7 y8 y9 y10 y11 y12 y13 y14)) ∧ (∀ y0 y1 y2 y3 y4 y5 y6 y7 y8 y9 y10 y11 y12 y13, LeO (rr_call.l0 k y0 y1 y2 y3 y4 y5 y6 y7 y8 y9 y10 y11 y12 y13) (rr_call.l0 (k + 1) y0 y1 y2 y3 y4 y5 y6 y7 y8 y9 y10 y11 y12 y13))
 | 0 => ⟨fun _ _ _ _ _ _ _ _ _ _ _ _ _ _ _ r h => by simp [rr_call.j0] at h, fun _ _ _ _ _ _ _ _ _ _ _ _ _ _ r h => by simp [rr_call.l0] at h⟩
 | k + 1 => by
  obtain ⟨ih0, ih1⟩ := rr_call.mono_l k
  refine ⟨?_, ?_⟩
  ·
   intro y0 y1 y2 y3 y4 y5 y6 y7 y8 y9 y10 y11 y12 y13 y14
   unfold rr_call.j0
   repeat' with_reducible first | apply ih0 | apply ih1 | apply rr_expr.mono | exact LeO.refl _ | exact LeO.none _ | refine LeO.ite ?_ ?_ | refine LeO.bind ?_ (fun _ => ?_)
  ·
   intro y0 y1 y2 y3 y4 y5 y6 y7 y8 y9 y10 y11 y12 y13
   unfold rr_call.l0
   repeat' with_reducible first | apply ih0 | apply ih1 | apply rr_expr.mono | exact LeO.refl _ | exact LeO.none _ | refine LeO.ite ?_ ?_ | refine LeO.bind ?_ (fun _ => ?_)
theorem rr_call.mono : ∀ a0 a1 a2 a3 a4 a5 a6 a7 a8 a9 a10 a11 a12 k, LeO (rr_call.f k a0 a1 a2 a3 a4 a5 a6 a7 a8 a9 a10 a11 a12) (rr_call.f (k + 1) a0 a1 a2 a3 a4 a5 a6 a7 a8 a9 a10 a11 a12) := by
 intro a0 a1 a2 a3 a4 a5 a6 a7 a8 a9 a10 a11 a12 k
 obtain ⟨ih0, ih1⟩ := rr_call.mono_l k
 unfold rr_call.f
 repeat' with_reducible first | apply ih0 | apply ih1 | apply rr_expr.mono | exact LeO.refl _ | exact LeO.none _ | refine LeO.ite ?_ ?_ | refine LeO.bind ?_ (fun _ => ?_)
def rr_call.T15 : Bool × List (List Nat × List Nat) := (true, [([], []), ([0], [0]), ([], []), ([2], [2]), ([3], [3]), ([1, 4, 3], [1, 4]), ([0, 1, 2, 3, 4, 5], []), ([6, 5, 5, 0, 1, 2, 3, 4, 5], [5, 6])])
def rr_call.B15 : List Nat := [0, 1, 0, 4, 12, 31, 63, 127]
theorem rr_call.tab15 : rtab .any (opsOf Try.f44 15) = rr_call.T15 := by kernel_rfl
theorem rr_call.bits15 : waitsOk rr_call.T15.2 rr_call.B15 = true := by kernel_rfl
theorem rr_call.calls (k : Nat) (g : Nat) (s0_0 : List (S69)) (s0_1 : Int) (s0_2 : Int) (s0_3 : Int) (s0_4 : Int) (a1_0 : Int) (a1_1 : Int) (a1_2 : ByteArray) (a1_3 : ByteArray) (a1_4 : ByteArray) (a1_5 : Bool) (a1_6 : ByteArray) (a1_7 : ByteArray) (r1 : Int) (r2 : Int) (r3 : ByteArray) (r4 : ByteArray) (r5 : ByteArray) (r6 : Bool) (r7 : ByteArray) (r8 : ByteArray) (r9 : List (S48)) (r10 : List (List (S48))) (r11 : List (S45)) (r12 : List (S45)) (r13 : Int) (r14 : Int) (r15 : Int) (r16 : Int) (w0 w : World) (hI : IsS57 w0 w g s0_0 s0_1 s0_2 s0_3 s0_4) (hB : Below w0.heap.size w0 w) (h : rr_call.f k s0_0 s0_1 s0_2 s0_3 s0_4 a1_0 a1_1 a1_2 a1_3 a1_4 a1_5 a1_6 a1_7 = some (r1, r2, r3, r4, r5, r6, r7, r8, r9, r10, r11, r12, r13, r14, r15, r16)) :
  Calls Try.prog 44 #[.pointer (some ⟨g, 0, none⟩), .agg #[.int .i64 a1_0, .int .i64 a1_1, .string a1_2, .string a1_3, .string a1_4, .bool a1_5, .string a1_6, .string a1_7, .slice none 0 0, .slice none 0 0, .slice none 0 0, .slice none 0 0]] w fun e w' => ∃ v8_ v9_ v10_ v11_ : Value, e = .returned (.agg #[.int .i64 r1, .int .i64 r2, .string r3, .string r4, .string r5, .bool r6, .string r7, .string r8, v8_, v9_, v10_, v11_]) ∧ Kd.R k48 48 w' w.heap.size (fun _ => True) v8_ r9 ∧ Kd.S (Kd.slice 48 k48) 23 w' w.heap.size (fun k_ => some k_ ≠ (v8_ : Value).ownBlock) v9_ r10 ∧ Kd.R k45 45 w' w.heap.size (fun k_ => some k_ ≠ (v8_ : Value).ownBlock ∧ some k_ ≠ (v9_ : Value).ownBlock ∧ some k_ ≠ (v11_ : Value).ownBlock) v10_ r11 ∧ Kd.R k45 45 w' w.heap.size (fun k_ => some k_ ≠ (v8_ : Value).ownBlock ∧ some k_ ≠ (v9_ : Value).ownBlock ∧ some k_ ≠ (v10_ : Value).ownBlock) v11_ r12 ∧ IsS57 w0 w' g s0_0 r13 r14 r15 r16 ∧ Below w0.heap.size w0 w' ∧ KeepBut w w' g none := by
 have hu45 := Try.underlying45
 have HI0 := za hI
 have HK := za (KeepBut.refl w g none)
 have HL := za hB.size
 clear hI
 have HW0 := za hB.size
 have HB := za hB
 clear hB
 have H : ((rr_qname.f s0_0 s0_1 s0_2 s0_3 s0_4).bind fun bt451 => ((rr_take.f s0_0 bt451.2.2.1 bt451.2.2.2.1 bt451.2.2.2.2.1 bt451.2.2.2.2.2 (⟨#[61]⟩ : ByteArray)).bind fun bt457 => (if bt457.1 = true then ((rr_qname.f s0_0 bt457.2.1 bt457.2.2.1 bt457.2.2.2.1 bt457.2.2.2.2).bind fun bt462 => (rr_call.j0 k bt462.1 bt462.2.1 s0_0 bt462.2.2.1 bt462.2.2.2.1 bt462.2.2.2.2.1 bt462.2.2.2.2.2 4 a1_1 bt451.1 bt451.2.1 a1_4 true a1_6 a1_7)) else (rr_call.j0 k bt451.1 bt451.2.1 s0_0 bt457.2.1 bt457.2.2.1 bt457.2.2.2.1 bt457.2.2.2.2 4 a1_1 a1_2 a1_3 a1_4 a1_5 a1_6 a1_7)))) = some (r1, r2, r3, r4, r5, r6, r7, r8, r9, r10, r11, r12, r13, r14, r15, r16) := h
 clear h
 replace H := Option.bind_eq_some_iff.mp H
 obtain ⟨⟨t451, t452, t453, t454, t455, t456⟩, A30, H⟩ := H
 (try dsimp only at H)
 have A3 := za A30
 clear A30
 replace H := Option.bind_eq_some_iff.mp H
 obtain ⟨⟨t457, t458, t459, t460, t461⟩, A40, H⟩ := H
 (try dsimp only at H)
 have A4 := za A40
 clear A40
 have HC5 := za H
 clear H
 go_enter Try.func44, Try.ntmps44
 go_upto_if 16 with (first | ((with_reducible refine gate_dst (N := 3) rfl ?_); refine box_event ?hg (N := 3) ?hd (cs := #[.int .i64 a1_0, .int .i64 a1_1, .string a1_2, .string a1_3, .string a1_4, .bool a1_5, .string a1_6, .string a1_7, .slice none 0 0, .slice none 0 0, .slice none 0 0, .slice none 0 0]) (t := 45) ?hr ?_; (case hd => rfl); (case hg => rfl); (case hr => exact zq39); intro gb449 hg w6 hbox hb; replace HB := za (below_step zq3 hb); have BK449 := za (hbox); have GW449 := za ((by rw [hg]; exact (keep_size (w := w) (g := g) (row := none) zq7) : w.heap.size ≤ gb449)); have GE449 := za ((Nat.le_trans HW0.out (by rw [hg]; exact (keep_size (w := w) (g := g) (row := none) zq7) : w.heap.size ≤ gb449) : w0.heap.size ≤ gb449)); replace HK := za (KeepBut.trans zq7 (KeepBut.of_below hb g none) (.inl rfl)); have NB0_449 := za ((by rw [hg]; exact Nat.ne_of_lt (IsS57.lt (show IsS57 w0 _ g s0_0 s0_1 s0_2 s0_3 s0_4 from zq0)) : g ≠ gb449)); have NB449_0 := za ((by rw [hg]; exact Nat.ne_of_gt (IsS57.lt (show IsS57 w0 _ g s0_0 s0_1 s0_2 s0_3 s0_4 from zq0)) : gb449 ≠ g)); replace HI0 := za (IsS57.below zq0 hb); clear hb hbox hg) | ((with_reducible refine gate_dst (N := 4) rfl ?_); refine box_event ?hg (N := 4) ?hd (cs := #[.int .i64 0, .int .i64 0, .string (⟨#[]⟩ : ByteArray), .string (⟨#[]⟩ : ByteArray), .string (⟨#[]⟩ : ByteArray), .bool false, .string (⟨#[]⟩ : ByteArray), .string (⟨#[]⟩ : ByteArray), .slice none 0 0, .slice none 0 0, .slice none 0 0, .slice none 0 0]) (t := 45) ?hr ?_; (case hd => rfl); (case hg => rfl); (case hr => exact zq39); intro gb450 hg w7 hbox hb; replace HB := za (below_step (by repeat (first | (with_reducible first | exact HB.out | apply below_alloc | apply pw_below_drewN | apply below_drew1 | refine below_set ?_ (IsS57.ge HI0.out) | refine below_set ?_ GE449.out) | exact HB.out)) hb); have BK450 := za (hbox); have GW450 := za ((by rw [hg]; exact (keep_size (w := w) (g := g) (row := none) zq79) : w.heap.size ≤ gb450)); have GE450 := za ((Nat.le_trans HW0.out (by rw [hg]; exact (keep_size (w := w) (g := g) (row := none) zq79) : w.heap.size ≤ gb450) : w0.heap.size ≤ gb450)); replace HK := za (KeepBut.trans zq79 (KeepBut.of_below hb g none) (.inl rfl)); have NB449_450 := za ((by rw [hg]; exact Nat.ne_of_lt (blk_lt (g := gb449) (zb BK449.out)) : gb449 ≠ gb450)); have NB450_449 := za ((by rw [hg]; exact Nat.ne_of_gt (blk_lt (g := gb449) (zb BK449.out)) : gb450 ≠ gb449)); replace BK449 := za (blk_below (g := gb449) (zb BK449.out) hb); have NB0_450 := za ((by rw [hg]; exact Nat.ne_of_lt (IsS57.lt (show IsS57 w0 _ g s0_0 s0_1 s0_2 s0_3 s0_4 from zq67)) : g ≠ gb450)); have NB450_0 := za ((by rw [hg]; exact Nat.ne_of_gt (IsS57.lt (show IsS57 w0 _ g s0_0 s0_1 s0_2 s0_3 s0_4 from zq67)) : gb450 ≠ g)); replace HI0 := za (IsS57.below zq67 hb); clear hb hbox hg; have hnb8 := NB449_450.out; have hnc8 := NB450_449.out; have hnb9 := NB449_0.out; have hnc9 := NB0_449.out; obtain ⟨hcz10_0, hcz10_1, hcz10_2, hcz10_3, hcz10_4, hcz10_5, hcz10_6, hcz10_7, hcz10_8, hcz10_9, hcz10_10, hcz10_11⟩ := zc12 BK449.out; obtain ⟨hfz10_0, hfz10_1, hfz10_2, hfz10_3, hfz10_4, hfz10_5, hfz10_6, hfz10_7, hfz10_8, hfz10_9, hfz10_10⟩ := zf11 BK449.out; have hfz10_11 := blk_frozen BK449.out 11) | ((with_reducible refine gate_callee (f := 42) rfl ?_); refine goesL_ (some 12) rfl rfl Try.func42 zq18 rfl #[.pointer (some ⟨g, 0, none⟩)] rfl zq1 ?_; (with_reducible refine (rr_qname.calls g s0_0 s0_1 s0_2 s0_3 s0_4 t451 t452 t453 t454 t455 t456 w0 _ ?side1 ?side2 A3.out).mono ?_); (case side1 => exact zq12); (case side2 => exact zq20); rintro e w11 ⟨rfl, hi, hb, hk⟩; refine ⟨_, rfl, ?_⟩; replace BK449 := za (KeepBut.blk hk (g' := gb449) (o := .cells #[.int .i64 4, .int .i64 a1_1, .string a1_2, .string a1_3, .string a1_4, .bool a1_5, .string a1_6, .string a1_7, .slice none 0 0, .slice none 0 0, .slice none 0 0, .slice none 0 0] 45 (0, 0)) (by (with_reducible repeat (first | refine blk_drewN ?_ _ | refine blk_drew ?_ | refine blk_alloc ?_ _)); refine blk_put (cs := #[.int .i64 a1_0, .int .i64 a1_1, .string a1_2, .string a1_3, .string a1_4, .bool a1_5, .string a1_6, .string a1_7, .slice none 0 0, .slice none 0 0, .slice none 0 0, .slice none 0 0]) ?_ 0 _ rfl; (with_reducible repeat (first | refine blk_drewN ?_ _ | refine blk_drew ?_ | refine blk_alloc ?_ _)); exact BK449.out) NB449_0.out (by simp)); replace BK450 := za (KeepBut.blk hk (g' := gb450) (o := .cells #[.int .i64 0, .int .i64 0, .string (⟨#[]⟩ : ByteArray), .string (⟨#[]⟩ : ByteArray), .string (⟨#[]⟩ : ByteArray), .bool false, .string (⟨#[]⟩ : ByteArray), .string (⟨#[]⟩ : ByteArray), .slice none 0 0, .slice none 0 0, .slice none 0 0, .slice none 0 0] 45 (0, 0)) zq64 NB450_0.out (by simp)); replace HK := za (KeepBut.trans zq19 hk (.inl rfl)); replace HB := za (hb); replace HI0 := za (hi)) | ((with_reducible refine gate_callee (f := 24) rfl ?_); refine goesL_ (some 16) rfl rfl Try.func24 zq18 rfl #[.pointer (some ⟨g, 0, none⟩), .string (⟨#[61]⟩ : ByteArray)] rfl zq1 ?_; (with_reducible refine (rr_take.calls g s0_0 t453 t454 t455 t456 (⟨#[61]⟩ : ByteArray) t457 t458 t459 t460 t461 w0 _ ?side1 ?side2 A4.out).mono ?_); (case side1 => exact zq12); (case side2 => exact zq20); rintro e w12 ⟨rfl, hi, hb, hk⟩; refine ⟨_, rfl, ?_⟩; replace BK449 := za (KeepBut.blk hk (g' := gb449) (zb BK449.out) NB449_0.out (by simp)); replace BK450 := za (KeepBut.blk hk (g' := gb450) (zb BK450.out) NB450_0.out (by simp)); replace HK := za (KeepBut.trans zq19 hk (.inl rfl)); replace HB := za (hb); replace HI0 := za (hi)))
 (try simp only [Act.put, List.setIfInBounds_toArray, List.set_cons_zero, List.set_cons_succ])
 go_cut [5, 6] (fun v5 v6 wc => ∃ (kq : Nat) (x5_4 : ByteArray) (x6_4 : ByteArray) (x1001_4 : Int) (x1002_4 : Int) (x1003_4 : Int) (x1004_4 : Int) (x450002_4 : ByteArray) (x450003_4 : ByteArray) (x450005_4 : Bool), v5 = .string x5_4 ∧ v6 = .string x6_4 ∧ Aside0 (rr_call.j0 kq x5_4 x6_4 s0_0 x1001_4 x1002_4 x1003_4 x1004_4 4 a1_1 x450002_4 x450003_4 a1_4 x450005_4 a1_6 a1_7 = some (r1, r2, r3, r4, r5, r6, r7, r8, r9, r10, r11, r12, r13, r14, r15, r16)) ∧ Aside0 (kq ≤ k) ∧ Aside0 (wc.heap[gb449]? = some (.cells #[.int .i64 4, .int .i64 a1_1, .string x450002_4, .string x450003_4, .string a1_4, .bool x450005_4, .string a1_6, .string a1_7, (.slice none 0 0), (.slice none 0 0), (.slice none 0 0), (.slice none 0 0)] 45 (0, 0))) ∧ Aside0 (wc.heap[gb450]? = some (.cells #[.int .i64 0, .int .i64 0, .string (⟨#[]⟩ : ByteArray), .string (⟨#[]⟩ : ByteArray), .string (⟨#[]⟩ : ByteArray), .bool false, .string (⟨#[]⟩ : ByteArray), .string (⟨#[]⟩ : ByteArray), (.slice none 0 0), (.slice none 0 0), (.slice none 0 0), (.slice none 0 0)] 45 (0, 0))) ∧ Aside0 (IsS57 w0 wc g s0_0 x1001_4 x1002_4 x1003_4 x1004_4) ∧ Aside0 (KeepBut w wc g none) ∧ Aside0 (Below w0.heap.size w0 wc))
 case first =>
  have H := HC5.out
  clear HC5
  by_cases c13 : t457 = true
  ·
   subst c13
   rw [if_pos rfl] at H
   replace H := Option.bind_eq_some_iff.mp H
   obtain ⟨⟨t462, t463, t464, t465, t466, t467⟩, A140, H⟩ := H
   (try dsimp only at H)
   have A14 := za A140
   clear A140
   have H' := za H
   clear H
   have hnb15 := NB449_450.out
   have hnc15 := NB450_449.out
   have hnb16 := NB449_0.out
   have hnc16 := NB0_449.out
   obtain ⟨hcz17_0, hcz17_1, hcz17_2, hcz17_3, hcz17_4, hcz17_5, hcz17_6, hcz17_7, hcz17_8, hcz17_9, hcz17_10, hcz17_11⟩ := zc12 BK449.out
   obtain ⟨hfz17_0, hfz17_1, hfz17_2, hfz17_3, hfz17_4, hfz17_5, hfz17_6, hfz17_7, hfz17_8, hfz17_9, hfz17_10, hfz17_11⟩ := zf12 BK449.out
   go_wp2_with (first | ((with_reducible refine gate_callee (f := 42) rfl ?_); refine goesL_ (some 24) rfl rfl Try.func42 zq18 rfl #[.pointer (some ⟨g, 0, none⟩)] rfl zq1 ?_; (with_reducible refine (rr_qname.calls g s0_0 t458 t459 t460 t461 t462 t463 t464 t465 t466 t467 w0 _ ?side1 ?side2 A14.out).mono ?_); (case side1 => exact zq12); (case side2 => exact zq20); rintro e w18 ⟨rfl, hi, hb, hk⟩; refine ⟨_, rfl, ?_⟩; replace BK449 := za (KeepBut.blk hk (g' := gb449) (o := .cells #[.int .i64 4, .int .i64 a1_1, .string t451, .string t452, .string a1_4, .bool true, .string a1_6, .string a1_7, .slice none 0 0, .slice none 0 0, .slice none 0 0, .slice none 0 0] 45 (0, 0)) (by (with_reducible repeat (first | refine blk_drewN ?_ _ | refine blk_drew ?_ | refine blk_alloc ?_ _)); refine blk_put (cs := #[.int .i64 4, .int .i64 a1_1, .string t451, .string a1_3, .string a1_4, .bool true, .string a1_6, .string a1_7, .slice none 0 0, .slice none 0 0, .slice none 0 0, .slice none 0 0]) ?_ 3 _ rfl; (with_reducible repeat (first | refine blk_drewN ?_ _ | refine blk_drew ?_ | refine blk_alloc ?_ _)); refine blk_put (cs := #[.int .i64 4, .int .i64 a1_1, .string a1_2, .string a1_3, .string a1_4, .bool true, .string a1_6, .string a1_7, .slice none 0 0, .slice none 0 0, .slice none 0 0, .slice none 0 0]) ?_ 2 _ rfl; (with_reducible repeat (first | refine blk_drewN ?_ _ | refine blk_drew ?_ | refine blk_alloc ?_ _)); refine blk_put (cs := #[.int .i64 4, .int .i64 a1_1, .string a1_2, .string a1_3, .string a1_4, .bool a1_5, .string a1_6, .string a1_7, .slice none 0 0, .slice none 0 0, .slice none 0 0, .slice none 0 0]) ?_ 5 _ rfl; (with_reducible repeat (first | refine blk_drewN ?_ _ | refine blk_drew ?_ | refine blk_alloc ?_ _)); exact BK449.out) NB449_0.out (by simp)); replace BK450 := za (KeepBut.blk hk (g' := gb450) (o := .cells #[.int .i64 0, .int .i64 0, .string (⟨#[]⟩ : ByteArray), .string (⟨#[]⟩ : ByteArray), .string (⟨#[]⟩ : ByteArray), .bool false, .string (⟨#[]⟩ : ByteArray), .string (⟨#[]⟩ : ByteArray), .slice none 0 0, .slice none 0 0, .slice none 0 0, .slice none 0 0] 45 (0, 0)) (by (with_reducible repeat (first | refine blk_drewN ?_ _ | refine blk_drew ?_ | refine blk_alloc ?_ _)); refine blk_far ?_ NB450_449.out _; (with_reducible repeat (first | refine blk_drewN ?_ _ | refine blk_drew ?_ | refine blk_alloc ?_ _)); refine blk_far ?_ NB450_449.out _; (with_reducible repeat (first | refine blk_drewN ?_ _ | refine blk_drew ?_ | refine blk_alloc ?_ _)); refine blk_far ?_ NB450_449.out _; (with_reducible repeat (first | refine blk_drewN ?_ _ | refine blk_drew ?_ | refine blk_alloc ?_ _)); exact BK450.out) NB450_0.out (by simp)); replace HK := za (KeepBut.trans zq19 hk (.inl rfl)); replace HB := za (hb); replace HI0 := za (hi)))
   go_meet
   case rel => exact ⟨_, (t462), (t463), (t464), (t465), (t466), (t467), (t451), (t452), (true), zq29, zq29, H', ⟨zq78⟩, ⟨zq84⟩, ⟨zq85⟩, ⟨zq12⟩, ⟨zq19⟩, ⟨zq20⟩⟩
  ·
   replace c13 := Bool.eq_false_iff.mpr c13
   subst c13
   rw [if_neg (show ¬ (false = true) by decide)] at H
   have H' := za H
   clear H
   go_wp2
   go_meet
   case rel => exact ⟨_, (t451), (t452), (t458), (t459), (t460), (t461), (a1_2), (a1_3), (a1_5), zq29, zq29, H', ⟨zq78⟩, ⟨zq84⟩, ⟨zq85⟩, ⟨zq12⟩, ⟨zq19⟩, ⟨zq20⟩⟩
 case rest =>
  clear HC5
  obtain ⟨kq, x5_4, x6_4, x1001_4, x1002_4, x1003_4, x1004_4, x450002_4, x450003_4, x450005_4, rfl, rfl, HA, HJ4, BK449, BK450, HI0, HK, HB⟩ := hcut
  cases kq with
  | zero => exact absurd HA.out (by simp [rr_call.j0])
  | succ kj4 =>
   have H := HA.out
   clear HA
   simp only [rr_call.j0] at H
   replace H := Option.bind_eq_some_iff.mp H
   obtain ⟨⟨t468, t469, t470, t471⟩, A190, H⟩ := H
   (try dsimp only at H)
   have A19 := za A190
   clear A190
   replace H := Option.bind_eq_some_iff.mp H
   obtain ⟨⟨t472, t473, t474, t475, t476⟩, A200, H⟩ := H
   (try dsimp only at H)
   have A20 := za A200
   clear A200
   by_cases c21 : t472 = true
   ·
    subst c21
    rw [if_pos rfl] at H
    replace H := Option.bind_eq_some_iff.mp H
    obtain ⟨⟨t477, t478, t479, t480⟩, A220, H⟩ := H
    (try dsimp only at H)
    have A22 := za A220
    clear A220
    simp only [Option.some.injEq, Prod.mk.injEq] at H
    obtain ⟨rfl, rfl, rfl, rfl, rfl, rfl, rfl, rfl, rfl, rfl, rfl, rfl, rfl, rfl, rfl, rfl⟩ := H
    have hnb23 := NB449_450.out
    have hnc23 := NB450_449.out
    have hnb24 := NB449_0.out
    have hnc24 := NB0_449.out
    obtain ⟨hcz25_0, hcz25_1, hcz25_2, hcz25_3, hcz25_4, hcz25_5, hcz25_6, hcz25_7, hcz25_8, hcz25_9, hcz25_10, hcz25_11⟩ := zc12 BK449.out
    obtain ⟨hfz25_0, hfz25_1, hfz25_2, hfz25_3, hfz25_4, hfz25_5, hfz25_6, hfz25_7, hfz25_8, hfz25_9, hfz25_10, hfz25_11⟩ := zf12 BK449.out
    go_wp2_with (first | ((with_reducible refine gate_callee (f := 21) rfl ?_); refine goesL_ (some 34) rfl rfl Try.func21 zq18 rfl #[.pointer (some ⟨g, 0, none⟩), .string (⟨#[40]⟩ : ByteArray)] rfl zq1 ?_; (with_reducible refine (rr_want.calls g s0_0 x1001_4 x1002_4 x1003_4 x1004_4 (⟨#[40]⟩ : ByteArray) t468 t469 t470 t471 w0 _ ?side1 ?side2 A19.out).mono ?_); (case side1 => exact zq12); (case side2 => exact zq20); rintro e w26 ⟨rfl, hi, hb, hk⟩; refine ⟨_, rfl, ?_⟩; replace BK449 := za (KeepBut.blk hk (g' := gb449) (o := .cells #[.int .i64 4, .int .i64 a1_1, .string x450002_4, .string x450003_4, .string a1_4, .bool x450005_4, .string x5_4, .string x6_4, .slice none 0 0, .slice none 0 0, .slice none 0 0, .slice none 0 0] 45 (0, 0)) (by (with_reducible repeat (first | refine blk_drewN ?_ _ | refine blk_drew ?_ | refine blk_alloc ?_ _)); refine blk_put (cs := #[.int .i64 4, .int .i64 a1_1, .string x450002_4, .string x450003_4, .string a1_4, .bool x450005_4, .string x5_4, .string a1_7, .slice none 0 0, .slice none 0 0, .slice none 0 0, .slice none 0 0]) ?_ 7 _ rfl; (with_reducible repeat (first | refine blk_drewN ?_ _ | refine blk_drew ?_ | refine blk_alloc ?_ _)); refine blk_put (cs := #[.int .i64 4, .int .i64 a1_1, .string x450002_4, .string x450003_4, .string a1_4, .bool x450005_4, .string a1_6, .string a1_7, .slice none 0 0, .slice none 0 0, .slice none 0 0, .slice none 0 0]) ?_ 6 _ rfl; (with_reducible repeat (first | refine blk_drewN ?_ _ | refine blk_drew ?_ | refine blk_alloc ?_ _)); exact BK449.out) NB449_0.out (by simp)); replace BK450 := za (KeepBut.blk hk (g' := gb450) (o := .cells #[.int .i64 0, .int .i64 0, .string (⟨#[]⟩ : ByteArray), .string (⟨#[]⟩ : ByteArray), .string (⟨#[]⟩ : ByteArray), .bool false, .string (⟨#[]⟩ : ByteArray), .string (⟨#[]⟩ : ByteArray), .slice none 0 0, .slice none 0 0, .slice none 0 0, .slice none 0 0] 45 (0, 0)) zq63 NB450_0.out (by simp)); replace HK := za (KeepBut.trans zq19 hk (.inl rfl)); replace HB := za (hb); replace HI0 := za (hi)) | ((with_reducible refine gate_callee (f := 30) rfl ?_); refine goesL_ (some 36) rfl rfl Try.func30 zq18 rfl #[.pointer (some ⟨g, 0, none⟩), .string (⟨#[41]⟩ : ByteArray)] rfl zq1 ?_; (with_reducible refine (rr_is.calls g s0_0 t468 t469 t470 t471 (⟨#[41]⟩ : ByteArray) true t473 t474 t475 t476 w0 _ ?side1 ?side2 A20.out).mono ?_); (case side1 => exact zq12); (case side2 => exact zq20); rintro e w27 ⟨rfl, hi, hb, hk⟩; refine ⟨_, rfl, ?_⟩; replace BK449 := za (KeepBut.blk hk (g' := gb449) (zb BK449.out) NB449_0.out (by simp)); replace BK450 := za (KeepBut.blk hk (g' := gb450) (zb BK450.out) NB450_0.out (by simp)); replace HK := za (KeepBut.trans zq19 hk (.inl rfl)); replace HB := za (hb); replace HI0 := za (hi)) | ((with_reducible refine gate_callee (f := 21) rfl ?_); refine goesL_ (some 54) rfl rfl Try.func21 zq18 rfl #[.pointer (some ⟨g, 0, none⟩), .string (⟨#[41]⟩ : ByteArray)] rfl zq1 ?_; (with_reducible refine (rr_want.calls g s0_0 t473 t474 t475 t476 (⟨#[41]⟩ : ByteArray) t477 t478 t479 t480 w0 _ ?side1 ?side2 A22.out).mono ?_); (case side1 => exact zq12); (case side2 => exact zq20); rintro e w28 ⟨rfl, hi, hb, hk⟩; refine ⟨_, rfl, ?_⟩; replace BK449 := za (KeepBut.blk hk (g' := gb449) (zb BK449.out) NB449_0.out (by simp)); replace BK450 := za (KeepBut.blk hk (g' := gb450) (zb BK450.out) NB450_0.out (by simp)); replace HK := za (KeepBut.trans zq19 hk (.inl rfl)); replace HB := za (hb); replace HI0 := za (hi); (try clear hb hk hi); obtain ⟨hcz29_0, hcz29_1, hcz29_2, hcz29_3, hcz29_4, hcz29_5, hcz29_6, hcz29_7, hcz29_8, hcz29_9, hcz29_10, hcz29_11⟩ := zc12 BK449.out; obtain ⟨hfz29_0, hfz29_1, hfz29_2, hfz29_3, hfz29_4, hfz29_5, hfz29_6, hfz29_7, hfz29_8, hfz29_9, hfz29_10, hfz29_11⟩ := zf12 BK449.out; have hnb30 := NB450_0.out; have hnc30 := NB0_450.out; obtain ⟨hcz31_0, hcz31_1, hcz31_2, hcz31_3, hcz31_4, hcz31_5, hcz31_6, hcz31_7, hcz31_8, hcz31_9, hcz31_10, hcz31_11⟩ := zc12 BK450.out; obtain ⟨hfz31_0, hfz31_1, hfz31_2, hfz31_3, hfz31_4, hfz31_5, hfz31_6, hfz31_7, hfz31_8, hfz31_9, hfz31_10⟩ := zf11 BK450.out; have hfz31_11 := blk_frozen BK450.out 11))
    refine bodyPost_ret (results_cell_row rfl _ _ gb450 45 #[.int .i64 4, .int .i64 a1_1, .string x450002_4, .string x450003_4, .string a1_4, .bool x450005_4, .string x5_4, .string x6_4, .slice none 0 0, .slice none 0 0, .slice none 0 0, .slice none 0 0] (0, 0) _ rfl (by (with_reducible repeat (first | refine blk_drewN ?_ _ | refine blk_drew ?_ | refine blk_alloc ?_ _)); refine blk_put (cs := #[.int .i64 4, .int .i64 a1_1, .string x450002_4, .string x450003_4, .string a1_4, .bool x450005_4, .string x5_4, .string x6_4, .slice none 0 0, .slice none 0 0, .slice none 0 0, .slice none 0 0]) ?_ 11 _ rfl; (with_reducible repeat (first | refine blk_drewN ?_ _ | refine blk_drew ?_ | refine blk_alloc ?_ _)); refine blk_put (cs := #[.int .i64 4, .int .i64 a1_1, .string x450002_4, .string x450003_4, .string a1_4, .bool x450005_4, .string x5_4, .string x6_4, .slice none 0 0, .slice none 0 0, .slice none 0 0, .slice none 0 0]) ?_ 10 _ rfl; (with_reducible repeat (first | refine blk_drewN ?_ _ | refine blk_drew ?_ | refine blk_alloc ?_ _)); refine blk_put (cs := #[.int .i64 4, .int .i64 a1_1, .string x450002_4, .string x450003_4, .string a1_4, .bool x450005_4, .string x5_4, .string x6_4, .slice none 0 0, .slice none 0 0, .slice none 0 0, .slice none 0 0]) ?_ 9 _ rfl; (with_reducible repeat (first | refine blk_drewN ?_ _ | refine blk_drew ?_ | refine blk_alloc ?_ _)); refine blk_put (cs := #[.int .i64 4, .int .i64 a1_1, .string x450002_4, .string x450003_4, .string a1_4, .bool x450005_4, .string x5_4, .string x6_4, .slice none 0 0, .slice none 0 0, .slice none 0 0, .slice none 0 0]) ?_ 8 _ rfl; (with_reducible repeat (first | refine blk_drewN ?_ _ | refine blk_drew ?_ | refine blk_alloc ?_ _)); refine blk_put (cs := #[.int .i64 4, .int .i64 a1_1, .string x450002_4, .string x450003_4, .string a1_4, .bool x450005_4, .string x5_4, .string (⟨#[]⟩ : ByteArray), .slice none 0 0, .slice none 0 0, .slice none 0 0, .slice none 0 0]) ?_ 7 _ rfl; (with_reducible repeat (first | refine blk_drewN ?_ _ | refine blk_drew ?_ | refine blk_alloc ?_ _)); refine blk_put (cs := #[.int .i64 4, .int .i64 a1_1, .string x450002_4, .string x450003_4, .string a1_4, .bool x450005_4, .string (⟨#[]⟩ : ByteArray), .string (⟨#[]⟩ : ByteArray), .slice none 0 0, .slice none 0 0, .slice none 0 0, .slice none 0 0]) ?_ 6 _ rfl; (with_reducible repeat (first | refine blk_drewN ?_ _ | refine blk_drew ?_ | refine blk_alloc ?_ _)); refine blk_put (cs := #[.int .i64 4, .int .i64 a1_1, .string x450002_4, .string x450003_4, .string a1_4, .bool false, .string (⟨#[]⟩ : ByteArray), .string (⟨#[]⟩ : ByteArray), .slice none 0 0, .slice none 0 0, .slice none 0 0, .slice none 0 0]) ?_ 5 _ rfl; (with_reducible repeat (first | refine blk_drewN ?_ _ | refine blk_drew ?_ | refine blk_alloc ?_ _)); refine blk_put (cs := #[.int .i64 4, .int .i64 a1_1, .string x450002_4, .string x450003_4, .string (⟨#[]⟩ : ByteArray), .bool false, .string (⟨#[]⟩ : ByteArray), .string (⟨#[]⟩ : ByteArray), .slice none 0 0, .slice none 0 0, .slice none 0 0, .slice none 0 0]) ?_ 4 _ rfl; (with_reducible repeat (first | refine blk_drewN ?_ _ | refine blk_drew ?_ | refine blk_alloc ?_ _)); refine blk_put (cs := #[.int .i64 4, .int .i64 a1_1, .string x450002_4, .string (⟨#[]⟩ : ByteArray), .string (⟨#[]⟩ : ByteArray), .bool false, .string (⟨#[]⟩ : ByteArray), .string (⟨#[]⟩ : ByteArray), .slice none 0 0, .slice none 0 0, .slice none 0 0, .slice none 0 0]) ?_ 3 _ rfl; (with_reducible repeat (first | refine blk_drewN ?_ _ | refine blk_drew ?_ | refine blk_alloc ?_ _)); refine blk_put (cs := #[.int .i64 4, .int .i64 a1_1, .string (⟨#[]⟩ : ByteArray), .string (⟨#[]⟩ : ByteArray), .string (⟨#[]⟩ : ByteArray), .bool false, .string (⟨#[]⟩ : ByteArray), .string (⟨#[]⟩ : ByteArray), .slice none 0 0, .slice none 0 0, .slice none 0 0, .slice none 0 0]) ?_ 2 _ rfl; (with_reducible repeat (first | refine blk_drewN ?_ _ | refine blk_drew ?_ | refine blk_alloc ?_ _)); refine blk_put (cs := #[.int .i64 4, .int .i64 0, .string (⟨#[]⟩ : ByteArray), .string (⟨#[]⟩ : ByteArray), .string (⟨#[]⟩ : ByteArray), .bool false, .string (⟨#[]⟩ : ByteArray), .string (⟨#[]⟩ : ByteArray), .slice none 0 0, .slice none 0 0, .slice none 0 0, .slice none 0 0]) ?_ 1 _ rfl; (with_reducible repeat (first | refine blk_drewN ?_ _ | refine blk_drew ?_ | refine blk_alloc ?_ _)); refine blk_put (cs := #[.int .i64 0, .int .i64 0, .string (⟨#[]⟩ : ByteArray), .string (⟨#[]⟩ : ByteArray), .string (⟨#[]⟩ : ByteArray), .bool false, .string (⟨#[]⟩ : ByteArray), .string (⟨#[]⟩ : ByteArray), .slice none 0 0, .slice none 0 0, .slice none 0 0, .slice none 0 0]) ?_ 0 _ rfl; (with_reducible repeat (first | refine blk_drewN ?_ _ | refine blk_drew ?_ | refine blk_alloc ?_ _)); exact BK450.out) Try.underlying45 rfl zq18) rfl ?_
    exact ⟨_, _, _, _, zq16, zq22, zq97, zq22, zq22, zq12, zq20, zq19⟩
   ·
    replace c21 := Bool.eq_false_iff.mpr c21
    subst c21
    rw [if_neg (show ¬ (false = true) by decide)] at H
    have H' := za H
    clear H
    have hnb32 := NB449_450.out
    have hnc32 := NB450_449.out
    have hnb33 := NB449_0.out
    have hnc33 := NB0_449.out
    obtain ⟨hcz34_0, hcz34_1, hcz34_2, hcz34_3, hcz34_4, hcz34_5, hcz34_6, hcz34_7, hcz34_8, hcz34_9, hcz34_10, hcz34_11⟩ := zc12 BK449.out
    obtain ⟨hfz34_0, hfz34_1, hfz34_2, hfz34_3, hfz34_4, hfz34_5, hfz34_6, hfz34_7, hfz34_8, hfz34_9, hfz34_10, hfz34_11⟩ := zf12 BK449.out
    go_wp2_with (first | ((with_reducible refine gate_callee (f := 21) rfl ?_); refine goesL_ (some 34) rfl rfl Try.func21 zq18 rfl #[.pointer (some ⟨g, 0, none⟩), .string (⟨#[40]⟩ : ByteArray)] rfl zq1 ?_; (with_reducible refine (rr_want.calls g s0_0 x1001_4 x1002_4 x1003_4 x1004_4 (⟨#[40]⟩ : ByteArray) t468 t469 t470 t471 w0 _ ?side1 ?side2 A19.out).mono ?_); (case side1 => exact zq12); (case side2 => exact zq20); rintro e w35 ⟨rfl, hi, hb, hk⟩; refine ⟨_, rfl, ?_⟩; replace BK449 := za (KeepBut.blk hk (g' := gb449) (o := .cells #[.int .i64 4, .int .i64 a1_1, .string x450002_4, .string x450003_4, .string a1_4, .bool x450005_4, .string x5_4, .string x6_4, .slice none 0 0, .slice none 0 0, .slice none 0 0, .slice none 0 0] 45 (0, 0)) (by (with_reducible repeat (first | refine blk_drewN ?_ _ | refine blk_drew ?_ | refine blk_alloc ?_ _)); refine blk_put (cs := #[.int .i64 4, .int .i64 a1_1, .string x450002_4, .string x450003_4, .string a1_4, .bool x450005_4, .string x5_4, .string a1_7, .slice none 0 0, .slice none 0 0, .slice none 0 0, .slice none 0 0]) ?_ 7 _ rfl; (with_reducible repeat (first | refine blk_drewN ?_ _ | refine blk_drew ?_ | refine blk_alloc ?_ _)); refine blk_put (cs := #[.int .i64 4, .int .i64 a1_1, .string x450002_4, .string x450003_4, .string a1_4, .bool x450005_4, .string a1_6, .string a1_7, .slice none 0 0, .slice none 0 0, .slice none 0 0, .slice none 0 0]) ?_ 6 _ rfl; (with_reducible repeat (first | refine blk_drewN ?_ _ | refine blk_drew ?_ | refine blk_alloc ?_ _)); exact BK449.out) NB449_0.out (by simp)); replace BK450 := za (KeepBut.blk hk (g' := gb450) (o := .cells #[.int .i64 0, .int .i64 0, .string (⟨#[]⟩ : ByteArray), .string (⟨#[]⟩ : ByteArray), .string (⟨#[]⟩ : ByteArray), .bool false, .string (⟨#[]⟩ : ByteArray), .string (⟨#[]⟩ : ByteArray), .slice none 0 0, .slice none 0 0, .slice none 0 0, .slice none 0 0] 45 (0, 0)) zq63 NB450_0.out (by simp)); replace HK := za (KeepBut.trans zq19 hk (.inl rfl)); replace HB := za (hb); replace HI0 := za (hi)) | ((with_reducible refine gate_callee (f := 30) rfl ?_); refine goesL_ (some 36) rfl rfl Try.func30 zq18 rfl #[.pointer (some ⟨g, 0, none⟩), .string (⟨#[41]⟩ : ByteArray)] rfl zq1 ?_; (with_reducible refine (rr_is.calls g s0_0 t468 t469 t470 t471 (⟨#[41]⟩ : ByteArray) false t473 t474 t475 t476 w0 _ ?side1 ?side2 A20.out).mono ?_); (case side1 => exact zq12); (case side2 => exact zq20); rintro e w36 ⟨rfl, hi, hb, hk⟩; refine ⟨_, rfl, ?_⟩; replace BK449 := za (KeepBut.blk hk (g' := gb449) (zb BK449.out) NB449_0.out (by simp)); replace BK450 := za (KeepBut.blk hk (g' := gb450) (zb BK450.out) NB450_0.out (by simp)); replace HK := za (KeepBut.trans zq19 hk (.inl rfl)); replace HB := za (hb); replace HI0 := za (hi)))
    (try simp only [Act.put, List.setIfInBounds_toArray, List.set_cons_zero, List.set_cons_succ])
    go_loopg [] kj4 (fun kq w' => ∃ (x1001_2 : Int) (x1002_2 : Int) (x1003_2 : Int) (x1004_2 : Int) (x450009_2 : List (List (S48))) (u450009 : Value), Aside0 (rr_call.l0 kq s0_0 x1001_2 x1002_2 x1003_2 x1004_2 4 a1_1 x450002_4 x450003_4 a1_4 x450005_4 x5_4 x6_4 x450009_2 = some (r1, r2, r3, r4, r5, r6, r7, r8, r9, r10, r11, r12, r13, r14, r15, r16)) ∧ Aside0 (kq ≤ kj4) ∧ Aside0 (Kd.S (Kd.slice 48 k48) 23 w' w.heap.size (fun _ => True) u450009 x450009_2) ∧ Aside0 (w'.heap[gb449]? = some (.cells #[.int .i64 4, .int .i64 a1_1, .string x450002_4, .string x450003_4, .string a1_4, .bool x450005_4, .string x5_4, .string x6_4, (.slice none 0 0), u450009, (.slice none 0 0), (.slice none 0 0)] 45 (0, 0))) ∧ Aside0 (w'.heap[gb450]? = some (.cells #[.int .i64 0, .int .i64 0, .string (⟨#[]⟩ : ByteArray), .string (⟨#[]⟩ : ByteArray), .string (⟨#[]⟩ : ByteArray), .bool false, .string (⟨#[]⟩ : ByteArray), .string (⟨#[]⟩ : ByteArray), (.slice none 0 0), (.slice none 0 0), (.slice none 0 0), (.slice none 0 0)] 45 (0, 0))) ∧ Aside0 (IsS57 w0 w' g s0_0 x1001_2 x1002_2 x1003_2 x1004_2) ∧ Aside0 (KeepBut w w' g none) ∧ Aside0 (Below w0.heap.size w0 w'))
    case atStart => exact ⟨(t473), (t474), (t475), (t476), (([] : List (List (S48)))), (.slice none 0 0), H', ⟨Nat.le_refl _⟩, ⟨zq97⟩, ⟨zq84⟩, ⟨zq85⟩, ⟨zq12⟩, ⟨zq19⟩, ⟨zq20⟩⟩
    case round =>
     clear H'
     obtain ⟨x1001_2, x1002_2, x1003_2, x1004_2, x450009_2, u450009, HA, HK2, HO_450009, BK449, BK450, HI0, HK, HB⟩ := hrel
     cases gk with
     | zero => exact absurd HA.out (by simp [rr_call.l0])
     | succ k2 =>
      have H := HA.out
      clear HA
      simp only [rr_call.l0] at H
      by_cases c37 : x1003_2 = 0
      ·
       rw [if_pos c37] at H
       have c37b0 := beq_iff_eq.mpr c37
       have c37b1 := bne_eq_false_iff_eq.mpr c37
       clear c37
       replace H := Option.bind_eq_some_iff.mp H
       obtain ⟨⟨t485, t488, t489, t490, t491⟩, A380, H⟩ := H
       (try dsimp only at H)
       have A38 := za A380
       clear A380
       by_cases c39 : x450009_2.length < 5864062014805
       ·
        rw [if_pos c39] at H
        have LMc39 := za c39
        clear c39
        obtain ⟨y492, hy492⟩ : ∃ y_ : List (List (S48)), y_ = (x450009_2 ++ [t485]) := ⟨_, rfl⟩
        replace H : ((rr_take.f s0_0 t488 t489 t490 t491 (⟨#[44]⟩ : ByteArray)).bind fun bt495 => (if bt495.1 = true then (rr_call.l0 k2 s0_0 bt495.2.1 bt495.2.2.1 bt495.2.2.2.1 bt495.2.2.2.2 4 a1_1 x450002_4 x450003_4 a1_4 x450005_4 x5_4 x6_4 y492) else ((rr_want.f s0_0 bt495.2.1 bt495.2.2.1 bt495.2.2.2.1 bt495.2.2.2.2 (⟨#[41]⟩ : ByteArray)).bind fun bt500 => (some (4, a1_1, x450002_4, x450003_4, a1_4, x450005_4, x5_4, x6_4, ([] : List (S48)), y492, ([] : List (S45)), ([] : List (S45)), bt500.1, bt500.2.1, bt500.2.2.1, bt500.2.2.2))))) = some (r1, r2, r3, r4, r5, r6, r7, r8, r9, r10, r11, r12, r13, r14, r15, r16) := by first | (rw [hy492]; with_reducible exact H) | (have H2_ := (Option.bind_some _ _).symm.trans H; rw [hy492]; with_reducible exact H2_) | (have H2_ := (Option.bind_some _ _).symm.trans H; with_reducible exact H2_) | with_reducible exact H | (rw [hy492]; exact H) | exact H
        have Ny492 := za hy492
        clear hy492
        replace H := Option.bind_eq_some_iff.mp H
        obtain ⟨⟨t495, t496, t497, t498, t499⟩, A400, H⟩ := H
        (try dsimp only at H)
        have A40 := za A400
        clear A400
        by_cases c41 : t495 = true
        ·
         subst c41
         rw [if_pos rfl] at H
         have H' := za H
         clear H
         obtain ⟨ASz42_0, cSz42_0, HGz42, hgz42, HSz42_0⟩ := HI0.out
         have hcz42_0 := cellS57_0 HGz42
         have hcz42_1 := cellS57_1 HGz42
         have hcz42_2 := cellS57_2 HGz42
         have hcz42_3 := cellS57_3 HGz42
         have hcz42_4 := cellS57_4 HGz42
         have hfz42_1 := blk_frozen HGz42 1
         have hfz42_2 := blk_frozen HGz42 2
         have hfz42_3 := blk_frozen HGz42 3
         have hfz42_4 := blk_frozen HGz42 4
         clear HGz42 hgz42
         try go_wp2
         replace HO_450009 := za (Kd.S_drew HO_450009.out)
         replace BK449 := za (blk_drew BK449.out)
         replace BK450 := za (blk_drew BK450.out)
         replace HI0 := za (IsS57.drew HI0.out)
         replace HK := za (keep_drew HK.out)
         replace HB := za (below_drew1 HB.out)
         refine start_ (n := 8) (S := fun w' => w'.cell? ⟨gb449, 0, none⟩ = some (.int .i64 4) ∧ w'.cell? ⟨gb449, 1, none⟩ = some (.int .i64 a1_1) ∧ w'.cell? ⟨gb449, 2, none⟩ = some (.string x450002_4) ∧ w'.cell? ⟨gb449, 3, none⟩ = some (.string x450003_4) ∧ w'.cell? ⟨gb449, 4, none⟩ = some (.string a1_4) ∧ w'.cell? ⟨gb449, 5, none⟩ = some (.bool x450005_4) ∧ w'.cell? ⟨gb449, 6, none⟩ = some (.string x5_4) ∧ w'.cell? ⟨gb449, 7, none⟩ = some (.string x6_4) ∧ w'.cell? ⟨gb449, 8, none⟩ = some (.slice none 0 0) ∧ w'.cell? ⟨gb449, 9, none⟩ = some (u450009) ∧ w'.cell? ⟨gb449, 10, none⟩ = some (.slice none 0 0) ∧ w'.cell? ⟨gb449, 11, none⟩ = some (.slice none 0 0)) (ds := [7]) #[false, false, false, false, false, false, false, false] zq18 rfl rfl ⟨(blk_cell BK449.out 0).trans rfl, (blk_cell BK449.out 1).trans rfl, (blk_cell BK449.out 2).trans rfl, (blk_cell BK449.out 3).trans rfl, (blk_cell BK449.out 4).trans rfl, (blk_cell BK449.out 5).trans rfl, (blk_cell BK449.out 6).trans rfl, (blk_cell BK449.out 7).trans rfl, (blk_cell BK449.out 8).trans rfl, (blk_cell BK449.out 9).trans rfl, (blk_cell BK449.out 10).trans rfl, (blk_cell BK449.out 11).trans rfl⟩ (fun hHeld => ?_); refine with_tabW rr_call.tab15 rr_call.bits15 (fun HT_ HW_ => ?_)
         generalize wr.drew = w43 at HO_450009 BK449 BK450 HI0 HK HB hHeld ⊢
         refine pure_ (i := 0) (N := some 43) #[true, false, false, false, false, false, false, false] rfl rfl (any_of HT_.out zq18) (fun _ _ _ h => h) (Or.inl ⟨by rfl, zpv⟩) zpw ?_
         refine pure_ (i := 2) (N := some 45) #[true, false, true, false, false, false, false, false] rfl rfl (any_of HT_.out zq18) (fun _ _ _ h => h) (Or.inl ⟨by rfl, zpv⟩) zpw ?_
         refine take_ (i := 1) (N := some 44) (v := ?_) (a' := ?_) #[true, true, true, false, false, false, false, false] rfl rfl (take_ofW HT_.out HW_.out zq18) (fun _ _ _ h => h) (Or.inl ⟨by rfl, ?_⟩) hHeld ?_ ?_
         rotate_left
         ·
          rintro w' ⟨s0, s1, s2, s3, s4, s5, s6, s7, s8, s9, s10, s11⟩
          go_simp
          with_reducible rfl
         rotate_left
         ·
          simp only [Act.put, List.setIfInBounds_toArray, List.set_cons_zero, List.set_cons_succ, i64_w, i32_w]
          rfl
         refine one_ (i := 3) (N := some 46) #[true, true, true, true, false, false, false, false] rfl rfl (one_of HT_.out zq18) (by decide) (fun K hK => ?_)
         refine goes_ Try.func43 zq18 rfl #[.pointer (some ⟨g, 0, none⟩), .slice none 0 0] (by rfl) rfl rfl zq1 ?_
         refine (rr_expr.calls k2 g s0_0 x1001_2 x1002_2 x1003_2 x1004_2 (fun k_ => some k_ = (.slice none 0 0 : Value).ownBlock) (.slice none 0 0) ([] : List (S48)) t485 t488 t489 t490 t491 w0 _ ?side1 ?side2 ?side3 A38.out).mono ?_
         (case side1 => exact zq12)
         (case side2 => exact zq20)
         (case side3 => exact Kd.R_nil _ _ _ _ _)
         rintro e w44 ⟨v486, rfl, ho0, hi, hb, hkp⟩
         refine ⟨_, rfl, ?_⟩
         replace HO_450009 := za (Kd.S_mono (ok' := fun k_ => some k_ ≠ (v486 : Value).ownBlock) (Kd.S_keptB ((IsS57.apartS HI0.out HO_450009.out (by decide))) hkp (fun k_ hk_ hs_ => Or.elim hs_ (fun hs_ => (fun e_ => by simp [Value.ownBlock] at e_) hs_) (fun e_ => (hk_.2) e_))) (fun k_ hk_ => fun e_ => Or.elim (ho0.1 k_ e_.symm) (fun hs_ => hk_.2.1 (.inl hs_)) (fun hn_ => Nat.not_le.2 hk_.2.2 hn_)))
         replace BK449 := za (blk_kept (zb BK449.out) hkp (fun hs_ => Or.elim hs_ (fun hs_ => (fun e_ => by simp [Value.ownBlock] at e_) hs_) (fun e_ => NB449_0.out e_)))
         replace BK450 := za (blk_kept (zb BK450.out) hkp (fun hs_ => Or.elim hs_ (fun hs_ => (fun e_ => by simp [Value.ownBlock] at e_) hs_) (fun e_ => NB450_0.out e_)))
         replace HI0 := za (hi)
         have HO487 := za (Kd.R_mono (ok' := fun k_ => True) (Kd.R_raise (d := k48) (b := w0.heap.size) (b' := w.heap.size) (fun _ _ _ _ h_ => h_) ho0 (fun k_ e_ => Or.elim (ho0.1 k_ e_) (fun hs_ => (fun e_ => by simp [Value.ownBlock] at e_) hs_) (fun hn_ => Nat.le_trans (keep_size (w := w) (g := g) (row := none) zq19) hn_))) (fun k_ hk_ => trivial))
         replace HK := za (Kept.keepG zq19 hkp (fun k_ hs_ => Or.elim hs_ (fun hs_ => (fun e_ => by simp [Value.ownBlock] at e_) hs_) (fun e_ => .inl e_)))
         replace HB := za (hb)
         obtain ⟨Ao46, co46, eo46⟩ := Kd.R_slice HO487.out
         (first | subst eo46 | (injection eo46 with f1_ f2_ f3_; have f4_ := f1_.symm; have f5_ := f3_.symm; clear f1_ f2_ f3_; subst f4_; subst f5_))
         refine hK.out _ _ ⟨(blk_cell BK449.out 0).trans rfl, (blk_cell BK449.out 1).trans rfl, (blk_cell BK449.out 2).trans rfl, (blk_cell BK449.out 3).trans rfl, (blk_cell BK449.out 4).trans rfl, (blk_cell BK449.out 5).trans rfl, (blk_cell BK449.out 6).trans rfl, (blk_cell BK449.out 7).trans rfl, (blk_cell BK449.out 8).trans rfl, (blk_cell BK449.out 9).trans rfl, (blk_cell BK449.out 10).trans rfl, (blk_cell BK449.out 11).trans rfl⟩ (fun hHeld => ?_)
         clear hK K
         refine norm_ (a' := ?_) ?_ ?_
         rotate_left
         ·
          show Act.put _ (some 46) _ = _
          simp only [Act.put, List.setIfInBounds_toArray, List.set_cons_zero, List.set_cons_succ, i64_w, i32_w]
          rfl
         refine one_ (i := 4) (N := some 47) #[true, true, true, true, true, false, false, false] rfl rfl (one_of HT_.out zq18) (by decide) (fun K hK => ?_)
         refine value_ (w1 := ?_) (v := ?_) (by rfl) rfl ?_ ?_
         rotate_left 2
         ·
          go_simp
          constructor
          ·
           rfl
          ·
           rfl
         refine hK.out _ _ ⟨(blk_cell (blk_alloc BK449.out _) 0).trans rfl, (blk_cell (blk_alloc BK449.out _) 1).trans rfl, (blk_cell (blk_alloc BK449.out _) 2).trans rfl, (blk_cell (blk_alloc BK449.out _) 3).trans rfl, (blk_cell (blk_alloc BK449.out _) 4).trans rfl, (blk_cell (blk_alloc BK449.out _) 5).trans rfl, (blk_cell (blk_alloc BK449.out _) 6).trans rfl, (blk_cell (blk_alloc BK449.out _) 7).trans rfl, (blk_cell (blk_alloc BK449.out _) 8).trans rfl, (blk_cell (blk_alloc BK449.out _) 9).trans rfl, (blk_cell (blk_alloc BK449.out _) 10).trans rfl, (blk_cell (blk_alloc BK449.out _) 11).trans rfl⟩ (fun hHeld => ?_)
         clear hK K
         refine norm_ (a' := ?_) ?_ ?_
         rotate_left
         ·
          show Act.put _ (some 47) _ = _
          simp only [Act.put, List.setIfInBounds_toArray, List.set_cons_zero, List.set_cons_succ, i64_w, i32_w]
          rfl
         refine one_ (i := 5) (N := some 48) #[true, true, true, true, true, true, false, false] rfl rfl (one_of HT_.out zq18) (by decide) (fun K hK => ?_)
         refine Kd.S_append_step (Kd.slice 48 k48) w.heap.size (by rfl) (.tmp 44) (.tmp 47) 43 23 (.slice none 0 0) 24 rfl Try.underlying43 info23 rfl (by decide) (by omega) u450009 x450009_2 t485 [.slice Ao46 t485.length co46] (fun _ => True) (fun k_ => some k_ = (.slice Ao46 t485.length co46 : Value).ownBlock) rfl rfl ?aP (fun k_ hk_ => ((Kd.R_mono (ok' := fun k_ => ((fun _ => True)) k_ ∧ some k_ ≠ (u450009 : Value).ownBlock) (Kd.R_apart' (HO487.out) (Kd.S_typed HO_450009.out) (by decide)) (fun k_ hk => ⟨trivial, hk.2⟩))).1 k_ hk_.symm) ?aF ?aO (Below.refl _ _) ?aS ?aL ?_
         (case aP => exact Kd.M_row (Kd.R_mono (Kd.R_tight rfl (Kd.R_mono (ok' := fun k_ => ((fun _ => True)) k_ ∧ some k_ ≠ (u450009 : Value).ownBlock) (Kd.R_apart' (HO487.out) (Kd.S_typed HO_450009.out) (by decide)) (fun k_ hk => ⟨trivial, hk.2⟩))) (fun _ h_ => h_)))
         (case aF => exact (fun _ _ => trivial))
         (case aO => exact zq94)
         (case aS => exact (keep_size (w := w) (g := g) (row := none) zq19))
         (case aL => have := LMc39.out; omega)
         intro v493 w45 ho hb hg hat
         rw [← Ny492.out] at ho
         replace BK449 := za (blk_grown (g := gb449) (zb BK449.out) hg (Kd.S_ne HO_450009.out BK449.out (by decide)))
         replace BK450 := za (blk_grown (g := gb450) (zb BK450.out) hg (Kd.S_ne HO_450009.out BK450.out (by decide)))
         replace HB := za (below_weaken zq20 HL.out hb)
         replace HI0 := za (IsS57.grown zq12 hg (IsS57.own_neS HI0.out HO_450009.out (by decide)))
         replace HK := za (KeepBut.trans zq19 (KeepBut.of_grown hg g) (Kd.S_base2 HO_450009.out))
         have HO494 := za (ho)
         clear HO_450009 HO487
         clear ho hb hg hat
         obtain ⟨Ao47, co47, eo47⟩ := Kd.S_slice HO494.out
         (first | subst eo47 | (injection eo47 with f1_ f2_ f3_; have f4_ := f1_.symm; have f5_ := f3_.symm; clear f1_ f2_ f3_; subst f4_; subst f5_))
         refine hK.out _ _ ⟨(blk_cell BK449.out 0).trans rfl, (blk_cell BK449.out 1).trans rfl, (blk_cell BK449.out 2).trans rfl, (blk_cell BK449.out 3).trans rfl, (blk_cell BK449.out 4).trans rfl, (blk_cell BK449.out 5).trans rfl, (blk_cell BK449.out 6).trans rfl, (blk_cell BK449.out 7).trans rfl, (blk_cell BK449.out 8).trans rfl, (blk_cell BK449.out 9).trans rfl, (blk_cell BK449.out 10).trans rfl, (blk_cell BK449.out 11).trans rfl⟩ (fun hHeld => ?_)
         clear hK K
         refine norm_ (a' := ?_) ?_ ?_
         rotate_left
         ·
          show Act.put _ (some 48) _ = _
          simp only [Act.put, List.setIfInBounds_toArray, List.set_cons_zero, List.set_cons_succ, i64_w, i32_w]
          rfl
         refine pure_ (i := 6) (N := some 49) #[true, true, true, true, true, true, true, false] rfl rfl (any_of HT_.out zq18) (fun _ _ _ h => h) (Or.inl ⟨by rfl, zpv⟩) zpw ?_
         refine last_ (i := 7) (N := none) #[true, true, true, true, true, true, true, true] rfl rfl (one_of HT_.out zq18) (by decide) (fun K hK => ?_)
         have hs48 : w45.cell? ⟨gb449, 9, none⟩ = some (u450009) := (blk_cell BK449.out 9).trans rfl
         have hfs48 := blk_frozen BK449.out 9
         have hns48_1 := NB450_449.out
         have hms48_1 := NB449_450.out
         refine skip_ (w1 := ?_) (by rfl) rfl ?_ ?_
         rotate_left
         ·
          go_simp
          rfl
         refine hK.out _ _ ?_
         clear hK K
         refine done_ (done_of HT_.out zq18) ?_
         try go_wp2_with (first | ((with_reducible refine gate_callee (f := 24) rfl ?_); refine goesL_ (some 51) rfl rfl Try.func24 zq18 rfl #[.pointer (some ⟨g, 0, none⟩), .string (⟨#[44]⟩ : ByteArray)] rfl zq1 ?_; (with_reducible refine (rr_take.calls g s0_0 t488 t489 t490 t491 (⟨#[44]⟩ : ByteArray) true t496 t497 t498 t499 w0 _ ?side1 ?side2 A40.out).mono ?_); (case side1 => exact zq12); (case side2 => exact zq20); rintro e w49 ⟨rfl, hi, hb, hk⟩; refine ⟨_, rfl, ?_⟩; replace BK450 := za (KeepBut.blk hk (g' := gb450) (o := .cells #[.int .i64 0, .int .i64 0, .string (⟨#[]⟩ : ByteArray), .string (⟨#[]⟩ : ByteArray), .string (⟨#[]⟩ : ByteArray), .bool false, .string (⟨#[]⟩ : ByteArray), .string (⟨#[]⟩ : ByteArray), .slice none 0 0, .slice none 0 0, .slice none 0 0, .slice none 0 0] 45 (0, 0)) zq64 NB450_0.out (by simp)); replace HO494 := za (Kd.S_mono (Kd.S_keep (IsS57.apartS (show IsS57 w0 _ g s0_0 t488 t489 t490 t491 from zq12) (by (with_reducible repeat (first | apply Kd.S_alloc | apply Kd.S_drewN | apply Kd.S_drew)); exact (Kd.S_mono (Kd.S_far (p := ⟨gb449, 9, none⟩) (Kd.S_types HO494.out BK449.out (by decide)) (fun _ hk => hk.2) (.slice Ao47 y492.length co47)) (fun _ h_ => h_.1))) (by decide)) hk (fun _ h => h.2)) (fun _ h => h.1)); replace BK449 := za (KeepBut.blk hk (g' := gb449) (o := .cells #[.int .i64 4, .int .i64 a1_1, .string x450002_4, .string x450003_4, .string a1_4, .bool x450005_4, .string x5_4, .string x6_4, .slice none 0 0, .slice Ao47 y492.length co47, .slice none 0 0, .slice none 0 0] 45 (0, 0)) (by (with_reducible repeat (first | refine blk_drewN ?_ _ | refine blk_drew ?_ | refine blk_alloc ?_ _)); refine blk_put (cs := #[.int .i64 4, .int .i64 a1_1, .string x450002_4, .string x450003_4, .string a1_4, .bool x450005_4, .string x5_4, .string x6_4, .slice none 0 0, u450009, .slice none 0 0, .slice none 0 0]) ?_ 9 _ rfl; (with_reducible repeat (first | refine blk_drewN ?_ _ | refine blk_drew ?_ | refine blk_alloc ?_ _)); exact BK449.out) NB449_0.out (by simp)); replace HK := za (KeepBut.trans zq19 hk (.inl rfl)); replace HB := za (hb); replace HI0 := za (hi)))
         go_roundg k2
         case measure => have := HJ4.out; have := HK2.out; omega
         case rel => exact ⟨(t496), (t497), (t498), (t499), (y492), (.slice Ao47 y492.length co47), H', ⟨by have := HJ4.out; have := HK2.out; omega⟩, ⟨by (with_reducible repeat (first | apply Kd.S_alloc | apply Kd.S_drewN | apply Kd.S_drew)); exact HO494.out⟩, ⟨zq84⟩, ⟨zq85⟩, ⟨zq12⟩, ⟨zq19⟩, ⟨zq20⟩⟩
        ·
         replace c41 := Bool.eq_false_iff.mpr c41
         subst c41
         rw [if_neg (show ¬ (false = true) by decide)] at H
         replace H := Option.bind_eq_some_iff.mp H
         obtain ⟨⟨t500, t501, t502, t503⟩, A500, H⟩ := H
         (try dsimp only at H)
         have A50 := za A500
         clear A500
         simp only [Option.some.injEq, Prod.mk.injEq] at H
         obtain ⟨rfl, rfl, rfl, rfl, rfl, rfl, rfl, rfl, rfl, rfl, rfl, rfl, rfl, rfl, rfl, rfl⟩ := H
         obtain ⟨ASz51_0, cSz51_0, HGz51, hgz51, HSz51_0⟩ := HI0.out
         have hcz51_0 := cellS57_0 HGz51
         have hcz51_1 := cellS57_1 HGz51
         have hcz51_2 := cellS57_2 HGz51
         have hcz51_3 := cellS57_3 HGz51
         have hcz51_4 := cellS57_4 HGz51
         have hfz51_1 := blk_frozen HGz51 1
         have hfz51_2 := blk_frozen HGz51 2
         have hfz51_3 := blk_frozen HGz51 3
         have hfz51_4 := blk_frozen HGz51 4
         clear HGz51 hgz51
         try go_wp2
         replace HO_450009 := za (Kd.S_drew HO_450009.out)
         replace BK449 := za (blk_drew BK449.out)
         replace BK450 := za (blk_drew BK450.out)
         replace HI0 := za (IsS57.drew HI0.out)
         replace HK := za (keep_drew HK.out)
         replace HB := za (below_drew1 HB.out)
         refine start_ (n := 8) (S := fun w' => w'.cell? ⟨gb449, 0, none⟩ = some (.int .i64 4) ∧ w'.cell? ⟨gb449, 1, none⟩ = some (.int .i64 a1_1) ∧ w'.cell? ⟨gb449, 2, none⟩ = some (.string x450002_4) ∧ w'.cell? ⟨gb449, 3, none⟩ = some (.string x450003_4) ∧ w'.cell? ⟨gb449, 4, none⟩ = some (.string a1_4) ∧ w'.cell? ⟨gb449, 5, none⟩ = some (.bool x450005_4) ∧ w'.cell? ⟨gb449, 6, none⟩ = some (.string x5_4) ∧ w'.cell? ⟨gb449, 7, none⟩ = some (.string x6_4) ∧ w'.cell? ⟨gb449, 8, none⟩ = some (.slice none 0 0) ∧ w'.cell? ⟨gb449, 9, none⟩ = some (u450009) ∧ w'.cell? ⟨gb449, 10, none⟩ = some (.slice none 0 0) ∧ w'.cell? ⟨gb449, 11, none⟩ = some (.slice none 0 0)) (ds := [7]) #[false, false, false, false, false, false, false, false] zq18 rfl rfl ⟨(blk_cell BK449.out 0).trans rfl, (blk_cell BK449.out 1).trans rfl, (blk_cell BK449.out 2).trans rfl, (blk_cell BK449.out 3).trans rfl, (blk_cell BK449.out 4).trans rfl, (blk_cell BK449.out 5).trans rfl, (blk_cell BK449.out 6).trans rfl, (blk_cell BK449.out 7).trans rfl, (blk_cell BK449.out 8).trans rfl, (blk_cell BK449.out 9).trans rfl, (blk_cell BK449.out 10).trans rfl, (blk_cell BK449.out 11).trans rfl⟩ (fun hHeld => ?_); refine with_tabW rr_call.tab15 rr_call.bits15 (fun HT_ HW_ => ?_)
         generalize wr.drew = w52 at HO_450009 BK449 BK450 HI0 HK HB hHeld ⊢
         refine pure_ (i := 0) (N := some 43) #[true, false, false, false, false, false, false, false] rfl rfl (any_of HT_.out zq18) (fun _ _ _ h => h) (Or.inl ⟨by rfl, zpv⟩) zpw ?_
         refine pure_ (i := 2) (N := some 45) #[true, false, true, false, false, false, false, false] rfl rfl (any_of HT_.out zq18) (fun _ _ _ h => h) (Or.inl ⟨by rfl, zpv⟩) zpw ?_
         refine take_ (i := 1) (N := some 44) (v := ?_) (a' := ?_) #[true, true, true, false, false, false, false, false] rfl rfl (take_ofW HT_.out HW_.out zq18) (fun _ _ _ h => h) (Or.inl ⟨by rfl, ?_⟩) hHeld ?_ ?_
         rotate_left
         ·
          rintro w' ⟨s0, s1, s2, s3, s4, s5, s6, s7, s8, s9, s10, s11⟩
          go_simp
          with_reducible rfl
         rotate_left
         ·
          simp only [Act.put, List.setIfInBounds_toArray, List.set_cons_zero, List.set_cons_succ, i64_w, i32_w]
          rfl
         refine one_ (i := 3) (N := some 46) #[true, true, true, true, false, false, false, false] rfl rfl (one_of HT_.out zq18) (by decide) (fun K hK => ?_)
         refine goes_ Try.func43 zq18 rfl #[.pointer (some ⟨g, 0, none⟩), .slice none 0 0] (by rfl) rfl rfl zq1 ?_
         refine (rr_expr.calls k2 g s0_0 x1001_2 x1002_2 x1003_2 x1004_2 (fun k_ => some k_ = (.slice none 0 0 : Value).ownBlock) (.slice none 0 0) ([] : List (S48)) t485 t488 t489 t490 t491 w0 _ ?side1 ?side2 ?side3 A38.out).mono ?_
         (case side1 => exact zq12)
         (case side2 => exact zq20)
         (case side3 => exact Kd.R_nil _ _ _ _ _)
         rintro e w53 ⟨v486, rfl, ho0, hi, hb, hkp⟩
         refine ⟨_, rfl, ?_⟩
         replace HO_450009 := za (Kd.S_mono (ok' := fun k_ => some k_ ≠ (v486 : Value).ownBlock) (Kd.S_keptB ((IsS57.apartS HI0.out HO_450009.out (by decide))) hkp (fun k_ hk_ hs_ => Or.elim hs_ (fun hs_ => (fun e_ => by simp [Value.ownBlock] at e_) hs_) (fun e_ => (hk_.2) e_))) (fun k_ hk_ => fun e_ => Or.elim (ho0.1 k_ e_.symm) (fun hs_ => hk_.2.1 (.inl hs_)) (fun hn_ => Nat.not_le.2 hk_.2.2 hn_)))
         replace BK449 := za (blk_kept (zb BK449.out) hkp (fun hs_ => Or.elim hs_ (fun hs_ => (fun e_ => by simp [Value.ownBlock] at e_) hs_) (fun e_ => NB449_0.out e_)))
         replace BK450 := za (blk_kept (zb BK450.out) hkp (fun hs_ => Or.elim hs_ (fun hs_ => (fun e_ => by simp [Value.ownBlock] at e_) hs_) (fun e_ => NB450_0.out e_)))
         replace HI0 := za (hi)
         have HO487 := za (Kd.R_mono (ok' := fun k_ => True) (Kd.R_raise (d := k48) (b := w0.heap.size) (b' := w.heap.size) (fun _ _ _ _ h_ => h_) ho0 (fun k_ e_ => Or.elim (ho0.1 k_ e_) (fun hs_ => (fun e_ => by simp [Value.ownBlock] at e_) hs_) (fun hn_ => Nat.le_trans (keep_size (w := w) (g := g) (row := none) zq19) hn_))) (fun k_ hk_ => trivial))
         replace HK := za (Kept.keepG zq19 hkp (fun k_ hs_ => Or.elim hs_ (fun hs_ => (fun e_ => by simp [Value.ownBlock] at e_) hs_) (fun e_ => .inl e_)))
         replace HB := za (hb)
         obtain ⟨Ao55, co55, eo55⟩ := Kd.R_slice HO487.out
         (first | subst eo55 | (injection eo55 with f1_ f2_ f3_; have f4_ := f1_.symm; have f5_ := f3_.symm; clear f1_ f2_ f3_; subst f4_; subst f5_))
         refine hK.out _ _ ⟨(blk_cell BK449.out 0).trans rfl, (blk_cell BK449.out 1).trans rfl, (blk_cell BK449.out 2).trans rfl, (blk_cell BK449.out 3).trans rfl, (blk_cell BK449.out 4).trans rfl, (blk_cell BK449.out 5).trans rfl, (blk_cell BK449.out 6).trans rfl, (blk_cell BK449.out 7).trans rfl, (blk_cell BK449.out 8).trans rfl, (blk_cell BK449.out 9).trans rfl, (blk_cell BK449.out 10).trans rfl, (blk_cell BK449.out 11).trans rfl⟩ (fun hHeld => ?_)
         clear hK K
         refine norm_ (a' := ?_) ?_ ?_
         rotate_left
         ·
          show Act.put _ (some 46) _ = _
          simp only [Act.put, List.setIfInBounds_toArray, List.set_cons_zero, List.set_cons_succ, i64_w, i32_w]
          rfl
         refine one_ (i := 4) (N := some 47) #[true, true, true, true, true, false, false, false] rfl rfl (one_of HT_.out zq18) (by decide) (fun K hK => ?_)
         refine value_ (w1 := ?_) (v := ?_) (by rfl) rfl ?_ ?_
         rotate_left 2
         ·
          go_simp
          constructor
          ·
           rfl
          ·
           rfl
         refine hK.out _ _ ⟨(blk_cell (blk_alloc BK449.out _) 0).trans rfl, (blk_cell (blk_alloc BK449.out _) 1).trans rfl, (blk_cell (blk_alloc BK449.out _) 2).trans rfl, (blk_cell (blk_alloc BK449.out _) 3).trans rfl, (blk_cell (blk_alloc BK449.out _) 4).trans rfl, (blk_cell (blk_alloc BK449.out _) 5).trans rfl, (blk_cell (blk_alloc BK449.out _) 6).trans rfl, (blk_cell (blk_alloc BK449.out _) 7).trans rfl, (blk_cell (blk_alloc BK449.out _) 8).trans rfl, (blk_cell (blk_alloc BK449.out _) 9).trans rfl, (blk_cell (blk_alloc BK449.out _) 10).trans rfl, (blk_cell (blk_alloc BK449.out _) 11).trans rfl⟩ (fun hHeld => ?_)
         clear hK K
         refine norm_ (a' := ?_) ?_ ?_
         rotate_left
         ·
          show Act.put _ (some 47) _ = _
          simp only [Act.put, List.setIfInBounds_toArray, List.set_cons_zero, List.set_cons_succ, i64_w, i32_w]
          rfl
         refine one_ (i := 5) (N := some 48) #[true, true, true, true, true, true, false, false] rfl rfl (one_of HT_.out zq18) (by decide) (fun K hK => ?_)
         refine Kd.S_append_step (Kd.slice 48 k48) w.heap.size (by rfl) (.tmp 44) (.tmp 47) 43 23 (.slice none 0 0) 24 rfl Try.underlying43 info23 rfl (by decide) (by omega) u450009 x450009_2 t485 [.slice Ao55 t485.length co55] (fun _ => True) (fun k_ => some k_ = (.slice Ao55 t485.length co55 : Value).ownBlock) rfl rfl ?aP (fun k_ hk_ => ((Kd.R_mono (ok' := fun k_ => ((fun _ => True)) k_ ∧ some k_ ≠ (u450009 : Value).ownBlock) (Kd.R_apart' (HO487.out) (Kd.S_typed HO_450009.out) (by decide)) (fun k_ hk => ⟨trivial, hk.2⟩))).1 k_ hk_.symm) ?aF ?aO (Below.refl _ _) ?aS ?aL ?_
         (case aP => exact Kd.M_row (Kd.R_mono (Kd.R_tight rfl (Kd.R_mono (ok' := fun k_ => ((fun _ => True)) k_ ∧ some k_ ≠ (u450009 : Value).ownBlock) (Kd.R_apart' (HO487.out) (Kd.S_typed HO_450009.out) (by decide)) (fun k_ hk => ⟨trivial, hk.2⟩))) (fun _ h_ => h_)))
         (case aF => exact (fun _ _ => trivial))
         (case aO => exact zq94)
         (case aS => exact (keep_size (w := w) (g := g) (row := none) zq19))
         (case aL => have := LMc39.out; omega)
         intro v493 w54 ho hb hg hat
         rw [← Ny492.out] at ho
         replace BK449 := za (blk_grown (g := gb449) (zb BK449.out) hg (Kd.S_ne HO_450009.out BK449.out (by decide)))
         replace BK450 := za (blk_grown (g := gb450) (zb BK450.out) hg (Kd.S_ne HO_450009.out BK450.out (by decide)))
         replace HB := za (below_weaken zq20 HL.out hb)
         replace HI0 := za (IsS57.grown zq12 hg (IsS57.own_neS HI0.out HO_450009.out (by decide)))
         replace HK := za (KeepBut.trans zq19 (KeepBut.of_grown hg g) (Kd.S_base2 HO_450009.out))
         have HO494 := za (ho)
         clear HO_450009 HO487
         clear ho hb hg hat
         obtain ⟨Ao56, co56, eo56⟩ := Kd.S_slice HO494.out
         (first | subst eo56 | (injection eo56 with f1_ f2_ f3_; have f4_ := f1_.symm; have f5_ := f3_.symm; clear f1_ f2_ f3_; subst f4_; subst f5_))
         refine hK.out _ _ ⟨(blk_cell BK449.out 0).trans rfl, (blk_cell BK449.out 1).trans rfl, (blk_cell BK449.out 2).trans rfl, (blk_cell BK449.out 3).trans rfl, (blk_cell BK449.out 4).trans rfl, (blk_cell BK449.out 5).trans rfl, (blk_cell BK449.out 6).trans rfl, (blk_cell BK449.out 7).trans rfl, (blk_cell BK449.out 8).trans rfl, (blk_cell BK449.out 9).trans rfl, (blk_cell BK449.out 10).trans rfl, (blk_cell BK449.out 11).trans rfl⟩ (fun hHeld => ?_)
         clear hK K
         refine norm_ (a' := ?_) ?_ ?_
         rotate_left
         ·
          show Act.put _ (some 48) _ = _
          simp only [Act.put, List.setIfInBounds_toArray, List.set_cons_zero, List.set_cons_succ, i64_w, i32_w]
          rfl
         refine pure_ (i := 6) (N := some 49) #[true, true, true, true, true, true, true, false] rfl rfl (any_of HT_.out zq18) (fun _ _ _ h => h) (Or.inl ⟨by rfl, zpv⟩) zpw ?_
         refine last_ (i := 7) (N := none) #[true, true, true, true, true, true, true, true] rfl rfl (one_of HT_.out zq18) (by decide) (fun K hK => ?_)
         have hs57 : w54.cell? ⟨gb449, 9, none⟩ = some (u450009) := (blk_cell BK449.out 9).trans rfl
         have hfs57 := blk_frozen BK449.out 9
         have hns57_1 := NB450_449.out
         have hms57_1 := NB449_450.out
         refine skip_ (w1 := ?_) (by rfl) rfl ?_ ?_
         rotate_left
         ·
          go_simp
          rfl
         refine hK.out _ _ ?_
         clear hK K
         refine done_ (done_of HT_.out zq18) ?_
         try go_wp2_with (first | ((with_reducible refine gate_callee (f := 24) rfl ?_); refine goesL_ (some 51) rfl rfl Try.func24 zq18 rfl #[.pointer (some ⟨g, 0, none⟩), .string (⟨#[44]⟩ : ByteArray)] rfl zq1 ?_; (with_reducible refine (rr_take.calls g s0_0 t488 t489 t490 t491 (⟨#[44]⟩ : ByteArray) false t496 t497 t498 t499 w0 _ ?side1 ?side2 A40.out).mono ?_); (case side1 => exact zq12); (case side2 => exact zq20); rintro e w58 ⟨rfl, hi, hb, hk⟩; refine ⟨_, rfl, ?_⟩; replace BK450 := za (KeepBut.blk hk (g' := gb450) (o := .cells #[.int .i64 0, .int .i64 0, .string (⟨#[]⟩ : ByteArray), .string (⟨#[]⟩ : ByteArray), .string (⟨#[]⟩ : ByteArray), .bool false, .string (⟨#[]⟩ : ByteArray), .string (⟨#[]⟩ : ByteArray), .slice none 0 0, .slice none 0 0, .slice none 0 0, .slice none 0 0] 45 (0, 0)) zq64 NB450_0.out (by simp)); replace HO494 := za (Kd.S_mono (Kd.S_keep (IsS57.apartS (show IsS57 w0 _ g s0_0 t488 t489 t490 t491 from zq12) (by (with_reducible repeat (first | apply Kd.S_alloc | apply Kd.S_drewN | apply Kd.S_drew)); exact (Kd.S_mono (Kd.S_far (p := ⟨gb449, 9, none⟩) (Kd.S_types HO494.out BK449.out (by decide)) (fun _ hk => hk.2) (.slice Ao56 y492.length co56)) (fun _ h_ => h_.1))) (by decide)) hk (fun _ h => h.2)) (fun _ h => h.1)); replace BK449 := za (KeepBut.blk hk (g' := gb449) (o := .cells #[.int .i64 4, .int .i64 a1_1, .string x450002_4, .string x450003_4, .string a1_4, .bool x450005_4, .string x5_4, .string x6_4, .slice none 0 0, .slice Ao56 y492.length co56, .slice none 0 0, .slice none 0 0] 45 (0, 0)) (by (with_reducible repeat (first | refine blk_drewN ?_ _ | refine blk_drew ?_ | refine blk_alloc ?_ _)); refine blk_put (cs := #[.int .i64 4, .int .i64 a1_1, .string x450002_4, .string x450003_4, .string a1_4, .bool x450005_4, .string x5_4, .string x6_4, .slice none 0 0, u450009, .slice none 0 0, .slice none 0 0]) ?_ 9 _ rfl; (with_reducible repeat (first | refine blk_drewN ?_ _ | refine blk_drew ?_ | refine blk_alloc ?_ _)); exact BK449.out) NB449_0.out (by simp)); replace HK := za (KeepBut.trans zq19 hk (.inl rfl)); replace HB := za (hb); replace HI0 := za (hi)) | ((with_reducible refine gate_callee (f := 21) rfl ?_); refine goesL_ (some 54) rfl rfl Try.func21 zq18 rfl #[.pointer (some ⟨g, 0, none⟩), .string (⟨#[41]⟩ : ByteArray)] rfl zq1 ?_; (with_reducible refine (rr_want.calls g s0_0 t496 t497 t498 t499 (⟨#[41]⟩ : ByteArray) t500 t501 t502 t503 w0 _ ?side1 ?side2 A50.out).mono ?_); (case side1 => exact zq12); (case side2 => exact zq20); rintro e w59 ⟨rfl, hi, hb, hk⟩; refine ⟨_, rfl, ?_⟩; replace BK449 := za (KeepBut.blk hk (g' := gb449) (zb BK449.out) NB449_0.out (by simp)); replace BK450 := za (KeepBut.blk hk (g' := gb450) (zb BK450.out) NB450_0.out (by simp)); replace HO494 := za (Kd.S_mono (Kd.S_keep (IsS57.apartS (show IsS57 w0 _ g s0_0 t496 t497 t498 t499 from zq12) (by (with_reducible repeat (first | apply Kd.S_alloc | apply Kd.S_drewN | apply Kd.S_drew)); exact HO494.out) (by decide)) hk (fun _ h => h.2)) (fun _ h => h.1)); replace HK := za (KeepBut.trans zq19 hk (.inl rfl)); replace HB := za (hb); replace HI0 := za (hi); (try clear hb hk hi); have hnb60 := NB449_450.out; have hnc60 := NB450_449.out; have hnb61 := NB449_0.out; have hnc61 := NB0_449.out; obtain ⟨hcz62_0, hcz62_1, hcz62_2, hcz62_3, hcz62_4, hcz62_5, hcz62_6, hcz62_7, hcz62_8, hcz62_9, hcz62_10, hcz62_11⟩ := zc12 BK449.out; obtain ⟨hfz62_0, hfz62_1, hfz62_2, hfz62_3, hfz62_4, hfz62_5, hfz62_6, hfz62_7, hfz62_8, hfz62_9, hfz62_10, hfz62_11⟩ := zf12 BK449.out; have hnb63 := NB450_0.out; have hnc63 := NB0_450.out; obtain ⟨hcz64_0, hcz64_1, hcz64_2, hcz64_3, hcz64_4, hcz64_5, hcz64_6, hcz64_7, hcz64_8, hcz64_9, hcz64_10, hcz64_11⟩ := zc12 BK450.out; obtain ⟨hfz64_0, hfz64_1, hfz64_2, hfz64_3, hfz64_4, hfz64_5, hfz64_6, hfz64_7, hfz64_8, hfz64_9, hfz64_10⟩ := zf11 BK450.out; have hfz64_11 := blk_frozen BK450.out 11))
         refine bodyPost_ret (results_cell_row rfl _ _ gb450 45 #[.int .i64 4, .int .i64 a1_1, .string x450002_4, .string x450003_4, .string a1_4, .bool x450005_4, .string x5_4, .string x6_4, .slice none 0 0, .slice Ao56 y492.length co56, .slice none 0 0, .slice none 0 0] (0, 0) _ rfl (by (with_reducible repeat (first | refine blk_drewN ?_ _ | refine blk_drew ?_ | refine blk_alloc ?_ _)); refine blk_put (cs := #[.int .i64 4, .int .i64 a1_1, .string x450002_4, .string x450003_4, .string a1_4, .bool x450005_4, .string x5_4, .string x6_4, .slice none 0 0, .slice Ao56 y492.length co56, .slice none 0 0, .slice none 0 0]) ?_ 11 _ rfl; (with_reducible repeat (first | refine blk_drewN ?_ _ | refine blk_drew ?_ | refine blk_alloc ?_ _)); refine blk_put (cs := #[.int .i64 4, .int .i64 a1_1, .string x450002_4, .string x450003_4, .string a1_4, .bool x450005_4, .string x5_4, .string x6_4, .slice none 0 0, .slice Ao56 y492.length co56, .slice none 0 0, .slice none 0 0]) ?_ 10 _ rfl; (with_reducible repeat (first | refine blk_drewN ?_ _ | refine blk_drew ?_ | refine blk_alloc ?_ _)); refine blk_put (cs := #[.int .i64 4, .int .i64 a1_1, .string x450002_4, .string x450003_4, .string a1_4, .bool x450005_4, .string x5_4, .string x6_4, .slice none 0 0, .slice none 0 0, .slice none 0 0, .slice none 0 0]) ?_ 9 _ rfl; (with_reducible repeat (first | refine blk_drewN ?_ _ | refine blk_drew ?_ | refine blk_alloc ?_ _)); refine blk_put (cs := #[.int .i64 4, .int .i64 a1_1, .string x450002_4, .string x450003_4, .string a1_4, .bool x450005_4, .string x5_4, .string x6_4, .slice none 0 0, .slice none 0 0, .slice none 0 0, .slice none 0 0]) ?_ 8 _ rfl; (with_reducible repeat (first | refine blk_drewN ?_ _ | refine blk_drew ?_ | refine blk_alloc ?_ _)); refine blk_put (cs := #[.int .i64 4, .int .i64 a1_1, .string x450002_4, .string x450003_4, .string a1_4, .bool x450005_4, .string x5_4, .string (⟨#[]⟩ : ByteArray), .slice none 0 0, .slice none 0 0, .slice none 0 0, .slice none 0 0]) ?_ 7 _ rfl; (with_reducible repeat (first | refine blk_drewN ?_ _ | refine blk_drew ?_ | refine blk_alloc ?_ _)); refine blk_put (cs := #[.int .i64 4, .int .i64 a1_1, .string x450002_4, .string x450003_4, .string a1_4, .bool x450005_4, .string (⟨#[]⟩ : ByteArray), .string (⟨#[]⟩ : ByteArray), .slice none 0 0, .slice none 0 0, .slice none 0 0, .slice none 0 0]) ?_ 6 _ rfl; (with_reducible repeat (first | refine blk_drewN ?_ _ | refine blk_drew ?_ | refine blk_alloc ?_ _)); refine blk_put (cs := #[.int .i64 4, .int .i64 a1_1, .string x450002_4, .string x450003_4, .string a1_4, .bool false, .string (⟨#[]⟩ : ByteArray), .string (⟨#[]⟩ : ByteArray), .slice none 0 0, .slice none 0 0, .slice none 0 0, .slice none 0 0]) ?_ 5 _ rfl; (with_reducible repeat (first | refine blk_drewN ?_ _ | refine blk_drew ?_ | refine blk_alloc ?_ _)); refine blk_put (cs := #[.int .i64 4, .int .i64 a1_1, .string x450002_4, .string x450003_4, .string (⟨#[]⟩ : ByteArray), .bool false, .string (⟨#[]⟩ : ByteArray), .string (⟨#[]⟩ : ByteArray), .slice none 0 0, .slice none 0 0, .slice none 0 0, .slice none 0 0]) ?_ 4 _ rfl; (with_reducible repeat (first | refine blk_drewN ?_ _ | refine blk_drew ?_ | refine blk_alloc ?_ _)); refine blk_put (cs := #[.int .i64 4, .int .i64 a1_1, .string x450002_4, .string (⟨#[]⟩ : ByteArray), .string (⟨#[]⟩ : ByteArray), .bool false, .string (⟨#[]⟩ : ByteArray), .string (⟨#[]⟩ : ByteArray), .slice none 0 0, .slice none 0 0, .slice none 0 0, .slice none 0 0]) ?_ 3 _ rfl; (with_reducible repeat (first | refine blk_drewN ?_ _ | refine blk_drew ?_ | refine blk_alloc ?_ _)); refine blk_put (cs := #[.int .i64 4, .int .i64 a1_1, .string (⟨#[]⟩ : ByteArray), .string (⟨#[]⟩ : ByteArray), .string (⟨#[]⟩ : ByteArray), .bool false, .string (⟨#[]⟩ : ByteArray), .string (⟨#[]⟩ : ByteArray), .slice none 0 0, .slice none 0 0, .slice none 0 0, .slice none 0 0]) ?_ 2 _ rfl; (with_reducible repeat (first | refine blk_drewN ?_ _ | refine blk_drew ?_ | refine blk_alloc ?_ _)); refine blk_put (cs := #[.int .i64 4, .int .i64 0, .string (⟨#[]⟩ : ByteArray), .string (⟨#[]⟩ : ByteArray), .string (⟨#[]⟩ : ByteArray), .bool false, .string (⟨#[]⟩ : ByteArray), .string (⟨#[]⟩ : ByteArray), .slice none 0 0, .slice none 0 0, .slice none 0 0, .slice none 0 0]) ?_ 1 _ rfl; (with_reducible repeat (first | refine blk_drewN ?_ _ | refine blk_drew ?_ | refine blk_alloc ?_ _)); refine blk_put (cs := #[.int .i64 0, .int .i64 0, .string (⟨#[]⟩ : ByteArray), .string (⟨#[]⟩ : ByteArray), .string (⟨#[]⟩ : ByteArray), .bool false, .string (⟨#[]⟩ : ByteArray), .string (⟨#[]⟩ : ByteArray), .slice none 0 0, .slice none 0 0, .slice none 0 0, .slice none 0 0]) ?_ 0 _ rfl; (with_reducible repeat (first | refine blk_drewN ?_ _ | refine blk_drew ?_ | refine blk_alloc ?_ _)); exact BK450.out) Try.underlying45 rfl zq18) rfl ?_
         exact ⟨_, _, _, _, zq16, zq22, by (with_reducible repeat (first | apply Kd.S_alloc | apply Kd.S_drewN | apply Kd.S_drew)); exact Kd.S_mono (Kd.S_far (p := ⟨gb450, 11, none⟩) (Kd.S_far (p := ⟨gb450, 10, none⟩) (Kd.S_far (p := ⟨gb450, 9, none⟩) (Kd.S_far (p := ⟨gb450, 8, none⟩) (Kd.S_far (p := ⟨gb450, 7, none⟩) (Kd.S_far (p := ⟨gb450, 6, none⟩) (Kd.S_far (p := ⟨gb450, 5, none⟩) (Kd.S_far (p := ⟨gb450, 4, none⟩) (Kd.S_far (p := ⟨gb450, 3, none⟩) (Kd.S_far (p := ⟨gb450, 2, none⟩) (Kd.S_far (p := ⟨gb450, 1, none⟩) (Kd.S_far (p := ⟨gb450, 0, none⟩) (Kd.S_types HO494.out BK450.out (by decide)) (fun _ hk => hk.2) (.int .i64 4)) (fun _ hk => hk.2) (.int .i64 a1_1)) (fun _ hk => hk.2) (.string x450002_4)) (fun _ hk => hk.2) (.string x450003_4)) (fun _ hk => hk.2) (.string a1_4)) (fun _ hk => hk.2) (.bool x450005_4)) (fun _ hk => hk.2) (.string x5_4)) (fun _ hk => hk.2) (.string x6_4)) (fun _ hk => hk.2) (.slice none 0 0)) (fun _ hk => hk.2) (.slice Ao56 y492.length co56)) (fun _ hk => hk.2) (.slice none 0 0)) (fun _ hk => hk.2) (.slice none 0 0)) (fun _ hk => zq102), zq22, zq22, zq12, zq20, zq19⟩
       ·
        rw [if_neg c39] at H
        exact absurd H (by simp)
      ·
       rw [if_neg c37] at H
       have c37b0 := beq_eq_false_iff_ne.mpr c37
       have c37b1 := bne_iff_ne.mpr c37
       replace H := Option.bind_eq_some_iff.mp H
       obtain ⟨⟨t481, t482, t483, t484⟩, A650, H⟩ := H
       (try dsimp only at H)
       have A65 := za A650
       clear A650
       simp only [Option.some.injEq, Prod.mk.injEq] at H
       obtain ⟨rfl, rfl, rfl, rfl, rfl, rfl, rfl, rfl, rfl, rfl, rfl, rfl, rfl, rfl, rfl, rfl⟩ := H
       obtain ⟨ASz66_0, cSz66_0, HGz66, hgz66, HSz66_0⟩ := HI0.out
       have hcz66_0 := cellS57_0 HGz66
       have hcz66_1 := cellS57_1 HGz66
       have hcz66_2 := cellS57_2 HGz66
       have hcz66_3 := cellS57_3 HGz66
       have hcz66_4 := cellS57_4 HGz66
       have hfz66_1 := blk_frozen HGz66 1
       have hfz66_2 := blk_frozen HGz66 2
       have hfz66_3 := blk_frozen HGz66 3
       have hfz66_4 := blk_frozen HGz66 4
       clear HGz66 hgz66
       go_wp2_with (first | ((with_reducible refine gate_callee (f := 21) rfl ?_); refine goesL_ (some 54) rfl rfl Try.func21 zq18 rfl #[.pointer (some ⟨g, 0, none⟩), .string (⟨#[41]⟩ : ByteArray)] rfl zq1 ?_; (with_reducible refine (rr_want.calls g s0_0 x1001_2 x1002_2 x1003_2 x1004_2 (⟨#[41]⟩ : ByteArray) t481 t482 t483 t484 w0 _ ?side1 ?side2 A65.out).mono ?_); (case side1 => exact zq12); (case side2 => exact zq20); rintro e w67 ⟨rfl, hi, hb, hk⟩; refine ⟨_, rfl, ?_⟩; replace HO_450009 := za (Kd.S_mono (Kd.S_keep (IsS57.apartS (show IsS57 w0 _ g s0_0 x1001_2 x1002_2 x1003_2 x1004_2 from zq12) (by (with_reducible repeat (first | apply Kd.S_alloc | apply Kd.S_drewN | apply Kd.S_drew)); exact HO_450009.out) (by decide)) hk (fun _ h => h.2)) (fun _ h => h.1)); replace BK449 := za (KeepBut.blk hk (g' := gb449) (zb BK449.out) NB449_0.out (by simp)); replace BK450 := za (KeepBut.blk hk (g' := gb450) (zb BK450.out) NB450_0.out (by simp)); replace HK := za (KeepBut.trans zq19 hk (.inl rfl)); replace HB := za (hb); replace HI0 := za (hi); (try clear hb hk hi); have hnb68 := NB449_450.out; have hnc68 := NB450_449.out; have hnb69 := NB449_0.out; have hnc69 := NB0_449.out; obtain ⟨hcz70_0, hcz70_1, hcz70_2, hcz70_3, hcz70_4, hcz70_5, hcz70_6, hcz70_7, hcz70_8, hcz70_9, hcz70_10, hcz70_11⟩ := zc12 BK449.out; obtain ⟨hfz70_0, hfz70_1, hfz70_2, hfz70_3, hfz70_4, hfz70_5, hfz70_6, hfz70_7, hfz70_8, hfz70_9, hfz70_10, hfz70_11⟩ := zf12 BK449.out; have hnb71 := NB450_0.out; have hnc71 := NB0_450.out; obtain ⟨hcz72_0, hcz72_1, hcz72_2, hcz72_3, hcz72_4, hcz72_5, hcz72_6, hcz72_7, hcz72_8, hcz72_9, hcz72_10, hcz72_11⟩ := zc12 BK450.out; obtain ⟨hfz72_0, hfz72_1, hfz72_2, hfz72_3, hfz72_4, hfz72_5, hfz72_6, hfz72_7, hfz72_8, hfz72_9, hfz72_10, hfz72_11⟩ := zf12 BK450.out; obtain ⟨Ao73, co73, eo73⟩ := Kd.S_slice HO_450009.out; subst eo73))
       refine bodyPost_ret (results_cell_row rfl _ _ gb450 45 #[.int .i64 4, .int .i64 a1_1, .string x450002_4, .string x450003_4, .string a1_4, .bool x450005_4, .string x5_4, .string x6_4, .slice none 0 0, .slice Ao73 x450009_2.length co73, .slice none 0 0, .slice none 0 0] (0, 0) _ rfl (by (with_reducible repeat (first | refine blk_drewN ?_ _ | refine blk_drew ?_ | refine blk_alloc ?_ _)); refine blk_put (cs := #[.int .i64 4, .int .i64 a1_1, .string x450002_4, .string x450003_4, .string a1_4, .bool x450005_4, .string x5_4, .string x6_4, .slice none 0 0, .slice Ao73 x450009_2.length co73, .slice none 0 0, .slice none 0 0]) ?_ 11 _ rfl; (with_reducible repeat (first | refine blk_drewN ?_ _ | refine blk_drew ?_ | refine blk_alloc ?_ _)); refine blk_put (cs := #[.int .i64 4, .int .i64 a1_1, .string x450002_4, .string x450003_4, .string a1_4, .bool x450005_4, .string x5_4, .string x6_4, .slice none 0 0, .slice Ao73 x450009_2.length co73, .slice none 0 0, .slice none 0 0]) ?_ 10 _ rfl; (with_reducible repeat (first | refine blk_drewN ?_ _ | refine blk_drew ?_ | refine blk_alloc ?_ _)); refine blk_put (cs := #[.int .i64 4, .int .i64 a1_1, .string x450002_4, .string x450003_4, .string a1_4, .bool x450005_4, .string x5_4, .string x6_4, .slice none 0 0, .slice none 0 0, .slice none 0 0, .slice none 0 0]) ?_ 9 _ rfl; (with_reducible repeat (first | refine blk_drewN ?_ _ | refine blk_drew ?_ | refine blk_alloc ?_ _)); refine blk_put (cs := #[.int .i64 4, .int .i64 a1_1, .string x450002_4, .string x450003_4, .string a1_4, .bool x450005_4, .string x5_4, .string x6_4, .slice none 0 0, .slice none 0 0, .slice none 0 0, .slice none 0 0]) ?_ 8 _ rfl; (with_reducible repeat (first | refine blk_drewN ?_ _ | refine blk_drew ?_ | refine blk_alloc ?_ _)); refine blk_put (cs := #[.int .i64 4, .int .i64 a1_1, .string x450002_4, .string x450003_4, .string a1_4, .bool x450005_4, .string x5_4, .string (⟨#[]⟩ : ByteArray), .slice none 0 0, .slice none 0 0, .slice none 0 0, .slice none 0 0]) ?_ 7 _ rfl; (with_reducible repeat (first | refine blk_drewN ?_ _ | refine blk_drew ?_ | refine blk_alloc ?_ _)); refine blk_put (cs := #[.int .i64 4, .int .i64 a1_1, .string x450002_4, .string x450003_4, .string a1_4, .bool x450005_4, .string (⟨#[]⟩ : ByteArray), .string (⟨#[]⟩ : ByteArray), .slice none 0 0, .slice none 0 0, .slice none 0 0, .slice none 0 0]) ?_ 6 _ rfl; (with_reducible repeat (first | refine blk_drewN ?_ _ | refine blk_drew ?_ | refine blk_alloc ?_ _)); refine blk_put (cs := #[.int .i64 4, .int .i64 a1_1, .string x450002_4, .string x450003_4, .string a1_4, .bool false, .string (⟨#[]⟩ : ByteArray), .string (⟨#[]⟩ : ByteArray), .slice none 0 0, .slice none 0 0, .slice none 0 0, .slice none 0 0]) ?_ 5 _ rfl; (with_reducible repeat (first | refine blk_drewN ?_ _ | refine blk_drew ?_ | refine blk_alloc ?_ _)); refine blk_put (cs := #[.int .i64 4, .int .i64 a1_1, .string x450002_4, .string x450003_4, .string (⟨#[]⟩ : ByteArray), .bool false, .string (⟨#[]⟩ : ByteArray), .string (⟨#[]⟩ : ByteArray), .slice none 0 0, .slice none 0 0, .slice none 0 0, .slice none 0 0]) ?_ 4 _ rfl; (with_reducible repeat (first | refine blk_drewN ?_ _ | refine blk_drew ?_ | refine blk_alloc ?_ _)); refine blk_put (cs := #[.int .i64 4, .int .i64 a1_1, .string x450002_4, .string (⟨#[]⟩ : ByteArray), .string (⟨#[]⟩ : ByteArray), .bool false, .string (⟨#[]⟩ : ByteArray), .string (⟨#[]⟩ : ByteArray), .slice none 0 0, .slice none 0 0, .slice none 0 0, .slice none 0 0]) ?_ 3 _ rfl; (with_reducible repeat (first | refine blk_drewN ?_ _ | refine blk_drew ?_ | refine blk_alloc ?_ _)); refine blk_put (cs := #[.int .i64 4, .int .i64 a1_1, .string (⟨#[]⟩ : ByteArray), .string (⟨#[]⟩ : ByteArray), .string (⟨#[]⟩ : ByteArray), .bool false, .string (⟨#[]⟩ : ByteArray), .string (⟨#[]⟩ : ByteArray), .slice none 0 0, .slice none 0 0, .slice none 0 0, .slice none 0 0]) ?_ 2 _ rfl; (with_reducible repeat (first | refine blk_drewN ?_ _ | refine blk_drew ?_ | refine blk_alloc ?_ _)); refine blk_put (cs := #[.int .i64 4, .int .i64 0, .string (⟨#[]⟩ : ByteArray), .string (⟨#[]⟩ : ByteArray), .string (⟨#[]⟩ : ByteArray), .bool false, .string (⟨#[]⟩ : ByteArray), .string (⟨#[]⟩ : ByteArray), .slice none 0 0, .slice none 0 0, .slice none 0 0, .slice none 0 0]) ?_ 1 _ rfl; (with_reducible repeat (first | refine blk_drewN ?_ _ | refine blk_drew ?_ | refine blk_alloc ?_ _)); refine blk_put (cs := #[.int .i64 0, .int .i64 0, .string (⟨#[]⟩ : ByteArray), .string (⟨#[]⟩ : ByteArray), .string (⟨#[]⟩ : ByteArray), .bool false, .string (⟨#[]⟩ : ByteArray), .string (⟨#[]⟩ : ByteArray), .slice none 0 0, .slice none 0 0, .slice none 0 0, .slice none 0 0]) ?_ 0 _ rfl; (with_reducible repeat (first | refine blk_drewN ?_ _ | refine blk_drew ?_ | refine blk_alloc ?_ _)); exact BK450.out) Try.underlying45 rfl zq18) rfl ?_
       exact ⟨_, _, _, _, zq16, zq22, by (with_reducible repeat (first | apply Kd.S_alloc | apply Kd.S_drewN | apply Kd.S_drew)); exact Kd.S_mono (Kd.S_far (p := ⟨gb450, 11, none⟩) (Kd.S_far (p := ⟨gb450, 10, none⟩) (Kd.S_far (p := ⟨gb450, 9, none⟩) (Kd.S_far (p := ⟨gb450, 8, none⟩) (Kd.S_far (p := ⟨gb450, 7, none⟩) (Kd.S_far (p := ⟨gb450, 6, none⟩) (Kd.S_far (p := ⟨gb450, 5, none⟩) (Kd.S_far (p := ⟨gb450, 4, none⟩) (Kd.S_far (p := ⟨gb450, 3, none⟩) (Kd.S_far (p := ⟨gb450, 2, none⟩) (Kd.S_far (p := ⟨gb450, 1, none⟩) (Kd.S_far (p := ⟨gb450, 0, none⟩) (Kd.S_types HO_450009.out BK450.out (by decide)) (fun _ hk => hk.2) (.int .i64 4)) (fun _ hk => hk.2) (.int .i64 a1_1)) (fun _ hk => hk.2) (.string x450002_4)) (fun _ hk => hk.2) (.string x450003_4)) (fun _ hk => hk.2) (.string a1_4)) (fun _ hk => hk.2) (.bool x450005_4)) (fun _ hk => hk.2) (.string x5_4)) (fun _ hk => hk.2) (.string x6_4)) (fun _ hk => hk.2) (.slice none 0 0)) (fun _ hk => hk.2) (.slice Ao73 x450009_2.length co73)) (fun _ hk => hk.2) (.slice none 0 0)) (fun _ hk => hk.2) (.slice none 0 0)) (fun _ hk => zq102), zq22, zq22, zq12, zq20, zq19⟩
end Go.Proofs.Ytcmpmlklednhbaa.QEvalJoins
