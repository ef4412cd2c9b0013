import Derived.Test.YtcmpmlklednhbaaZEJx6
namespace Go.Proofs.Ytcmpmlklednhbaa.QEvalJoins
open Go.RowKit Go.Proofs.YtcmpmlklednhbaaW.PrintWords Go.Proofs.YtcmpmlklednhbaaW.PrintLast Go.Proofs.YtcmpmlklednhbaaW.PrintMore
set_option maxHeartbeats 8000000
set_option maxRecDepth 100000
attribute [local go_sem] max2_int min2_int max_two min_two max_three min_three max_four min_four
set_option linter.unusedVariables false
set_option linter.unusedSimpArgs false
def rr_variable.j0 : Nat → Bool → Bool → List (S69) → Int → Int → Int → Int → ByteArray → ByteArray → Int → Int → Int → ByteArray → Int → Option (ByteArray × ByteArray × Int × Int × Int × Int × Int × Int)
 | 0, _, _, _, _, _, _, _, _, _, _, _, _, _, _ => none
 | k + 1, x4, x39, x1000, x1001, x1002, x1003, x1004, x174000, x174001, x174002, x174003, x194000, x194001, x194002 => if x39 = true then ((rr_fail.f x1000 x1001 x1002 x1003 x1004 11).bind fun bt194 => (some (x174000, x174001, x174002, x174003, bt194.1, bt194.2.1, bt194.2.2.1, bt194.2.2.2))) else ((ra_num.f k x194001).bind fun t198 => (if x4 = true then ((rr_want.f x1000 (wrap64 (x1001 + 1)) x1002 x1003 x1004 (⟨#[59]⟩ : ByteArray)).bind fun bt199 => (some (x174000, x174001, wrap64 (-t198), x174003, bt199.1, bt199.2.1, bt199.2.2.1, bt199.2.2.2))) else ((rr_want.f x1000 (wrap64 (x1001 + 1)) x1002 x1003 x1004 (⟨#[59]⟩ : ByteArray)).bind fun bt203 => (some (x174000, x174001, t198, x174003, bt203.1, bt203.2.1, bt203.2.2.1, bt203.2.2.2)))))
def rr_variable.f (k : Nat) (s0_0 : List (S69)) (s0_1 : Int) (s0_2 : Int) (s0_3 : Int) (s0_4 : Int) : Option (ByteArray × ByteArray × Int × Int × Int × Int × Int × Int) := (rr_here.f s0_0 s0_1 s0_2 s0_3 s0_4).bind fun bt163 => ((rr_name.f s0_0 bt163.2.1 bt163.2.2.1 bt163.2.2.2.1 bt163.2.2.2.2).bind fun bt168 => ((rr_want.f s0_0 bt168.2.1 bt168.2.2.1 bt168.2.2.2.1 bt168.2.2.2.2 (⟨#[58]⟩ : ByteArray)).bind fun bt174 => ((rr_name.f s0_0 bt174.1 bt174.2.1 bt174.2.2.1 bt174.2.2.2).bind fun bt178 => ((rr_want.f s0_0 bt178.2.1 bt178.2.2.1 bt178.2.2.2.1 bt178.2.2.2.2 (⟨#[61]⟩ : ByteArray)).bind fun bt183 => ((rr_take.f s0_0 bt183.1 bt183.2.1 bt183.2.2.1 bt183.2.2.2 (⟨#[45]⟩ : ByteArray)).bind fun bt187 => (if 0 ≤ bt187.2.1 then (if bt187.2.1 < (s0_0.length : Int) then (if bt187.2.2.2.1 = 0 then (rr_variable.j0 k bt187.1 (((rd_T69 s0_0 bt187.2.1).f0) != 2) s0_0 bt187.2.1 bt187.2.2.1 bt187.2.2.2.1 bt187.2.2.2.2 bt168.1 bt178.1 0 bt163.1 ((rd_T69 s0_0 bt187.2.1).f0) ((rd_T69 s0_0 bt187.2.1).f1) ((rd_T69 s0_0 bt187.2.1).f2)) else (rr_variable.j0 k bt187.1 true s0_0 bt187.2.1 bt187.2.2.1 bt187.2.2.2.1 bt187.2.2.2.2 bt168.1 bt178.1 0 bt163.1 ((rd_T69 s0_0 bt187.2.1).f0) ((rd_T69 s0_0 bt187.2.1).f1) ((rd_T69 s0_0 bt187.2.1).f2))) else (none)) else (none)))))))
theorem rr_variable.mono_l : ∀ k, (∀ y0 y1 y2 y3 y4 y5 y6 y7 y8 y9 y10 y11 y12 y13, LeO (rr_variable.j0 k y0 y1 y2 y3 y4 y5 y6 y7 y8 y9 y10 y11 y12 y13) (rr_variable.j0 (k + 1) y0 y1 y2 y3 y4 y5 y6 y7 y8 y9 y10 y11 y12 y13))
 | 0 => fun _ _ _ _ _ _ _ _ _ _ _ _ _ _ r h => by simp [rr_variable.j0] at h
 | k + 1 => by
  have ih0 := rr_variable.mono_l k
  ·
   intro y0 y1 y2 y3 y4 y5 y6 y7 y8 y9 y10 y11 y12 y13
   unfold rr_variable.j0
   repeat' with_reducible first | apply ih0 | apply ra_num.mono | exact LeO.refl _ | exact LeO.none _ | refine LeO.ite ?_ ?_ | refine LeO.bind ?_ (fun _ => ?_)
theorem rr_variable.mono : ∀ a0 a1 a2 a3 a4 k, LeO (rr_variable.f k a0 a1 a2 a3 a4) (rr_variable.f (k + 1) a0 a1 a2 a3 a4) := by
 intro a0 a1 a2 a3 a4 k
 have ih0 := rr_variable.mono_l k
 unfold rr_variable.f
 repeat' with_reducible first | apply ih0 | apply ra_num.mono | exact LeO.refl _ | exact LeO.none _ | refine LeO.ite ?_ ?_ | refine LeO.bind ?_ (fun _ => ?_)
def rr_variable.T6 : Bool × List (List Nat × List Nat) := (true, [([], []), ([0], [0]), ([1], [1]), ([2], [2]), ([], []), ([4], [4]), ([5], [5]), ([6], [6]), ([3, 7], [3, 7]), ([8], [8]), ([], []), ([10, 9, 0, 1, 2, 3, 4, 5, 6, 7, 8, 9, 10], [9, 10])])
def rr_variable.B6 : List Nat := [0, 1, 3, 7, 0, 16, 48, 112, 255, 511, 0, 2047]
theorem rr_variable.tab6 : rtab .any (opsOf Try.f25 6) = rr_variable.T6 := by kernel_rfl
theorem rr_variable.bits6 : waitsOk rr_variable.T6.2 rr_variable.B6 = true := by kernel_rfl
theorem rr_variable.calls (k : Nat) (g : Nat) (s0_0 : List (S69)) (s0_1 : Int) (s0_2 : Int) (s0_3 : Int) (s0_4 : Int) (r1 : ByteArray) (r2 : ByteArray) (r3 : Int) (r4 : Int) (r5 : Int) (r6 : Int) (r7 : Int) (r8 : Int) (w0 w : World) (hI : IsS57 w0 w g s0_0 s0_1 s0_2 s0_3 s0_4) (hB : Below w0.heap.size w0 w) (h : rr_variable.f k s0_0 s0_1 s0_2 s0_3 s0_4 = some (r1, r2, r3, r4, r5, r6, r7, r8)) :
  Calls Try.prog 25 #[.pointer (some ⟨g, 0, none⟩)] w fun e w' => e = .returned (.agg #[.string r1, .string r2, .int .i64 r3, .int .i64 r4]) ∧ IsS57 w0 w' g s0_0 r5 r6 r7 r8 ∧ Below w0.heap.size w0 w' ∧ KeepBut w w' g none := by
 have hu77 := Try.underlying77
 have hu69 := Try.underlying69
 have HI0 := za hI
 have HK := za (KeepBut.refl w g none)
 have HL := za hB.size
 clear hI
 have HW0 := za hB.size
 have HB := za hB
 clear hB
 have H : ((rr_here.f s0_0 s0_1 s0_2 s0_3 s0_4).bind fun bt163 => ((rr_name.f s0_0 bt163.2.1 bt163.2.2.1 bt163.2.2.2.1 bt163.2.2.2.2).bind fun bt168 => ((rr_want.f s0_0 bt168.2.1 bt168.2.2.1 bt168.2.2.2.1 bt168.2.2.2.2 (⟨#[58]⟩ : ByteArray)).bind fun bt174 => ((rr_name.f s0_0 bt174.1 bt174.2.1 bt174.2.2.1 bt174.2.2.2).bind fun bt178 => ((rr_want.f s0_0 bt178.2.1 bt178.2.2.1 bt178.2.2.2.1 bt178.2.2.2.2 (⟨#[61]⟩ : ByteArray)).bind fun bt183 => ((rr_take.f s0_0 bt183.1 bt183.2.1 bt183.2.2.1 bt183.2.2.2 (⟨#[45]⟩ : ByteArray)).bind fun bt187 => (if 0 ≤ bt187.2.1 then (if bt187.2.1 < (s0_0.length : Int) then (if bt187.2.2.2.1 = 0 then (rr_variable.j0 k bt187.1 (((rd_T69 s0_0 bt187.2.1).f0) != 2) s0_0 bt187.2.1 bt187.2.2.1 bt187.2.2.2.1 bt187.2.2.2.2 bt168.1 bt178.1 0 bt163.1 ((rd_T69 s0_0 bt187.2.1).f0) ((rd_T69 s0_0 bt187.2.1).f1) ((rd_T69 s0_0 bt187.2.1).f2)) else (rr_variable.j0 k bt187.1 true s0_0 bt187.2.1 bt187.2.2.1 bt187.2.2.2.1 bt187.2.2.2.2 bt168.1 bt178.1 0 bt163.1 ((rd_T69 s0_0 bt187.2.1).f0) ((rd_T69 s0_0 bt187.2.1).f1) ((rd_T69 s0_0 bt187.2.1).f2))) else (none)) else (none)))))))) = some (r1, r2, r3, r4, r5, r6, r7, r8) := h
 clear h
 replace H := Option.bind_eq_some_iff.mp H
 obtain ⟨⟨t163, t164, t165, t166, t167⟩, A20, H⟩ := H
 (try dsimp only at H)
 have A2 := za A20
 clear A20
 replace H := Option.bind_eq_some_iff.mp H
 obtain ⟨⟨t168, t169, t170, t171, t172⟩, A30, H⟩ := H
 (try dsimp only at H)
 have A3 := za A30
 clear A30
 replace H := Option.bind_eq_some_iff.mp H
 obtain ⟨⟨t174, t175, t176, t177⟩, A40, H⟩ := H
 (try dsimp only at H)
 have A4 := za A40
 clear A40
 replace H := Option.bind_eq_some_iff.mp H
 obtain ⟨⟨t178, t179, t180, t181, t182⟩, A50, H⟩ := H
 (try dsimp only at H)
 have A5 := za A50
 clear A50
 replace H := Option.bind_eq_some_iff.mp H
 obtain ⟨⟨t183, t184, t185, t186⟩, A60, H⟩ := H
 (try dsimp only at H)
 have A6 := za A60
 clear A60
 replace H := Option.bind_eq_some_iff.mp H
 obtain ⟨⟨t187, t188, t189, t190, t191⟩, A70, H⟩ := H
 (try dsimp only at H)
 have A7 := za A70
 clear A70
 by_cases c8 : 0 ≤ t188
 ·
  rw [if_pos c8] at H
  have c8b0 := decide_eq_true c8
  clear c8
  by_cases c9 : t188 < (s0_0.length : Int)
  ·
   rw [if_pos c9] at H
   have c9b0 : decide (t188 < (s0_0.length : Int)) = true := decide_eq_true c9
   clear c9
   have HC10 := za H
   clear H
   go_enter Try.func25, Try.ntmps25
   try go_wp2_with (first | ((with_reducible refine gate_dst (N := 2) rfl ?_); refine box_event ?hg (N := 2) ?hd (cs := #[.string (⟨#[]⟩ : ByteArray), .string (⟨#[]⟩ : ByteArray), .int .i64 0, .int .i64 0]) (t := 77) ?hr ?_; (case hd => rfl); (case hg => rfl); (case hr => exact zq39); intro gb162 hg w11 hbox hb; replace HB := za (below_step zq3 hb); have BK162 := za (hbox); have GW162 := za ((by rw [hg]; exact (keep_size (w := w) (g := g) (row := none) zq7) : w.heap.size ≤ gb162)); have GE162 := za ((Nat.le_trans HW0.out (by rw [hg]; exact (keep_size (w := w) (g := g) (row := none) zq7) : w.heap.size ≤ gb162) : w0.heap.size ≤ gb162)); replace HK := za (KeepBut.trans zq7 (KeepBut.of_below hb g none) (.inl rfl)); have NB0_162 := za ((by rw [hg]; exact Nat.ne_of_lt (IsS57.lt (show IsS57 w0 _ g s0_0 s0_1 s0_2 s0_3 s0_4 from zq0)) : g ≠ gb162)); have NB162_0 := za ((by rw [hg]; exact Nat.ne_of_gt (IsS57.lt (show IsS57 w0 _ g s0_0 s0_1 s0_2 s0_3 s0_4 from zq0)) : gb162 ≠ g)); replace HI0 := za (IsS57.below zq0 hb); clear hb hbox hg) | ((with_reducible refine gate_callee (f := 22) rfl ?_); refine goesL_ (some 7) rfl rfl Try.func22 zq18 rfl #[.pointer (some ⟨g, 0, none⟩)] rfl zq1 ?_; (with_reducible refine (rr_here.calls g s0_0 s0_1 s0_2 s0_3 s0_4 t163 t164 t165 t166 t167 w0 _ ?side1 ?side2 A2.out).mono ?_); (case side1 => exact zq46); (case side2 => exact zq75); rintro e w12 ⟨rfl, hi, hb, hk⟩; refine ⟨_, rfl, ?_⟩; replace BK162 := za (KeepBut.blk hk (g' := gb162) (zb BK162.out) NB162_0.out (by simp)); replace HK := za (KeepBut.trans zq59 hk (.inl rfl)); replace HB := za (hb); replace HI0 := za (hi)) | ((with_reducible refine gate_callee (f := 23) rfl ?_); refine goesL_ (some 9) rfl rfl Try.func23 zq18 rfl #[.pointer (some ⟨g, 0, none⟩)] rfl zq1 ?_; (with_reducible refine (rr_name.calls g s0_0 t164 t165 t166 t167 t168 t169 t170 t171 t172 w0 _ ?side1 ?side2 A3.out).mono ?_); (case side1 => exact zq46); (case side2 => exact zq75); rintro e w13 ⟨rfl, hi, hb, hk⟩; refine ⟨_, rfl, ?_⟩; replace BK162 := za (KeepBut.blk hk (g' := gb162) (zb BK162.out) NB162_0.out (by simp)); replace HK := za (KeepBut.trans zq59 hk (.inl rfl)); replace HB := za (hb); replace HI0 := za (hi)) | ((with_reducible refine gate_dst (N := 3) rfl ?_); refine box_event ?hg (N := 3) ?hd (cs := #[.string (⟨#[]⟩ : ByteArray), .string (⟨#[]⟩ : ByteArray), .int .i64 0, .int .i64 0]) (t := 77) ?hr ?_; (case hd => rfl); (case hg => rfl); (case hr => exact zq39); intro gb173 hg w14 hbox hb; replace HB := za (below_step zq75 hb); have BK173 := za (hbox); have GW173 := za ((by rw [hg]; exact (keep_size (w := w) (g := g) (row := none) zq59) : w.heap.size ≤ gb173)); have GE173 := za ((Nat.le_trans HW0.out (by rw [hg]; exact (keep_size (w := w) (g := g) (row := none) zq59) : w.heap.size ≤ gb173) : w0.heap.size ≤ gb173)); replace HK := za (KeepBut.trans zq59 (KeepBut.of_below hb g none) (.inl rfl)); have NB162_173 := za ((by rw [hg]; exact Nat.ne_of_lt (blk_lt (g := gb162) (zb BK162.out)) : gb162 ≠ gb173)); have NB173_162 := za ((by rw [hg]; exact Nat.ne_of_gt (blk_lt (g := gb162) (zb BK162.out)) : gb173 ≠ gb162)); replace BK162 := za (blk_below (g := gb162) (zb BK162.out) hb); have NB0_173 := za ((by rw [hg]; exact Nat.ne_of_lt (IsS57.lt (show IsS57 w0 _ g s0_0 t169 t170 t171 t172 from zq46)) : g ≠ gb173)); have NB173_0 := za ((by rw [hg]; exact Nat.ne_of_gt (IsS57.lt (show IsS57 w0 _ g s0_0 t169 t170 t171 t172 from zq46)) : gb173 ≠ g)); replace HI0 := za (IsS57.below zq46 hb); clear hb hbox hg; have hnb15 := NB173_162.out; have hnc15 := NB162_173.out; have hnb16 := NB173_0.out; have hnc16 := NB0_173.out; obtain ⟨hcz17_0, hcz17_1, hcz17_2, hcz17_3⟩ := zc4 BK173.out; obtain ⟨hfz17_0, hfz17_1, hfz17_2⟩ := zf3 BK173.out; have hfz17_3 := blk_frozen BK173.out 3) | ((with_reducible refine gate_callee (f := 21) rfl ?_); refine goesL_ (some 12) rfl rfl Try.func21 zq18 rfl #[.pointer (some ⟨g, 0, none⟩), .string (⟨#[58]⟩ : ByteArray)] rfl zq1 ?_; (with_reducible refine (rr_want.calls g s0_0 t169 t170 t171 t172 (⟨#[58]⟩ : ByteArray) t174 t175 t176 t177 w0 _ ?side1 ?side2 A4.out).mono ?_); (case side1 => exact zq37); (case side2 => exact zq48); rintro e w18 ⟨rfl, hi, hb, hk⟩; refine ⟨_, rfl, ?_⟩; replace BK162 := za (KeepBut.blk hk (g' := gb162) (o := .cells #[.string (⟨#[]⟩ : ByteArray), .string (⟨#[]⟩ : ByteArray), .int .i64 0, .int .i64 0] 77 (0, 0)) (by (with_reducible repeat (first | refine blk_drewN ?_ _ | refine blk_drew ?_ | refine blk_alloc ?_ _)); refine blk_far ?_ NB162_173.out _; (with_reducible repeat (first | refine blk_drewN ?_ _ | refine blk_drew ?_ | refine blk_alloc ?_ _)); refine blk_far ?_ NB162_173.out _; (with_reducible repeat (first | refine blk_drewN ?_ _ | refine blk_drew ?_ | refine blk_alloc ?_ _)); refine blk_far ?_ NB162_173.out _; (with_reducible repeat (first | refine blk_drewN ?_ _ | refine blk_drew ?_ | refine blk_alloc ?_ _)); refine blk_far ?_ NB162_173.out _; (with_reducible repeat (first | refine blk_drewN ?_ _ | refine blk_drew ?_ | refine blk_alloc ?_ _)); exact BK162.out) NB162_0.out (by simp)); replace BK173 := za (KeepBut.blk hk (g' := gb173) (o := .cells #[.string t168, .string (⟨#[]⟩ : ByteArray), .int .i64 0, .int .i64 t163] 77 (0, 0)) (by (with_reducible repeat (first | refine blk_drewN ?_ _ | refine blk_drew ?_ | refine blk_alloc ?_ _)); refine blk_put (cs := #[.string t168, .string (⟨#[]⟩ : ByteArray), .int .i64 0, .int .i64 0]) ?_ 3 _ rfl; (with_reducible repeat (first | refine blk_drewN ?_ _ | refine blk_drew ?_ | refine blk_alloc ?_ _)); refine blk_put (cs := #[.string t168, .string (⟨#[]⟩ : ByteArray), .int .i64 0, .int .i64 0]) ?_ 2 _ rfl; (with_reducible repeat (first | refine blk_drewN ?_ _ | refine blk_drew ?_ | refine blk_alloc ?_ _)); refine blk_put (cs := #[.string t168, .string (⟨#[]⟩ : ByteArray), .int .i64 0, .int .i64 0]) ?_ 1 _ rfl; (with_reducible repeat (first | refine blk_drewN ?_ _ | refine blk_drew ?_ | refine blk_alloc ?_ _)); refine blk_put (cs := #[.string (⟨#[]⟩ : ByteArray), .string (⟨#[]⟩ : ByteArray), .int .i64 0, .int .i64 0]) ?_ 0 _ rfl; (with_reducible repeat (first | refine blk_drewN ?_ _ | refine blk_drew ?_ | refine blk_alloc ?_ _)); exact BK173.out) NB173_0.out (by simp)); replace HK := za (KeepBut.trans zq42 hk (.inl rfl)); replace HB := za (hb); replace HI0 := za (hi)) | ((with_reducible refine gate_callee (f := 23) rfl ?_); refine goesL_ (some 14) rfl rfl Try.func23 zq18 rfl #[.pointer (some ⟨g, 0, none⟩)] rfl zq1 ?_; (with_reducible refine (rr_name.calls g s0_0 t174 t175 t176 t177 t178 t179 t180 t181 t182 w0 _ ?side1 ?side2 A5.out).mono ?_); (case side1 => exact zq37); (case side2 => exact zq48); rintro e w19 ⟨rfl, hi, hb, hk⟩; refine ⟨_, rfl, ?_⟩; replace BK162 := za (KeepBut.blk hk (g' := gb162) (zb BK162.out) NB162_0.out (by simp)); replace BK173 := za (KeepBut.blk hk (g' := gb173) (zb BK173.out) NB173_0.out (by simp)); replace HK := za (KeepBut.trans zq42 hk (.inl rfl)); replace HB := za (hb); replace HI0 := za (hi); (try clear hb hk hi); obtain ⟨hcz20_0, hcz20_1, hcz20_2, hcz20_3⟩ := zc4 BK173.out; obtain ⟨hfz20_0, hfz20_1, hfz20_2⟩ := zf3 BK173.out; have hfz20_3 := blk_frozen BK173.out 3) | ((with_reducible refine gate_callee (f := 21) rfl ?_); refine goesL_ (some 17) rfl rfl Try.func21 zq18 rfl #[.pointer (some ⟨g, 0, none⟩), .string (⟨#[61]⟩ : ByteArray)] rfl zq1 ?_; (with_reducible refine (rr_want.calls g s0_0 t179 t180 t181 t182 (⟨#[61]⟩ : ByteArray) t183 t184 t185 t186 w0 _ ?side1 ?side2 A6.out).mono ?_); (case side1 => exact zq37); (case side2 => exact zq48); rintro e w21 ⟨rfl, hi, hb, hk⟩; refine ⟨_, rfl, ?_⟩; replace BK162 := za (KeepBut.blk hk (g' := gb162) (o := .cells #[.string (⟨#[]⟩ : ByteArray), .string (⟨#[]⟩ : ByteArray), .int .i64 0, .int .i64 0] 77 (0, 0)) (by (with_reducible repeat (first | refine blk_drewN ?_ _ | refine blk_drew ?_ | refine blk_alloc ?_ _)); refine blk_far ?_ NB162_173.out _; (with_reducible repeat (first | refine blk_drewN ?_ _ | refine blk_drew ?_ | refine blk_alloc ?_ _)); exact BK162.out) NB162_0.out (by simp)); replace BK173 := za (KeepBut.blk hk (g' := gb173) (o := .cells #[.string t168, .string t178, .int .i64 0, .int .i64 t163] 77 (0, 0)) (by (with_reducible repeat (first | refine blk_drewN ?_ _ | refine blk_drew ?_ | refine blk_alloc ?_ _)); refine blk_put (cs := #[.string t168, .string (⟨#[]⟩ : ByteArray), .int .i64 0, .int .i64 t163]) ?_ 1 _ rfl; (with_reducible repeat (first | refine blk_drewN ?_ _ | refine blk_drew ?_ | refine blk_alloc ?_ _)); exact BK173.out) NB173_0.out (by simp)); replace HK := za (KeepBut.trans zq42 hk (.inl rfl)); replace HB := za (hb); replace HI0 := za (hi)) | ((with_reducible refine gate_callee (f := 24) rfl ?_); refine goesL_ (some 19) rfl rfl Try.func24 zq18 rfl #[.pointer (some ⟨g, 0, none⟩), .string (⟨#[45]⟩ : ByteArray)] rfl zq1 ?_; (with_reducible refine (rr_take.calls g s0_0 t183 t184 t185 t186 (⟨#[45]⟩ : ByteArray) t187 t188 t189 t190 t191 w0 _ ?side1 ?side2 A7.out).mono ?_); (case side1 => exact zq37); (case side2 => exact zq48); rintro e w22 ⟨rfl, hi, hb, hk⟩; refine ⟨_, rfl, ?_⟩; replace BK162 := za (KeepBut.blk hk (g' := gb162) (zb BK162.out) NB162_0.out (by simp)); replace BK173 := za (KeepBut.blk hk (g' := gb173) (zb BK173.out) NB173_0.out (by simp)); replace HK := za (KeepBut.trans zq42 hk (.inl rfl)); replace HB := za (hb); replace HI0 := za (hi)))
   replace BK162 := za (blk_drew BK162.out)
   replace BK173 := za (blk_drew BK173.out)
   replace HI0 := za (IsS57.drew HI0.out)
   replace HK := za (keep_drew HK.out)
   replace HB := za (below_drew1 HB.out)
   obtain ⟨ASz24_0, cSz24_0, HGz24, hgz24, HSz24_0⟩ := HI0.out
   have hx24_0 := cellS57_0 HGz24
   have hx24_1 := cellS57_1 HGz24
   have hx24_2 := cellS57_2 HGz24
   have hx24_3 := cellS57_3 HGz24
   have hx24_4 := cellS57_4 HGz24
   clear HGz24 hgz24
   have p192 : 0 ≤ (t188 : Int) := of_decide_eq_true zq11
   have q192 : t188 < (s0_0.length : Int) := of_decide_eq_true zq11
   obtain ⟨ad192, e192, hx192_0, hx192_1, hx192_2⟩ := at_T69 HSz24_0 t188 p192 q192
   have hw192_2 := hx192_2
   have hw192_1 := hx192_1
   have hw192_0 := hx192_0
   cases e192
   replace hx192_0 := pw_cell_below HB.out hx192_0
   replace hx192_1 := pw_cell_below HB.out hx192_1
   replace hx192_2 := pw_cell_below HB.out hx192_2
   replace p192 := eq_true p192
   replace q192 := eq_true q192
   refine start_ (n := 12) (S := fun w' => w'.cell? ⟨g, 0, none⟩ = some (.slice (some ad192) s0_0.length cSz24_0) ∧ w'.cell? ⟨g, 1, none⟩ = some (.int .i64 t188) ∧ w'.cell? ⟨g, 2, none⟩ = some (.int .i64 t189) ∧ w'.cell? ⟨g, 3, none⟩ = some (.int .i64 t190) ∧ w'.cell? ⟨g, 4, none⟩ = some (.int .i64 t191) ∧ w'.cell? (ad192.add ((t188).toNat * 3)) = some (.int .i64 ((rd_T69 s0_0 t188).f0)) ∧ w'.cell? ⟨(ad192.add ((t188).toNat * 3)).block, (ad192.add ((t188).toNat * 3)).off + 1, none⟩ = some (.string ((rd_T69 s0_0 t188).f1)) ∧ w'.cell? ⟨(ad192.add ((t188).toNat * 3)).block, (ad192.add ((t188).toNat * 3)).off + 2, none⟩ = some (.int .i64 ((rd_T69 s0_0 t188).f2))) (ds := [11]) #[false, false, false, false, false, false, false, false, false, false, false, false] zq18 rfl rfl ⟨hx24_0, hx24_1, hx24_2, hx24_3, hx24_4, hx192_0, hx192_1, hx192_2⟩ (fun hHeld => ?_); refine with_tabW rr_variable.tab6 rr_variable.bits6 (fun HT_ HW_ => ?_)
   generalize w22.drew = w23 at BK162 BK173 HI0 HK HB hx192_0 hx192_1 hx192_2 hx24_0 hx24_1 hx24_2 hx24_3 hx24_4 hHeld ⊢
   refine pure_ (i := 0) (N := some 20) #[true, false, false, false, false, false, false, false, false, false, false, false] rfl rfl (any_of HT_.out zq18) (fun _ _ _ h => h) (Or.inl ⟨by rfl, zpv⟩) zpw ?_
   refine pure_ (i := 1) (N := some 21) #[true, true, false, false, false, false, false, false, false, false, false, false] rfl rfl (any_of HT_.out zq18) (fun _ _ _ h => h) (Or.inl ⟨by rfl, zpv⟩) zpw ?_
   refine pure_ (i := 2) (N := some 22) #[true, true, true, false, false, false, false, false, false, false, false, false] rfl rfl (any_of HT_.out zq18) (fun _ _ _ h => h) (Or.inl ⟨by rfl, zpv⟩) zpw ?_
   refine pure_ (i := 4) (N := some 24) #[true, true, true, false, true, false, false, false, false, false, false, false] rfl rfl (any_of HT_.out zq18) (fun _ _ _ h => h) (Or.inl ⟨by rfl, zpv⟩) zpw ?_
   refine pure_ (i := 5) (N := some 25) #[true, true, true, false, true, true, false, false, false, false, false, false] rfl rfl (any_of HT_.out zq18) (fun _ _ _ h => h) (Or.inl ⟨by rfl, zpv⟩) zpw ?_
   refine pure_ (i := 6) (N := some 26) #[true, true, true, false, true, true, true, false, false, false, false, false] rfl rfl (any_of HT_.out zq18) (fun _ _ _ h => h) (Or.inl ⟨by rfl, zpv⟩) zpw ?_
   refine take_ (i := 3) (N := some 23) (v := ?_) (a' := ?_) #[true, true, true, true, true, true, true, false, false, false, false, false] rfl rfl (take_ofW HT_.out HW_.out zq18) (fun _ _ _ h => h) (Or.inl ⟨by rfl, ?_⟩) hHeld ?_ ?_
   rotate_left
   ·
    rintro w' ⟨s0, s1, s2, s3, s4, s5, s6, s7⟩
    go_simp
    with_reducible rfl
   rotate_left
   ·
    simp only [Act.put, List.setIfInBounds_toArray, List.set_cons_zero, List.set_cons_succ, i64_w, i32_w]
    rfl
   refine take_ (i := 7) (N := some 27) (v := ?_) (a' := ?_) #[true, true, true, true, true, true, true, true, false, false, false, false] rfl rfl (take_ofW HT_.out HW_.out zq18) (fun _ _ _ h => h) (Or.inl ⟨by rfl, ?_⟩) hHeld ?_ ?_
   rotate_left
   ·
    rintro w' ⟨s0, s1, s2, s3, s4, s5, s6, s7⟩
    go_simp
    with_reducible rfl
   rotate_left
   ·
    simp only [Act.put, List.setIfInBounds_toArray, List.set_cons_zero, List.set_cons_succ, i64_w, i32_w]
    rfl
   refine pure_ (i := 8) (N := some 28) #[true, true, true, true, true, true, true, true, true, false, false, false] rfl rfl (any_of HT_.out zq18) (fun _ _ _ h => h) (Or.inl ⟨by rfl, zpv⟩) zpw ?_
   refine take_ (i := 9) (N := some 29) (v := ?_) (a' := ?_) #[true, true, true, true, true, true, true, true, true, true, false, false] rfl rfl (take_ofW HT_.out HW_.out zq18) (fun _ _ _ h => h) (Or.inl ⟨by rfl, ?_⟩) hHeld ?_ ?_
   rotate_left
   ·
    rintro w' ⟨s0, s1, s2, s3, s4, s5, s6, s7⟩
    go_simp
    with_reducible rfl
   rotate_left
   ·
    simp only [Act.put, List.setIfInBounds_toArray, List.set_cons_zero, List.set_cons_succ, i64_w, i32_w]
    rfl
   refine one_ (i := 10) (N := some 5) #[true, true, true, true, true, true, true, true, true, true, true, false] rfl rfl (one_of HT_.out zq18) (by decide) (fun K hK => ?_)
   refine box_step ?hg (N := 5) ?hd (cs := #[.int .i64 0, .string (⟨#[]⟩ : ByteArray), .int .i64 0]) (t := 69) ?hr ?_; (case hd => rfl); (case hg => rfl); (case hr => exact zq39)
   intro gb193 hg w25 hbox hb
   have HS0_ := (hb.cell (World.block_lt_of_cell? _ _ (hHeld.1))).trans (hHeld.1)
   have HS1_ := (hb.cell (World.block_lt_of_cell? _ _ (hHeld.2.1))).trans (hHeld.2.1)
   have HS2_ := (hb.cell (World.block_lt_of_cell? _ _ (hHeld.2.2.1))).trans (hHeld.2.2.1)
   have HS3_ := (hb.cell (World.block_lt_of_cell? _ _ (hHeld.2.2.2.1))).trans (hHeld.2.2.2.1)
   have HS4_ := (hb.cell (World.block_lt_of_cell? _ _ (hHeld.2.2.2.2.1))).trans (hHeld.2.2.2.2.1)
   have HS5_ := (hb.cell (World.block_lt_of_cell? _ _ (hHeld.2.2.2.2.2.1))).trans (hHeld.2.2.2.2.2.1)
   have HS6_ := (hb.cell (World.block_lt_of_cell? _ _ (hHeld.2.2.2.2.2.2.1))).trans (hHeld.2.2.2.2.2.2.1)
   have HS7_ := (hb.cell (World.block_lt_of_cell? _ _ (hHeld.2.2.2.2.2.2.2))).trans (hHeld.2.2.2.2.2.2.2)
   replace HB := za (below_step zq48 hb)
   have BK193 := za (hbox)
   have GW193 := za ((by rw [hg]; exact (keep_size (w := w) (g := g) (row := none) zq42) : w.heap.size ≤ gb193))
   have GE193 := za ((Nat.le_trans HW0.out (by rw [hg]; exact (keep_size (w := w) (g := g) (row := none) zq42) : w.heap.size ≤ gb193) : w0.heap.size ≤ gb193))
   replace HK := za (KeepBut.trans zq42 (KeepBut.of_below hb g none) (.inl rfl))
   have NB162_193 := za ((by rw [hg]; exact Nat.ne_of_lt (blk_lt (g := gb162) (zb BK162.out)) : gb162 ≠ gb193))
   have NB193_162 := za ((by rw [hg]; exact Nat.ne_of_gt (blk_lt (g := gb162) (zb BK162.out)) : gb193 ≠ gb162))
   replace BK162 := za (blk_below (g := gb162) (zb BK162.out) hb)
   have NB173_193 := za ((by rw [hg]; exact Nat.ne_of_lt (blk_lt (g := gb173) (zb BK173.out)) : gb173 ≠ gb193))
   have NB193_173 := za ((by rw [hg]; exact Nat.ne_of_gt (blk_lt (g := gb173) (zb BK173.out)) : gb193 ≠ gb173))
   replace BK173 := za (blk_below (g := gb173) (zb BK173.out) hb)
   have NB0_193 := za ((by rw [hg]; exact Nat.ne_of_lt (IsS57.lt (show IsS57 w0 _ g s0_0 t188 t189 t190 t191 from zq37)) : g ≠ gb193))
   have NB193_0 := za ((by rw [hg]; exact Nat.ne_of_gt (IsS57.lt (show IsS57 w0 _ g s0_0 t188 t189 t190 t191 from zq37)) : gb193 ≠ g))
   replace HI0 := za (IsS57.below zq37 hb)
   clear hb hbox hg
   refine hK.out _ _ ⟨HS0_, HS1_, HS2_, HS3_, HS4_, HS5_, HS6_, HS7_⟩ (fun hHeld => ?_)
   clear hK K
   refine norm_ (a' := ?_) ?_ ?_
   rotate_left
   ·
    show Act.put _ (some 5) _ = _
    simp only [Act.put, List.setIfInBounds_toArray, List.set_cons_zero, List.set_cons_succ, i64_w, i32_w]
    rfl
   refine last_ (i := 11) (N := none) #[true, true, true, true, true, true, true, true, true, true, true, true] rfl rfl (one_of HT_.out zq18) (by decide) (fun K hK => ?_)
   have hs26 : w25.cell? ⟨gb193, 0, none⟩ = some (.int .i64 0) := (blk_cell BK193.out 0).trans rfl
   have hfs26 := blk_frozen BK193.out 0
   have hns26_0 := NB162_193.out
   have hns26_1 := NB173_193.out
   have hms26_0 := NB193_162.out
   have hms26_1 := NB193_173.out
   have hs27 : w25.cell? ⟨gb193, 1, none⟩ = some (.string (⟨#[]⟩ : ByteArray)) := (blk_cell BK193.out 1).trans rfl
   have hfs27 := blk_frozen BK193.out 1
   have hns27_0 := NB162_193.out
   have hns27_1 := NB173_193.out
   have hms27_0 := NB193_162.out
   have hms27_1 := NB193_173.out
   have hs28 : w25.cell? ⟨gb193, 2, none⟩ = some (.int .i64 0) := (blk_cell BK193.out 2).trans rfl
   have hfs28 := blk_frozen BK193.out 2
   have hns28_0 := NB162_193.out
   have hns28_1 := NB173_193.out
   have hms28_0 := NB193_162.out
   have hms28_1 := NB193_173.out
   refine skip_ (w1 := ?_) (by rfl) rfl ?_ ?_
   rotate_left
   ·
    go_simp
    rfl
   refine hK.out _ _ ?_
   clear hK K
   refine done_ (done_of HT_.out zq18) ?_
   go_upto_region 7 with (fail)
   go_cut [39] (fun v39 wc => ∃ (kq : Nat) (x39_9 : Bool), v39 = .bool x39_9 ∧ Aside0 (rr_variable.j0 kq t187 x39_9 s0_0 t188 t189 t190 t191 t168 t178 0 t163 ((rd_T69 s0_0 t188).f0) ((rd_T69 s0_0 t188).f1) ((rd_T69 s0_0 t188).f2) = some (r1, r2, r3, r4, r5, r6, r7, r8)) ∧ Aside0 (kq ≤ k) ∧ Aside0 (wc.heap[gb162]? = some (.cells #[.string (⟨#[]⟩ : ByteArray), .string (⟨#[]⟩ : ByteArray), .int .i64 0, .int .i64 0] 77 (0, 0))) ∧ Aside0 (wc.heap[gb173]? = some (.cells #[.string t168, .string t178, .int .i64 0, .int .i64 t163] 77 (0, 0))) ∧ Aside0 (wc.heap[gb193]? = some (.cells #[.int .i64 ((rd_T69 s0_0 t188).f0), .string ((rd_T69 s0_0 t188).f1), .int .i64 ((rd_T69 s0_0 t188).f2)] 69 (0, 0))) ∧ Aside0 (IsS57 w0 wc g s0_0 t188 t189 t190 t191) ∧ Aside0 (KeepBut w wc g none) ∧ Aside0 (Below w0.heap.size w0 wc))
   case first =>
    have H := HC10.out
    clear HC10
    by_cases c29 : t190 = 0
    ·
     rw [if_pos c29] at H
     have c29b0 := beq_iff_eq.mpr c29
     have c29b1 := bne_eq_false_iff_eq.mpr c29
     clear c29
     (first | rw [c29b0] | (simp only [i64_w, i32_w]; rw [c29b0]) | skip)
     have H' := za H
     clear H
     obtain ⟨ASz30_0, cSz30_0, HGz30, hgz30, HSz30_0⟩ := HI0.out
     have hcz30_0 := cellS57_0 HGz30
     have hcz30_1 := cellS57_1 HGz30
     have hcz30_2 := cellS57_2 HGz30
     have hcz30_3 := cellS57_3 HGz30
     have hcz30_4 := cellS57_4 HGz30
     have hfz30_1 := blk_frozen HGz30 1
     have hfz30_2 := blk_frozen HGz30 2
     have hfz30_3 := blk_frozen HGz30 3
     have hfz30_4 := blk_frozen HGz30 4
     clear HGz30 hgz30
     have hnb31 := NB193_162.out
     have hnc31 := NB162_193.out
     have hnb32 := NB193_173.out
     have hnc32 := NB173_193.out
     have hnb33 := NB193_0.out
     have hnc33 := NB0_193.out
     obtain ⟨hcz34_0, hcz34_1, hcz34_2⟩ := zc3 BK193.out
     obtain ⟨hfz34_0, hfz34_1, hfz34_2⟩ := zf3 BK193.out
     go_wp2
     go_meet
     case rel => exact ⟨_, ((((rd_T69 s0_0 t188).f0) != 2)), zq29, H', ⟨zq78⟩, ⟨zq50⟩, ⟨zq51⟩, ⟨by (with_reducible repeat (first | refine blk_drewN ?_ _ | refine blk_drew ?_ | refine blk_alloc ?_ _)); refine blk_put (cs := #[.int .i64 ((rd_T69 s0_0 t188).f0), .string ((rd_T69 s0_0 t188).f1), .int .i64 0]) ?_ 2 _ rfl; (with_reducible repeat (first | refine blk_drewN ?_ _ | refine blk_drew ?_ | refine blk_alloc ?_ _)); refine blk_put (cs := #[.int .i64 ((rd_T69 s0_0 t188).f0), .string (⟨#[]⟩ : ByteArray), .int .i64 0]) ?_ 1 _ rfl; (with_reducible repeat (first | refine blk_drewN ?_ _ | refine blk_drew ?_ | refine blk_alloc ?_ _)); refine blk_put (cs := #[.int .i64 0, .string (⟨#[]⟩ : ByteArray), .int .i64 0]) ?_ 0 _ rfl; (with_reducible repeat (first | refine blk_drewN ?_ _ | refine blk_drew ?_ | refine blk_alloc ?_ _)); exact BK193.out⟩, ⟨zq33⟩, ⟨zq38⟩, ⟨zq34⟩⟩
    ·
     rw [if_neg c29] at H
     have c29b0 := beq_eq_false_iff_ne.mpr c29
     have c29b1 := bne_iff_ne.mpr c29
     (first | rw [c29b0] | (simp only [i64_w, i32_w]; rw [c29b0]) | skip)
     have H' := za H
     clear H
     obtain ⟨ASz35_0, cSz35_0, HGz35, hgz35, HSz35_0⟩ := HI0.out
     have hcz35_0 := cellS57_0 HGz35
     have hcz35_1 := cellS57_1 HGz35
     have hcz35_2 := cellS57_2 HGz35
     have hcz35_3 := cellS57_3 HGz35
     have hcz35_4 := cellS57_4 HGz35
     have hfz35_1 := blk_frozen HGz35 1
     have hfz35_2 := blk_frozen HGz35 2
     have hfz35_3 := blk_frozen HGz35 3
     have hfz35_4 := blk_frozen HGz35 4
     clear HGz35 hgz35
     go_wp2
     go_meet
     case rel => exact ⟨_, (true), zq29, H', ⟨zq78⟩, ⟨zq50⟩, ⟨zq51⟩, ⟨by (with_reducible repeat (first | refine blk_drewN ?_ _ | refine blk_drew ?_ | refine blk_alloc ?_ _)); refine blk_put (cs := #[.int .i64 ((rd_T69 s0_0 t188).f0), .string ((rd_T69 s0_0 t188).f1), .int .i64 0]) ?_ 2 _ rfl; (with_reducible repeat (first | refine blk_drewN ?_ _ | refine blk_drew ?_ | refine blk_alloc ?_ _)); refine blk_put (cs := #[.int .i64 ((rd_T69 s0_0 t188).f0), .string (⟨#[]⟩ : ByteArray), .int .i64 0]) ?_ 1 _ rfl; (with_reducible repeat (first | refine blk_drewN ?_ _ | refine blk_drew ?_ | refine blk_alloc ?_ _)); refine blk_put (cs := #[.int .i64 0, .string (⟨#[]⟩ : ByteArray), .int .i64 0]) ?_ 0 _ rfl; (with_reducible repeat (first | refine blk_drewN ?_ _ | refine blk_drew ?_ | refine blk_alloc ?_ _)); exact BK193.out⟩, ⟨zq33⟩, ⟨zq38⟩, ⟨zq34⟩⟩
   case rest =>
    clear HC10
    obtain ⟨kq, x39_9, rfl, HA, HJ9, BK162, BK173, BK193, HI0, HK, HB⟩ := hcut
    cases kq with
    | zero => exact absurd HA.out (by simp [rr_variable.j0])
    | succ kj9 =>
     have H := HA.out
     clear HA
     simp only [rr_variable.j0] at H
     by_cases c36 : x39_9 = true
     ·
      subst c36
      rw [if_pos rfl] at H
      replace H := Option.bind_eq_some_iff.mp H
      obtain ⟨⟨t194, t195, t196, t197⟩, A370, H⟩ := H
      (try dsimp only at H)
      have A37 := za A370
      clear A370
      simp only [Option.some.injEq, Prod.mk.injEq] at H
      obtain ⟨rfl, rfl, rfl, rfl, rfl, rfl, rfl, rfl⟩ := H
      go_wp2_with (first | ((with_reducible refine gate_callee (f := 27) rfl ?_); refine goesL_ (some 41) rfl rfl Try.func27 zq18 rfl #[.pointer (some ⟨g, 0, none⟩), .int .i64 11] rfl zq1 ?_; (with_reducible refine (rr_fail.calls g s0_0 t188 t189 t190 t191 11 t194 t195 t196 t197 w0 _ ?side1 ?side2 A37.out).mono ?_); (case side1 => exact zq33); (case side2 => exact zq34); rintro e w38 ⟨rfl, hi, hb, hk⟩; refine ⟨_, rfl, ?_⟩; replace BK162 := za (KeepBut.blk hk (g' := gb162) (zb BK162.out) NB162_0.out (by simp)); replace BK173 := za (KeepBut.blk hk (g' := gb173) (zb BK173.out) NB173_0.out (by simp)); replace BK193 := za (KeepBut.blk hk (g' := gb193) (zb BK193.out) NB193_0.out (by simp)); replace HK := za (KeepBut.trans zq38 hk (.inl rfl)); replace HB := za (hb); replace HI0 := za (hi); (try clear hb hk hi); have hnb39 := NB173_162.out; have hnc39 := NB162_173.out; have hnb40 := NB173_193.out; have hnc40 := NB193_173.out; have hnb41 := NB173_0.out; have hnc41 := NB0_173.out; obtain ⟨hcz42_0, hcz42_1, hcz42_2, hcz42_3⟩ := zc4 BK173.out; obtain ⟨hfz42_0, hfz42_1, hfz42_2, hfz42_3⟩ := zf4 BK173.out; have hnb43 := NB162_193.out; have hnc43 := NB193_162.out; have hnb44 := NB162_0.out; have hnc44 := NB0_162.out; obtain ⟨hcz45_0, hcz45_1, hcz45_2, hcz45_3⟩ := zc4 BK162.out; obtain ⟨hfz45_0, hfz45_1, hfz45_2⟩ := zf3 BK162.out; have hfz45_3 := blk_frozen BK162.out 3))
      refine bodyPost_ret (results_cell_row rfl _ _ gb162 77 #[.string t168, .string t178, .int .i64 0, .int .i64 t163] (0, 0) _ rfl (by (with_reducible repeat (first | refine blk_drewN ?_ _ | refine blk_drew ?_ | refine blk_alloc ?_ _)); refine blk_put (cs := #[.string t168, .string t178, .int .i64 0, .int .i64 0]) ?_ 3 _ rfl; (with_reducible repeat (first | refine blk_drewN ?_ _ | refine blk_drew ?_ | refine blk_alloc ?_ _)); refine blk_put (cs := #[.string t168, .string t178, .int .i64 0, .int .i64 0]) ?_ 2 _ rfl; (with_reducible repeat (first | refine blk_drewN ?_ _ | refine blk_drew ?_ | refine blk_alloc ?_ _)); refine blk_put (cs := #[.string t168, .string (⟨#[]⟩ : ByteArray), .int .i64 0, .int .i64 0]) ?_ 1 _ rfl; (with_reducible repeat (first | refine blk_drewN ?_ _ | refine blk_drew ?_ | refine blk_alloc ?_ _)); refine blk_put (cs := #[.string (⟨#[]⟩ : ByteArray), .string (⟨#[]⟩ : ByteArray), .int .i64 0, .int .i64 0]) ?_ 0 _ rfl; (with_reducible repeat (first | refine blk_drewN ?_ _ | refine blk_drew ?_ | refine blk_alloc ?_ _)); exact BK162.out) Try.underlying77 rfl zq18) rfl ?_
      exact ⟨zq16, zq33, zq34, zq38⟩
     ·
      replace c36 := Bool.eq_false_iff.mpr c36
      subst c36
      rw [if_neg (show ¬ (false = true) by decide)] at H
      replace H := Option.bind_eq_some_iff.mp H
      obtain ⟨t198, A460, H⟩ := H
      (try dsimp only at H)
      have A46 := za A460
      clear A460
      by_cases c47 : t187 = true
      ·
       subst c47
       rw [if_pos rfl] at H
       replace H := Option.bind_eq_some_iff.mp H
       obtain ⟨⟨t199, t200, t201, t202⟩, A480, H⟩ := H
       (try dsimp only at H)
       have A48 := za A480
       clear A480
       simp only [Option.some.injEq, Prod.mk.injEq] at H
       obtain ⟨rfl, rfl, rfl, rfl, rfl, rfl, rfl, rfl⟩ := H
       obtain ⟨ASz49_0, cSz49_0, HGz49, hgz49, HSz49_0⟩ := HI0.out
       have hcz49_0 := cellS57_0 HGz49
       have hcz49_1 := cellS57_1 HGz49
       have hcz49_2 := cellS57_2 HGz49
       have hcz49_3 := cellS57_3 HGz49
       have hcz49_4 := cellS57_4 HGz49
       have hfz49_1 := blk_frozen HGz49 1
       have hfz49_2 := blk_frozen HGz49 2
       have hfz49_3 := blk_frozen HGz49 3
       have hfz49_4 := blk_frozen HGz49 4
       clear HGz49 hgz49
       have hnb50 := NB193_162.out
       have hnc50 := NB162_193.out
       have hnb51 := NB193_173.out
       have hnc51 := NB173_193.out
       have hnb52 := NB193_0.out
       have hnc52 := NB0_193.out
       obtain ⟨hcz53_0, hcz53_1, hcz53_2⟩ := zc3 BK193.out
       obtain ⟨hfz53_0, hfz53_1, hfz53_2⟩ := zf3 BK193.out
       go_wp2_with (first | ((with_reducible refine gate_callee (f := 31) rfl ?_); refine goesL_ (some 52) rfl rfl Try.func31 zq18 rfl #[.string ((rd_T69 s0_0 t188).f1)] rfl zq1 ?_; (with_reducible refine (ra_num.calls kj9 ((rd_T69 s0_0 t188).f1) t198 _ A46.out).mono ?_); rintro e w' ⟨rfl, ⟨nd, rfl⟩⟩; refine ⟨_, rfl, ?_⟩; have hnb54 := NB173_162.out; have hnc54 := NB162_173.out; have hnb55 := NB173_0.out; have hnc55 := NB0_173.out; obtain ⟨hcz56_0, hcz56_1, hcz56_2, hcz56_3⟩ := zc4 BK173.out; obtain ⟨hfz56_0, hfz56_1, hfz56_2⟩ := zf3 BK173.out; have hfz56_3 := blk_frozen BK173.out 3) | ((with_reducible refine gate_callee (f := 21) rfl ?_); refine goesL_ (some 60) rfl rfl Try.func21 zq18 rfl #[.pointer (some ⟨g, 0, none⟩), .string (⟨#[59]⟩ : ByteArray)] rfl zq1 ?_; (with_reducible refine (rr_want.calls g s0_0 (wrap64 (t188 + 1)) t189 t190 t191 (⟨#[59]⟩ : ByteArray) t199 t200 t201 t202 w0 _ ?side1 ?side2 A48.out).mono ?_); (case side1 => exact zq33); (case side2 => exact zq34); rintro e w57 ⟨rfl, hi, hb, hk⟩; refine ⟨_, rfl, ?_⟩; replace BK162 := za (KeepBut.blk hk (g' := gb162) (o := .cells #[.string (⟨#[]⟩ : ByteArray), .string (⟨#[]⟩ : ByteArray), .int .i64 0, .int .i64 0] 77 (0, 0)) (by (with_reducible repeat (first | refine blk_drewN ?_ _ | refine blk_drew ?_ | refine blk_alloc ?_ _)); refine blk_far ?_ NB162_173.out _; (with_reducible repeat (first | refine blk_drewN ?_ _ | refine blk_drew ?_ | refine blk_alloc ?_ _)); refine blk_far ?_ NB162_173.out _; (with_reducible repeat (first | refine blk_drewN ?_ _ | refine blk_drew ?_ | refine blk_alloc ?_ _)); refine blk_far ?_ NB162_0.out _; (with_reducible repeat (first | refine blk_drewN ?_ _ | refine blk_drew ?_ | refine blk_alloc ?_ _)); exact BK162.out) NB162_0.out (by simp)); replace BK173 := za (KeepBut.blk hk (g' := gb173) (o := .cells #[.string t168, .string t178, .int .i64 (wrap64 (-t198)), .int .i64 t163] 77 (0, 0)) (by (with_reducible repeat (first | refine blk_drewN ?_ _ | refine blk_drew ?_ | refine blk_alloc ?_ _)); refine blk_put (cs := #[.string t168, .string t178, .int .i64 t198, .int .i64 t163]) ?_ 2 _ rfl; (with_reducible repeat (first | refine blk_drewN ?_ _ | refine blk_drew ?_ | refine blk_alloc ?_ _)); refine blk_put (cs := #[.string t168, .string t178, .int .i64 0, .int .i64 t163]) ?_ 2 _ rfl; (with_reducible repeat (first | refine blk_drewN ?_ _ | refine blk_drew ?_ | refine blk_alloc ?_ _)); refine blk_far ?_ NB173_0.out _; (with_reducible repeat (first | refine blk_drewN ?_ _ | refine blk_drew ?_ | refine blk_alloc ?_ _)); exact BK173.out) NB173_0.out (by simp)); replace BK193 := za (KeepBut.blk hk (g' := gb193) (o := .cells #[.int .i64 ((rd_T69 s0_0 t188).f0), .string ((rd_T69 s0_0 t188).f1), .int .i64 ((rd_T69 s0_0 t188).f2)] 69 (0, 0)) (by (with_reducible repeat (first | refine blk_drewN ?_ _ | refine blk_drew ?_ | refine blk_alloc ?_ _)); refine blk_far ?_ NB193_173.out _; (with_reducible repeat (first | refine blk_drewN ?_ _ | refine blk_drew ?_ | refine blk_alloc ?_ _)); refine blk_far ?_ NB193_173.out _; (with_reducible repeat (first | refine blk_drewN ?_ _ | refine blk_drew ?_ | refine blk_alloc ?_ _)); refine blk_far ?_ NB193_0.out _; (with_reducible repeat (first | refine blk_drewN ?_ _ | refine blk_drew ?_ | refine blk_alloc ?_ _)); exact BK193.out) NB193_0.out (by simp)); replace HK := za (KeepBut.trans zq38 hk (.inl rfl)); replace HB := za (hb); replace HI0 := za (hi); (try clear hb hk hi); obtain ⟨hcz58_0, hcz58_1, hcz58_2, hcz58_3⟩ := zc4 BK173.out; obtain ⟨hfz58_0, hfz58_1, hfz58_2, hfz58_3⟩ := zf4 BK173.out; have hnb59 := NB162_0.out; have hnc59 := NB0_162.out; obtain ⟨hcz60_0, hcz60_1, hcz60_2, hcz60_3⟩ := zc4 BK162.out; obtain ⟨hfz60_0, hfz60_1, hfz60_2⟩ := zf3 BK162.out; have hfz60_3 := blk_frozen BK162.out 3))
       refine bodyPost_ret (results_cell_row rfl _ _ gb162 77 #[.string t168, .string t178, .int .i64 (wrap64 (-t198)), .int .i64 t163] (0, 0) _ rfl (by (with_reducible repeat (first | refine blk_drewN ?_ _ | refine blk_drew ?_ | refine blk_alloc ?_ _)); refine blk_put (cs := #[.string t168, .string t178, .int .i64 (wrap64 (-t198)), .int .i64 0]) ?_ 3 _ rfl; (with_reducible repeat (first | refine blk_drewN ?_ _ | refine blk_drew ?_ | refine blk_alloc ?_ _)); refine blk_put (cs := #[.string t168, .string t178, .int .i64 0, .int .i64 0]) ?_ 2 _ rfl; (with_reducible repeat (first | refine blk_drewN ?_ _ | refine blk_drew ?_ | refine blk_alloc ?_ _)); refine blk_put (cs := #[.string t168, .string (⟨#[]⟩ : ByteArray), .int .i64 0, .int .i64 0]) ?_ 1 _ rfl; (with_reducible repeat (first | refine blk_drewN ?_ _ | refine blk_drew ?_ | refine blk_alloc ?_ _)); refine blk_put (cs := #[.string (⟨#[]⟩ : ByteArray), .string (⟨#[]⟩ : ByteArray), .int .i64 0, .int .i64 0]) ?_ 0 _ rfl; (with_reducible repeat (first | refine blk_drewN ?_ _ | refine blk_drew ?_ | refine blk_alloc ?_ _)); exact BK162.out) Try.underlying77 rfl zq18) rfl ?_
       exact ⟨zq16, zq33, zq34, zq38⟩
      ·
       replace c47 := Bool.eq_false_iff.mpr c47
       subst c47
       rw [if_neg (show ¬ (false = true) by decide)] at H
       replace H := Option.bind_eq_some_iff.mp H
       obtain ⟨⟨t203, t204, t205, t206⟩, A610, H⟩ := H
       (try dsimp only at H)
       have A61 := za A610
       clear A610
       simp only [Option.some.injEq, Prod.mk.injEq] at H
       obtain ⟨rfl, rfl, rfl, rfl, rfl, rfl, rfl, rfl⟩ := H
       obtain ⟨ASz62_0, cSz62_0, HGz62, hgz62, HSz62_0⟩ := HI0.out
       have hcz62_0 := cellS57_0 HGz62
       have hcz62_1 := cellS57_1 HGz62
       have hcz62_2 := cellS57_2 HGz62
       have hcz62_3 := cellS57_3 HGz62
       have hcz62_4 := cellS57_4 HGz62
       have hfz62_1 := blk_frozen HGz62 1
       have hfz62_2 := blk_frozen HGz62 2
       have hfz62_3 := blk_frozen HGz62 3
       have hfz62_4 := blk_frozen HGz62 4
       clear HGz62 hgz62
       have hnb63 := NB193_162.out
       have hnc63 := NB162_193.out
       have hnb64 := NB193_173.out
       have hnc64 := NB173_193.out
       have hnb65 := NB193_0.out
       have hnc65 := NB0_193.out
       obtain ⟨hcz66_0, hcz66_1, hcz66_2⟩ := zc3 BK193.out
       obtain ⟨hfz66_0, hfz66_1, hfz66_2⟩ := zf3 BK193.out
       go_wp2_with (first | ((with_reducible refine gate_callee (f := 31) rfl ?_); refine goesL_ (some 52) rfl rfl Try.func31 zq18 rfl #[.string ((rd_T69 s0_0 t188).f1)] rfl zq1 ?_; (with_reducible refine (ra_num.calls kj9 ((rd_T69 s0_0 t188).f1) t198 _ A46.out).mono ?_); rintro e w' ⟨rfl, ⟨nd, rfl⟩⟩; refine ⟨_, rfl, ?_⟩; have hnb67 := NB173_162.out; have hnc67 := NB162_173.out; have hnb68 := NB173_0.out; have hnc68 := NB0_173.out; obtain ⟨hcz69_0, hcz69_1, hcz69_2, hcz69_3⟩ := zc4 BK173.out; obtain ⟨hfz69_0, hfz69_1, hfz69_2⟩ := zf3 BK173.out; have hfz69_3 := blk_frozen BK173.out 3) | ((with_reducible refine gate_callee (f := 21) rfl ?_); refine goesL_ (some 60) rfl rfl Try.func21 zq18 rfl #[.pointer (some ⟨g, 0, none⟩), .string (⟨#[59]⟩ : ByteArray)] rfl zq1 ?_; (with_reducible refine (rr_want.calls g s0_0 (wrap64 (t188 + 1)) t189 t190 t191 (⟨#[59]⟩ : ByteArray) t203 t204 t205 t206 w0 _ ?side1 ?side2 A61.out).mono ?_); (case side1 => exact zq33); (case side2 => exact zq34); rintro e w70 ⟨rfl, hi, hb, hk⟩; refine ⟨_, rfl, ?_⟩; replace BK162 := za (KeepBut.blk hk (g' := gb162) (o := .cells #[.string (⟨#[]⟩ : ByteArray), .string (⟨#[]⟩ : ByteArray), .int .i64 0, .int .i64 0] 77 (0, 0)) (by (with_reducible repeat (first | refine blk_drewN ?_ _ | refine blk_drew ?_ | refine blk_alloc ?_ _)); refine blk_far ?_ NB162_173.out _; (with_reducible repeat (first | refine blk_drewN ?_ _ | refine blk_drew ?_ | refine blk_alloc ?_ _)); refine blk_far ?_ NB162_0.out _; (with_reducible repeat (first | refine blk_drewN ?_ _ | refine blk_drew ?_ | refine blk_alloc ?_ _)); exact BK162.out) NB162_0.out (by simp)); replace BK173 := za (KeepBut.blk hk (g' := gb173) (o := .cells #[.string t168, .string t178, .int .i64 t198, .int .i64 t163] 77 (0, 0)) (by (with_reducible repeat (first | refine blk_drewN ?_ _ | refine blk_drew ?_ | refine blk_alloc ?_ _)); refine blk_put (cs := #[.string t168, .string t178, .int .i64 0, .int .i64 t163]) ?_ 2 _ rfl; (with_reducible repeat (first | refine blk_drewN ?_ _ | refine blk_drew ?_ | refine blk_alloc ?_ _)); refine blk_far ?_ NB173_0.out _; (with_reducible repeat (first | refine blk_drewN ?_ _ | refine blk_drew ?_ | refine blk_alloc ?_ _)); exact BK173.out) NB173_0.out (by simp)); replace BK193 := za (KeepBut.blk hk (g' := gb193) (o := .cells #[.int .i64 ((rd_T69 s0_0 t188).f0), .string ((rd_T69 s0_0 t188).f1), .int .i64 ((rd_T69 s0_0 t188).f2)] 69 (0, 0)) (by (with_reducible repeat (first | refine blk_drewN ?_ _ | refine blk_drew ?_ | refine blk_alloc ?_ _)); refine blk_far ?_ NB193_173.out _; (with_reducible repeat (first | refine blk_drewN ?_ _ | refine blk_drew ?_ | refine blk_alloc ?_ _)); refine blk_far ?_ NB193_0.out _; (with_reducible repeat (first | refine blk_drewN ?_ _ | refine blk_drew ?_ | refine blk_alloc ?_ _)); exact BK193.out) NB193_0.out (by simp)); replace HK := za (KeepBut.trans zq38 hk (.inl rfl)); replace HB := za (hb); replace HI0 := za (hi); (try clear hb hk hi); obtain ⟨hcz71_0, hcz71_1, hcz71_2, hcz71_3⟩ := zc4 BK173.out; obtain ⟨hfz71_0, hfz71_1, hfz71_2, hfz71_3⟩ := zf4 BK173.out; have hnb72 := NB162_0.out; have hnc72 := NB0_162.out; obtain ⟨hcz73_0, hcz73_1, hcz73_2, hcz73_3⟩ := zc4 BK162.out; obtain ⟨hfz73_0, hfz73_1, hfz73_2⟩ := zf3 BK162.out; have hfz73_3 := blk_frozen BK162.out 3))
       refine bodyPost_ret (results_cell_row rfl _ _ gb162 77 #[.string t168, .string t178, .int .i64 t198, .int .i64 t163] (0, 0) _ rfl (by (with_reducible repeat (first | refine blk_drewN ?_ _ | refine blk_drew ?_ | refine blk_alloc ?_ _)); refine blk_put (cs := #[.string t168, .string t178, .int .i64 t198, .int .i64 0]) ?_ 3 _ rfl; (with_reducible repeat (first | refine blk_drewN ?_ _ | refine blk_drew ?_ | refine blk_alloc ?_ _)); refine blk_put (cs := #[.string t168, .string t178, .int .i64 0, .int .i64 0]) ?_ 2 _ rfl; (with_reducible repeat (first | refine blk_drewN ?_ _ | refine blk_drew ?_ | refine blk_alloc ?_ _)); refine blk_put (cs := #[.string t168, .string (⟨#[]⟩ : ByteArray), .int .i64 0, .int .i64 0]) ?_ 1 _ rfl; (with_reducible repeat (first | refine blk_drewN ?_ _ | refine blk_drew ?_ | refine blk_alloc ?_ _)); refine blk_put (cs := #[.string (⟨#[]⟩ : ByteArray), .string (⟨#[]⟩ : ByteArray), .int .i64 0, .int .i64 0]) ?_ 0 _ rfl; (with_reducible repeat (first | refine blk_drewN ?_ _ | refine blk_drew ?_ | refine blk_alloc ?_ _)); exact BK162.out) Try.underlying77 rfl zq18) rfl ?_
       exact ⟨zq16, zq33, zq34, zq38⟩
  ·
   rw [if_neg c9] at H
   exact absurd H (by simp)
 ·
  rw [if_neg c8] at H
  exact absurd H (by simp)
def rr_open.j0 : Nat → ByteArray → Bool → List (S69) → Int → Int → Int → Int → Option (Int × Int × Int × Int)
 | 0, _, _, _, _, _, _, _ => none
 | k + 1, x1, x13, x1000, x1001, x1002, x1003, x1004 => if x13 = true then ((rr_fail.f x1000 x1001 x1002 x1003 x1004 12).bind fun bt212 => ((rr_want.f x1000 bt212.1 bt212.2.1 bt212.2.2.1 bt212.2.2.2 x1).bind fun bt216 => (some (bt216.1, wrap64 (bt216.2.1 + 1), bt216.2.2.1, bt216.2.2.2)))) else ((rr_want.f x1000 x1001 x1002 x1003 x1004 x1).bind fun bt220 => (some (bt220.1, wrap64 (bt220.2.1 + 1), bt220.2.2.1, bt220.2.2.2)))
def rr_open.f (k : Nat) (s0_0 : List (S69)) (s0_1 : Int) (s0_2 : Int) (s0_3 : Int) (s0_4 : Int) (a1 : ByteArray) : Option (Int × Int × Int × Int) := (rr_is.f s0_0 s0_1 s0_2 s0_3 s0_4 a1).bind fun bt207 => (if bt207.1 = true then (rr_open.j0 k a1 (decide (bt207.2.2.1 ≥ 40)) s0_0 bt207.2.1 bt207.2.2.1 bt207.2.2.2.1 bt207.2.2.2.2) else (rr_open.j0 k a1 false s0_0 bt207.2.1 bt207.2.2.1 bt207.2.2.2.1 bt207.2.2.2.2))
theorem rr_open.mono_l : ∀ k, (∀ y0 y1 y2 y3 y4 y5 y6, LeO (rr_open.j0 k y0 y1 y2 y3 y4 y5 y6) (rr_open.j0 (k + 1) y0 y1 y2 y3 y4 y5 y6))
 | 0 => fun _ _ _ _ _ _ _ r h => by simp [rr_open.j0] at h
 | k + 1 => by
  have ih0 := rr_open.mono_l k
  ·
   intro y0 y1 y2 y3 y4 y5 y6
   unfold rr_open.j0
   repeat' with_reducible first | apply ih0 | exact LeO.refl _ | exact LeO.none _ | refine LeO.ite ?_ ?_ | refine LeO.bind ?_ (fun _ => ?_)
theorem rr_open.mono : ∀ a0 a1 a2 a3 a4 a5 k, LeO (rr_open.f k a0 a1 a2 a3 a4 a5) (rr_open.f (k + 1) a0 a1 a2 a3 a4 a5) := by
 intro a0 a1 a2 a3 a4 a5 k
 have ih0 := rr_open.mono_l k
 unfold rr_open.f
 repeat' with_reducible first | apply ih0 | exact LeO.refl _ | exact LeO.none _ | refine LeO.ite ?_ ?_ | refine LeO.bind ?_ (fun _ => ?_)
theorem rr_open.calls (k : Nat) (g : Nat) (s0_0 : List (S69)) (s0_1 : Int) (s0_2 : Int) (s0_3 : Int) (s0_4 : Int) (a1 : ByteArray) (r1 : Int) (r2 : Int) (r3 : Int) (r4 : Int) (w0 w : World) (hI : IsS57 w0 w g s0_0 s0_1 s0_2 s0_3 s0_4) (hB : Below w0.heap.size w0 w) (h : rr_open.f k s0_0 s0_1 s0_2 s0_3 s0_4 a1 = some (r1, r2, r3, r4)) :
  Calls Try.prog 38 #[.pointer (some ⟨g, 0, none⟩), .string a1] w fun e w' => e = .returned (.tuple #[]) ∧ IsS57 w0 w' g s0_0 r1 r2 r3 r4 ∧ Below w0.heap.size w0 w' ∧ KeepBut w w' g none := by
 have HI0 := za hI
 have HK := za (KeepBut.refl w g none)
 have HL := za hB.size
 clear hI
 have HW0 := za hB.size
 have HB := za hB
 clear hB
 have H : ((rr_is.f s0_0 s0_1 s0_2 s0_3 s0_4 a1).bind fun bt207 => (if bt207.1 = true then (rr_open.j0 k a1 (decide (bt207.2.2.1 ≥ 40)) s0_0 bt207.2.1 bt207.2.2.1 bt207.2.2.2.1 bt207.2.2.2.2) else (rr_open.j0 k a1 false s0_0 bt207.2.1 bt207.2.2.1 bt207.2.2.2.1 bt207.2.2.2.2))) = some (r1, r2, r3, r4) := h
 clear h
 have HC3 := za H
 clear H
 go_enter Try.func38, Try.ntmps38
 go_upto_region 0 with (fail)
 go_cut [13] (fun v13 wc => ∃ (kq : Nat) (x13_2 : Bool) (x1001_2 : Int) (x1002_2 : Int) (x1003_2 : Int) (x1004_2 : Int), v13 = .bool x13_2 ∧ Aside0 (rr_open.j0 kq a1 x13_2 s0_0 x1001_2 x1002_2 x1003_2 x1004_2 = some (r1, r2, r3, r4)) ∧ Aside0 (kq ≤ k) ∧ Aside0 (IsS57 w0 wc g s0_0 x1001_2 x1002_2 x1003_2 x1004_2) ∧ Aside0 (KeepBut w wc g none) ∧ Aside0 (Below w0.heap.size w0 wc))
 case first =>
  have H := HC3.out
  clear HC3
  replace H := Option.bind_eq_some_iff.mp H
  obtain ⟨⟨t207, t208, t209, t210, t211⟩, A40, H⟩ := H
  (try dsimp only at H)
  have A4 := za A40
  clear A40
  by_cases c5 : t207 = true
  ·
   subst c5
   rw [if_pos rfl] at H
   have H' := za H
   clear H
   go_wp2_with (first | ((with_reducible refine gate_callee (f := 30) rfl ?_); refine goesL_ (some 6) rfl rfl Try.func30 zq18 rfl #[.pointer (some ⟨g, 0, none⟩), .string a1] rfl zq1 ?_; (with_reducible refine (rr_is.calls g s0_0 s0_1 s0_2 s0_3 s0_4 a1 true t208 t209 t210 t211 w0 _ ?side1 ?side2 A4.out).mono ?_); (case side1 => exact zq0); (case side2 => exact zq3); rintro e w6 ⟨rfl, hi, hb, hk⟩; refine ⟨_, rfl, ?_⟩; replace HK := za (KeepBut.trans zq7 hk (.inl rfl)); replace HB := za (hb); replace HI0 := za (hi); (try clear hb hk hi); obtain ⟨ASz7_0, cSz7_0, HGz7, hgz7, HSz7_0⟩ := HI0.out; have hcz7_0 := cellS57_0 HGz7; have hcz7_1 := cellS57_1 HGz7; have hcz7_2 := cellS57_2 HGz7; have hcz7_3 := cellS57_3 HGz7; have hcz7_4 := cellS57_4 HGz7; have hfz7_1 := blk_frozen HGz7 1; have hfz7_2 := blk_frozen HGz7 2; have hfz7_3 := blk_frozen HGz7 3; have hfz7_4 := blk_frozen HGz7 4; clear HGz7 hgz7))
   go_meet
   case rel => exact ⟨_, (decide (t209 ≥ 40)), (t208), (t209), (t210), (t211), zq29, H', ⟨zq78⟩, ⟨zq0⟩, ⟨zq7⟩, ⟨zq3⟩⟩
  ·
   replace c5 := Bool.eq_false_iff.mpr c5
   subst c5
   rw [if_neg (show ¬ (false = true) by decide)] at H
   have H' := za H
   clear H
   go_wp2_with (first | ((with_reducible refine gate_callee (f := 30) rfl ?_); refine goesL_ (some 6) rfl rfl Try.func30 zq18 rfl #[.pointer (some ⟨g, 0, none⟩), .string a1] rfl zq1 ?_; (with_reducible refine (rr_is.calls g s0_0 s0_1 s0_2 s0_3 s0_4 a1 false t208 t209 t210 t211 w0 _ ?side1 ?side2 A4.out).mono ?_); (case side1 => exact zq0); (case side2 => exact zq3); rintro e w8 ⟨rfl, hi, hb, hk⟩; refine ⟨_, rfl, ?_⟩; replace HK := za (KeepBut.trans zq7 hk (.inl rfl)); replace HB := za (hb); replace HI0 := za (hi)))
   go_meet
   case rel => exact ⟨_, (false), (t208), (t209), (t210), (t211), zq29, H', ⟨zq78⟩, ⟨zq0⟩, ⟨zq7⟩, ⟨zq3⟩⟩
 case rest =>
  clear HC3
  obtain ⟨kq, x13_2, x1001_2, x1002_2, x1003_2, x1004_2, rfl, HA, HJ2, HI0, HK, HB⟩ := hcut
  cases kq with
  | zero => exact absurd HA.out (by simp [rr_open.j0])
  | succ kj2 =>
   have H := HA.out
   clear HA
   simp only [rr_open.j0] at H
   by_cases c9 : x13_2 = true
   ·
    subst c9
    rw [if_pos rfl] at H
    replace H := Option.bind_eq_some_iff.mp H
    obtain ⟨⟨t212, t213, t214, t215⟩, A100, H⟩ := H
    (try dsimp only at H)
    have A10 := za A100
    clear A100
    replace H := Option.bind_eq_some_iff.mp H
    obtain ⟨⟨t216, t217, t218, t219⟩, A110, H⟩ := H
    (try dsimp only at H)
    have A11 := za A110
    clear A110
    simp only [Option.some.injEq, Prod.mk.injEq] at H
    obtain ⟨rfl, rfl, rfl, rfl⟩ := H
    go_wp2_with (first | ((with_reducible refine gate_callee (f := 27) rfl ?_); refine goesL_ (some 15) rfl rfl Try.func27 zq18 rfl #[.pointer (some ⟨g, 0, none⟩), .int .i64 12] rfl zq1 ?_; (with_reducible refine (rr_fail.calls g s0_0 x1001_2 x1002_2 x1003_2 x1004_2 12 t212 t213 t214 t215 w0 _ ?side1 ?side2 A10.out).mono ?_); (case side1 => exact zq0); (case side2 => exact zq3); rintro e w12 ⟨rfl, hi, hb, hk⟩; refine ⟨_, rfl, ?_⟩; replace HK := za (KeepBut.trans zq7 hk (.inl rfl)); replace HB := za (hb); replace HI0 := za (hi)) | ((with_reducible refine gate_callee (f := 21) rfl ?_); refine goesL_ (some 18) rfl rfl Try.func21 zq18 rfl #[.pointer (some ⟨g, 0, none⟩), .string a1] rfl zq1 ?_; (with_reducible refine (rr_want.calls g s0_0 t212 t213 t214 t215 a1 t216 t217 t218 t219 w0 _ ?side1 ?side2 A11.out).mono ?_); (case side1 => exact zq0); (case side2 => exact zq3); rintro e w13 ⟨rfl, hi, hb, hk⟩; refine ⟨_, rfl, ?_⟩; replace HK := za (KeepBut.trans zq7 hk (.inl rfl)); replace HB := za (hb); replace HI0 := za (hi); (try clear hb hk hi); obtain ⟨ASz14_0, cSz14_0, HGz14, hgz14, HSz14_0⟩ := HI0.out; have hcz14_0 := cellS57_0 HGz14; have hcz14_1 := cellS57_1 HGz14; have hcz14_2 := cellS57_2 HGz14; have hcz14_3 := cellS57_3 HGz14; have hcz14_4 := cellS57_4 HGz14; have hfz14_1 := blk_frozen HGz14 1; have hfz14_2 := blk_frozen HGz14 2; have hfz14_3 := blk_frozen HGz14 3; have hfz14_4 := blk_frozen HGz14 4; clear HGz14 hgz14))
    first | go_end0 | ((try simp only [Exit.inBlock, Exit.then]); refine bodyPost_ret (results_none rfl _ _ _) rfl ?_)
    exact ⟨zq16, zq0, zq3, zq7⟩
   ·
    replace c9 := Bool.eq_false_iff.mpr c9
    subst c9
    rw [if_neg (show ¬ (false = true) by decide)] at H
    replace H := Option.bind_eq_some_iff.mp H
    obtain ⟨⟨t220, t221, t222, t223⟩, A150, H⟩ := H
    (try dsimp only at H)
    have A15 := za A150
    clear A150
    simp only [Option.some.injEq, Prod.mk.injEq] at H
    obtain ⟨rfl, rfl, rfl, rfl⟩ := H
    go_wp2_with (first | ((with_reducible refine gate_callee (f := 21) rfl ?_); refine goesL_ (some 18) rfl rfl Try.func21 zq18 rfl #[.pointer (some ⟨g, 0, none⟩), .string a1] rfl zq1 ?_; (with_reducible refine (rr_want.calls g s0_0 x1001_2 x1002_2 x1003_2 x1004_2 a1 t220 t221 t222 t223 w0 _ ?side1 ?side2 A15.out).mono ?_); (case side1 => exact zq0); (case side2 => exact zq3); rintro e w16 ⟨rfl, hi, hb, hk⟩; refine ⟨_, rfl, ?_⟩; replace HK := za (KeepBut.trans zq7 hk (.inl rfl)); replace HB := za (hb); replace HI0 := za (hi); (try clear hb hk hi); obtain ⟨ASz17_0, cSz17_0, HGz17, hgz17, HSz17_0⟩ := HI0.out; have hcz17_0 := cellS57_0 HGz17; have hcz17_1 := cellS57_1 HGz17; have hcz17_2 := cellS57_2 HGz17; have hcz17_3 := cellS57_3 HGz17; have hcz17_4 := cellS57_4 HGz17; have hfz17_1 := blk_frozen HGz17 1; have hfz17_2 := blk_frozen HGz17 2; have hfz17_3 := blk_frozen HGz17 3; have hfz17_4 := blk_frozen HGz17 4; clear HGz17 hgz17))
    first | go_end0 | ((try simp only [Exit.inBlock, Exit.then]); refine bodyPost_ret (results_none rfl _ _ _) rfl ?_)
    exact ⟨zq16, zq0, zq3, zq7⟩
def rr_qname.f (s0_0 : List (S69)) (s0_1 : Int) (s0_2 : Int) (s0_3 : Int) (s0_4 : Int) : Option (ByteArray × ByteArray × Int × Int × Int × Int) := (rr_name.f s0_0 s0_1 s0_2 s0_3 s0_4).bind fun bt224 => ((rr_take.f s0_0 bt224.2.1 bt224.2.2.1 bt224.2.2.2.1 bt224.2.2.2.2 (⟨#[46]⟩ : ByteArray)).bind fun bt229 => (if bt229.1 = true then ((rr_name.f s0_0 bt229.2.1 bt229.2.2.1 bt229.2.2.2.1 bt229.2.2.2.2).bind fun bt234 => (some (bt224.1, bt234.1, bt234.2.1, bt234.2.2.1, bt234.2.2.2.1, bt234.2.2.2.2))) else (some ((⟨#[]⟩ : ByteArray), bt224.1, bt229.2.1, bt229.2.2.1, bt229.2.2.2.1, bt229.2.2.2.2))))
theorem rr_qname.calls (g : Nat) (s0_0 : List (S69)) (s0_1 : Int) (s0_2 : Int) (s0_3 : Int) (s0_4 : Int) (r1 : ByteArray) (r2 : ByteArray) (r3 : Int) (r4 : Int) (r5 : Int) (r6 : Int) (w0 w : World) (hI : IsS57 w0 w g s0_0 s0_1 s0_2 s0_3 s0_4) (hB : Below w0.heap.size w0 w) (h : rr_qname.f s0_0 s0_1 s0_2 s0_3 s0_4 = some (r1, r2, r3, r4, r5, r6)) :
  Calls Try.prog 42 #[.pointer (some ⟨g, 0, none⟩)] w fun e w' => e = .returned (.tuple #[.string r1, .string r2]) ∧ IsS57 w0 w' g s0_0 r3 r4 r5 r6 ∧ Below w0.heap.size w0 w' ∧ KeepBut w w' g none := by
 have HI0 := za hI
 have HK := za (KeepBut.refl w g none)
 have HL := za hB.size
 clear hI
 have HW0 := za hB.size
 have HB := za hB
 clear hB
 have H : ((rr_name.f s0_0 s0_1 s0_2 s0_3 s0_4).bind fun bt224 => ((rr_take.f s0_0 bt224.2.1 bt224.2.2.1 bt224.2.2.2.1 bt224.2.2.2.2 (⟨#[46]⟩ : ByteArray)).bind fun bt229 => (if bt229.1 = true then ((rr_name.f s0_0 bt229.2.1 bt229.2.2.1 bt229.2.2.2.1 bt229.2.2.2.2).bind fun bt234 => (some (bt224.1, bt234.1, bt234.2.1, bt234.2.2.1, bt234.2.2.2.1, bt234.2.2.2.2))) else (some ((⟨#[]⟩ : ByteArray), bt224.1, bt229.2.1, bt229.2.2.1, bt229.2.2.2.1, bt229.2.2.2.2))))) = some (r1, r2, r3, r4, r5, r6) := h
 clear h
 replace H := Option.bind_eq_some_iff.mp H
 obtain ⟨⟨t224, t225, t226, t227, t228⟩, A20, H⟩ := H
 (try dsimp only at H)
 have A2 := za A20
 clear A20
 replace H := Option.bind_eq_some_iff.mp H
 obtain ⟨⟨t229, t230, t231, t232, t233⟩, A30, H⟩ := H
 (try dsimp only at H)
 have A3 := za A30
 clear A30
 by_cases c4 : t229 = true
 ·
  subst c4
  rw [if_pos rfl] at H
  replace H := Option.bind_eq_some_iff.mp H
  obtain ⟨⟨t234, t235, t236, t237, t238⟩, A50, H⟩ := H
  (try dsimp only at H)
  have A5 := za A50
  clear A50
  simp only [Option.some.injEq, Prod.mk.injEq] at H
  obtain ⟨rfl, rfl, rfl, rfl, rfl, rfl⟩ := H
  go_enter Try.func42, Try.ntmps42
  go_wp2_with (first | ((with_reducible refine gate_callee (f := 23) rfl ?_); refine goesL_ (some 6) rfl rfl Try.func23 zq18 rfl #[.pointer (some ⟨g, 0, none⟩)] rfl zq1 ?_; (with_reducible refine (rr_name.calls g s0_0 s0_1 s0_2 s0_3 s0_4 t224 t225 t226 t227 t228 w0 _ ?side1 ?side2 A2.out).mono ?_); (case side1 => exact zq0); (case side2 => exact zq3); rintro e w6 ⟨rfl, hi, hb, hk⟩; refine ⟨_, rfl, ?_⟩; replace HK := za (KeepBut.trans zq7 hk (.inl rfl)); replace HB := za (hb); replace HI0 := za (hi)) | ((with_reducible refine gate_callee (f := 24) rfl ?_); refine goesL_ (some 8) rfl rfl Try.func24 zq18 rfl #[.pointer (some ⟨g, 0, none⟩), .string (⟨#[46]⟩ : ByteArray)] rfl zq1 ?_; (with_reducible refine (rr_take.calls g s0_0 t225 t226 t227 t228 (⟨#[46]⟩ : ByteArray) true t230 t231 t232 t233 w0 _ ?side1 ?side2 A3.out).mono ?_); (case side1 => exact zq0); (case side2 => exact zq3); rintro e w7 ⟨rfl, hi, hb, hk⟩; refine ⟨_, rfl, ?_⟩; replace HK := za (KeepBut.trans zq7 hk (.inl rfl)); replace HB := za (hb); replace HI0 := za (hi)) | ((with_reducible refine gate_callee (f := 23) rfl ?_); refine goesL_ (some 11) rfl rfl Try.func23 zq18 rfl #[.pointer (some ⟨g, 0, none⟩)] rfl zq1 ?_; (with_reducible refine (rr_name.calls g s0_0 t230 t231 t232 t233 t234 t235 t236 t237 t238 w0 _ ?side1 ?side2 A5.out).mono ?_); (case side1 => exact zq0); (case side2 => exact zq3); rintro e w8 ⟨rfl, hi, hb, hk⟩; refine ⟨_, rfl, ?_⟩; replace HK := za (KeepBut.trans zq7 hk (.inl rfl)); replace HB := za (hb); replace HI0 := za (hi)))
  go_ret2
  exact ⟨zq16, zq0, zq3, zq7⟩
 ·
  replace c4 := Bool.eq_false_iff.mpr c4
  subst c4
  rw [if_neg (show ¬ (false = true) by decide)] at H
  simp only [Option.some.injEq, Prod.mk.injEq] at H
  obtain ⟨rfl, rfl, rfl, rfl, rfl, rfl⟩ := H
  go_enter Try.func42, Try.ntmps42
  go_wp2_with (first | ((with_reducible refine gate_callee (f := 23) rfl ?_); refine goesL_ (some 6) rfl rfl Try.func23 zq18 rfl #[.pointer (some ⟨g, 0, none⟩)] rfl zq1 ?_; (with_reducible refine (rr_name.calls g s0_0 s0_1 s0_2 s0_3 s0_4 t224 t225 t226 t227 t228 w0 _ ?side1 ?side2 A2.out).mono ?_); (case side1 => exact zq0); (case side2 => exact zq3); rintro e w9 ⟨rfl, hi, hb, hk⟩; refine ⟨_, rfl, ?_⟩; replace HK := za (KeepBut.trans zq7 hk (.inl rfl)); replace HB := za (hb); replace HI0 := za (hi)) | ((with_reducible refine gate_callee (f := 24) rfl ?_); refine goesL_ (some 8) rfl rfl Try.func24 zq18 rfl #[.pointer (some ⟨g, 0, none⟩), .string (⟨#[46]⟩ : ByteArray)] rfl zq1 ?_; (with_reducible refine (rr_take.calls g s0_0 t225 t226 t227 t228 (⟨#[46]⟩ : ByteArray) false t230 t231 t232 t233 w0 _ ?side1 ?side2 A3.out).mono ?_); (case side1 => exact zq0); (case side2 => exact zq3); rintro e w10 ⟨rfl, hi, hb, hk⟩; refine ⟨_, rfl, ?_⟩; replace HK := za (KeepBut.trans zq7 hk (.inl rfl)); replace HB := za (hb); replace HI0 := za (hi)))
  go_ret2
  exact ⟨zq16, zq0, zq3, zq7⟩
def ra_two.f (l0 : List (S48)) (a1 : Int) (a2 : Int) (a3 : Int) : Option ((List (S48))) := if l0.length < 1954687338268 then (some (l0 ++ [(⟨a2, 0, (⟨#[]⟩ : ByteArray), (⟨#[]⟩ : ByteArray), a1, wrap64 ((l0.length : Int) - 1), a3⟩ : S48)])) else (none)
theorem ra_two.calls (P0_ : Nat → Prop) (u9000_ : Value) (l0 : List (S48)) (a1 : Int) (a2 : Int) (a3 : Int) (r : List (S48)) (w0 w : World) (hB : Below w0.heap.size w0 w) (ho0 : Kd.R k48 48 w w0.heap.size P0_ u9000_ l0) (h : ra_two.f l0 a1 a2 a3 = some r) :
  Calls Try.prog 47 #[u9000_, .int .i64 a1, .int .i64 a2, .int .i64 a3] w fun e w' => ∃ v0_ : Value, e = .returned (v0_) ∧ Kd.R k48 48 w' w0.heap.size (fun k_ => (P0_ k_ ∨ w.heap.size ≤ k_)) v0_ r ∧ Below w0.heap.size w0 w' ∧ Kept w w' (fun k_ => P0_ k_) := by
 have hu48 := Try.underlying48
 have HO0 := za (show Kd.R k48 48 w w0.heap.size (fun k_ => (P0_ k_ ∨ w.heap.size ≤ k_)) u9000_ l0 from Kd.R_mono ho0 (fun k_ hk => (.inl hk)))
 have HK := za (Kept.refl w (fun k_ => P0_ k_))
 have HW0 := za hB.size
 have HB := za hB
 clear hB
 have H : (if l0.length < 1954687338268 then (some (l0 ++ [(⟨a2, 0, (⟨#[]⟩ : ByteArray), (⟨#[]⟩ : ByteArray), a1, wrap64 ((l0.length : Int) - 1), a3⟩ : S48)])) else (none)) = some r := h
 clear h
 by_cases c5 : l0.length < 1954687338268
 ·
  rw [if_pos c5] at H
  have LMc5 := za c5
  clear c5
  obtain ⟨y239, hy239⟩ : ∃ y_ : List (S48), y_ = (l0 ++ [(⟨a2, 0, (⟨#[]⟩ : ByteArray), (⟨#[]⟩ : ByteArray), a1, wrap64 ((l0.length : Int) - 1), a3⟩ : S48)]) := ⟨_, rfl⟩
  replace H : (some y239) = some r := by first | (rw [hy239]; with_reducible exact H) | (have H2_ := (Option.bind_some _ _).symm.trans H; rw [hy239]; with_reducible exact H2_) | (have H2_ := (Option.bind_some _ _).symm.trans H; with_reducible exact H2_) | with_reducible exact H | (rw [hy239]; exact H) | exact H
  have Ny239 := za hy239
  clear hy239
  obtain rfl := Option.some.inj H
  obtain ⟨Ao6, co6, eo6⟩ := Kd.R_slice HO0.out
  subst eo6
  go_enter Try.func47, Try.ntmps47
  go_wp2_with (first | ((with_reducible refine gate_builtin (b := .append) (xs := #[.tmp 9, .tmp 17]) rfl ?_); at_builtin; refine Kd.R_append k48 (w0 := w0) w0.heap.size rfl (.tmp 9) (.tmp 17) 23 48 (.agg #[(.int .i64 0), (.int .i64 0), (.string ⟨#[]⟩), (.string ⟨#[]⟩), (.int .i64 0), (.int .i64 0), (.int .i64 0)]) 72 rfl Try.underlying23 info48 rfl (by decide) (by omega) (.slice Ao6 l0.length co6) l0 (⟨a2, 0, (⟨#[]⟩ : ByteArray), (⟨#[]⟩ : ByteArray), a1, wrap64 ((l0.length : Int) - 1), a3⟩ : S48) [.int .i64 a2, .int .i64 0, .string (⟨#[]⟩ : ByteArray), .string (⟨#[]⟩ : ByteArray), .int .i64 a1, .int .i64 (wrap64 ((l0.length : Int) - 1)), .int .i64 a3] (fun k_ => (P0_ k_ ∨ w.heap.size ≤ k_)) (fun _ => False) rfl rfl ?aP (fun _ hk => hk.elim) ?aF ?aO ?aB ?aS ?aL ?_; (case aP => exact k48_mkM _ _ _ (⟨a2, 0, (⟨#[]⟩ : ByteArray), (⟨#[]⟩ : ByteArray), a1, wrap64 ((l0.length : Int) - 1), a3⟩ : S48)); (case aB => exact zq4); (case aF => exact (fun k_ hk => (.inr (Nat.le_trans (by first | exact HK.out.1 | exact (show Kept w _ (fun k_ => P0_ k_) from zq88).1) hk)))); (case aO => exact (zr HO0.out)); (case aS => exact (below_size zq4)); (case aL => have := LMc5.out; omega); intro v240 w7 ho hb hg hat; rw [← Ny239.out] at ho; replace HB := za (hb); replace HK := za (Kept.of_grown (S := (fun k_ => P0_ k_)) hg zq88 (fun k_ e_ => (HO0.out.1 k_ e_))); have HO241 := za (ho); clear HO0; clear ho hb hg hat))
  go_ret
  exact ⟨_, zq16, by (with_reducible repeat (first | apply Kd.R_alloc | apply Kd.R_drewN | apply Kd.R_drew)); exact HO241.out, zq4, zq88⟩
 ·
  rw [if_neg c5] at H
  exact absurd H (by simp)
end Go.Proofs.Ytcmpmlklednhbaa.QEvalJoins
