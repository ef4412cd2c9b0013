import Derived.Test.YtcjnhnnfoadklaaZRBx8
namespace Go.Proofs.Ytcjnhnnfoadklaa.QRunBranches
open Go.RowKit Go.Proofs.YtcjnhnnfoadklaaW.PrintWords Go.Proofs.YtcjnhnnfoadklaaW.PrintLast Go.Proofs.YtcjnhnnfoadklaaW.PrintMore
attribute [local go_sem] max2_int min2_int max_two min_two max_three min_three max_four min_four
set_option linter.unusedVariables false
set_option linter.unusedSimpArgs false
def rr_variable.j0 : Nat → Bool → Bool → List (S110) → Int → Int → Int → Int → ByteArray → ByteArray → Int → Int → Int → ByteArray → Int → Option (ByteArray × ByteArray × Int × Int × Int × Int × Int × Int)
 | 0, _, _, _, _, _, _, _, _, _, _, _, _, _, _ => none
 | k + 1, x4, x39, x1000, x1001, x1002, x1003, x1004, x186000, x186001, x186002, x186003, x206000, x206001, x206002 => if x39 = true then (none) else ((ra_num.f k x206001).bind fun t206 => (if x4 = true then (none) else ((rr_want.f x1000 (wrap64 (x1001 + 1)) x1002 x1003 x1004 (⟨#[59]⟩ : ByteArray)).bind fun bt207 => (some (x186000, x186001, t206, x186003, bt207.1, bt207.2.1, bt207.2.2.1, bt207.2.2.2)))))
def rr_variable.f (k : Nat) (s0_0 : List (S110)) (s0_1 : Int) (s0_2 : Int) (s0_3 : Int) (s0_4 : Int) : Option (ByteArray × ByteArray × Int × Int × Int × Int × Int × Int) := (rr_here.f s0_0 s0_1 s0_2 s0_3 s0_4).bind fun bt175 => ((rr_name.f s0_0 bt175.2.1 bt175.2.2.1 bt175.2.2.2.1 bt175.2.2.2.2).bind fun bt180 => ((rr_want.f s0_0 bt180.2.1 bt180.2.2.1 bt180.2.2.2.1 bt180.2.2.2.2 (⟨#[58]⟩ : ByteArray)).bind fun bt186 => ((rr_name.f s0_0 bt186.1 bt186.2.1 bt186.2.2.1 bt186.2.2.2).bind fun bt190 => ((rr_want.f s0_0 bt190.2.1 bt190.2.2.1 bt190.2.2.2.1 bt190.2.2.2.2 (⟨#[61]⟩ : ByteArray)).bind fun bt195 => ((rr_take.f s0_0 bt195.1 bt195.2.1 bt195.2.2.1 bt195.2.2.2 (⟨#[45]⟩ : ByteArray)).bind fun bt199 => (if 0 ≤ bt199.2.1 then (if bt199.2.1 < (s0_0.length : Int) then (if bt199.2.2.2.1 = 0 then (rr_variable.j0 k bt199.1 (((rd_T110 s0_0 bt199.2.1).f0) != 2) s0_0 bt199.2.1 bt199.2.2.1 bt199.2.2.2.1 bt199.2.2.2.2 bt180.1 bt190.1 0 bt175.1 ((rd_T110 s0_0 bt199.2.1).f0) ((rd_T110 s0_0 bt199.2.1).f1) ((rd_T110 s0_0 bt199.2.1).f2)) else (rr_variable.j0 k bt199.1 true s0_0 bt199.2.1 bt199.2.2.1 bt199.2.2.2.1 bt199.2.2.2.2 bt180.1 bt190.1 0 bt175.1 ((rd_T110 s0_0 bt199.2.1).f0) ((rd_T110 s0_0 bt199.2.1).f1) ((rd_T110 s0_0 bt199.2.1).f2))) else (none)) else (none)))))))
theorem rr_variable.mono_l : ∀ k, (∀ y0 y1 y2 y3 y4 y5 y6 y7 y8 y9 y10 y11 y12 y13, LeO (rr_variable.j0 k y0 y1 y2 y3 y4 y5 y6 y7 y8 y9 y10 y11 y12 y13) (rr_variable.j0 (k + 1) y0 y1 y2 y3 y4 y5 y6 y7 y8 y9 y10 y11 y12 y13))
 | 0 => fun _ _ _ _ _ _ _ _ _ _ _ _ _ _ r h => by simp [rr_variable.j0] at h
 | k + 1 => by
  have ih0 := rr_variable.mono_l k
  ·
   intro y0 y1 y2 y3 y4 y5 y6 y7 y8 y9 y10 y11 y12 y13
   unfold rr_variable.j0
   repeat' with_reducible first | apply ih0 | apply ra_num.mono | exact LeO.refl _ | exact LeO.none _ | refine LeO.ite ?_ ?_ | refine LeO.bind ?_ (fun _ => ?_)
theorem rr_variable.mono : ∀ a0 a1 a2 a3 a4 k, LeO (rr_variable.f k a0 a1 a2 a3 a4) (rr_variable.f (k + 1) a0 a1 a2 a3 a4) := by
 intro a0 a1 a2 a3 a4 k
 have ih0 := rr_variable.mono_l k
 unfold rr_variable.f
 repeat' with_reducible first | apply ih0 | apply ra_num.mono | exact LeO.refl _ | exact LeO.none _ | refine LeO.ite ?_ ?_ | refine LeO.bind ?_ (fun _ => ?_)
def rr_variable.T6 : Bool × List (List Nat × List Nat) := (true, [([], []), ([0], [0]), ([1], [1]), ([2], [2]), ([], []), ([4], [4]), ([5], [5]), ([6], [6]), ([3, 7], [3, 7]), ([8], [8]), ([], []), ([10, 9, 0, 1, 2, 3, 4, 5, 6, 7, 8, 9, 10], [9, 10])])
def rr_variable.B6 : List Nat := [0, 1, 3, 7, 0, 16, 48, 112, 255, 511, 0, 2047]
theorem rr_variable.tab6 : rtab .any (opsOf Try.f49 6) = rr_variable.T6 := by kernel_rfl
theorem rr_variable.bits6 : waitsOk rr_variable.T6.2 rr_variable.B6 = true := by kernel_rfl
set_option maxHeartbeats 8000000 in
set_option maxRecDepth 100000 in
theorem rr_variable.calls (k : Nat) (g : Nat) (s0_0 : List (S110)) (s0_1 : Int) (s0_2 : Int) (s0_3 : Int) (s0_4 : Int) (r1 : ByteArray) (r2 : ByteArray) (r3 : Int) (r4 : Int) (r5 : Int) (r6 : Int) (r7 : Int) (r8 : Int) (w0 w : World) (hI : IsS83 w0 w g s0_0 s0_1 s0_2 s0_3 s0_4) (hB : Below w0.heap.size w0 w) (h : rr_variable.f k s0_0 s0_1 s0_2 s0_3 s0_4 = some (r1, r2, r3, r4, r5, r6, r7, r8)) :
  Calls Try.prog 49 #[.pointer (some ⟨g, 0, none⟩)] w fun e w' => e = .returned (.agg #[.string r1, .string r2, .int .i64 r3, .int .i64 r4]) ∧ IsS83 w0 w' g s0_0 r5 r6 r7 r8 ∧ Below w0.heap.size w0 w' ∧ KeepBut w w' g none := by
 have hu64 := Try.underlying64
 have hu110 := Try.underlying110
 have HI0 := za hI
 have HK := za (KeepBut.refl w g none)
 have HL := za hB.size
 clear hI
 have HW0 := za hB.size
 have HB := za hB
 clear hB
 have H : ((rr_here.f s0_0 s0_1 s0_2 s0_3 s0_4).bind fun bt175 => ((rr_name.f s0_0 bt175.2.1 bt175.2.2.1 bt175.2.2.2.1 bt175.2.2.2.2).bind fun bt180 => ((rr_want.f s0_0 bt180.2.1 bt180.2.2.1 bt180.2.2.2.1 bt180.2.2.2.2 (⟨#[58]⟩ : ByteArray)).bind fun bt186 => ((rr_name.f s0_0 bt186.1 bt186.2.1 bt186.2.2.1 bt186.2.2.2).bind fun bt190 => ((rr_want.f s0_0 bt190.2.1 bt190.2.2.1 bt190.2.2.2.1 bt190.2.2.2.2 (⟨#[61]⟩ : ByteArray)).bind fun bt195 => ((rr_take.f s0_0 bt195.1 bt195.2.1 bt195.2.2.1 bt195.2.2.2 (⟨#[45]⟩ : ByteArray)).bind fun bt199 => (if 0 ≤ bt199.2.1 then (if bt199.2.1 < (s0_0.length : Int) then (if bt199.2.2.2.1 = 0 then (rr_variable.j0 k bt199.1 (((rd_T110 s0_0 bt199.2.1).f0) != 2) s0_0 bt199.2.1 bt199.2.2.1 bt199.2.2.2.1 bt199.2.2.2.2 bt180.1 bt190.1 0 bt175.1 ((rd_T110 s0_0 bt199.2.1).f0) ((rd_T110 s0_0 bt199.2.1).f1) ((rd_T110 s0_0 bt199.2.1).f2)) else (rr_variable.j0 k bt199.1 true s0_0 bt199.2.1 bt199.2.2.1 bt199.2.2.2.1 bt199.2.2.2.2 bt180.1 bt190.1 0 bt175.1 ((rd_T110 s0_0 bt199.2.1).f0) ((rd_T110 s0_0 bt199.2.1).f1) ((rd_T110 s0_0 bt199.2.1).f2))) else (none)) else (none)))))))) = some (r1, r2, r3, r4, r5, r6, r7, r8) := h
 clear h
 replace H := Option.bind_eq_some_iff.mp H
 obtain ⟨⟨t175, t176, t177, t178, t179⟩, A20, H⟩ := H
 (try dsimp only at H)
 have A2 := za A20
 clear A20
 replace H := Option.bind_eq_some_iff.mp H
 obtain ⟨⟨t180, t181, t182, t183, t184⟩, A30, H⟩ := H
 (try dsimp only at H)
 have A3 := za A30
 clear A30
 replace H := Option.bind_eq_some_iff.mp H
 obtain ⟨⟨t186, t187, t188, t189⟩, A40, H⟩ := H
 (try dsimp only at H)
 have A4 := za A40
 clear A40
 replace H := Option.bind_eq_some_iff.mp H
 obtain ⟨⟨t190, t191, t192, t193, t194⟩, A50, H⟩ := H
 (try dsimp only at H)
 have A5 := za A50
 clear A50
 replace H := Option.bind_eq_some_iff.mp H
 obtain ⟨⟨t195, t196, t197, t198⟩, A60, H⟩ := H
 (try dsimp only at H)
 have A6 := za A60
 clear A60
 replace H := Option.bind_eq_some_iff.mp H
 obtain ⟨⟨t199, t200, t201, t202, t203⟩, A70, H⟩ := H
 (try dsimp only at H)
 have A7 := za A70
 clear A70
 by_cases c8 : 0 ≤ t200
 ·
  rw [if_pos c8] at H
  have c8b0 := decide_eq_true c8
  clear c8
  by_cases c9 : t200 < (s0_0.length : Int)
  ·
   rw [if_pos c9] at H
   have c9b0 : decide (t200 < (s0_0.length : Int)) = true := decide_eq_true c9
   clear c9
   have HC10 := za H
   clear H
   go_enter Try.func49, Try.ntmps49
   try go_wp2_with (first | ((with_reducible refine gate_dst (N := 2) rfl ?_); refine box_event ?hg (N := 2) ?hd (cs := #[.string (⟨#[]⟩ : ByteArray), .string (⟨#[]⟩ : ByteArray), .int .i64 0, .int .i64 0]) (t := 64) ?hr ?_; (case hd => rfl); (case hg => rfl); (case hr => exact zq19); intro gb174 hg w11 hbox hb; replace HB := za (below_step zq4 hb); have BK174 := za (hbox); have GW174 := za ((by rw [hg]; exact (keep_size (w := w) (g := g) (row := none) zq7) : w.heap.size ≤ gb174)); have GE174 := za ((Nat.le_trans HW0.out (by rw [hg]; exact (keep_size (w := w) (g := g) (row := none) zq7) : w.heap.size ≤ gb174) : w0.heap.size ≤ gb174)); replace HK := za (KeepBut.trans zq7 (KeepBut.of_below hb g none) (.inl rfl)); have NB0_174 := za ((by rw [hg]; exact Nat.ne_of_lt (IsS83.lt (show IsS83 w0 _ g s0_0 s0_1 s0_2 s0_3 s0_4 from zq0)) : g ≠ gb174)); have NB174_0 := za ((by rw [hg]; exact Nat.ne_of_gt (IsS83.lt (show IsS83 w0 _ g s0_0 s0_1 s0_2 s0_3 s0_4 from zq0)) : gb174 ≠ g)); replace HI0 := za (IsS83.below zq0 hb); clear hb hbox hg) | ((with_reducible refine gate_callee (f := 46) rfl ?_); refine goesL_ (some 7) rfl rfl Try.func46 zq13 rfl #[.pointer (some ⟨g, 0, none⟩)] rfl zq2 ?_; (with_reducible refine (rr_here.calls g s0_0 s0_1 s0_2 s0_3 s0_4 t175 t176 t177 t178 t179 w0 _ ?side1 ?side2 A2.out).mono ?_); (case side1 => exact zq46); (case side2 => exact zq76); rintro e w12 ⟨rfl, hi, hb, hk⟩; refine ⟨_, rfl, ?_⟩; replace BK174 := za (KeepBut.blk hk (g' := gb174) (zb BK174.out) NB174_0.out (by simp)); replace HK := za (KeepBut.trans zq65 hk (.inl rfl)); replace HB := za (hb); replace HI0 := za (hi); (try clear hb hk hi)) | ((with_reducible refine gate_callee (f := 47) rfl ?_); refine goesL_ (some 9) rfl rfl Try.func47 zq13 rfl #[.pointer (some ⟨g, 0, none⟩)] rfl zq2 ?_; (with_reducible refine (rr_name.calls g s0_0 t176 t177 t178 t179 t180 t181 t182 t183 t184 w0 _ ?side1 ?side2 A3.out).mono ?_); (case side1 => exact zq46); (case side2 => exact zq76); rintro e w13 ⟨rfl, hi, hb, hk⟩; refine ⟨_, rfl, ?_⟩; replace BK174 := za (KeepBut.blk hk (g' := gb174) (zb BK174.out) NB174_0.out (by simp)); replace HK := za (KeepBut.trans zq65 hk (.inl rfl)); replace HB := za (hb); replace HI0 := za (hi); (try clear hb hk hi)) | ((with_reducible refine gate_dst (N := 3) rfl ?_); refine box_event ?hg (N := 3) ?hd (cs := #[.string (⟨#[]⟩ : ByteArray), .string (⟨#[]⟩ : ByteArray), .int .i64 0, .int .i64 0]) (t := 64) ?hr ?_; (case hd => rfl); (case hg => rfl); (case hr => exact zq19); intro gb185 hg w14 hbox hb; replace HB := za (below_step zq76 hb); have BK185 := za (hbox); have GW185 := za ((by rw [hg]; exact (keep_size (w := w) (g := g) (row := none) zq65) : w.heap.size ≤ gb185)); have GE185 := za ((Nat.le_trans HW0.out (by rw [hg]; exact (keep_size (w := w) (g := g) (row := none) zq65) : w.heap.size ≤ gb185) : w0.heap.size ≤ gb185)); replace HK := za (KeepBut.trans zq65 (KeepBut.of_below hb g none) (.inl rfl)); have NB174_185 := za ((by rw [hg]; exact Nat.ne_of_lt (blk_lt (g := gb174) (zb BK174.out)) : gb174 ≠ gb185)); have NB185_174 := za ((by rw [hg]; exact Nat.ne_of_gt (blk_lt (g := gb174) (zb BK174.out)) : gb185 ≠ gb174)); replace BK174 := za (blk_below (g := gb174) (zb BK174.out) hb); have NB0_185 := za ((by rw [hg]; exact Nat.ne_of_lt (IsS83.lt (show IsS83 w0 _ g s0_0 t181 t182 t183 t184 from zq46)) : g ≠ gb185)); have NB185_0 := za ((by rw [hg]; exact Nat.ne_of_gt (IsS83.lt (show IsS83 w0 _ g s0_0 t181 t182 t183 t184 from zq46)) : gb185 ≠ g)); replace HI0 := za (IsS83.below zq46 hb); clear hb hbox hg; have hnb15 := NB185_174.out; have hnc15 := NB174_185.out; have hnb16 := NB185_0.out; have hnc16 := NB0_185.out; obtain ⟨hcz17_0, hcz17_1, hcz17_2, hcz17_3⟩ := zc4 BK185.out; obtain ⟨hfz17_0, hfz17_1, hfz17_2⟩ := zf3 BK185.out; have hfz17_3 := blk_frozen BK185.out 3) | ((with_reducible refine gate_callee (f := 45) rfl ?_); refine goesL_ (some 12) rfl rfl Try.func45 zq13 rfl #[.pointer (some ⟨g, 0, none⟩), .string (⟨#[58]⟩ : ByteArray)] rfl zq2 ?_; (with_reducible refine (rr_want.calls g s0_0 t181 t182 t183 t184 (⟨#[58]⟩ : ByteArray) t186 t187 t188 t189 w0 _ ?side1 ?side2 A4.out).mono ?_); (case side1 => exact zq31); (case side2 => exact zq48); rintro e w18 ⟨rfl, hi, hb, hk⟩; refine ⟨_, rfl, ?_⟩; replace BK174 := za (KeepBut.blk hk (g' := gb174) (o := .cells #[.string (⟨#[]⟩ : ByteArray), .string (⟨#[]⟩ : ByteArray), .int .i64 0, .int .i64 0] 64 (0, 0)) (by (with_reducible repeat (first | refine blk_drewN ?_ _ | refine blk_drew ?_ | refine blk_alloc ?_ _)); refine blk_far ?_ NB174_185.out _; (with_reducible repeat (first | refine blk_drewN ?_ _ | refine blk_drew ?_ | refine blk_alloc ?_ _)); refine blk_far ?_ NB174_185.out _; (with_reducible repeat (first | refine blk_drewN ?_ _ | refine blk_drew ?_ | refine blk_alloc ?_ _)); refine blk_far ?_ NB174_185.out _; (with_reducible repeat (first | refine blk_drewN ?_ _ | refine blk_drew ?_ | refine blk_alloc ?_ _)); refine blk_far ?_ NB174_185.out _; (with_reducible repeat (first | refine blk_drewN ?_ _ | refine blk_drew ?_ | refine blk_alloc ?_ _)); exact BK174.out) NB174_0.out (by simp)); replace BK185 := za (KeepBut.blk hk (g' := gb185) (o := .cells #[.string t180, .string (⟨#[]⟩ : ByteArray), .int .i64 0, .int .i64 t175] 64 (0, 0)) (by (with_reducible repeat (first | refine blk_drewN ?_ _ | refine blk_drew ?_ | refine blk_alloc ?_ _)); refine blk_put (cs := #[.string t180, .string (⟨#[]⟩ : ByteArray), .int .i64 0, .int .i64 0]) ?_ 3 _ rfl; (with_reducible repeat (first | refine blk_drewN ?_ _ | refine blk_drew ?_ | refine blk_alloc ?_ _)); refine blk_put (cs := #[.string t180, .string (⟨#[]⟩ : ByteArray), .int .i64 0, .int .i64 0]) ?_ 2 _ rfl; (with_reducible repeat (first | refine blk_drewN ?_ _ | refine blk_drew ?_ | refine blk_alloc ?_ _)); refine blk_put (cs := #[.string t180, .string (⟨#[]⟩ : ByteArray), .int .i64 0, .int .i64 0]) ?_ 1 _ rfl; (with_reducible repeat (first | refine blk_drewN ?_ _ | refine blk_drew ?_ | refine blk_alloc ?_ _)); refine blk_put (cs := #[.string (⟨#[]⟩ : ByteArray), .string (⟨#[]⟩ : ByteArray), .int .i64 0, .int .i64 0]) ?_ 0 _ rfl; (with_reducible repeat (first | refine blk_drewN ?_ _ | refine blk_drew ?_ | refine blk_alloc ?_ _)); exact BK185.out) NB185_0.out (by simp)); replace HK := za (KeepBut.trans zq40 hk (.inl rfl)); replace HB := za (hb); replace HI0 := za (hi); (try clear hb hk hi)) | ((with_reducible refine gate_callee (f := 47) rfl ?_); refine goesL_ (some 14) rfl rfl Try.func47 zq13 rfl #[.pointer (some ⟨g, 0, none⟩)] rfl zq2 ?_; (with_reducible refine (rr_name.calls g s0_0 t186 t187 t188 t189 t190 t191 t192 t193 t194 w0 _ ?side1 ?side2 A5.out).mono ?_); (case side1 => exact zq31); (case side2 => exact zq48); rintro e w19 ⟨rfl, hi, hb, hk⟩; refine ⟨_, rfl, ?_⟩; replace BK174 := za (KeepBut.blk hk (g' := gb174) (zb BK174.out) NB174_0.out (by simp)); replace BK185 := za (KeepBut.blk hk (g' := gb185) (zb BK185.out) NB185_0.out (by simp)); replace HK := za (KeepBut.trans zq40 hk (.inl rfl)); replace HB := za (hb); replace HI0 := za (hi); (try clear hb hk hi); obtain ⟨hcz20_0, hcz20_1, hcz20_2, hcz20_3⟩ := zc4 BK185.out; obtain ⟨hfz20_0, hfz20_1, hfz20_2⟩ := zf3 BK185.out; have hfz20_3 := blk_frozen BK185.out 3) | ((with_reducible refine gate_callee (f := 45) rfl ?_); refine goesL_ (some 17) rfl rfl Try.func45 zq13 rfl #[.pointer (some ⟨g, 0, none⟩), .string (⟨#[61]⟩ : ByteArray)] rfl zq2 ?_; (with_reducible refine (rr_want.calls g s0_0 t191 t192 t193 t194 (⟨#[61]⟩ : ByteArray) t195 t196 t197 t198 w0 _ ?side1 ?side2 A6.out).mono ?_); (case side1 => exact zq31); (case side2 => exact zq48); rintro e w21 ⟨rfl, hi, hb, hk⟩; refine ⟨_, rfl, ?_⟩; replace BK174 := za (KeepBut.blk hk (g' := gb174) (o := .cells #[.string (⟨#[]⟩ : ByteArray), .string (⟨#[]⟩ : ByteArray), .int .i64 0, .int .i64 0] 64 (0, 0)) (by (with_reducible repeat (first | refine blk_drewN ?_ _ | refine blk_drew ?_ | refine blk_alloc ?_ _)); refine blk_far ?_ NB174_185.out _; (with_reducible repeat (first | refine blk_drewN ?_ _ | refine blk_drew ?_ | refine blk_alloc ?_ _)); exact BK174.out) NB174_0.out (by simp)); replace BK185 := za (KeepBut.blk hk (g' := gb185) (o := .cells #[.string t180, .string t190, .int .i64 0, .int .i64 t175] 64 (0, 0)) (by (with_reducible repeat (first | refine blk_drewN ?_ _ | refine blk_drew ?_ | refine blk_alloc ?_ _)); refine blk_put (cs := #[.string t180, .string (⟨#[]⟩ : ByteArray), .int .i64 0, .int .i64 t175]) ?_ 1 _ rfl; (with_reducible repeat (first | refine blk_drewN ?_ _ | refine blk_drew ?_ | refine blk_alloc ?_ _)); exact BK185.out) NB185_0.out (by simp)); replace HK := za (KeepBut.trans zq40 hk (.inl rfl)); replace HB := za (hb); replace HI0 := za (hi); (try clear hb hk hi)) | ((with_reducible refine gate_callee (f := 48) rfl ?_); refine goesL_ (some 19) rfl rfl Try.func48 zq13 rfl #[.pointer (some ⟨g, 0, none⟩), .string (⟨#[45]⟩ : ByteArray)] rfl zq2 ?_; (with_reducible refine (rr_take.calls g s0_0 t195 t196 t197 t198 (⟨#[45]⟩ : ByteArray) t199 t200 t201 t202 t203 w0 _ ?side1 ?side2 A7.out).mono ?_); (case side1 => exact zq31); (case side2 => exact zq48); rintro e w22 ⟨rfl, hi, hb, hk⟩; refine ⟨_, rfl, ?_⟩; replace BK174 := za (KeepBut.blk hk (g' := gb174) (zb BK174.out) NB174_0.out (by simp)); replace BK185 := za (KeepBut.blk hk (g' := gb185) (zb BK185.out) NB185_0.out (by simp)); replace HK := za (KeepBut.trans zq40 hk (.inl rfl)); replace HB := za (hb); replace HI0 := za (hi); (try clear hb hk hi)))
   replace BK174 := za (blk_drew BK174.out)
   replace BK185 := za (blk_drew BK185.out)
   replace HI0 := za (IsS83.drew HI0.out)
   replace HK := za (keep_drew HK.out)
   replace HB := za (below_drew1 HB.out)
   obtain ⟨ASz24_0, cSz24_0, HGz24, hgz24, HSz24_0⟩ := HI0.out
   have hx24_0 := cellS83_0 HGz24
   have hx24_1 := cellS83_1 HGz24
   have hx24_2 := cellS83_2 HGz24
   have hx24_3 := cellS83_3 HGz24
   have hx24_4 := cellS83_4 HGz24
   clear HGz24 hgz24
   have p204 : 0 ≤ (t200 : Int) := of_decide_eq_true zq10
   have q204 : t200 < (s0_0.length : Int) := of_decide_eq_true zq10
   obtain ⟨ad204, e204, hx204_0, hx204_1, hx204_2⟩ := at_T110 HSz24_0 t200 p204 q204
   have hw204_2 := hx204_2
   have hw204_1 := hx204_1
   have hw204_0 := hx204_0
   cases e204
   replace hx204_0 := pw_cell_below HB.out hx204_0
   replace hx204_1 := pw_cell_below HB.out hx204_1
   replace hx204_2 := pw_cell_below HB.out hx204_2
   replace p204 := eq_true p204
   replace q204 := eq_true q204
   refine start_ (n := 12) (S := fun w' => w'.cell? ⟨g, 0, none⟩ = some (.slice (some ad204) s0_0.length cSz24_0) ∧ w'.cell? ⟨g, 1, none⟩ = some (.int .i64 t200) ∧ w'.cell? ⟨g, 2, none⟩ = some (.int .i64 t201) ∧ w'.cell? ⟨g, 3, none⟩ = some (.int .i64 t202) ∧ w'.cell? ⟨g, 4, none⟩ = some (.int .i64 t203) ∧ w'.cell? (ad204.add ((t200).toNat * 3)) = some (.int .i64 ((rd_T110 s0_0 t200).f0)) ∧ w'.cell? ⟨(ad204.add ((t200).toNat * 3)).block, (ad204.add ((t200).toNat * 3)).off + 1, none⟩ = some (.string ((rd_T110 s0_0 t200).f1)) ∧ w'.cell? ⟨(ad204.add ((t200).toNat * 3)).block, (ad204.add ((t200).toNat * 3)).off + 2, none⟩ = some (.int .i64 ((rd_T110 s0_0 t200).f2))) (ds := [11]) #[false, false, false, false, false, false, false, false, false, false, false, false] zq13 rfl rfl ⟨hx24_0, hx24_1, hx24_2, hx24_3, hx24_4, hx204_0, hx204_1, hx204_2⟩ (fun hHeld => ?_); refine with_tabW rr_variable.tab6 rr_variable.bits6 (fun HT_ HW_ => ?_)
   generalize w22.drew = w23 at BK174 BK185 HI0 HK HB hx204_0 hx204_1 hx204_2 hx24_0 hx24_1 hx24_2 hx24_3 hx24_4 hHeld ⊢
   refine pure_ (i := 0) (N := some 20) #[true, false, false, false, false, false, false, false, false, false, false, false] rfl rfl (any_of HT_.out zq13) (fun _ _ _ h => h) (Or.inl ⟨by rfl, zpv⟩) zpw ?_
   refine pure_ (i := 1) (N := some 21) #[true, true, false, false, false, false, false, false, false, false, false, false] rfl rfl (any_of HT_.out zq13) (fun _ _ _ h => h) (Or.inl ⟨by rfl, zpv⟩) zpw ?_
   refine pure_ (i := 2) (N := some 22) #[true, true, true, false, false, false, false, false, false, false, false, false] rfl rfl (any_of HT_.out zq13) (fun _ _ _ h => h) (Or.inl ⟨by rfl, zpv⟩) zpw ?_
   refine pure_ (i := 4) (N := some 24) #[true, true, true, false, true, false, false, false, false, false, false, false] rfl rfl (any_of HT_.out zq13) (fun _ _ _ h => h) (Or.inl ⟨by rfl, zpv⟩) zpw ?_
   refine pure_ (i := 5) (N := some 25) #[true, true, true, false, true, true, false, false, false, false, false, false] rfl rfl (any_of HT_.out zq13) (fun _ _ _ h => h) (Or.inl ⟨by rfl, zpv⟩) zpw ?_
   refine pure_ (i := 6) (N := some 26) #[true, true, true, false, true, true, true, false, false, false, false, false] rfl rfl (any_of HT_.out zq13) (fun _ _ _ h => h) (Or.inl ⟨by rfl, zpv⟩) zpw ?_
   refine take_ (i := 3) (N := some 23) (v := ?_) (a' := ?_) #[true, true, true, true, true, true, true, false, false, false, false, false] rfl rfl (take_ofW HT_.out HW_.out zq13) (fun _ _ _ h => h) (Or.inl ⟨by rfl, ?_⟩) hHeld ?_ ?_
   rotate_left
   ·
    rintro w' ⟨s0, s1, s2, s3, s4, s5, s6, s7⟩
    go_simp
    with_reducible rfl
   rotate_left
   ·
    simp only [Act.put, List.setIfInBounds_toArray, List.set_cons_zero, List.set_cons_succ, i64_w, i32_w]
    rfl
   refine take_ (i := 7) (N := some 27) (v := ?_) (a' := ?_) #[true, true, true, true, true, true, true, true, false, false, false, false] rfl rfl (take_ofW HT_.out HW_.out zq13) (fun _ _ _ h => h) (Or.inl ⟨by rfl, ?_⟩) hHeld ?_ ?_
   rotate_left
   ·
    rintro w' ⟨s0, s1, s2, s3, s4, s5, s6, s7⟩
    go_simp
    with_reducible rfl
   rotate_left
   ·
    simp only [Act.put, List.setIfInBounds_toArray, List.set_cons_zero, List.set_cons_succ, i64_w, i32_w]
    rfl
   refine pure_ (i := 8) (N := some 28) #[true, true, true, true, true, true, true, true, true, false, false, false] rfl rfl (any_of HT_.out zq13) (fun _ _ _ h => h) (Or.inl ⟨by rfl, zpv⟩) zpw ?_
   refine take_ (i := 9) (N := some 29) (v := ?_) (a' := ?_) #[true, true, true, true, true, true, true, true, true, true, false, false] rfl rfl (take_ofW HT_.out HW_.out zq13) (fun _ _ _ h => h) (Or.inl ⟨by rfl, ?_⟩) hHeld ?_ ?_
   rotate_left
   ·
    rintro w' ⟨s0, s1, s2, s3, s4, s5, s6, s7⟩
    go_simp
    with_reducible rfl
   rotate_left
   ·
    simp only [Act.put, List.setIfInBounds_toArray, List.set_cons_zero, List.set_cons_succ, i64_w, i32_w]
    rfl
   refine one_ (i := 10) (N := some 5) #[true, true, true, true, true, true, true, true, true, true, true, false] rfl rfl (one_of HT_.out zq13) (by decide) (fun K hK => ?_)
   refine box_step ?hg (N := 5) ?hd (cs := #[.int .i64 0, .string (⟨#[]⟩ : ByteArray), .int .i64 0]) (t := 110) ?hr ?_; (case hd => rfl); (case hg => rfl); (case hr => exact zq19)
   intro gb205 hg w25 hbox hb
   have HS0_ := (hb.cell (World.block_lt_of_cell? _ _ (hHeld.1))).trans (hHeld.1)
   have HS1_ := (hb.cell (World.block_lt_of_cell? _ _ (hHeld.2.1))).trans (hHeld.2.1)
   have HS2_ := (hb.cell (World.block_lt_of_cell? _ _ (hHeld.2.2.1))).trans (hHeld.2.2.1)
   have HS3_ := (hb.cell (World.block_lt_of_cell? _ _ (hHeld.2.2.2.1))).trans (hHeld.2.2.2.1)
   have HS4_ := (hb.cell (World.block_lt_of_cell? _ _ (hHeld.2.2.2.2.1))).trans (hHeld.2.2.2.2.1)
   have HS5_ := (hb.cell (World.block_lt_of_cell? _ _ (hHeld.2.2.2.2.2.1))).trans (hHeld.2.2.2.2.2.1)
   have HS6_ := (hb.cell (World.block_lt_of_cell? _ _ (hHeld.2.2.2.2.2.2.1))).trans (hHeld.2.2.2.2.2.2.1)
   have HS7_ := (hb.cell (World.block_lt_of_cell? _ _ (hHeld.2.2.2.2.2.2.2))).trans (hHeld.2.2.2.2.2.2.2)
   replace HB := za (below_step zq48 hb)
   have BK205 := za (hbox)
   have GW205 := za ((by rw [hg]; exact (keep_size (w := w) (g := g) (row := none) zq40) : w.heap.size ≤ gb205))
   have GE205 := za ((Nat.le_trans HW0.out (by rw [hg]; exact (keep_size (w := w) (g := g) (row := none) zq40) : w.heap.size ≤ gb205) : w0.heap.size ≤ gb205))
   replace HK := za (KeepBut.trans zq40 (KeepBut.of_below hb g none) (.inl rfl))
   have NB174_205 := za ((by rw [hg]; exact Nat.ne_of_lt (blk_lt (g := gb174) (zb BK174.out)) : gb174 ≠ gb205))
   have NB205_174 := za ((by rw [hg]; exact Nat.ne_of_gt (blk_lt (g := gb174) (zb BK174.out)) : gb205 ≠ gb174))
   replace BK174 := za (blk_below (g := gb174) (zb BK174.out) hb)
   have NB185_205 := za ((by rw [hg]; exact Nat.ne_of_lt (blk_lt (g := gb185) (zb BK185.out)) : gb185 ≠ gb205))
   have NB205_185 := za ((by rw [hg]; exact Nat.ne_of_gt (blk_lt (g := gb185) (zb BK185.out)) : gb205 ≠ gb185))
   replace BK185 := za (blk_below (g := gb185) (zb BK185.out) hb)
   have NB0_205 := za ((by rw [hg]; exact Nat.ne_of_lt (IsS83.lt (show IsS83 w0 _ g s0_0 t200 t201 t202 t203 from zq31)) : g ≠ gb205))
   have NB205_0 := za ((by rw [hg]; exact Nat.ne_of_gt (IsS83.lt (show IsS83 w0 _ g s0_0 t200 t201 t202 t203 from zq31)) : gb205 ≠ g))
   replace HI0 := za (IsS83.below zq31 hb)
   clear hb hbox hg
   refine hK.out _ _ ⟨HS0_, HS1_, HS2_, HS3_, HS4_, HS5_, HS6_, HS7_⟩ (fun hHeld => ?_)
   clear hK K
   refine norm_ (a' := ?_) ?_ ?_
   rotate_left
   ·
    show Act.put _ (some 5) _ = _
    simp only [Act.put, List.setIfInBounds_toArray, List.set_cons_zero, List.set_cons_succ, i64_w, i32_w]
    rfl
   refine last_ (i := 11) (N := none) #[true, true, true, true, true, true, true, true, true, true, true, true] rfl rfl (one_of HT_.out zq13) (by decide) (fun K hK => ?_)
   have hs26 : w25.cell? ⟨gb205, 0, none⟩ = some (.int .i64 0) := (blk_cell BK205.out 0).trans rfl
   have hfs26 := blk_frozen BK205.out 0
   have hns26_0 := NB174_205.out
   have hns26_1 := NB185_205.out
   have hms26_0 := NB205_174.out
   have hms26_1 := NB205_185.out
   have hs27 : w25.cell? ⟨gb205, 1, none⟩ = some (.string (⟨#[]⟩ : ByteArray)) := (blk_cell BK205.out 1).trans rfl
   have hfs27 := blk_frozen BK205.out 1
   have hns27_0 := NB174_205.out
   have hns27_1 := NB185_205.out
   have hms27_0 := NB205_174.out
   have hms27_1 := NB205_185.out
   have hs28 : w25.cell? ⟨gb205, 2, none⟩ = some (.int .i64 0) := (blk_cell BK205.out 2).trans rfl
   have hfs28 := blk_frozen BK205.out 2
   have hns28_0 := NB174_205.out
   have hns28_1 := NB185_205.out
   have hms28_0 := NB205_174.out
   have hms28_1 := NB205_185.out
   refine skip_ (w1 := ?_) (by rfl) rfl ?_ ?_
   rotate_left
   ·
    go_simp
    rfl
   refine hK.out _ _ ?_
   clear hK K
   refine done_ (done_of HT_.out zq13) ?_
   go_upto_region 7 with (fail)
   go_cut [39] (fun v39 wc => ∃ (kq : Nat) (x39_9 : Bool), v39 = .bool x39_9 ∧ Aside0 (rr_variable.j0 kq t199 x39_9 s0_0 t200 t201 t202 t203 t180 t190 0 t175 ((rd_T110 s0_0 t200).f0) ((rd_T110 s0_0 t200).f1) ((rd_T110 s0_0 t200).f2) = some (r1, r2, r3, r4, r5, r6, r7, r8)) ∧ Aside0 (kq ≤ k) ∧ Aside0 (wc.heap[gb174]? = some (.cells #[.string (⟨#[]⟩ : ByteArray), .string (⟨#[]⟩ : ByteArray), .int .i64 0, .int .i64 0] 64 (0, 0))) ∧ Aside0 (wc.heap[gb185]? = some (.cells #[.string t180, .string t190, .int .i64 0, .int .i64 t175] 64 (0, 0))) ∧ Aside0 (wc.heap[gb205]? = some (.cells #[.int .i64 ((rd_T110 s0_0 t200).f0), .string ((rd_T110 s0_0 t200).f1), .int .i64 ((rd_T110 s0_0 t200).f2)] 110 (0, 0))) ∧ Aside0 (IsS83 w0 wc g s0_0 t200 t201 t202 t203) ∧ Aside0 (KeepBut w wc g none) ∧ Aside0 (Below w0.heap.size w0 wc))
   case first =>
    have H := HC10.out
    clear HC10
    by_cases c29 : t202 = 0
    ·
     rw [if_pos c29] at H
     have c29b0 := beq_iff_eq.mpr c29
     have c29b1 := bne_eq_false_iff_eq.mpr c29
     clear c29
     (first | rw [c29b0] | (simp only [i64_w, i32_w]; rw [c29b0]) | skip)
     have H' := za H
     clear H
     obtain ⟨ASz30_0, cSz30_0, HGz30, hgz30, HSz30_0⟩ := HI0.out
     have hcz30_0 := cellS83_0 HGz30
     have hcz30_1 := cellS83_1 HGz30
     have hcz30_2 := cellS83_2 HGz30
     have hcz30_3 := cellS83_3 HGz30
     have hcz30_4 := cellS83_4 HGz30
     have hfz30_1 := blk_frozen HGz30 1
     have hfz30_2 := blk_frozen HGz30 2
     have hfz30_3 := blk_frozen HGz30 3
     have hfz30_4 := blk_frozen HGz30 4
     clear HGz30 hgz30
     have hnb31 := NB205_174.out
     have hnc31 := NB174_205.out
     have hnb32 := NB205_185.out
     have hnc32 := NB185_205.out
     have hnb33 := NB205_0.out
     have hnc33 := NB0_205.out
     obtain ⟨hcz34_0, hcz34_1, hcz34_2⟩ := zc3 BK205.out
     obtain ⟨hfz34_0, hfz34_1, hfz34_2⟩ := zf3 BK205.out
     go_wp2
     go_meet
     case rel => exact ⟨_, ((((rd_T110 s0_0 t200).f0) != 2)), zq22, H', ⟨zq119⟩, ⟨zq52⟩, ⟨zq53⟩, ⟨by (with_reducible repeat (first | refine blk_drewN ?_ _ | refine blk_drew ?_ | refine blk_alloc ?_ _)); refine blk_put (cs := #[.int .i64 ((rd_T110 s0_0 t200).f0), .string ((rd_T110 s0_0 t200).f1), .int .i64 0]) ?_ 2 _ rfl; (with_reducible repeat (first | refine blk_drewN ?_ _ | refine blk_drew ?_ | refine blk_alloc ?_ _)); refine blk_put (cs := #[.int .i64 ((rd_T110 s0_0 t200).f0), .string (⟨#[]⟩ : ByteArray), .int .i64 0]) ?_ 1 _ rfl; (with_reducible repeat (first | refine blk_drewN ?_ _ | refine blk_drew ?_ | refine blk_alloc ?_ _)); refine blk_put (cs := #[.int .i64 0, .string (⟨#[]⟩ : ByteArray), .int .i64 0]) ?_ 0 _ rfl; (with_reducible repeat (first | refine blk_drewN ?_ _ | refine blk_drew ?_ | refine blk_alloc ?_ _)); exact BK205.out⟩, ⟨zq44⟩, ⟨zq60⟩, ⟨zq50⟩⟩
    ·
     rw [if_neg c29] at H
     have c29b0 := beq_eq_false_iff_ne.mpr c29
     have c29b1 := bne_iff_ne.mpr c29
     (first | rw [c29b0] | (simp only [i64_w, i32_w]; rw [c29b0]) | skip)
     have H' := za H
     clear H
     obtain ⟨ASz35_0, cSz35_0, HGz35, hgz35, HSz35_0⟩ := HI0.out
     have hcz35_0 := cellS83_0 HGz35
     have hcz35_1 := cellS83_1 HGz35
     have hcz35_2 := cellS83_2 HGz35
     have hcz35_3 := cellS83_3 HGz35
     have hcz35_4 := cellS83_4 HGz35
     have hfz35_1 := blk_frozen HGz35 1
     have hfz35_2 := blk_frozen HGz35 2
     have hfz35_3 := blk_frozen HGz35 3
     have hfz35_4 := blk_frozen HGz35 4
     clear HGz35 hgz35
     go_wp2
     go_meet
     case rel => exact ⟨_, (true), zq22, H', ⟨zq119⟩, ⟨zq52⟩, ⟨zq53⟩, ⟨by (with_reducible repeat (first | refine blk_drewN ?_ _ | refine blk_drew ?_ | refine blk_alloc ?_ _)); refine blk_put (cs := #[.int .i64 ((rd_T110 s0_0 t200).f0), .string ((rd_T110 s0_0 t200).f1), .int .i64 0]) ?_ 2 _ rfl; (with_reducible repeat (first | refine blk_drewN ?_ _ | refine blk_drew ?_ | refine blk_alloc ?_ _)); refine blk_put (cs := #[.int .i64 ((rd_T110 s0_0 t200).f0), .string (⟨#[]⟩ : ByteArray), .int .i64 0]) ?_ 1 _ rfl; (with_reducible repeat (first | refine blk_drewN ?_ _ | refine blk_drew ?_ | refine blk_alloc ?_ _)); refine blk_put (cs := #[.int .i64 0, .string (⟨#[]⟩ : ByteArray), .int .i64 0]) ?_ 0 _ rfl; (with_reducible repeat (first | refine blk_drewN ?_ _ | refine blk_drew ?_ | refine blk_alloc ?_ _)); exact BK205.out⟩, ⟨zq44⟩, ⟨zq60⟩, ⟨zq50⟩⟩
   case rest =>
    clear HC10
    obtain ⟨kq, x39_9, rfl, HA, HJ9, BK174, BK185, BK205, HI0, HK, HB⟩ := hcut
    cases kq with
    | zero => exact absurd HA.out (by simp [rr_variable.j0])
    | succ kj9 =>
     have H := HA.out
     clear HA
     simp only [rr_variable.j0] at H
     by_cases c36 : x39_9 = true
     ·
      subst c36
      rw [if_pos rfl] at H
      exact absurd H (by simp)
     ·
      replace c36 := Bool.eq_false_iff.mpr c36
      subst c36
      rw [if_neg (show ¬ (false = true) by decide)] at H
      replace H := Option.bind_eq_some_iff.mp H
      obtain ⟨t206, A370, H⟩ := H
      (try dsimp only at H)
      have A37 := za A370
      clear A370
      by_cases c38 : t199 = true
      ·
       subst c38
       rw [if_pos rfl] at H
       exact absurd H (by simp)
      ·
       replace c38 := Bool.eq_false_iff.mpr c38
       subst c38
       rw [if_neg (show ¬ (false = true) by decide)] at H
       replace H := Option.bind_eq_some_iff.mp H
       obtain ⟨⟨t207, t208, t209, t210⟩, A390, H⟩ := H
       (try dsimp only at H)
       have A39 := za A390
       clear A390
       simp only [Option.some.injEq, Prod.mk.injEq] at H
       obtain ⟨rfl, rfl, rfl, rfl, rfl, rfl, rfl, rfl⟩ := H
       obtain ⟨ASz40_0, cSz40_0, HGz40, hgz40, HSz40_0⟩ := HI0.out
       have hcz40_0 := cellS83_0 HGz40
       have hcz40_1 := cellS83_1 HGz40
       have hcz40_2 := cellS83_2 HGz40
       have hcz40_3 := cellS83_3 HGz40
       have hcz40_4 := cellS83_4 HGz40
       have hfz40_1 := blk_frozen HGz40 1
       have hfz40_2 := blk_frozen HGz40 2
       have hfz40_3 := blk_frozen HGz40 3
       have hfz40_4 := blk_frozen HGz40 4
       clear HGz40 hgz40
       have hnb41 := NB205_174.out
       have hnc41 := NB174_205.out
       have hnb42 := NB205_185.out
       have hnc42 := NB185_205.out
       have hnb43 := NB205_0.out
       have hnc43 := NB0_205.out
       obtain ⟨hcz44_0, hcz44_1, hcz44_2⟩ := zc3 BK205.out
       obtain ⟨hfz44_0, hfz44_1, hfz44_2⟩ := zf3 BK205.out
       go_wp2_with (first | ((with_reducible refine gate_callee (f := 55) rfl ?_); refine goesL_ (some 52) rfl rfl Try.func55 zq13 rfl #[.string ((rd_T110 s0_0 t200).f1)] rfl zq2 ?_; (with_reducible refine (ra_num.calls kj9 ((rd_T110 s0_0 t200).f1) t206 _ A37.out).mono ?_); rintro e w' ⟨rfl, ⟨nd, rfl⟩⟩; refine ⟨_, rfl, ?_⟩; have hnb45 := NB185_174.out; have hnc45 := NB174_185.out; have hnb46 := NB185_0.out; have hnc46 := NB0_185.out; obtain ⟨hcz47_0, hcz47_1, hcz47_2, hcz47_3⟩ := zc4 BK185.out; obtain ⟨hfz47_0, hfz47_1, hfz47_2⟩ := zf3 BK185.out; have hfz47_3 := blk_frozen BK185.out 3) | ((with_reducible refine gate_callee (f := 45) rfl ?_); refine goesL_ (some 60) rfl rfl Try.func45 zq13 rfl #[.pointer (some ⟨g, 0, none⟩), .string (⟨#[59]⟩ : ByteArray)] rfl zq2 ?_; (with_reducible refine (rr_want.calls g s0_0 (wrap64 (t200 + 1)) t201 t202 t203 (⟨#[59]⟩ : ByteArray) t207 t208 t209 t210 w0 _ ?side1 ?side2 A39.out).mono ?_); (case side1 => exact zq44); (case side2 => exact zq50); rintro e w48 ⟨rfl, hi, hb, hk⟩; refine ⟨_, rfl, ?_⟩; replace BK174 := za (KeepBut.blk hk (g' := gb174) (o := .cells #[.string (⟨#[]⟩ : ByteArray), .string (⟨#[]⟩ : ByteArray), .int .i64 0, .int .i64 0] 64 (0, 0)) (by (with_reducible repeat (first | refine blk_drewN ?_ _ | refine blk_drew ?_ | refine blk_alloc ?_ _)); refine blk_far ?_ NB174_185.out _; (with_reducible repeat (first | refine blk_drewN ?_ _ | refine blk_drew ?_ | refine blk_alloc ?_ _)); refine blk_far ?_ NB174_0.out _; (with_reducible repeat (first | refine blk_drewN ?_ _ | refine blk_drew ?_ | refine blk_alloc ?_ _)); exact BK174.out) NB174_0.out (by simp)); replace BK185 := za (KeepBut.blk hk (g' := gb185) (o := .cells #[.string t180, .string t190, .int .i64 t206, .int .i64 t175] 64 (0, 0)) (by (with_reducible repeat (first | refine blk_drewN ?_ _ | refine blk_drew ?_ | refine blk_alloc ?_ _)); refine blk_put (cs := #[.string t180, .string t190, .int .i64 0, .int .i64 t175]) ?_ 2 _ rfl; (with_reducible repeat (first | refine blk_drewN ?_ _ | refine blk_drew ?_ | refine blk_alloc ?_ _)); refine blk_far ?_ NB185_0.out _; (with_reducible repeat (first | refine blk_drewN ?_ _ | refine blk_drew ?_ | refine blk_alloc ?_ _)); exact BK185.out) NB185_0.out (by simp)); replace BK205 := za (KeepBut.blk hk (g' := gb205) (o := .cells #[.int .i64 ((rd_T110 s0_0 t200).f0), .string ((rd_T110 s0_0 t200).f1), .int .i64 ((rd_T110 s0_0 t200).f2)] 110 (0, 0)) (by (with_reducible repeat (first | refine blk_drewN ?_ _ | refine blk_drew ?_ | refine blk_alloc ?_ _)); refine blk_far ?_ NB205_185.out _; (with_reducible repeat (first | refine blk_drewN ?_ _ | refine blk_drew ?_ | refine blk_alloc ?_ _)); refine blk_far ?_ NB205_0.out _; (with_reducible repeat (first | refine blk_drewN ?_ _ | refine blk_drew ?_ | refine blk_alloc ?_ _)); exact BK205.out) NB205_0.out (by simp)); replace HK := za (KeepBut.trans zq60 hk (.inl rfl)); replace HB := za (hb); replace HI0 := za (hi); (try clear hb hk hi); obtain ⟨hcz49_0, hcz49_1, hcz49_2, hcz49_3⟩ := zc4 BK185.out; obtain ⟨hfz49_0, hfz49_1, hfz49_2, hfz49_3⟩ := zf4 BK185.out; have hnb50 := NB174_0.out; have hnc50 := NB0_174.out; obtain ⟨hcz51_0, hcz51_1, hcz51_2, hcz51_3⟩ := zc4 BK174.out; obtain ⟨hfz51_0, hfz51_1, hfz51_2⟩ := zf3 BK174.out; have hfz51_3 := blk_frozen BK174.out 3))
       refine bodyPost_ret (results_cell_row rfl _ _ gb174 64 #[.string t180, .string t190, .int .i64 t206, .int .i64 t175] (0, 0) _ rfl (by (with_reducible repeat (first | refine blk_drewN ?_ _ | refine blk_drew ?_ | refine blk_alloc ?_ _)); refine blk_put (cs := #[.string t180, .string t190, .int .i64 t206, .int .i64 0]) ?_ 3 _ rfl; (with_reducible repeat (first | refine blk_drewN ?_ _ | refine blk_drew ?_ | refine blk_alloc ?_ _)); refine blk_put (cs := #[.string t180, .string t190, .int .i64 0, .int .i64 0]) ?_ 2 _ rfl; (with_reducible repeat (first | refine blk_drewN ?_ _ | refine blk_drew ?_ | refine blk_alloc ?_ _)); refine blk_put (cs := #[.string t180, .string (⟨#[]⟩ : ByteArray), .int .i64 0, .int .i64 0]) ?_ 1 _ rfl; (with_reducible repeat (first | refine blk_drewN ?_ _ | refine blk_drew ?_ | refine blk_alloc ?_ _)); refine blk_put (cs := #[.string (⟨#[]⟩ : ByteArray), .string (⟨#[]⟩ : ByteArray), .int .i64 0, .int .i64 0]) ?_ 0 _ rfl; (with_reducible repeat (first | refine blk_drewN ?_ _ | refine blk_drew ?_ | refine blk_alloc ?_ _)); exact BK174.out) Try.underlying64 rfl zq13) rfl ?_
       exact ⟨zq16, zq44, zq50, zq60⟩
  ·
   rw [if_neg c9] at H
   exact absurd H (by simp)
 ·
  rw [if_neg c8] at H
  exact absurd H (by simp)
def rr_open.j0 : Nat → ByteArray → Bool → List (S110) → Int → Int → Int → Int → Option (Int × Int × Int × Int)
 | 0, _, _, _, _, _, _, _ => none
 | k + 1, x1, x13, x1000, x1001, x1002, x1003, x1004 => if x13 = true then (none) else ((rr_want.f x1000 x1001 x1002 x1003 x1004 x1).bind fun bt216 => (some (bt216.1, wrap64 (bt216.2.1 + 1), bt216.2.2.1, bt216.2.2.2)))
def rr_open.f (k : Nat) (s0_0 : List (S110)) (s0_1 : Int) (s0_2 : Int) (s0_3 : Int) (s0_4 : Int) (a1 : ByteArray) : Option (Int × Int × Int × Int) := (rr_is.f s0_0 s0_1 s0_2 s0_3 s0_4 a1).bind fun bt211 => (if bt211.1 = true then (rr_open.j0 k a1 (decide (bt211.2.2.1 ≥ 40)) s0_0 bt211.2.1 bt211.2.2.1 bt211.2.2.2.1 bt211.2.2.2.2) else (rr_open.j0 k a1 false s0_0 bt211.2.1 bt211.2.2.1 bt211.2.2.2.1 bt211.2.2.2.2))
theorem rr_open.mono_l : ∀ k, (∀ y0 y1 y2 y3 y4 y5 y6, LeO (rr_open.j0 k y0 y1 y2 y3 y4 y5 y6) (rr_open.j0 (k + 1) y0 y1 y2 y3 y4 y5 y6))
 | 0 => fun _ _ _ _ _ _ _ r h => by simp [rr_open.j0] at h
 | k + 1 => by
  have ih0 := rr_open.mono_l k
  ·
   intro y0 y1 y2 y3 y4 y5 y6
   unfold rr_open.j0
   repeat' with_reducible first | apply ih0 | exact LeO.refl _ | exact LeO.none _ | refine LeO.ite ?_ ?_ | refine LeO.bind ?_ (fun _ => ?_)
theorem rr_open.mono : ∀ a0 a1 a2 a3 a4 a5 k, LeO (rr_open.f k a0 a1 a2 a3 a4 a5) (rr_open.f (k + 1) a0 a1 a2 a3 a4 a5) := by
 intro a0 a1 a2 a3 a4 a5 k
 have ih0 := rr_open.mono_l k
 unfold rr_open.f
 repeat' with_reducible first | apply ih0 | exact LeO.refl _ | exact LeO.none _ | refine LeO.ite ?_ ?_ | refine LeO.bind ?_ (fun _ => ?_)
set_option maxHeartbeats 8000000 in
set_option maxRecDepth 100000 in
theorem rr_open.calls (k : Nat) (g : Nat) (s0_0 : List (S110)) (s0_1 : Int) (s0_2 : Int) (s0_3 : Int) (s0_4 : Int) (a1 : ByteArray) (r1 : Int) (r2 : Int) (r3 : Int) (r4 : Int) (w0 w : World) (hI : IsS83 w0 w g s0_0 s0_1 s0_2 s0_3 s0_4) (hB : Below w0.heap.size w0 w) (h : rr_open.f k s0_0 s0_1 s0_2 s0_3 s0_4 a1 = some (r1, r2, r3, r4)) :
  Calls Try.prog 66 #[.pointer (some ⟨g, 0, none⟩), .string a1] w fun e w' => e = .returned (.tuple #[]) ∧ IsS83 w0 w' g s0_0 r1 r2 r3 r4 ∧ Below w0.heap.size w0 w' ∧ KeepBut w w' g none := by
 have HI0 := za hI
 have HK := za (KeepBut.refl w g none)
 have HL := za hB.size
 clear hI
 have HW0 := za hB.size
 have HB := za hB
 clear hB
 have H : ((rr_is.f s0_0 s0_1 s0_2 s0_3 s0_4 a1).bind fun bt211 => (if bt211.1 = true then (rr_open.j0 k a1 (decide (bt211.2.2.1 ≥ 40)) s0_0 bt211.2.1 bt211.2.2.1 bt211.2.2.2.1 bt211.2.2.2.2) else (rr_open.j0 k a1 false s0_0 bt211.2.1 bt211.2.2.1 bt211.2.2.2.1 bt211.2.2.2.2))) = some (r1, r2, r3, r4) := h
 clear h
 have HC3 := za H
 clear H
 go_enter Try.func66, Try.ntmps66
 go_upto_region 0 with (fail)
 go_cut [13] (fun v13 wc => ∃ (kq : Nat) (x13_2 : Bool) (x1001_2 : Int) (x1002_2 : Int) (x1003_2 : Int) (x1004_2 : Int), v13 = .bool x13_2 ∧ Aside0 (rr_open.j0 kq a1 x13_2 s0_0 x1001_2 x1002_2 x1003_2 x1004_2 = some (r1, r2, r3, r4)) ∧ Aside0 (kq ≤ k) ∧ Aside0 (IsS83 w0 wc g s0_0 x1001_2 x1002_2 x1003_2 x1004_2) ∧ Aside0 (KeepBut w wc g none) ∧ Aside0 (Below w0.heap.size w0 wc))
 case first =>
  have H := HC3.out
  clear HC3
  replace H := Option.bind_eq_some_iff.mp H
  obtain ⟨⟨t211, t212, t213, t214, t215⟩, A40, H⟩ := H
  (try dsimp only at H)
  have A4 := za A40
  clear A40
  by_cases c5 : t211 = true
  ·
   subst c5
   rw [if_pos rfl] at H
   have H' := za H
   clear H
   go_wp2_with (first | ((with_reducible refine gate_callee (f := 54) rfl ?_); refine goesL_ (some 6) rfl rfl Try.func54 zq13 rfl #[.pointer (some ⟨g, 0, none⟩), .string a1] rfl zq2 ?_; (with_reducible refine (rr_is.calls g s0_0 s0_1 s0_2 s0_3 s0_4 a1 true t212 t213 t214 t215 w0 _ ?side1 ?side2 A4.out).mono ?_); (case side1 => exact zq0); (case side2 => exact zq4); rintro e w6 ⟨rfl, hi, hb, hk⟩; refine ⟨_, rfl, ?_⟩; replace HK := za (KeepBut.trans zq7 hk (.inl rfl)); replace HB := za (hb); replace HI0 := za (hi); (try clear hb hk hi); obtain ⟨ASz7_0, cSz7_0, HGz7, hgz7, HSz7_0⟩ := HI0.out; have hcz7_0 := cellS83_0 HGz7; have hcz7_1 := cellS83_1 HGz7; have hcz7_2 := cellS83_2 HGz7; have hcz7_3 := cellS83_3 HGz7; have hcz7_4 := cellS83_4 HGz7; have hfz7_1 := blk_frozen HGz7 1; have hfz7_2 := blk_frozen HGz7 2; have hfz7_3 := blk_frozen HGz7 3; have hfz7_4 := blk_frozen HGz7 4; clear HGz7 hgz7))
   go_meet
   case rel => exact ⟨_, (decide (t213 ≥ 40)), (t212), (t213), (t214), (t215), zq22, H', ⟨zq119⟩, ⟨zq0⟩, ⟨zq7⟩, ⟨zq4⟩⟩
  ·
   replace c5 := Bool.eq_false_iff.mpr c5
   subst c5
   rw [if_neg (show ¬ (false = true) by decide)] at H
   have H' := za H
   clear H
   go_wp2_with (first | ((with_reducible refine gate_callee (f := 54) rfl ?_); refine goesL_ (some 6) rfl rfl Try.func54 zq13 rfl #[.pointer (some ⟨g, 0, none⟩), .string a1] rfl zq2 ?_; (with_reducible refine (rr_is.calls g s0_0 s0_1 s0_2 s0_3 s0_4 a1 false t212 t213 t214 t215 w0 _ ?side1 ?side2 A4.out).mono ?_); (case side1 => exact zq0); (case side2 => exact zq4); rintro e w8 ⟨rfl, hi, hb, hk⟩; refine ⟨_, rfl, ?_⟩; replace HK := za (KeepBut.trans zq7 hk (.inl rfl)); replace HB := za (hb); replace HI0 := za (hi); (try clear hb hk hi)))
   go_meet
   case rel => exact ⟨_, (false), (t212), (t213), (t214), (t215), zq22, H', ⟨zq119⟩, ⟨zq0⟩, ⟨zq7⟩, ⟨zq4⟩⟩
 case rest =>
  clear HC3
  obtain ⟨kq, x13_2, x1001_2, x1002_2, x1003_2, x1004_2, rfl, HA, HJ2, HI0, HK, HB⟩ := hcut
  cases kq with
  | zero => exact absurd HA.out (by simp [rr_open.j0])
  | succ kj2 =>
   have H := HA.out
   clear HA
   simp only [rr_open.j0] at H
   by_cases c9 : x13_2 = true
   ·
    subst c9
    rw [if_pos rfl] at H
    exact absurd H (by simp)
   ·
    replace c9 := Bool.eq_false_iff.mpr c9
    subst c9
    rw [if_neg (show ¬ (false = true) by decide)] at H
    replace H := Option.bind_eq_some_iff.mp H
    obtain ⟨⟨t216, t217, t218, t219⟩, A100, H⟩ := H
    (try dsimp only at H)
    have A10 := za A100
    clear A100
    simp only [Option.some.injEq, Prod.mk.injEq] at H
    obtain ⟨rfl, rfl, rfl, rfl⟩ := H
    go_wp2_with (first | ((with_reducible refine gate_callee (f := 45) rfl ?_); refine goesL_ (some 18) rfl rfl Try.func45 zq13 rfl #[.pointer (some ⟨g, 0, none⟩), .string a1] rfl zq2 ?_; (with_reducible refine (rr_want.calls g s0_0 x1001_2 x1002_2 x1003_2 x1004_2 a1 t216 t217 t218 t219 w0 _ ?side1 ?side2 A10.out).mono ?_); (case side1 => exact zq0); (case side2 => exact zq4); rintro e w11 ⟨rfl, hi, hb, hk⟩; refine ⟨_, rfl, ?_⟩; replace HK := za (KeepBut.trans zq7 hk (.inl rfl)); replace HB := za (hb); replace HI0 := za (hi); (try clear hb hk hi); obtain ⟨ASz12_0, cSz12_0, HGz12, hgz12, HSz12_0⟩ := HI0.out; have hcz12_0 := cellS83_0 HGz12; have hcz12_1 := cellS83_1 HGz12; have hcz12_2 := cellS83_2 HGz12; have hcz12_3 := cellS83_3 HGz12; have hcz12_4 := cellS83_4 HGz12; have hfz12_1 := blk_frozen HGz12 1; have hfz12_2 := blk_frozen HGz12 2; have hfz12_3 := blk_frozen HGz12 3; have hfz12_4 := blk_frozen HGz12 4; clear HGz12 hgz12))
    first | go_end0 | ((try simp only [Exit.inBlock, Exit.then]); refine bodyPost_ret (results_none rfl _ _ _) rfl ?_)
    exact ⟨zq16, zq0, zq4, zq7⟩
def rr_fail.f (s0_0 : List (S110)) (s0_1 : Int) (s0_2 : Int) (s0_3 : Int) (s0_4 : Int) (a1 : Int) : Option (Int × Int × Int × Int) := if s0_3 = 0 then (if 0 ≤ s0_1 then (if s0_1 < (s0_0.length : Int) then (some (s0_1, s0_2, a1, (rd_T110 s0_0 s0_1).f2)) else (none)) else (none)) else (some (s0_1, s0_2, s0_3, s0_4))
def rr_fail.T2 : Bool × List (List Nat × List Nat) := (true, [([], []), ([], []), ([1], [1]), ([2], [2]), ([3], [3]), ([], []), ([5], [5]), ([6], [6]), ([7], [7]), ([4, 8], [4, 8]), ([9], [9]), ([10], [10]), ([0, 0, 1, 2, 3, 4, 5, 6, 7, 8, 9, 10, 11], [0]), ([12, 0, 1, 2, 3, 4, 5, 6, 7, 8, 9, 10, 11], [12]), ([13, 11, 0, 1, 2, 3, 4, 5, 6, 7, 8, 9, 10, 11], [11, 13])])
def rr_fail.B2 : List Nat := [0, 0, 2, 6, 14, 0, 32, 96, 224, 510, 1022, 2046, 4095, 8191, 16383]
theorem rr_fail.tab2 : rtab .any (opsOf Try.f51 2) = rr_fail.T2 := by kernel_rfl
theorem rr_fail.bits2 : waitsOk rr_fail.T2.2 rr_fail.B2 = true := by kernel_rfl
set_option maxHeartbeats 8000000 in
set_option maxRecDepth 100000 in
theorem rr_fail.calls (g : Nat) (s0_0 : List (S110)) (s0_1 : Int) (s0_2 : Int) (s0_3 : Int) (s0_4 : Int) (a1 : Int) (r1 : Int) (r2 : Int) (r3 : Int) (r4 : Int) (w0 w : World) (hI : IsS83 w0 w g s0_0 s0_1 s0_2 s0_3 s0_4) (hB : Below w0.heap.size w0 w) (h : rr_fail.f s0_0 s0_1 s0_2 s0_3 s0_4 a1 = some (r1, r2, r3, r4)) :
  Calls Try.prog 51 #[.pointer (some ⟨g, 0, none⟩), .int .i64 a1] w fun e w' => e = .returned (.tuple #[]) ∧ IsS83 w0 w' g s0_0 r1 r2 r3 r4 ∧ Below w0.heap.size w0 w' ∧ KeepBut w w' g none := by
 have HI0 := za hI
 have HK := za (KeepBut.refl w g none)
 have HL := za hB.size
 clear hI
 have HW0 := za hB.size
 have HB := za hB
 clear hB
 have H : (if s0_3 = 0 then (if 0 ≤ s0_1 then (if s0_1 < (s0_0.length : Int) then (some (s0_1, s0_2, a1, (rd_T110 s0_0 s0_1).f2)) else (none)) else (none)) else (some (s0_1, s0_2, s0_3, s0_4))) = some (r1, r2, r3, r4) := h
 clear h
 by_cases c3 : s0_3 = 0
 ·
  rw [if_pos c3] at H
  have c3b0 := beq_iff_eq.mpr c3
  have c3b1 := bne_eq_false_iff_eq.mpr c3
  clear c3
  by_cases c4 : 0 ≤ s0_1
  ·
   rw [if_pos c4] at H
   have c4b0 := decide_eq_true c4
   clear c4
   by_cases c5 : s0_1 < (s0_0.length : Int)
   ·
    rw [if_pos c5] at H
    have c5b0 := decide_eq_true c5
    clear c5
    simp only [Option.some.injEq, Prod.mk.injEq] at H
    obtain ⟨rfl, rfl, rfl, rfl⟩ := H
    obtain ⟨ASz6_0, cSz6_0, HGz6, hgz6, HSz6_0⟩ := HI0.out
    have hcz6_0 := cellS83_0 HGz6
    have hcz6_1 := cellS83_1 HGz6
    have hcz6_2 := cellS83_2 HGz6
    have hcz6_3 := cellS83_3 HGz6
    have hcz6_4 := cellS83_4 HGz6
    have hfz6_1 := blk_frozen HGz6 1
    have hfz6_2 := blk_frozen HGz6 2
    have hfz6_3 := blk_frozen HGz6 3
    have hfz6_4 := blk_frozen HGz6 4
    clear HGz6 hgz6
    go_enter Try.func51, Try.ntmps51
    try go_wp2
    have n0_ : Aside0 (IsS83 w0 (w.setCell ⟨g, 3, none⟩ (.int .i64 a1)) g s0_0 s0_1 s0_2 a1 s0_4) := ⟨zq0⟩
    have n1_ : Aside0 (KeepBut w (w.setCell ⟨g, 3, none⟩ (.int .i64 a1)) g none) := ⟨zq7⟩
    have n2_ : Aside0 (Below w0.heap.size w0 (w.setCell ⟨g, 3, none⟩ (.int .i64 a1))) := ⟨zq4⟩
    generalize (w.setCell ⟨g, 3, none⟩ (.int .i64 a1)) = w7 at n0_ n1_ n2_ ⊢
    have HI0 := n0_
    have HK := n1_
    have HB := n2_
    clear n0_ n1_ n2_
    replace HI0 := za (IsS83.drew HI0.out)
    replace HK := za (keep_drew HK.out)
    replace HB := za (below_drew1 HB.out)
    obtain ⟨ASz9_0, cSz9_0, HGz9, hgz9, HSz9_0⟩ := HI0.out
    have hx9_0 := cellS83_0 HGz9
    have hx9_1 := cellS83_1 HGz9
    have hx9_2 := cellS83_2 HGz9
    have hx9_3 := cellS83_3 HGz9
    have hx9_4 := cellS83_4 HGz9
    clear HGz9 hgz9
    have p220 : 0 ≤ (s0_1 : Int) := of_decide_eq_true zq10
    have q220 : s0_1 < (s0_0.length : Int) := of_decide_eq_true zq10
    obtain ⟨ad220, e220, hx220_0, hx220_1, hx220_2⟩ := at_T110 HSz9_0 s0_1 p220 q220
    have hw220_2 := hx220_2
    have hw220_1 := hx220_1
    have hw220_0 := hx220_0
    cases e220
    replace hx220_0 := pw_cell_below HB.out hx220_0
    replace hx220_1 := pw_cell_below HB.out hx220_1
    replace hx220_2 := pw_cell_below HB.out hx220_2
    replace p220 := eq_true p220
    replace q220 := eq_true q220
    refine start_ (n := 15) (S := fun w' => w'.cell? ⟨g, 0, none⟩ = some (.slice (some ad220) s0_0.length cSz9_0) ∧ w'.cell? ⟨g, 1, none⟩ = some (.int .i64 s0_1) ∧ w'.cell? ⟨g, 2, none⟩ = some (.int .i64 s0_2) ∧ w'.cell? ⟨g, 3, none⟩ = some (.int .i64 a1) ∧ w'.cell? ⟨g, 4, none⟩ = some (.int .i64 s0_4) ∧ w'.cell? (ad220.add ((s0_1).toNat * 3)) = some (.int .i64 ((rd_T110 s0_0 s0_1).f0)) ∧ w'.cell? ⟨(ad220.add ((s0_1).toNat * 3)).block, (ad220.add ((s0_1).toNat * 3)).off + 1, none⟩ = some (.string ((rd_T110 s0_0 s0_1).f1)) ∧ w'.cell? ⟨(ad220.add ((s0_1).toNat * 3)).block, (ad220.add ((s0_1).toNat * 3)).off + 2, none⟩ = some (.int .i64 ((rd_T110 s0_0 s0_1).f2))) (ds := [14]) #[false, false, false, false, false, false, false, false, false, false, false, false, false, false, false] zq13 rfl rfl ⟨hx9_0, hx9_1, hx9_2, hx9_3, hx9_4, hx220_0, hx220_1, hx220_2⟩ (fun hHeld => ?_); refine with_tabW rr_fail.tab2 rr_fail.bits2 (fun HT_ HW_ => ?_)
    generalize w7.drew = w8 at HI0 HK HB hx220_0 hx220_1 hx220_2 hx9_0 hx9_1 hx9_2 hx9_3 hx9_4 hHeld ⊢
    refine pure_ (i := 0) (N := some 13) #[true, false, false, false, false, false, false, false, false, false, false, false, false, false, false] rfl rfl (any_of HT_.out zq13) (fun _ _ _ h => h) (Or.inl ⟨by rfl, zpv⟩) zpw ?_
    refine pure_ (i := 1) (N := some 14) #[true, true, false, false, false, false, false, false, false, false, false, false, false, false, false] rfl rfl (any_of HT_.out zq13) (fun _ _ _ h => h) (Or.inl ⟨by rfl, zpv⟩) zpw ?_
    refine pure_ (i := 2) (N := some 15) #[true, true, true, false, false, false, false, false, false, false, false, false, false, false, false] rfl rfl (any_of HT_.out zq13) (fun _ _ _ h => h) (Or.inl ⟨by rfl, zpv⟩) zpw ?_
    refine pure_ (i := 3) (N := some 16) #[true, true, true, true, false, false, false, false, false, false, false, false, false, false, false] rfl rfl (any_of HT_.out zq13) (fun _ _ _ h => h) (Or.inl ⟨by rfl, zpv⟩) zpw ?_
    refine pure_ (i := 5) (N := some 18) #[true, true, true, true, false, true, false, false, false, false, false, false, false, false, false] rfl rfl (any_of HT_.out zq13) (fun _ _ _ h => h) (Or.inl ⟨by rfl, zpv⟩) zpw ?_
    refine pure_ (i := 6) (N := some 19) #[true, true, true, true, false, true, true, false, false, false, false, false, false, false, false] rfl rfl (any_of HT_.out zq13) (fun _ _ _ h => h) (Or.inl ⟨by rfl, zpv⟩) zpw ?_
    refine pure_ (i := 7) (N := some 20) #[true, true, true, true, false, true, true, true, false, false, false, false, false, false, false] rfl rfl (any_of HT_.out zq13) (fun _ _ _ h => h) (Or.inl ⟨by rfl, zpv⟩) zpw ?_
    refine take_ (i := 4) (N := some 17) (v := ?_) (a' := ?_) #[true, true, true, true, true, true, true, true, false, false, false, false, false, false, false] rfl rfl (take_ofW HT_.out HW_.out zq13) (fun _ _ _ h => h) (Or.inl ⟨by rfl, ?_⟩) hHeld ?_ ?_
    rotate_left
    ·
     rintro w' ⟨s0, s1, s2, s3, s4, s5, s6, s7⟩
     go_simp
     with_reducible rfl
    rotate_left
    ·
     simp only [Act.put, List.setIfInBounds_toArray, List.set_cons_zero, List.set_cons_succ, i64_w, i32_w]
     rfl
    refine take_ (i := 8) (N := some 21) (v := ?_) (a' := ?_) #[true, true, true, true, true, true, true, true, true, false, false, false, false, false, false] rfl rfl (take_ofW HT_.out HW_.out zq13) (fun _ _ _ h => h) (Or.inl ⟨by rfl, ?_⟩) hHeld ?_ ?_
    rotate_left
    ·
     rintro w' ⟨s0, s1, s2, s3, s4, s5, s6, s7⟩
     go_simp
     with_reducible rfl
    rotate_left
    ·
     simp only [Act.put, List.setIfInBounds_toArray, List.set_cons_zero, List.set_cons_succ, i64_w, i32_w]
     rfl
    refine pure_ (i := 9) (N := some 22) #[true, true, true, true, true, true, true, true, true, true, false, false, false, false, false] rfl rfl (any_of HT_.out zq13) (fun _ _ _ h => h) (Or.inl ⟨by rfl, zpv⟩) zpw ?_
    refine pure_ (i := 10) (N := some 23) #[true, true, true, true, true, true, true, true, true, true, true, false, false, false, false] rfl rfl (any_of HT_.out zq13) (fun _ _ _ h => h) (Or.inl ⟨by rfl, zpv⟩) zpw ?_
    refine take_ (i := 11) (N := some 24) (v := ?_) (a' := ?_) #[true, true, true, true, true, true, true, true, true, true, true, true, false, false, false] rfl rfl (take_ofW HT_.out HW_.out zq13) (fun _ _ _ h => h) (Or.inl ⟨by rfl, ?_⟩) hHeld ?_ ?_
    rotate_left
    ·
     rintro w' ⟨s0, s1, s2, s3, s4, s5, s6, s7⟩
     go_simp
     with_reducible rfl
    rotate_left
    ·
     simp only [Act.put, List.setIfInBounds_toArray, List.set_cons_zero, List.set_cons_succ, i64_w, i32_w]
     rfl
    refine pure_ (i := 12) (N := some 25) #[true, true, true, true, true, true, true, true, true, true, true, true, true, false, false] rfl rfl (any_of HT_.out zq13) (fun _ _ _ h => h) (Or.inl ⟨by rfl, zpv⟩) zpw ?_
    refine pure_ (i := 13) (N := some 26) #[true, true, true, true, true, true, true, true, true, true, true, true, true, true, false] rfl rfl (any_of HT_.out zq13) (fun _ _ _ h => h) (Or.inl ⟨by rfl, zpv⟩) zpw ?_
    refine last_ (i := 14) (N := none) #[true, true, true, true, true, true, true, true, true, true, true, true, true, true, true] rfl rfl (one_of HT_.out zq13) (by decide) (fun K hK => ?_)
    obtain ⟨_, _, HGs10, _, _⟩ := HI0.out
    have hs10 := cellS83_4 HGs10
    have hfs10 := blk_frozen HGs10 4
    clear HGs10
    refine skip_ (w1 := ?_) (by rfl) rfl ?_ ?_
    rotate_left
    ·
     go_simp
     rfl
    refine hK.out _ _ ?_
    clear hK K
    refine done_ (done_of HT_.out zq13) ?_
    try go_wp2
    first | go_end0 | ((try simp only [Exit.inBlock, Exit.then]); refine bodyPost_ret (results_none rfl _ _ _) rfl ?_)
    exact ⟨zq16, zq0, zq4, zq7⟩
   ·
    rw [if_neg c5] at H
    exact absurd H (by simp)
  ·
   rw [if_neg c4] at H
   exact absurd H (by simp)
 ·
  rw [if_neg c3] at H
  have c3b0 := beq_eq_false_iff_ne.mpr c3
  have c3b1 := bne_iff_ne.mpr c3
  simp only [Option.some.injEq, Prod.mk.injEq] at H
  obtain ⟨rfl, rfl, rfl, rfl⟩ := H
  obtain ⟨ASz11_0, cSz11_0, HGz11, hgz11, HSz11_0⟩ := HI0.out
  have hcz11_0 := cellS83_0 HGz11
  have hcz11_1 := cellS83_1 HGz11
  have hcz11_2 := cellS83_2 HGz11
  have hcz11_3 := cellS83_3 HGz11
  have hcz11_4 := cellS83_4 HGz11
  have hfz11_1 := blk_frozen HGz11 1
  have hfz11_2 := blk_frozen HGz11 2
  have hfz11_3 := blk_frozen HGz11 3
  have hfz11_4 := blk_frozen HGz11 4
  clear HGz11 hgz11
  go_enter Try.func51, Try.ntmps51
  go_wp2
  first | go_end0 | ((try simp only [Exit.inBlock, Exit.then]); refine bodyPost_ret (results_none rfl _ _ _) rfl ?_)
  exact ⟨zq16, zq0, zq4, zq7⟩
end Go.Proofs.Ytcjnhnnfoadklaa.QRunBranches
