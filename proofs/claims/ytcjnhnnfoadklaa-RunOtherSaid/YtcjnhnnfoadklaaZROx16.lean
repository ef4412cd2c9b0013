import Derived.Test.YtcjnhnnfoadklaaZROx15
namespace Go.Proofs.Ytcjnhnnfoadklaa.QRunOther
open Go.RowKit Go.Proofs.YtcjnhnnfoadklaaW.PrintWords Go.Proofs.YtcjnhnnfoadklaaW.PrintLast Go.Proofs.YtcjnhnnfoadklaaW.PrintMore
attribute [local go_sem] max2_int min2_int max_two min_two max_three min_three max_four min_four
set_option linter.unusedVariables false
set_option linter.unusedSimpArgs false
mutual
def rb_Same.j0 : Nat → Bool → Int → List (S61) → Int → List ByteArray → Int → Int → List (S61) → Int → List ByteArray → Int → Option (Bool)
 | 0, _, _, _, _, _, _, _, _, _, _, _ => none
 | k + 1, x41, x567000, x567001, x567002, x567003, x567004, x568000, x568001, x568002, x568003, x568004 => if x41 = true then (some false) else (rb_Same.l0 k 0 x567000 x567001 x567002 x567003 x567004 x568000 x568001 x568002 x568003 x568004)
def rb_Same.l0 : Nat → Int → Int → List (S61) → Int → List ByteArray → Int → Int → List (S61) → Int → List ByteArray → Int → Option (Bool)
 | 0, _, _, _, _, _, _, _, _, _, _, _ => none
 | k + 1, x5, x567000, x567001, x567002, x567003, x567004, x568000, x568001, x568002, x568003, x568004 => if x5 < (x567003.length : Int) then (if 0 ≤ x5 then (if x5 < (x568003.length : Int) then (if (rdOf ByteArray.empty x567003 x5).toList = (rdOf ByteArray.empty x568003 x5).toList then (rb_Same.l0 k (wrap64 (x5 + 1)) x567000 x567001 x567002 x567003 x567004 x568000 x568001 x568002 x568003 x568004) else (some false)) else (none)) else (none)) else (some true)
end
def rb_Same.f (k : Nat) (a0_0 : Int) (l0_1 : List (S61)) (a0_2 : Int) (l0_3 : List ByteArray) (a0_4 : Int) (a1_0 : Int) (l1_1 : List (S61)) (a1_2 : Int) (l1_3 : List ByteArray) (a1_4 : Int) : Option (Bool) := if a0_0 = a1_0 then ((rb_Cells.f k l0_1 l1_1).bind fun t568 => (if t568 = true then (if a0_2 = a1_2 then (if (l0_3.length : Int) = (l1_3.length : Int) then (rb_Same.j0 k (a0_4 != a1_4) a0_0 l0_1 a0_2 l0_3 a0_4 a1_0 l1_1 a1_2 l1_3 a1_4) else (rb_Same.j0 k true a0_0 l0_1 a0_2 l0_3 a0_4 a1_0 l1_1 a1_2 l1_3 a1_4)) else (rb_Same.j0 k true a0_0 l0_1 a0_2 l0_3 a0_4 a1_0 l1_1 a1_2 l1_3 a1_4)) else (rb_Same.j0 k true a0_0 l0_1 a0_2 l0_3 a0_4 a1_0 l1_1 a1_2 l1_3 a1_4))) else (rb_Same.j0 k true a0_0 l0_1 a0_2 l0_3 a0_4 a1_0 l1_1 a1_2 l1_3 a1_4)
theorem rb_Same.mono_l : ∀ k, (∀ y0 y1 y2 y3 y4 y5 y6 y7 y8 y9 y10, LeO (rb_Same.j0 k y0 y1 y2 y3 y4 y5 y6 y7 y8 y9 y10) (rb_Same.j0 (k + 1) y0 y1 y2 y3 y4 y5 y6 y7 y8 y9 y10)) ∧ (∀ y0 y1 y2 y3 y4 y5 y6 y7 y8 y9 y10, LeO (rb_Same.l0 k y0 y1 y2 y3 y4 y5 y6 y7 y8 y9 y10) (rb_Same.l0 (k + 1) y0 y1 y2 y3 y4 y5 y6 y7 y8 y9 y10))
 | 0 => ⟨fun _ _ _ _ _ _ _ _ _ _ _ r h => by simp [rb_Same.j0] at h, fun _ _ _ _ _ _ _ _ _ _ _ r h => by simp [rb_Same.l0] at h⟩
 | k + 1 => by
  obtain ⟨ih0, ih1⟩ := rb_Same.mono_l k
  refine ⟨?_, ?_⟩
  ·
   intro y0 y1 y2 y3 y4 y5 y6 y7 y8 y9 y10
   unfold rb_Same.j0
   repeat' with_reducible first | apply ih0 | apply ih1 | apply rb_Cells.mono | exact LeO.refl _ | exact LeO.none _ | refine LeO.ite ?_ ?_ | refine LeO.bind ?_ (fun _ => ?_)
  ·
   intro y0 y1 y2 y3 y4 y5 y6 y7 y8 y9 y10
   unfold rb_Same.l0
   repeat' with_reducible first | apply ih0 | apply ih1 | apply rb_Cells.mono | exact LeO.refl _ | exact LeO.none _ | refine LeO.ite ?_ ?_ | refine LeO.bind ?_ (fun _ => ?_)
theorem rb_Same.mono : ∀ a0 a1 a2 a3 a4 a5 a6 a7 a8 a9 k, LeO (rb_Same.f k a0 a1 a2 a3 a4 a5 a6 a7 a8 a9) (rb_Same.f (k + 1) a0 a1 a2 a3 a4 a5 a6 a7 a8 a9) := by
 intro a0 a1 a2 a3 a4 a5 a6 a7 a8 a9 k
 obtain ⟨ih0, ih1⟩ := rb_Same.mono_l k
 unfold rb_Same.f
 repeat' with_reducible first | apply ih0 | apply ih1 | apply rb_Cells.mono | exact LeO.refl _ | exact LeO.none _ | refine LeO.ite ?_ ?_ | refine LeO.bind ?_ (fun _ => ?_)
set_option maxHeartbeats 8000000 in
set_option maxRecDepth 100000 in
theorem rb_Same.calls (k : Nat) (a0_0 : Int) (A0_1 : Option Addr) (c0_1 : Nat) (l0_1 : List (S61)) (a0_2 : Int) (A0_3 : Option Addr) (c0_3 : Nat) (l0_3 : List ByteArray) (a0_4 : Int) (a1_0 : Int) (A1_1 : Option Addr) (c1_1 : Nat) (l1_1 : List (S61)) (a1_2 : Int) (A1_3 : Option Addr) (c1_3 : Nat) (l1_3 : List ByteArray) (a1_4 : Int) (r : Bool) (w : World) (hr0_1 : Kd.C k61 w A0_1 l0_1.length l0_1) (hc0_1 : l0_1.length ≤ c0_1) (hr0_3 : Kd.C Kd.string w A0_3 l0_3.length l0_3) (hc0_3 : l0_3.length ≤ c0_3) (hr1_1 : Kd.C k61 w A1_1 l1_1.length l1_1) (hc1_1 : l1_1.length ≤ c1_1) (hr1_3 : Kd.C Kd.string w A1_3 l1_3.length l1_3) (hc1_3 : l1_3.length ≤ c1_3) (h : rb_Same.f k a0_0 l0_1 a0_2 l0_3 a0_4 a1_0 l1_1 a1_2 l1_3 a1_4 = some r) :
  Calls Try.prog 14 #[.agg #[.int .i64 a0_0, .slice A0_1 l0_1.length c0_1, .int .i64 a0_2, .slice A0_3 l0_3.length c0_3, .int .i64 a0_4], .agg #[.int .i64 a1_0, .slice A1_1 l1_1.length c1_1, .int .i64 a1_2, .slice A1_3 l1_3.length c1_3, .int .i64 a1_4]] w fun e w' => e = .returned (.bool r) ∧ Below w.heap.size w w' := by
 have hu31 := Try.underlying31
 have HR0_1 := za hr0_1
 have HC0_1 := za hc0_1
 clear hr0_1 hc0_1
 have HR0_3 := za hr0_3
 have HC0_3 := za hc0_3
 clear hr0_3 hc0_3
 have HR1_1 := za hr1_1
 have HC1_1 := za hc1_1
 clear hr1_1 hc1_1
 have HR1_3 := za hr1_3
 have HC1_3 := za hc1_3
 clear hr1_3 hc1_3
 have HB := za (Below.refl w.heap.size w)
 have H : (if a0_0 = a1_0 then ((rb_Cells.f k l0_1 l1_1).bind fun t568 => (if t568 = true then (if a0_2 = a1_2 then (if (l0_3.length : Int) = (l1_3.length : Int) then (rb_Same.j0 k (a0_4 != a1_4) a0_0 l0_1 a0_2 l0_3 a0_4 a1_0 l1_1 a1_2 l1_3 a1_4) else (rb_Same.j0 k true a0_0 l0_1 a0_2 l0_3 a0_4 a1_0 l1_1 a1_2 l1_3 a1_4)) else (rb_Same.j0 k true a0_0 l0_1 a0_2 l0_3 a0_4 a1_0 l1_1 a1_2 l1_3 a1_4)) else (rb_Same.j0 k true a0_0 l0_1 a0_2 l0_3 a0_4 a1_0 l1_1 a1_2 l1_3 a1_4))) else (rb_Same.j0 k true a0_0 l0_1 a0_2 l0_3 a0_4 a1_0 l1_1 a1_2 l1_3 a1_4)) = some r := h
 clear h
 have HC3 := za H
 clear H
 go_enter Try.func14, Try.ntmps14
 go_upto_region 1 with (first | ((with_reducible refine gate_dst (N := 2) rfl ?_); (try (refine gate_guard (by rfl) ?_; dsimp only)); refine box_event ?hg (N := 2) ?hd (cs := #[.int .i64 a0_0, .slice A0_1 l0_1.length c0_1, .int .i64 a0_2, .slice A0_3 l0_3.length c0_3, .int .i64 a0_4]) (t := 31) ?hr ?_; (case hd => rfl); (case hg => rfl); (case hr => exact zq17); intro gb566 hg w4 hbox hb; have BK566 := za (hbox); have GW566 := za ((by rw [hg]; exact (below_size zq2) : w.heap.size ≤ gb566)); have GE566 := za ((by rw [hg]; exact (below_size zq2) : w.heap.size ≤ gb566)); replace HB := za (below_step zq2 hb); clear hb hbox hg) | ((with_reducible refine gate_dst (N := 3) rfl ?_); (try (refine gate_guard (by rfl) ?_; dsimp only)); refine box_event ?hg (N := 3) ?hd (cs := #[.int .i64 a1_0, .slice A1_1 l1_1.length c1_1, .int .i64 a1_2, .slice A1_3 l1_3.length c1_3, .int .i64 a1_4]) (t := 31) ?hr ?_; (case hd => rfl); (case hg => rfl); (case hr => exact zq17); intro gb567 hg w5 hbox hb; have BK567 := za (hbox); have GW567 := za ((by rw [hg]; exact (below_size zq56) : w.heap.size ≤ gb567)); have GE567 := za ((by rw [hg]; exact (below_size zq56) : w.heap.size ≤ gb567)); replace HB := za (below_step zq56 hb); have NB566_567 := za ((by rw [hg]; exact Nat.ne_of_lt (blk_lt (g := gb566) (zb BK566.out)) : gb566 ≠ gb567)); have NB567_566 := za ((by rw [hg]; exact Nat.ne_of_gt (blk_lt (g := gb566) (zb BK566.out)) : gb567 ≠ gb566)); replace BK566 := za (blk_below (g := gb566) (zb BK566.out) hb); clear hb hbox hg))
 repeat (go_quiet (first | ((with_reducible refine gate_dst (N := 2) rfl ?_); (try (refine gate_guard (by rfl) ?_; dsimp only)); refine box_event ?hg (N := 2) ?hd (cs := #[.int .i64 a0_0, .slice A0_1 l0_1.length c0_1, .int .i64 a0_2, .slice A0_3 l0_3.length c0_3, .int .i64 a0_4]) (t := 31) ?hr ?_; (case hd => rfl); (case hg => rfl); (case hr => exact zq17); intro gb566 hg w4 hbox hb; have BK566 := za (hbox); have GW566 := za ((by rw [hg]; exact (below_size zq2) : w.heap.size ≤ gb566)); have GE566 := za ((by rw [hg]; exact (below_size zq2) : w.heap.size ≤ gb566)); replace HB := za (below_step zq2 hb); clear hb hbox hg) | ((with_reducible refine gate_dst (N := 3) rfl ?_); (try (refine gate_guard (by rfl) ?_; dsimp only)); refine box_event ?hg (N := 3) ?hd (cs := #[.int .i64 a1_0, .slice A1_1 l1_1.length c1_1, .int .i64 a1_2, .slice A1_3 l1_3.length c1_3, .int .i64 a1_4]) (t := 31) ?hr ?_; (case hd => rfl); (case hg => rfl); (case hr => exact zq17); intro gb567 hg w5 hbox hb; have BK567 := za (hbox); have GW567 := za ((by rw [hg]; exact (below_size zq56) : w.heap.size ≤ gb567)); have GE567 := za ((by rw [hg]; exact (below_size zq56) : w.heap.size ≤ gb567)); replace HB := za (below_step zq56 hb); have NB566_567 := za ((by rw [hg]; exact Nat.ne_of_lt (blk_lt (g := gb566) (zb BK566.out)) : gb566 ≠ gb567)); have NB567_566 := za ((by rw [hg]; exact Nat.ne_of_gt (blk_lt (g := gb566) (zb BK566.out)) : gb567 ≠ gb566)); replace BK566 := za (blk_below (g := gb566) (zb BK566.out) hb); clear hb hbox hg)); go_upto_region 1 with (first | ((with_reducible refine gate_dst (N := 2) rfl ?_); (try (refine gate_guard (by rfl) ?_; dsimp only)); refine box_event ?hg (N := 2) ?hd (cs := #[.int .i64 a0_0, .slice A0_1 l0_1.length c0_1, .int .i64 a0_2, .slice A0_3 l0_3.length c0_3, .int .i64 a0_4]) (t := 31) ?hr ?_; (case hd => rfl); (case hg => rfl); (case hr => exact zq17); intro gb566 hg w4 hbox hb; have BK566 := za (hbox); have GW566 := za ((by rw [hg]; exact (below_size zq2) : w.heap.size ≤ gb566)); have GE566 := za ((by rw [hg]; exact (below_size zq2) : w.heap.size ≤ gb566)); replace HB := za (below_step zq2 hb); clear hb hbox hg) | ((with_reducible refine gate_dst (N := 3) rfl ?_); (try (refine gate_guard (by rfl) ?_; dsimp only)); refine box_event ?hg (N := 3) ?hd (cs := #[.int .i64 a1_0, .slice A1_1 l1_1.length c1_1, .int .i64 a1_2, .slice A1_3 l1_3.length c1_3, .int .i64 a1_4]) (t := 31) ?hr ?_; (case hd => rfl); (case hg => rfl); (case hr => exact zq17); intro gb567 hg w5 hbox hb; have BK567 := za (hbox); have GW567 := za ((by rw [hg]; exact (below_size zq56) : w.heap.size ≤ gb567)); have GE567 := za ((by rw [hg]; exact (below_size zq56) : w.heap.size ≤ gb567)); replace HB := za (below_step zq56 hb); have NB566_567 := za ((by rw [hg]; exact Nat.ne_of_lt (blk_lt (g := gb566) (zb BK566.out)) : gb566 ≠ gb567)); have NB567_566 := za ((by rw [hg]; exact Nat.ne_of_gt (blk_lt (g := gb566) (zb BK566.out)) : gb567 ≠ gb566)); replace BK566 := za (blk_below (g := gb566) (zb BK566.out) hb); clear hb hbox hg)))
 (try simp only [Act.put, List.setIfInBounds_toArray, List.set_cons_zero, List.set_cons_succ])
 go_cut [41] (fun v41 wc => ∃ (kq : Nat) (x41_2 : Bool), v41 = .bool x41_2 ∧ Aside0 (rb_Same.j0 kq x41_2 a0_0 l0_1 a0_2 l0_3 a0_4 a1_0 l1_1 a1_2 l1_3 a1_4 = some r) ∧ Aside0 (kq ≤ k) ∧ Aside0 (wc.heap[gb566]? = some (.cells #[.int .i64 a0_0, (.slice A0_1 l0_1.length c0_1), .int .i64 a0_2, (.slice A0_3 l0_3.length c0_3), .int .i64 a0_4] 31 (0, 0))) ∧ Aside0 (wc.heap[gb567]? = some (.cells #[.int .i64 a1_0, (.slice A1_1 l1_1.length c1_1), .int .i64 a1_2, (.slice A1_3 l1_3.length c1_3), .int .i64 a1_4] 31 (0, 0))) ∧ Aside0 (Below w.heap.size w wc))
 case first =>
  have H := HC3.out
  clear HC3
  by_cases c6 : a0_0 = a1_0
  ·
   rw [if_pos c6] at H
   have c6b0 := beq_iff_eq.mpr c6
   have c6b1 := bne_eq_false_iff_eq.mpr c6
   clear c6
   (first | rw [c6b0] | (simp only [i64_w, i32_w]; rw [c6b0]) | skip)
   replace H := Option.bind_eq_some_iff.mp H
   obtain ⟨t568, A70, H⟩ := H
   (try dsimp only at H)
   have A7 := za A70
   clear A70
   by_cases c8 : t568 = true
   ·
    subst c8
    rw [if_pos rfl] at H
    by_cases c9 : a0_2 = a1_2
    ·
     rw [if_pos c9] at H
     have c9b0 := beq_iff_eq.mpr c9
     have c9b1 := bne_eq_false_iff_eq.mpr c9
     clear c9
     by_cases c10 : (l0_3.length : Int) = (l1_3.length : Int)
     ·
      rw [if_pos c10] at H
      have c10b0 := beq_iff_eq.mpr c10
      have c10b1 := bne_eq_false_iff_eq.mpr c10
      have c10b2 : (l0_3.length == l1_3.length) = true := by first | simpa using c10 | (simp at c10 ⊢; omega)
      clear c10
      have H' := za H
      clear H
      have hnb11 := NB566_567.out
      have hnc11 := NB567_566.out
      obtain ⟨hcz12_0, hcz12_1, hcz12_2, hcz12_3, hcz12_4⟩ := zc5 BK566.out
      obtain ⟨hfz12_0, hfz12_1, hfz12_2, hfz12_3, hfz12_4⟩ := zf5 BK566.out
      obtain ⟨hcz13_0, hcz13_1, hcz13_2, hcz13_3, hcz13_4⟩ := zc5 BK567.out
      obtain ⟨hfz13_0, hfz13_1, hfz13_2, hfz13_3, hfz13_4⟩ := zf5 BK567.out
      go_wp2_with (first | (go_at_call 19; (with_reducible refine (rb_Cells.calls k _ _ l0_1 _ _ l1_1 true _ ?side1 ?side2 ?side3 ?side4 A7.out).mono ?_); (case side1 => exact zq43); (case side2 => exact HC0_1.out); (case side3 => exact zq44); (case side4 => exact HC1_1.out); rintro e w' ⟨rfl, ⟨nd, rfl⟩⟩; (try first | exact ⟨rfl, _, World.drewN_drewN _ _ _⟩ | exact ⟨rfl, _, Eq.trans (World.drewN_drewN _ _ _) (congrArg (World.drewN _) (Nat.add_assoc _ _ _))⟩)))
      repeat (go_quiet (first | (go_at_call 19; (with_reducible refine (rb_Cells.calls k _ _ l0_1 _ _ l1_1 true _ ?side1 ?side2 ?side3 ?side4 A7.out).mono ?_); (case side1 => exact zq43); (case side2 => exact HC0_1.out); (case side3 => exact zq44); (case side4 => exact HC1_1.out); rintro e w' ⟨rfl, ⟨nd, rfl⟩⟩; (try first | exact ⟨rfl, _, World.drewN_drewN _ _ _⟩ | exact ⟨rfl, _, Eq.trans (World.drewN_drewN _ _ _) (congrArg (World.drewN _) (Nat.add_assoc _ _ _))⟩))); try go_wp2_with (first | (go_at_call 19; (with_reducible refine (rb_Cells.calls k _ _ l0_1 _ _ l1_1 true _ ?side1 ?side2 ?side3 ?side4 A7.out).mono ?_); (case side1 => exact zq43); (case side2 => exact HC0_1.out); (case side3 => exact zq44); (case side4 => exact HC1_1.out); rintro e w' ⟨rfl, ⟨nd, rfl⟩⟩; (try first | exact ⟨rfl, _, World.drewN_drewN _ _ _⟩ | exact ⟨rfl, _, Eq.trans (World.drewN_drewN _ _ _) (congrArg (World.drewN _) (Nat.add_assoc _ _ _))⟩))))
      go_meet
      case rel => exact ⟨_, ((a0_4 != a1_4)), zq21, H', ⟨zq86⟩, ⟨zq73⟩, ⟨zq74⟩, ⟨zq47⟩⟩
     ·
      rw [if_neg c10] at H
      have c10b0 := beq_eq_false_iff_ne.mpr c10
      have c10b1 := bne_iff_ne.mpr c10
      have c10b2 : (l0_3.length == l1_3.length) = false := by first | simpa using c10 | (simp at c10 ⊢; omega)
      have H' := za H
      clear H
      have hnb14 := NB566_567.out
      have hnc14 := NB567_566.out
      obtain ⟨hcz15_0, hcz15_1, hcz15_2, hcz15_3, hcz15_4⟩ := zc5 BK566.out
      obtain ⟨hfz15_0, hfz15_1, hfz15_2, hfz15_3, hfz15_4⟩ := zf5 BK566.out
      obtain ⟨hcz16_0, hcz16_1, hcz16_2, hcz16_3, hcz16_4⟩ := zc5 BK567.out
      obtain ⟨hfz16_0, hfz16_1, hfz16_2, hfz16_3, hfz16_4⟩ := zf5 BK567.out
      go_wp2_with (first | (go_at_call 19; (with_reducible refine (rb_Cells.calls k _ _ l0_1 _ _ l1_1 true _ ?side1 ?side2 ?side3 ?side4 A7.out).mono ?_); (case side1 => exact zq43); (case side2 => exact HC0_1.out); (case side3 => exact zq44); (case side4 => exact HC1_1.out); rintro e w' ⟨rfl, ⟨nd, rfl⟩⟩; (try first | exact ⟨rfl, _, World.drewN_drewN _ _ _⟩ | exact ⟨rfl, _, Eq.trans (World.drewN_drewN _ _ _) (congrArg (World.drewN _) (Nat.add_assoc _ _ _))⟩)))
      repeat (go_quiet (first | (go_at_call 19; (with_reducible refine (rb_Cells.calls k _ _ l0_1 _ _ l1_1 true _ ?side1 ?side2 ?side3 ?side4 A7.out).mono ?_); (case side1 => exact zq43); (case side2 => exact HC0_1.out); (case side3 => exact zq44); (case side4 => exact HC1_1.out); rintro e w' ⟨rfl, ⟨nd, rfl⟩⟩; (try first | exact ⟨rfl, _, World.drewN_drewN _ _ _⟩ | exact ⟨rfl, _, Eq.trans (World.drewN_drewN _ _ _) (congrArg (World.drewN _) (Nat.add_assoc _ _ _))⟩))); try go_wp2_with (first | (go_at_call 19; (with_reducible refine (rb_Cells.calls k _ _ l0_1 _ _ l1_1 true _ ?side1 ?side2 ?side3 ?side4 A7.out).mono ?_); (case side1 => exact zq43); (case side2 => exact HC0_1.out); (case side3 => exact zq44); (case side4 => exact HC1_1.out); rintro e w' ⟨rfl, ⟨nd, rfl⟩⟩; (try first | exact ⟨rfl, _, World.drewN_drewN _ _ _⟩ | exact ⟨rfl, _, Eq.trans (World.drewN_drewN _ _ _) (congrArg (World.drewN _) (Nat.add_assoc _ _ _))⟩))))
      go_meet
      case rel => exact ⟨_, (true), zq21, H', ⟨zq86⟩, ⟨zq73⟩, ⟨zq74⟩, ⟨zq47⟩⟩
    ·
     rw [if_neg c9] at H
     have c9b0 := beq_eq_false_iff_ne.mpr c9
     have c9b1 := bne_iff_ne.mpr c9
     have H' := za H
     clear H
     have hnb17 := NB566_567.out
     have hnc17 := NB567_566.out
     obtain ⟨hcz18_0, hcz18_1, hcz18_2, hcz18_3, hcz18_4⟩ := zc5 BK566.out
     obtain ⟨hfz18_0, hfz18_1, hfz18_2, hfz18_3, hfz18_4⟩ := zf5 BK566.out
     obtain ⟨hcz19_0, hcz19_1, hcz19_2, hcz19_3, hcz19_4⟩ := zc5 BK567.out
     obtain ⟨hfz19_0, hfz19_1, hfz19_2, hfz19_3, hfz19_4⟩ := zf5 BK567.out
     go_wp2_with (first | (go_at_call 19; (with_reducible refine (rb_Cells.calls k _ _ l0_1 _ _ l1_1 true _ ?side1 ?side2 ?side3 ?side4 A7.out).mono ?_); (case side1 => exact zq43); (case side2 => exact HC0_1.out); (case side3 => exact zq44); (case side4 => exact HC1_1.out); rintro e w' ⟨rfl, ⟨nd, rfl⟩⟩; (try first | exact ⟨rfl, _, World.drewN_drewN _ _ _⟩ | exact ⟨rfl, _, Eq.trans (World.drewN_drewN _ _ _) (congrArg (World.drewN _) (Nat.add_assoc _ _ _))⟩)))
     repeat (go_quiet (first | (go_at_call 19; (with_reducible refine (rb_Cells.calls k _ _ l0_1 _ _ l1_1 true _ ?side1 ?side2 ?side3 ?side4 A7.out).mono ?_); (case side1 => exact zq43); (case side2 => exact HC0_1.out); (case side3 => exact zq44); (case side4 => exact HC1_1.out); rintro e w' ⟨rfl, ⟨nd, rfl⟩⟩; (try first | exact ⟨rfl, _, World.drewN_drewN _ _ _⟩ | exact ⟨rfl, _, Eq.trans (World.drewN_drewN _ _ _) (congrArg (World.drewN _) (Nat.add_assoc _ _ _))⟩))); try go_wp2_with (first | (go_at_call 19; (with_reducible refine (rb_Cells.calls k _ _ l0_1 _ _ l1_1 true _ ?side1 ?side2 ?side3 ?side4 A7.out).mono ?_); (case side1 => exact zq43); (case side2 => exact HC0_1.out); (case side3 => exact zq44); (case side4 => exact HC1_1.out); rintro e w' ⟨rfl, ⟨nd, rfl⟩⟩; (try first | exact ⟨rfl, _, World.drewN_drewN _ _ _⟩ | exact ⟨rfl, _, Eq.trans (World.drewN_drewN _ _ _) (congrArg (World.drewN _) (Nat.add_assoc _ _ _))⟩))))
     go_meet
     case rel => exact ⟨_, (true), zq21, H', ⟨zq86⟩, ⟨zq73⟩, ⟨zq74⟩, ⟨zq47⟩⟩
   ·
    replace c8 := Bool.eq_false_iff.mpr c8
    subst c8
    rw [if_neg (show ¬ (false = true) by decide)] at H
    have H' := za H
    clear H
    have hnb20 := NB566_567.out
    have hnc20 := NB567_566.out
    obtain ⟨hcz21_0, hcz21_1, hcz21_2, hcz21_3, hcz21_4⟩ := zc5 BK566.out
    obtain ⟨hfz21_0, hfz21_1, hfz21_2, hfz21_3, hfz21_4⟩ := zf5 BK566.out
    obtain ⟨hcz22_0, hcz22_1, hcz22_2, hcz22_3, hcz22_4⟩ := zc5 BK567.out
    obtain ⟨hfz22_0, hfz22_1, hfz22_2, hfz22_3, hfz22_4⟩ := zf5 BK567.out
    go_wp2_with (first | (go_at_call 19; (with_reducible refine (rb_Cells.calls k _ _ l0_1 _ _ l1_1 false _ ?side1 ?side2 ?side3 ?side4 A7.out).mono ?_); (case side1 => exact zq43); (case side2 => exact HC0_1.out); (case side3 => exact zq44); (case side4 => exact HC1_1.out); rintro e w' ⟨rfl, ⟨nd, rfl⟩⟩; (try first | exact ⟨rfl, _, World.drewN_drewN _ _ _⟩ | exact ⟨rfl, _, Eq.trans (World.drewN_drewN _ _ _) (congrArg (World.drewN _) (Nat.add_assoc _ _ _))⟩)))
    repeat (go_quiet (first | (go_at_call 19; (with_reducible refine (rb_Cells.calls k _ _ l0_1 _ _ l1_1 false _ ?side1 ?side2 ?side3 ?side4 A7.out).mono ?_); (case side1 => exact zq43); (case side2 => exact HC0_1.out); (case side3 => exact zq44); (case side4 => exact HC1_1.out); rintro e w' ⟨rfl, ⟨nd, rfl⟩⟩; (try first | exact ⟨rfl, _, World.drewN_drewN _ _ _⟩ | exact ⟨rfl, _, Eq.trans (World.drewN_drewN _ _ _) (congrArg (World.drewN _) (Nat.add_assoc _ _ _))⟩))); try go_wp2_with (first | (go_at_call 19; (with_reducible refine (rb_Cells.calls k _ _ l0_1 _ _ l1_1 false _ ?side1 ?side2 ?side3 ?side4 A7.out).mono ?_); (case side1 => exact zq43); (case side2 => exact HC0_1.out); (case side3 => exact zq44); (case side4 => exact HC1_1.out); rintro e w' ⟨rfl, ⟨nd, rfl⟩⟩; (try first | exact ⟨rfl, _, World.drewN_drewN _ _ _⟩ | exact ⟨rfl, _, Eq.trans (World.drewN_drewN _ _ _) (congrArg (World.drewN _) (Nat.add_assoc _ _ _))⟩))))
    go_meet
    case rel => exact ⟨_, (true), zq21, H', ⟨zq86⟩, ⟨zq73⟩, ⟨zq74⟩, ⟨zq47⟩⟩
  ·
   rw [if_neg c6] at H
   have c6b0 := beq_eq_false_iff_ne.mpr c6
   have c6b1 := bne_iff_ne.mpr c6
   (first | rw [c6b0] | (simp only [i64_w, i32_w]; rw [c6b0]) | skip)
   have H' := za H
   clear H
   have hnb23 := NB566_567.out
   have hnc23 := NB567_566.out
   obtain ⟨hcz24_0, hcz24_1, hcz24_2, hcz24_3, hcz24_4⟩ := zc5 BK566.out
   obtain ⟨hfz24_0, hfz24_1, hfz24_2, hfz24_3, hfz24_4⟩ := zf5 BK566.out
   obtain ⟨hcz25_0, hcz25_1, hcz25_2, hcz25_3, hcz25_4⟩ := zc5 BK567.out
   obtain ⟨hfz25_0, hfz25_1, hfz25_2, hfz25_3, hfz25_4⟩ := zf5 BK567.out
   go_wp2
   repeat (go_quiet (fail); try go_wp2)
   go_meet
   case rel => exact ⟨_, (true), zq21, H', ⟨zq86⟩, ⟨zq73⟩, ⟨zq74⟩, ⟨zq47⟩⟩
 case rest =>
  clear HC3
  obtain ⟨kq, x41_2, rfl, HA, HJ2, BK566, BK567, HB⟩ := hcut
  cases kq with
  | zero => exact absurd HA.out (by simp [rb_Same.j0])
  | succ kj2 =>
   have H := HA.out
   clear HA
   simp only [rb_Same.j0] at H
   by_cases c26 : x41_2 = true
   ·
    subst c26
    rw [if_pos rfl] at H
    obtain rfl := Option.some.inj H
    go_wp2
    repeat (go_quiet (fail); try go_wp2)
    go_ret
    exact ⟨zq19, zq47⟩
   ·
    replace c26 := Bool.eq_false_iff.mpr c26
    subst c26
    rw [if_neg (show ¬ (false = true) by decide)] at H
    have H' := za H
    clear H
    go_wp2
    repeat (go_quiet (fail); try go_wp2)
    go_loopg [5] kj2 (fun kq v5 w' => ∃ (x5_2 : Int), v5 = .int .i64 x5_2 ∧ Aside0 (rb_Same.l0 kq x5_2 a0_0 l0_1 a0_2 l0_3 a0_4 a1_0 l1_1 a1_2 l1_3 a1_4 = some r) ∧ Aside0 (kq ≤ kj2) ∧ Aside0 (w'.heap[gb566]? = some (.cells #[.int .i64 a0_0, (.slice A0_1 l0_1.length c0_1), .int .i64 a0_2, (.slice A0_3 l0_3.length c0_3), .int .i64 a0_4] 31 (0, 0))) ∧ Aside0 (w'.heap[gb567]? = some (.cells #[.int .i64 a1_0, (.slice A1_1 l1_1.length c1_1), .int .i64 a1_2, (.slice A1_3 l1_3.length c1_3), .int .i64 a1_4] 31 (0, 0))) ∧ Aside0 (Below w.heap.size w w'))
    case atStart => exact ⟨(0), zq21, H', ⟨Nat.le_refl _⟩, ⟨zq73⟩, ⟨zq74⟩, ⟨zq47⟩⟩
    case round =>
     clear H'
     obtain ⟨x5_2, rfl, HA, HK2, BK566, BK567, HB⟩ := hrel
     cases gk with
     | zero => exact absurd HA.out (by simp [rb_Same.l0])
     | succ k2 =>
      have H := HA.out
      clear HA
      simp only [rb_Same.l0] at H
      by_cases c27 : x5_2 < (l0_3.length : Int)
      ·
       rw [if_pos c27] at H
       have c27b0 := decide_eq_true c27
       clear c27
       by_cases c28 : 0 ≤ x5_2
       ·
        rw [if_pos c28] at H
        have c28b0 := decide_eq_true c28
        clear c28
        by_cases c29 : x5_2 < (l1_3.length : Int)
        ·
         rw [if_pos c29] at H
         have c29b0 := decide_eq_true c29
         clear c29
         by_cases c30 : (rdOf ByteArray.empty l0_3 x5_2).toList = (rdOf ByteArray.empty l1_3 x5_2).toList
         ·
          rw [if_pos c30] at H
          have c30b0 := beq_iff_eq.mpr c30
          have c30b1 := bne_eq_false_iff_eq.mpr c30
          clear c30
          have H' := za H
          clear H
          have hnb31 := NB566_567.out
          have hnc31 := NB567_566.out
          obtain ⟨hcz32_0, hcz32_1, hcz32_2, hcz32_3, hcz32_4⟩ := zc5 BK566.out
          obtain ⟨hfz32_0, hfz32_1, hfz32_2, hfz32_3, hfz32_4⟩ := zf5 BK566.out
          have p569 : 0 ≤ (x5_2 : Int) := of_decide_eq_true zq9
          have q569 : x5_2 < (l0_3.length : Int) := of_decide_eq_true zq9
          obtain ⟨ad569, e569, hx569_0⟩ := Kd.at_string HR0_3.out x5_2 p569 q569
          cases e569
          replace hx569_0 := (HB.out.cell (World.block_lt_of_cell? w _ hx569_0)).trans hx569_0
          replace p569 := eq_true p569
          replace q569 := eq_true q569
          obtain ⟨hcz33_0, hcz33_1, hcz33_2, hcz33_3, hcz33_4⟩ := zc5 BK567.out
          obtain ⟨hfz33_0, hfz33_1, hfz33_2, hfz33_3, hfz33_4⟩ := zf5 BK567.out
          have p570 : 0 ≤ (x5_2 : Int) := of_decide_eq_true zq9
          have q570 : x5_2 < (l1_3.length : Int) := of_decide_eq_true zq9
          obtain ⟨ad570, e570, hx570_0⟩ := Kd.at_string HR1_3.out x5_2 p570 q570
          cases e570
          replace hx570_0 := (HB.out.cell (World.block_lt_of_cell? w _ hx570_0)).trans hx570_0
          replace p570 := eq_true p570
          replace q570 := eq_true q570
          go_wp2
          repeat (go_quiet (fail); try go_wp2)
          go_roundg k2
          case measure => have := HJ2.out; have := HK2.out; omega
          case rel => exact ⟨(wrap64 (x5_2 + 1)), zq21, H', ⟨by have := HJ2.out; have := HK2.out; omega⟩, ⟨zq73⟩, ⟨zq74⟩, ⟨zq47⟩⟩
         ·
          rw [if_neg c30] at H
          have c30b0 := beq_eq_false_iff_ne.mpr c30
          have c30b1 := bne_iff_ne.mpr c30
          obtain rfl := Option.some.inj H
          have hnb34 := NB566_567.out
          have hnc34 := NB567_566.out
          obtain ⟨hcz35_0, hcz35_1, hcz35_2, hcz35_3, hcz35_4⟩ := zc5 BK566.out
          obtain ⟨hfz35_0, hfz35_1, hfz35_2, hfz35_3, hfz35_4⟩ := zf5 BK566.out
          have p569 : 0 ≤ (x5_2 : Int) := of_decide_eq_true zq9
          have q569 : x5_2 < (l0_3.length : Int) := of_decide_eq_true zq9
          obtain ⟨ad569, e569, hx569_0⟩ := Kd.at_string HR0_3.out x5_2 p569 q569
          cases e569
          replace hx569_0 := (HB.out.cell (World.block_lt_of_cell? w _ hx569_0)).trans hx569_0
          replace p569 := eq_true p569
          replace q569 := eq_true q569
          obtain ⟨hcz36_0, hcz36_1, hcz36_2, hcz36_3, hcz36_4⟩ := zc5 BK567.out
          obtain ⟨hfz36_0, hfz36_1, hfz36_2, hfz36_3, hfz36_4⟩ := zf5 BK567.out
          have p570 : 0 ≤ (x5_2 : Int) := of_decide_eq_true zq9
          have q570 : x5_2 < (l1_3.length : Int) := of_decide_eq_true zq9
          obtain ⟨ad570, e570, hx570_0⟩ := Kd.at_string HR1_3.out x5_2 p570 q570
          cases e570
          replace hx570_0 := (HB.out.cell (World.block_lt_of_cell? w _ hx570_0)).trans hx570_0
          replace p570 := eq_true p570
          replace q570 := eq_true q570
          go_wp2
          repeat (go_quiet (fail); try go_wp2)
          go_ret
          exact ⟨zq19, zq47⟩
        ·
         rw [if_neg c29] at H
         exact absurd H (by simp)
       ·
        rw [if_neg c28] at H
        exact absurd H (by simp)
      ·
       rw [if_neg c27] at H
       have c27b0 := decide_eq_false c27
       clear c27
       obtain rfl := Option.some.inj H
       have hnb37 := NB566_567.out
       have hnc37 := NB567_566.out
       obtain ⟨hcz38_0, hcz38_1, hcz38_2, hcz38_3, hcz38_4⟩ := zc5 BK566.out
       obtain ⟨hfz38_0, hfz38_1, hfz38_2, hfz38_3, hfz38_4⟩ := zf5 BK566.out
       go_wp2
       repeat (go_quiet (fail); try go_wp2)
       go_ret
       exact ⟨zq19, zq47⟩
end Go.Proofs.Ytcjnhnnfoadklaa.QRunOther
