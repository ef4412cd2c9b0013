import Derived.Test.YtcmpmlklednhbaaZEJx8
namespace Go.Proofs.Ytcmpmlklednhbaa.QEvalJoins
open Go.RowKit Go.Proofs.YtcmpmlklednhbaaW.PrintWords Go.Proofs.YtcmpmlklednhbaaW.PrintLast Go.Proofs.YtcmpmlklednhbaaW.PrintMore
set_option maxHeartbeats 8000000
set_option maxRecDepth 100000
attribute [local go_sem] max2_int min2_int max_two min_two max_three min_three max_four min_four
set_option linter.unusedVariables false
set_option linter.unusedSimpArgs false
def rr_unary.T3 : Bool × List (List Nat × List Nat) := (true, [([], []), ([0], [0]), ([1], [1]), ([2], [2]), ([], []), ([4], [4]), ([5], [5]), ([6], [6]), ([3, 7], [3, 7]), ([8], [8]), ([], []), ([10, 9, 0, 1, 2, 3, 4, 5, 6, 7, 8, 9, 10], [9, 10])])
def rr_unary.B3 : List Nat := [0, 1, 3, 7, 0, 16, 48, 112, 255, 511, 0, 2047]
theorem rr_unary.tab3 : rtab .any (opsOf Try.f50 3) = rr_unary.T3 := by kernel_rfl
theorem rr_unary.bits3 : waitsOk rr_unary.T3.2 rr_unary.B3 = true := by kernel_rfl
def rr_unary.T20 : Bool × List (List Nat × List Nat) := (true, [([], []), ([], []), ([1], [1]), ([2], [2]), ([], []), ([4], [4]), ([3, 5], [3, 5]), ([6], [6]), ([0, 7, 3], [0, 7]), ([8, 8, 0, 1, 2, 3, 4, 5, 6, 7, 8], [8])])
def rr_unary.B20 : List Nat := [0, 0, 2, 6, 0, 16, 62, 126, 255, 511]
theorem rr_unary.tab20 : rtab .any (opsOf Try.f50 20) = rr_unary.T20 := by kernel_rfl
theorem rr_unary.bits20 : waitsOk rr_unary.T20.2 rr_unary.B20 = true := by kernel_rfl
theorem rr_unary.step (k : Nat) (IH50_ : Aside0 (∀ m, m < k → ∀ (g : Nat) (s0_0 : List (S69)) (s0_1 : Int) (s0_2 : Int) (s0_3 : Int) (s0_4 : Int) (P1_ : Nat → Prop) (u9000_ : Value) (l1 : List (S48)) (r1 : List (S48)) (r2 : Int) (r3 : Int) (r4 : Int) (r5 : Int) (w0 w : World) (hI : IsS57 w0 w g s0_0 s0_1 s0_2 s0_3 s0_4) (hB : Below w0.heap.size w0 w) (ho1 : Kd.R k48 48 w w0.heap.size P1_ u9000_ l1) (h : rr_unary.f m s0_0 s0_1 s0_2 s0_3 s0_4 l1 = some (r1, r2, r3, r4, r5)),
  Calls Try.prog 50 #[.pointer (some ⟨g, 0, none⟩), u9000_] w fun e w' => ∃ v0_ : Value, e = .returned (v0_) ∧ Kd.R k48 48 w' w0.heap.size (fun k_ => (P1_ k_ ∨ w.heap.size ≤ k_)) v0_ r1 ∧ IsS57 w0 w' g s0_0 r2 r3 r4 r5 ∧ Below w0.heap.size w0 w' ∧ Kept w w' (fun k_ => (P1_ k_) ∨ k_ = g))) (IH43_ : Aside0 (∀ m, m < k → ∀ (g : Nat) (s0_0 : List (S69)) (s0_1 : Int) (s0_2 : Int) (s0_3 : Int) (s0_4 : Int) (P1_ : Nat → Prop) (u9000_ : Value) (l1 : List (S48)) (r1 : List (S48)) (r2 : Int) (r3 : Int) (r4 : Int) (r5 : Int) (w0 w : World) (hI : IsS57 w0 w g s0_0 s0_1 s0_2 s0_3 s0_4) (hB : Below w0.heap.size w0 w) (ho1 : Kd.R k48 48 w w0.heap.size P1_ u9000_ l1) (h : rr_expr.f m s0_0 s0_1 s0_2 s0_3 s0_4 l1 = some (r1, r2, r3, r4, r5)),
  Calls Try.prog 43 #[.pointer (some ⟨g, 0, none⟩), u9000_] w fun e w' => ∃ v0_ : Value, e = .returned (v0_) ∧ Kd.R k48 48 w' w0.heap.size (fun k_ => (P1_ k_ ∨ w.heap.size ≤ k_)) v0_ r1 ∧ IsS57 w0 w' g s0_0 r2 r3 r4 r5 ∧ Below w0.heap.size w0 w' ∧ Kept w w' (fun k_ => (P1_ k_) ∨ k_ = g))) (IH46_ : Aside0 (∀ m, m < k → ∀ (g : Nat) (s0_0 : List (S69)) (s0_1 : Int) (s0_2 : Int) (s0_3 : Int) (s0_4 : Int) (P1_ : Nat → Prop) (u9000_ : Value) (l1 : List (S48)) (r1 : List (S48)) (r2 : Int) (r3 : Int) (r4 : Int) (r5 : Int) (w0 w : World) (hI : IsS57 w0 w g s0_0 s0_1 s0_2 s0_3 s0_4) (hB : Below w0.heap.size w0 w) (ho1 : Kd.R k48 48 w w0.heap.size P1_ u9000_ l1) (h : rr_sum.f m s0_0 s0_1 s0_2 s0_3 s0_4 l1 = some (r1, r2, r3, r4, r5)),
  Calls Try.prog 46 #[.pointer (some ⟨g, 0, none⟩), u9000_] w fun e w' => ∃ v0_ : Value, e = .returned (v0_) ∧ Kd.R k48 48 w' w0.heap.size (fun k_ => (P1_ k_ ∨ w.heap.size ≤ k_)) v0_ r1 ∧ IsS57 w0 w' g s0_0 r2 r3 r4 r5 ∧ Below w0.heap.size w0 w' ∧ Kept w w' (fun k_ => (P1_ k_) ∨ k_ = g))) (IH49_ : Aside0 (∀ m, m < k → ∀ (g : Nat) (s0_0 : List (S69)) (s0_1 : Int) (s0_2 : Int) (s0_3 : Int) (s0_4 : Int) (P1_ : Nat → Prop) (u9000_ : Value) (l1 : List (S48)) (r1 : List (S48)) (r2 : Int) (r3 : Int) (r4 : Int) (r5 : Int) (w0 w : World) (hI : IsS57 w0 w g s0_0 s0_1 s0_2 s0_3 s0_4) (hB : Below w0.heap.size w0 w) (ho1 : Kd.R k48 48 w w0.heap.size P1_ u9000_ l1) (h : rr_term.f m s0_0 s0_1 s0_2 s0_3 s0_4 l1 = some (r1, r2, r3, r4, r5)),
  Calls Try.prog 49 #[.pointer (some ⟨g, 0, none⟩), u9000_] w fun e w' => ∃ v0_ : Value, e = .returned (v0_) ∧ Kd.R k48 48 w' w0.heap.size (fun k_ => (P1_ k_ ∨ w.heap.size ≤ k_)) v0_ r1 ∧ IsS57 w0 w' g s0_0 r2 r3 r4 r5 ∧ Below w0.heap.size w0 w' ∧ Kept w w' (fun k_ => (P1_ k_) ∨ k_ = g))) : ∀ (g : Nat) (s0_0 : List (S69)) (s0_1 : Int) (s0_2 : Int) (s0_3 : Int) (s0_4 : Int) (P1_ : Nat → Prop) (u9000_ : Value) (l1 : List (S48)) (r1 : List (S48)) (r2 : Int) (r3 : Int) (r4 : Int) (r5 : Int) (w0 w : World) (hI : IsS57 w0 w g s0_0 s0_1 s0_2 s0_3 s0_4) (hB : Below w0.heap.size w0 w) (ho1 : Kd.R k48 48 w w0.heap.size P1_ u9000_ l1) (h : rr_unary.f k s0_0 s0_1 s0_2 s0_3 s0_4 l1 = some (r1, r2, r3, r4, r5)),
  Calls Try.prog 50 #[.pointer (some ⟨g, 0, none⟩), u9000_] w fun e w' => ∃ v0_ : Value, e = .returned (v0_) ∧ Kd.R k48 48 w' w0.heap.size (fun k_ => (P1_ k_ ∨ w.heap.size ≤ k_)) v0_ r1 ∧ IsS57 w0 w' g s0_0 r2 r3 r4 r5 ∧ Below w0.heap.size w0 w' ∧ Kept w w' (fun k_ => (P1_ k_) ∨ k_ = g) := by
 intro g s0_0 s0_1 s0_2 s0_3 s0_4 P1_ u9000_ l1 r1 r2 r3 r4 r5 w0 w hI hB ho1 h
 cases k with
 | zero => exact absurd h (by simp [rr_unary.f])
 | succ k =>
 simp only [rr_unary.f] at h
 have hu69 := Try.underlying69
 have hu48 := Try.underlying48
 have HO1 := za (show Kd.R k48 48 w w0.heap.size (fun k_ => (P1_ k_ ∨ w.heap.size ≤ k_)) u9000_ l1 from Kd.R_mono ho1 (fun k_ hk => (.inl hk)))
 have HI0 := za hI
 have HL := za hB.size
 clear hI
 have HK := za (Kept.refl w (fun k_ => (P1_ k_) ∨ k_ = g))
 have HW0 := za hB.size
 have HB := za hB
 clear hB
 have H : (if s0_3 = 0 then (if 0 ≤ s0_1 then (if s0_1 < (s0_0.length : Int) then ((rr_is.f s0_0 s0_1 s0_2 s0_3 s0_4 (⟨#[45]⟩ : ByteArray)).bind fun bt244 => (if bt244.1 = true then (rr_unary.j0 k l1 true s0_0 bt244.2.1 bt244.2.2.1 bt244.2.2.2.1 bt244.2.2.2.2 ((rd_T69 s0_0 s0_1).f0) ((rd_T69 s0_0 s0_1).f1) ((rd_T69 s0_0 s0_1).f2)) else ((rr_is.f s0_0 bt244.2.1 bt244.2.2.1 bt244.2.2.2.1 bt244.2.2.2.2 (⟨#[33]⟩ : ByteArray)).bind fun bt249 => (rr_unary.j0 k l1 bt249.1 s0_0 bt249.2.1 bt249.2.2.1 bt249.2.2.2.1 bt249.2.2.2.2 ((rd_T69 s0_0 s0_1).f0) ((rd_T69 s0_0 s0_1).f1) ((rd_T69 s0_0 s0_1).f2))))) else (none)) else (none)) else (some (l1, s0_1, s0_2, s0_3, s0_4))) = some (r1, r2, r3, r4, r5) := h
 clear h
 by_cases c3 : s0_3 = 0
 ·
  rw [if_pos c3] at H
  have c3b0 := beq_iff_eq.mpr c3
  have c3b1 := bne_eq_false_iff_eq.mpr c3
  clear c3
  by_cases c4 : 0 ≤ s0_1
  ·
   rw [if_pos c4] at H
   have c4b0 := decide_eq_true c4
   clear c4
   by_cases c5 : s0_1 < (s0_0.length : Int)
   ·
    rw [if_pos c5] at H
    have c5b0 := decide_eq_true c5
    clear c5
    have HC6 := za H
    clear H
    obtain ⟨ASz7_0, cSz7_0, HGz7, hgz7, HSz7_0⟩ := HI0.out
    have hcz7_0 := cellS57_0 HGz7
    have hcz7_1 := cellS57_1 HGz7
    have hcz7_2 := cellS57_2 HGz7
    have hcz7_3 := cellS57_3 HGz7
    have hcz7_4 := cellS57_4 HGz7
    have hfz7_1 := blk_frozen HGz7 1
    have hfz7_2 := blk_frozen HGz7 2
    have hfz7_3 := blk_frozen HGz7 3
    have hfz7_4 := blk_frozen HGz7 4
    clear HGz7 hgz7
    go_enter Try.func50, Try.ntmps50
    try go_wp2
    replace HO1 := za (Kd.R_drew HO1.out)
    replace HI0 := za (IsS57.drew HI0.out)
    replace HK := za (Kept.drew HK.out)
    replace HB := za (below_drew1 HB.out)
    obtain ⟨ASz9_0, cSz9_0, HGz9, hgz9, HSz9_0⟩ := HI0.out
    have hx9_0 := cellS57_0 HGz9
    have hx9_1 := cellS57_1 HGz9
    have hx9_2 := cellS57_2 HGz9
    have hx9_3 := cellS57_3 HGz9
    have hx9_4 := cellS57_4 HGz9
    clear HGz9 hgz9
    have p242 : 0 ≤ (s0_1 : Int) := of_decide_eq_true zq11
    have q242 : s0_1 < (s0_0.length : Int) := of_decide_eq_true zq11
    obtain ⟨ad242, e242, hx242_0, hx242_1, hx242_2⟩ := at_T69 HSz9_0 s0_1 p242 q242
    have hw242_2 := hx242_2
    have hw242_1 := hx242_1
    have hw242_0 := hx242_0
    cases e242
    replace hx242_0 := pw_cell_below HB.out hx242_0
    replace hx242_1 := pw_cell_below HB.out hx242_1
    replace hx242_2 := pw_cell_below HB.out hx242_2
    replace p242 := eq_true p242
    replace q242 := eq_true q242
    refine start_ (n := 12) (S := fun w' => w'.cell? ⟨g, 0, none⟩ = some (.slice (some ad242) s0_0.length cSz9_0) ∧ w'.cell? ⟨g, 1, none⟩ = some (.int .i64 s0_1) ∧ w'.cell? ⟨g, 2, none⟩ = some (.int .i64 s0_2) ∧ w'.cell? ⟨g, 3, none⟩ = some (.int .i64 s0_3) ∧ w'.cell? ⟨g, 4, none⟩ = some (.int .i64 s0_4) ∧ w'.cell? (ad242.add ((s0_1).toNat * 3)) = some (.int .i64 ((rd_T69 s0_0 s0_1).f0)) ∧ w'.cell? ⟨(ad242.add ((s0_1).toNat * 3)).block, (ad242.add ((s0_1).toNat * 3)).off + 1, none⟩ = some (.string ((rd_T69 s0_0 s0_1).f1)) ∧ w'.cell? ⟨(ad242.add ((s0_1).toNat * 3)).block, (ad242.add ((s0_1).toNat * 3)).off + 2, none⟩ = some (.int .i64 ((rd_T69 s0_0 s0_1).f2))) (ds := [11]) #[false, false, false, false, false, false, false, false, false, false, false, false] zq18 rfl rfl ⟨hx9_0, hx9_1, hx9_2, hx9_3, hx9_4, hx242_0, hx242_1, hx242_2⟩ (fun hHeld => ?_); refine with_tabW rr_unary.tab3 rr_unary.bits3 (fun HT_ HW_ => ?_)
    generalize w.drew = w8 at HO1 HI0 HK HB hx242_0 hx242_1 hx242_2 hx9_0 hx9_1 hx9_2 hx9_3 hx9_4 hHeld ⊢
    refine pure_ (i := 0) (N := some 15) #[true, false, false, false, false, false, false, false, false, false, false, false] rfl rfl (any_of HT_.out zq18) (fun _ _ _ h => h) (Or.inl ⟨by rfl, zpv⟩) zpw ?_
    refine pure_ (i := 1) (N := some 16) #[true, true, false, false, false, false, false, false, false, false, false, false] rfl rfl (any_of HT_.out zq18) (fun _ _ _ h => h) (Or.inl ⟨by rfl, zpv⟩) zpw ?_
    refine pure_ (i := 2) (N := some 17) #[true, true, true, false, false, false, false, false, false, false, false, false] rfl rfl (any_of HT_.out zq18) (fun _ _ _ h => h) (Or.inl ⟨by rfl, zpv⟩) zpw ?_
    refine pure_ (i := 4) (N := some 19) #[true, true, true, false, true, false, false, false, false, false, false, false] rfl rfl (any_of HT_.out zq18) (fun _ _ _ h => h) (Or.inl ⟨by rfl, zpv⟩) zpw ?_
    refine pure_ (i := 5) (N := some 20) #[true, true, true, false, true, true, false, false, false, false, false, false] rfl rfl (any_of HT_.out zq18) (fun _ _ _ h => h) (Or.inl ⟨by rfl, zpv⟩) zpw ?_
    refine pure_ (i := 6) (N := some 21) #[true, true, true, false, true, true, true, false, false, false, false, false] rfl rfl (any_of HT_.out zq18) (fun _ _ _ h => h) (Or.inl ⟨by rfl, zpv⟩) zpw ?_
    refine take_ (i := 3) (N := some 18) (v := ?_) (a' := ?_) #[true, true, true, true, true, true, true, false, false, false, false, false] rfl rfl (take_ofW HT_.out HW_.out zq18) (fun _ _ _ h => h) (Or.inl ⟨by rfl, ?_⟩) hHeld ?_ ?_
    rotate_left
    ·
     rintro w' ⟨s0, s1, s2, s3, s4, s5, s6, s7⟩
     go_simp
     with_reducible rfl
    rotate_left
    ·
     simp only [Act.put, List.setIfInBounds_toArray, List.set_cons_zero, List.set_cons_succ, i64_w, i32_w]
     rfl
    refine take_ (i := 7) (N := some 22) (v := ?_) (a' := ?_) #[true, true, true, true, true, true, true, true, false, false, false, false] rfl rfl (take_ofW HT_.out HW_.out zq18) (fun _ _ _ h => h) (Or.inl ⟨by rfl, ?_⟩) hHeld ?_ ?_
    rotate_left
    ·
     rintro w' ⟨s0, s1, s2, s3, s4, s5, s6, s7⟩
     go_simp
     with_reducible rfl
    rotate_left
    ·
     simp only [Act.put, List.setIfInBounds_toArray, List.set_cons_zero, List.set_cons_succ, i64_w, i32_w]
     rfl
    refine pure_ (i := 8) (N := some 23) #[true, true, true, true, true, true, true, true, true, false, false, false] rfl rfl (any_of HT_.out zq18) (fun _ _ _ h => h) (Or.inl ⟨by rfl, zpv⟩) zpw ?_
    refine take_ (i := 9) (N := some 24) (v := ?_) (a' := ?_) #[true, true, true, true, true, true, true, true, true, true, false, false] rfl rfl (take_ofW HT_.out HW_.out zq18) (fun _ _ _ h => h) (Or.inl ⟨by rfl, ?_⟩) hHeld ?_ ?_
    rotate_left
    ·
     rintro w' ⟨s0, s1, s2, s3, s4, s5, s6, s7⟩
     go_simp
     with_reducible rfl
    rotate_left
    ·
     simp only [Act.put, List.setIfInBounds_toArray, List.set_cons_zero, List.set_cons_succ, i64_w, i32_w]
     rfl
    refine one_ (i := 10) (N := some 5) #[true, true, true, true, true, true, true, true, true, true, true, false] rfl rfl (one_of HT_.out zq18) (by decide) (fun K hK => ?_)
    refine box_step ?hg (N := 5) ?hd (cs := #[.int .i64 0, .string (⟨#[]⟩ : ByteArray), .int .i64 0]) (t := 69) ?hr ?_; (case hd => rfl); (case hg => rfl); (case hr => exact zq39)
    intro gb243 hg w10 hbox hb
    have HS0_ := (hb.cell (World.block_lt_of_cell? _ _ (hHeld.1))).trans (hHeld.1)
    have HS1_ := (hb.cell (World.block_lt_of_cell? _ _ (hHeld.2.1))).trans (hHeld.2.1)
    have HS2_ := (hb.cell (World.block_lt_of_cell? _ _ (hHeld.2.2.1))).trans (hHeld.2.2.1)
    have HS3_ := (hb.cell (World.block_lt_of_cell? _ _ (hHeld.2.2.2.1))).trans (hHeld.2.2.2.1)
    have HS4_ := (hb.cell (World.block_lt_of_cell? _ _ (hHeld.2.2.2.2.1))).trans (hHeld.2.2.2.2.1)
    have HS5_ := (hb.cell (World.block_lt_of_cell? _ _ (hHeld.2.2.2.2.2.1))).trans (hHeld.2.2.2.2.2.1)
    have HS6_ := (hb.cell (World.block_lt_of_cell? _ _ (hHeld.2.2.2.2.2.2.1))).trans (hHeld.2.2.2.2.2.2.1)
    have HS7_ := (hb.cell (World.block_lt_of_cell? _ _ (hHeld.2.2.2.2.2.2.2))).trans (hHeld.2.2.2.2.2.2.2)
    replace HO1 := za (Kd.R_below (zr HO1.out) hb)
    have BK243 := za (hbox)
    have GW243 := za ((by rw [hg]; exact zq23 : w.heap.size ≤ gb243))
    replace HK := za (Kept.below (S := (fun k_ => (P1_ k_) ∨ k_ = g)) zq6 hb)
    have GE243 := za ((by rw [hg]; exact (below_size zq3) : w0.heap.size ≤ gb243))
    replace HB := za (below_step zq3 hb)
    have NB0_243 := za ((by rw [hg]; exact Nat.ne_of_lt (IsS57.lt (show IsS57 w0 _ g s0_0 s0_1 s0_2 s0_3 s0_4 from zq0)) : g ≠ gb243))
    have NB243_0 := za ((by rw [hg]; exact Nat.ne_of_gt (IsS57.lt (show IsS57 w0 _ g s0_0 s0_1 s0_2 s0_3 s0_4 from zq0)) : gb243 ≠ g))
    replace HI0 := za (IsS57.below zq0 hb)
    clear hb hbox hg
    refine hK.out _ _ ⟨HS0_, HS1_, HS2_, HS3_, HS4_, HS5_, HS6_, HS7_⟩ (fun hHeld => ?_)
    clear hK K
    refine norm_ (a' := ?_) ?_ ?_
    rotate_left
    ·
     show Act.put _ (some 5) _ = _
     simp only [Act.put, List.setIfInBounds_toArray, List.set_cons_zero, List.set_cons_succ, i64_w, i32_w]
     rfl
    refine last_ (i := 11) (N := none) #[true, true, true, true, true, true, true, true, true, true, true, true] rfl rfl (one_of HT_.out zq18) (by decide) (fun K hK => ?_)
    have hs11 : w10.cell? ⟨gb243, 0, none⟩ = some (.int .i64 0) := (blk_cell BK243.out 0).trans rfl
    have hfs11 := blk_frozen BK243.out 0
    have hs12 : w10.cell? ⟨gb243, 1, none⟩ = some (.string (⟨#[]⟩ : ByteArray)) := (blk_cell BK243.out 1).trans rfl
    have hfs12 := blk_frozen BK243.out 1
    have hs13 : w10.cell? ⟨gb243, 2, none⟩ = some (.int .i64 0) := (blk_cell BK243.out 2).trans rfl
    have hfs13 := blk_frozen BK243.out 2
    refine skip_ (w1 := ?_) (by rfl) rfl ?_ ?_
    rotate_left
    ·
     go_simp
     rfl
    refine hK.out _ _ ?_
    clear hK K
    refine done_ (done_of HT_.out zq18) ?_
    go_upto_region 4 with (fail)
    go_cut [25] (fun v25 wc => ∃ (kq : Nat) (x25_5 : Bool) (x1001_5 : Int) (x1002_5 : Int) (x1003_5 : Int) (x1004_5 : Int), v25 = .bool x25_5 ∧ Aside0 (rr_unary.j0 kq l1 x25_5 s0_0 x1001_5 x1002_5 x1003_5 x1004_5 ((rd_T69 s0_0 s0_1).f0) ((rd_T69 s0_0 s0_1).f1) ((rd_T69 s0_0 s0_1).f2) = some (r1, r2, r3, r4, r5)) ∧ Aside0 (kq ≤ k) ∧ Aside0 (Kd.R k48 48 wc w0.heap.size (fun k_ => (P1_ k_ ∨ w.heap.size ≤ k_)) u9000_ l1) ∧ Aside0 (wc.heap[gb243]? = some (.cells #[.int .i64 ((rd_T69 s0_0 s0_1).f0), .string ((rd_T69 s0_0 s0_1).f1), .int .i64 ((rd_T69 s0_0 s0_1).f2)] 69 (0, 0))) ∧ Aside0 (IsS57 w0 wc g s0_0 x1001_5 x1002_5 x1003_5 x1004_5) ∧ Aside0 (Kept w wc (fun k_ => (P1_ k_) ∨ k_ = g)) ∧ Aside0 (Below w0.heap.size w0 wc))
    case first =>
     have H := HC6.out
     clear HC6
     replace H := Option.bind_eq_some_iff.mp H
     obtain ⟨⟨t244, t245, t246, t247, t248⟩, A140, H⟩ := H
     (try dsimp only at H)
     have A14 := za A140
     clear A140
     by_cases c15 : t244 = true
     ·
      subst c15
      rw [if_pos rfl] at H
      have H' := za H
      clear H
      go_wp2_with (first | ((with_reducible refine gate_callee (f := 30) rfl ?_); refine goesL_ (some 27) rfl rfl Try.func30 zq18 rfl #[.pointer (some ⟨g, 0, none⟩), .string (⟨#[45]⟩ : ByteArray)] rfl zq1 ?_; (with_reducible refine (rr_is.calls g s0_0 s0_1 s0_2 s0_3 s0_4 (⟨#[45]⟩ : ByteArray) true t245 t246 t247 t248 w0 _ ?side1 ?side2 A14.out).mono ?_); (case side1 => exact zq9); (case side2 => exact zq15); rintro e w16 ⟨rfl, hi, hb, hk⟩; refine ⟨_, rfl, ?_⟩; replace HO1 := za (Kd.R_mono (Kd.R_keep (IsS57.apart (show IsS57 w0 _ g s0_0 s0_1 s0_2 s0_3 s0_4 from zq9) (by (with_reducible repeat (first | apply Kd.R_alloc | apply Kd.R_drewN | apply Kd.R_drew)); exact (Kd.R_mono (Kd.R_far (p := ⟨gb243, 2, none⟩) (Kd.R_far (p := ⟨gb243, 1, none⟩) (Kd.R_far (p := ⟨gb243, 0, none⟩) (Kd.R_types HO1.out BK243.out (by decide)) (fun _ hk => hk.2) (.int .i64 ((rd_T69 s0_0 s0_1).f0))) (fun _ hk => hk.2) (.string ((rd_T69 s0_0 s0_1).f1))) (fun _ hk => hk.2) (.int .i64 ((rd_T69 s0_0 s0_1).f2))) (fun _ h_ => h_.1))) (by decide)) hk (fun _ h => h.2)) (fun _ h => h.1)); replace BK243 := za (KeepBut.blk hk (g' := gb243) (o := .cells #[.int .i64 ((rd_T69 s0_0 s0_1).f0), .string ((rd_T69 s0_0 s0_1).f1), .int .i64 ((rd_T69 s0_0 s0_1).f2)] 69 (0, 0)) (by (with_reducible repeat (first | refine blk_drewN ?_ _ | refine blk_drew ?_ | refine blk_alloc ?_ _)); refine blk_put (cs := #[.int .i64 ((rd_T69 s0_0 s0_1).f0), .string ((rd_T69 s0_0 s0_1).f1), .int .i64 0]) ?_ 2 _ rfl; (with_reducible repeat (first | refine blk_drewN ?_ _ | refine blk_drew ?_ | refine blk_alloc ?_ _)); refine blk_put (cs := #[.int .i64 ((rd_T69 s0_0 s0_1).f0), .string (⟨#[]⟩ : ByteArray), .int .i64 0]) ?_ 1 _ rfl; (with_reducible repeat (first | refine blk_drewN ?_ _ | refine blk_drew ?_ | refine blk_alloc ?_ _)); refine blk_put (cs := #[.int .i64 0, .string (⟨#[]⟩ : ByteArray), .int .i64 0]) ?_ 0 _ rfl; (with_reducible repeat (first | refine blk_drewN ?_ _ | refine blk_drew ?_ | refine blk_alloc ?_ _)); exact BK243.out) NB243_0.out (by simp)); replace HK := za (Kept.of_keep (S := (fun k_ => (P1_ k_) ∨ k_ = g)) zq13 hk (.inl (.inr rfl))); replace HB := za (hb); replace HI0 := za (hi)))
      go_meet
      case rel => exact ⟨_, (true), (t245), (t246), (t247), (t248), zq29, H', ⟨zq78⟩, ⟨zq95⟩, ⟨zq101⟩, ⟨zq9⟩, ⟨zq13⟩, ⟨zq15⟩⟩
     ·
      replace c15 := Bool.eq_false_iff.mpr c15
      subst c15
      rw [if_neg (show ¬ (false = true) by decide)] at H
      replace H := Option.bind_eq_some_iff.mp H
      obtain ⟨⟨t249, t250, t251, t252, t253⟩, A170, H⟩ := H
      (try dsimp only at H)
      have A17 := za A170
      clear A170
      have H' := za H
      clear H
      go_wp2_with (first | ((with_reducible refine gate_callee (f := 30) rfl ?_); refine goesL_ (some 27) rfl rfl Try.func30 zq18 rfl #[.pointer (some ⟨g, 0, none⟩), .string (⟨#[45]⟩ : ByteArray)] rfl zq1 ?_; (with_reducible refine (rr_is.calls g s0_0 s0_1 s0_2 s0_3 s0_4 (⟨#[45]⟩ : ByteArray) false t245 t246 t247 t248 w0 _ ?side1 ?side2 A14.out).mono ?_); (case side1 => exact zq9); (case side2 => exact zq15); rintro e w18 ⟨rfl, hi, hb, hk⟩; refine ⟨_, rfl, ?_⟩; replace HO1 := za (Kd.R_mono (Kd.R_keep (IsS57.apart (show IsS57 w0 _ g s0_0 s0_1 s0_2 s0_3 s0_4 from zq9) (by (with_reducible repeat (first | apply Kd.R_alloc | apply Kd.R_drewN | apply Kd.R_drew)); exact (Kd.R_mono (Kd.R_far (p := ⟨gb243, 2, none⟩) (Kd.R_far (p := ⟨gb243, 1, none⟩) (Kd.R_far (p := ⟨gb243, 0, none⟩) (Kd.R_types HO1.out BK243.out (by decide)) (fun _ hk => hk.2) (.int .i64 ((rd_T69 s0_0 s0_1).f0))) (fun _ hk => hk.2) (.string ((rd_T69 s0_0 s0_1).f1))) (fun _ hk => hk.2) (.int .i64 ((rd_T69 s0_0 s0_1).f2))) (fun _ h_ => h_.1))) (by decide)) hk (fun _ h => h.2)) (fun _ h => h.1)); replace BK243 := za (KeepBut.blk hk (g' := gb243) (o := .cells #[.int .i64 ((rd_T69 s0_0 s0_1).f0), .string ((rd_T69 s0_0 s0_1).f1), .int .i64 ((rd_T69 s0_0 s0_1).f2)] 69 (0, 0)) (by (with_reducible repeat (first | refine blk_drewN ?_ _ | refine blk_drew ?_ | refine blk_alloc ?_ _)); refine blk_put (cs := #[.int .i64 ((rd_T69 s0_0 s0_1).f0), .string ((rd_T69 s0_0 s0_1).f1), .int .i64 0]) ?_ 2 _ rfl; (with_reducible repeat (first | refine blk_drewN ?_ _ | refine blk_drew ?_ | refine blk_alloc ?_ _)); refine blk_put (cs := #[.int .i64 ((rd_T69 s0_0 s0_1).f0), .string (⟨#[]⟩ : ByteArray), .int .i64 0]) ?_ 1 _ rfl; (with_reducible repeat (first | refine blk_drewN ?_ _ | refine blk_drew ?_ | refine blk_alloc ?_ _)); refine blk_put (cs := #[.int .i64 0, .string (⟨#[]⟩ : ByteArray), .int .i64 0]) ?_ 0 _ rfl; (with_reducible repeat (first | refine blk_drewN ?_ _ | refine blk_drew ?_ | refine blk_alloc ?_ _)); exact BK243.out) NB243_0.out (by simp)); replace HK := za (Kept.of_keep (S := (fun k_ => (P1_ k_) ∨ k_ = g)) zq13 hk (.inl (.inr rfl))); replace HB := za (hb); replace HI0 := za (hi)) | ((with_reducible refine gate_callee (f := 30) rfl ?_); (with_reducible refine gate_dst (N := 30) rfl ?_); (refine gate_guard (by rfl) ?_; dsimp only); refine goesL_ (some 30) rfl rfl Try.func30 zq18 rfl #[.pointer (some ⟨g, 0, none⟩), .string (⟨#[33]⟩ : ByteArray)] rfl zq1 ?_; (with_reducible refine (rr_is.calls g s0_0 t245 t246 t247 t248 (⟨#[33]⟩ : ByteArray) t249 t250 t251 t252 t253 w0 _ ?side1 ?side2 A17.out).mono ?_); (case side1 => exact zq9); (case side2 => exact zq15); rintro e w19 ⟨rfl, hi, hb, hk⟩; refine ⟨_, rfl, ?_⟩; replace HO1 := za (Kd.R_mono (Kd.R_keep (IsS57.apart (show IsS57 w0 _ g s0_0 t245 t246 t247 t248 from zq9) (zr HO1.out) (by decide)) hk (fun _ h => h.2)) (fun _ h => h.1)); replace BK243 := za (KeepBut.blk hk (g' := gb243) (zb BK243.out) NB243_0.out (by simp)); replace HK := za (Kept.of_keep (S := (fun k_ => (P1_ k_) ∨ k_ = g)) zq13 hk (.inl (.inr rfl))); replace HB := za (hb); replace HI0 := za (hi)))
      go_meet
      case rel => exact ⟨_, (t249), (t250), (t251), (t252), (t253), zq29, H', ⟨zq78⟩, ⟨zq95⟩, ⟨zq101⟩, ⟨zq9⟩, ⟨zq13⟩, ⟨zq15⟩⟩
    case rest =>
     clear HC6
     obtain ⟨kq, x25_5, x1001_5, x1002_5, x1003_5, x1004_5, rfl, HA, HJ5, HO_1, BK243, HI0, HK, HB⟩ := hcut
     cases kq with
     | zero => exact absurd HA.out (by simp [rr_unary.j0])
     | succ kj5 =>
      have H := HA.out
      clear HA
      simp only [rr_unary.j0] at H
      by_cases c20 : x25_5 = true
      ·
       subst c20
       rw [if_pos rfl] at H
       by_cases c21 : ((rd_T69 s0_0 s0_1).f1).toList = ([33] : List UInt8)
       ·
        rw [if_pos c21] at H
        have c21b0 := beq_iff_eq.mpr c21
        have c21b1 := bne_eq_false_iff_eq.mpr c21
        clear c21
        replace H := Option.bind_eq_some_iff.mp H
        obtain ⟨⟨t254, t255, t256, t257⟩, A220, H⟩ := H
        (try dsimp only at H)
        have A22 := za A220
        clear A220
        replace H := Option.bind_eq_some_iff.mp H
        obtain ⟨⟨t258, t261, t262, t263, t264⟩, A230, H⟩ := H
        (try dsimp only at H)
        have A23 := za A230
        clear A230
        by_cases c24 : t258.length < 1954687338268
        ·
         rw [if_pos c24] at H
         have LMc24 := za c24
         clear c24
         obtain ⟨y265, hy265⟩ : ∃ y_ : List (S48), y_ = (t258 ++ [(⟨4, 0, (⟨#[]⟩ : ByteArray), (⟨#[]⟩ : ByteArray), wrap64 ((t258.length : Int) - 1), (-1), ((rd_T69 s0_0 s0_1).f2)⟩ : S48)]) := ⟨_, rfl⟩
         replace H : (some (y265, t261, wrap64 (t262 - 1), t263, t264)) = some (r1, r2, r3, r4, r5) := by first | (rw [hy265]; with_reducible exact H) | (have H2_ := (Option.bind_some _ _).symm.trans H; rw [hy265]; with_reducible exact H2_) | (have H2_ := (Option.bind_some _ _).symm.trans H; with_reducible exact H2_) | with_reducible exact H | (rw [hy265]; exact H) | exact H
         have Ny265 := za hy265
         clear hy265
         simp only [Option.some.injEq, Prod.mk.injEq] at H
         obtain ⟨rfl, rfl, rfl, rfl, rfl⟩ := H
         have hnb25 := NB243_0.out
         have hnc25 := NB0_243.out
         obtain ⟨hcz26_0, hcz26_1, hcz26_2⟩ := zc3 BK243.out
         obtain ⟨hfz26_0, hfz26_1, hfz26_2⟩ := zf3 BK243.out
         go_wp2_with (first | ((with_reducible refine gate_callee (f := 38) rfl ?_); refine goesL_ (some 38) rfl rfl Try.func38 zq18 rfl #[.pointer (some ⟨g, 0, none⟩), .string ((rd_T69 s0_0 s0_1).f1)] rfl zq1 ?_; (with_reducible refine (rr_open.calls kj5 g s0_0 x1001_5 x1002_5 x1003_5 x1004_5 ((rd_T69 s0_0 s0_1).f1) t254 t255 t256 t257 w0 _ ?side1 ?side2 A22.out).mono ?_); (case side1 => exact zq9); (case side2 => exact zq15); rintro e w27 ⟨rfl, hi, hb, hk⟩; refine ⟨_, rfl, ?_⟩; replace HO_1 := za (Kd.R_mono (Kd.R_keep (IsS57.apart (show IsS57 w0 _ g s0_0 x1001_5 x1002_5 x1003_5 x1004_5 from zq9) (zr HO_1.out) (by decide)) hk (fun _ h => h.2)) (fun _ h => h.1)); replace BK243 := za (KeepBut.blk hk (g' := gb243) (zb BK243.out) NB243_0.out (by simp)); replace HK := za (Kept.of_keep (S := (fun k_ => (P1_ k_) ∨ k_ = g)) zq13 hk (.inl (.inr rfl))); replace HB := za (hb); replace HI0 := za (hi); (try clear hb hk hi); obtain ⟨Ao28, co28, eo28⟩ := Kd.R_slice HO_1.out; subst eo28) | ((with_reducible refine gate_callee (f := 50) rfl ?_); refine goesL_ (some 41) rfl rfl Try.func50 zq18 rfl #[.pointer (some ⟨g, 0, none⟩), .slice Ao28 l1.length co28] rfl zq1 ?_; (with_reducible refine (IH50_.out kj5 (by have := HJ5.out; omega) g s0_0 t254 t255 t256 t257 (fun k_ => some k_ = (.slice Ao28 l1.length co28 : Value).ownBlock) (.slice Ao28 l1.length co28) l1 t258 t261 t262 t263 t264 w0 _ ?side1 ?side2 ?side3 A23.out).mono ?_); (case side1 => exact zq9); (case side2 => exact zq15); (case side3 => exact zq100); rintro e w29 ⟨v259, rfl, ho0, hi, hb, hkp⟩; refine ⟨_, rfl, ?_⟩; replace BK243 := za (blk_kept (zb BK243.out) hkp (fun hs_ => Or.elim hs_ (fun hs_ => (fun e_ => (Kd.R_ne HO_1.out BK243.out (by decide)) e_) hs_) (fun e_ => NB243_0.out e_))); replace HI0 := za (hi); have HO260 := za (Kd.R_mono (ok' := fun k_ => (P1_ k_ ∨ w.heap.size ≤ k_)) ho0 (fun k_ hk_ => Or.elim hk_ (fun hs_ => (HO_1.out.1 k_ (hs_).symm)) (fun hn_ => (.inr (Nat.le_trans zq40 hn_))))); replace HK := za (Kept.then_ (S := (fun k_ => (P1_ k_) ∨ k_ = g)) zq13 hkp (fun k_ hs_ => Or.elim hs_ (fun hs_ => (fun e_ => Or.imp_left Or.inl ((HO_1.out.1 k_ e_.symm))) hs_) (fun e_ => .inl (.inr e_)))); replace HB := za (hb); clear HO_1; (try clear hb hkp ho0); obtain ⟨ASz30_0, cSz30_0, HGz30, hgz30, HSz30_0⟩ := HI0.out; have hcz30_0 := cellS57_0 HGz30; have hcz30_1 := cellS57_1 HGz30; have hcz30_2 := cellS57_2 HGz30; have hcz30_3 := cellS57_3 HGz30; have hcz30_4 := cellS57_4 HGz30; have hfz30_1 := blk_frozen HGz30 1; have hfz30_2 := blk_frozen HGz30 2; have hfz30_3 := blk_frozen HGz30 3; have hfz30_4 := blk_frozen HGz30 4; clear HGz30 hgz30; obtain ⟨Ao31, co31, eo31⟩ := Kd.R_slice HO260.out; subst eo31; obtain ⟨hcz32_0, hcz32_1, hcz32_2⟩ := zc3 BK243.out; obtain ⟨hfz32_0, hfz32_1⟩ := zf2 BK243.out; have hfz32_2 := blk_frozen BK243.out 2) | ((with_reducible refine gate_builtin (b := .append) (xs := #[.tmp 49, .tmp 57]) rfl ?_); at_builtin; refine Kd.R_append k48 (w0 := w0) w0.heap.size rfl (.tmp 49) (.tmp 57) 23 48 (.agg #[(.int .i64 0), (.int .i64 0), (.string ⟨#[]⟩), (.string ⟨#[]⟩), (.int .i64 0), (.int .i64 0), (.int .i64 0)]) 72 rfl Try.underlying23 info48 rfl (by decide) (by omega) (.slice Ao31 t258.length co31) t258 (⟨4, 0, (⟨#[]⟩ : ByteArray), (⟨#[]⟩ : ByteArray), wrap64 ((t258.length : Int) - 1), (-1), ((rd_T69 s0_0 s0_1).f2)⟩ : S48) [.int .i64 4, .int .i64 0, .string (⟨#[]⟩ : ByteArray), .string (⟨#[]⟩ : ByteArray), .int .i64 (wrap64 ((t258.length : Int) - 1)), .int .i64 (-1), .int .i64 ((rd_T69 s0_0 s0_1).f2)] (fun k_ => (P1_ k_ ∨ w.heap.size ≤ k_)) (fun _ => False) rfl zq39 ?aP (fun _ hk => hk.elim) ?aF ?aO ?aB ?aS ?aL ?_; (case aP => exact k48_mkM _ _ _ (⟨4, 0, (⟨#[]⟩ : ByteArray), (⟨#[]⟩ : ByteArray), wrap64 ((t258.length : Int) - 1), (-1), ((rd_T69 s0_0 s0_1).f2)⟩ : S48)); (case aB => exact zq15); (case aF => exact (fun k_ hk => (.inr (Nat.le_trans (show Kept w _ (fun k_ => (P1_ k_) ∨ k_ = g) from zq13).1 hk)))); (case aO => exact (by (with_reducible repeat (first | apply Kd.R_alloc | apply Kd.R_drewN | apply Kd.R_drew)); exact Kd.R_mono (Kd.R_far (p := ⟨g, 2, none⟩) (IsS57.apart HI0.out HO260.out (by decide)) (fun _ hk => hk.2) (.int .i64 (wrap64 (t262 - 1)))) (fun _ hk => hk.1))); (case aS => exact (below_size zq15)); (case aL => have := LMc24.out; omega); intro v266 w33 ho hb hg hat; rw [← Ny265.out] at ho; replace BK243 := za (blk_grown (g := gb243) (o := .cells #[.int .i64 ((rd_T69 s0_0 s0_1).f0), .string ((rd_T69 s0_0 s0_1).f1), .int .i64 ((rd_T69 s0_0 s0_1).f2)] 69 (0, 0)) zq66 hg (Kd.R_ne HO260.out BK243.out (by decide))); replace HI0 := za (IsS57.grown zq9 hg (IsS57.own_ne HI0.out HO260.out (by decide))); replace HB := za (hb); replace HK := za (Kept.of_grown (S := (fun k_ => (P1_ k_) ∨ k_ = g)) hg zq13 (fun k_ e_ => Or.imp_left Or.inl ((HO260.out.1 k_ e_)))); have HO267 := za (ho); clear HO260; clear ho hb hg hat))
         go_ret
         exact ⟨_, zq16, by (with_reducible repeat (first | apply Kd.R_alloc | apply Kd.R_drewN | apply Kd.R_drew)); exact HO267.out, zq9, zq15, zq13⟩
        ·
         rw [if_neg c24] at H
         exact absurd H (by simp)
       ·
        rw [if_neg c21] at H
        have c21b0 := beq_eq_false_iff_ne.mpr c21
        have c21b1 := bne_iff_ne.mpr c21
        replace H := Option.bind_eq_some_iff.mp H
        obtain ⟨⟨t268, t269, t270, t271⟩, A340, H⟩ := H
        (try dsimp only at H)
        have A34 := za A340
        clear A340
        replace H := Option.bind_eq_some_iff.mp H
        obtain ⟨⟨t272, t275, t276, t277, t278⟩, A350, H⟩ := H
        (try dsimp only at H)
        have A35 := za A350
        clear A350
        by_cases c36 : t272.length < 1954687338268
        ·
         rw [if_pos c36] at H
         have LMc36 := za c36
         clear c36
         obtain ⟨y279, hy279⟩ : ∃ y_ : List (S48), y_ = (t272 ++ [(⟨3, 0, (⟨#[]⟩ : ByteArray), (⟨#[]⟩ : ByteArray), wrap64 ((t272.length : Int) - 1), (-1), ((rd_T69 s0_0 s0_1).f2)⟩ : S48)]) := ⟨_, rfl⟩
         replace H : (some (y279, t275, wrap64 (t276 - 1), t277, t278)) = some (r1, r2, r3, r4, r5) := by first | (rw [hy279]; with_reducible exact H) | (have H2_ := (Option.bind_some _ _).symm.trans H; rw [hy279]; with_reducible exact H2_) | (have H2_ := (Option.bind_some _ _).symm.trans H; with_reducible exact H2_) | with_reducible exact H | (rw [hy279]; exact H) | exact H
         have Ny279 := za hy279
         clear hy279
         simp only [Option.some.injEq, Prod.mk.injEq] at H
         obtain ⟨rfl, rfl, rfl, rfl, rfl⟩ := H
         have hnb37 := NB243_0.out
         have hnc37 := NB0_243.out
         obtain ⟨hcz38_0, hcz38_1, hcz38_2⟩ := zc3 BK243.out
         obtain ⟨hfz38_0, hfz38_1, hfz38_2⟩ := zf3 BK243.out
         go_wp2_with (first | ((with_reducible refine gate_callee (f := 38) rfl ?_); refine goesL_ (some 38) rfl rfl Try.func38 zq18 rfl #[.pointer (some ⟨g, 0, none⟩), .string ((rd_T69 s0_0 s0_1).f1)] rfl zq1 ?_; (with_reducible refine (rr_open.calls kj5 g s0_0 x1001_5 x1002_5 x1003_5 x1004_5 ((rd_T69 s0_0 s0_1).f1) t268 t269 t270 t271 w0 _ ?side1 ?side2 A34.out).mono ?_); (case side1 => exact zq9); (case side2 => exact zq15); rintro e w39 ⟨rfl, hi, hb, hk⟩; refine ⟨_, rfl, ?_⟩; replace HO_1 := za (Kd.R_mono (Kd.R_keep (IsS57.apart (show IsS57 w0 _ g s0_0 x1001_5 x1002_5 x1003_5 x1004_5 from zq9) (zr HO_1.out) (by decide)) hk (fun _ h => h.2)) (fun _ h => h.1)); replace BK243 := za (KeepBut.blk hk (g' := gb243) (zb BK243.out) NB243_0.out (by simp)); replace HK := za (Kept.of_keep (S := (fun k_ => (P1_ k_) ∨ k_ = g)) zq13 hk (.inl (.inr rfl))); replace HB := za (hb); replace HI0 := za (hi); (try clear hb hk hi); obtain ⟨Ao40, co40, eo40⟩ := Kd.R_slice HO_1.out; subst eo40) | ((with_reducible refine gate_callee (f := 50) rfl ?_); refine goesL_ (some 41) rfl rfl Try.func50 zq18 rfl #[.pointer (some ⟨g, 0, none⟩), .slice Ao40 l1.length co40] rfl zq1 ?_; (with_reducible refine (IH50_.out kj5 (by have := HJ5.out; omega) g s0_0 t268 t269 t270 t271 (fun k_ => some k_ = (.slice Ao40 l1.length co40 : Value).ownBlock) (.slice Ao40 l1.length co40) l1 t272 t275 t276 t277 t278 w0 _ ?side1 ?side2 ?side3 A35.out).mono ?_); (case side1 => exact zq9); (case side2 => exact zq15); (case side3 => exact zq100); rintro e w41 ⟨v273, rfl, ho0, hi, hb, hkp⟩; refine ⟨_, rfl, ?_⟩; replace BK243 := za (blk_kept (zb BK243.out) hkp (fun hs_ => Or.elim hs_ (fun hs_ => (fun e_ => (Kd.R_ne HO_1.out BK243.out (by decide)) e_) hs_) (fun e_ => NB243_0.out e_))); replace HI0 := za (hi); have HO274 := za (Kd.R_mono (ok' := fun k_ => (P1_ k_ ∨ w.heap.size ≤ k_)) ho0 (fun k_ hk_ => Or.elim hk_ (fun hs_ => (HO_1.out.1 k_ (hs_).symm)) (fun hn_ => (.inr (Nat.le_trans zq40 hn_))))); replace HK := za (Kept.then_ (S := (fun k_ => (P1_ k_) ∨ k_ = g)) zq13 hkp (fun k_ hs_ => Or.elim hs_ (fun hs_ => (fun e_ => Or.imp_left Or.inl ((HO_1.out.1 k_ e_.symm))) hs_) (fun e_ => .inl (.inr e_)))); replace HB := za (hb); clear HO_1; (try clear hb hkp ho0); obtain ⟨ASz42_0, cSz42_0, HGz42, hgz42, HSz42_0⟩ := HI0.out; have hcz42_0 := cellS57_0 HGz42; have hcz42_1 := cellS57_1 HGz42; have hcz42_2 := cellS57_2 HGz42; have hcz42_3 := cellS57_3 HGz42; have hcz42_4 := cellS57_4 HGz42; have hfz42_1 := blk_frozen HGz42 1; have hfz42_2 := blk_frozen HGz42 2; have hfz42_3 := blk_frozen HGz42 3; have hfz42_4 := blk_frozen HGz42 4; clear HGz42 hgz42; obtain ⟨Ao43, co43, eo43⟩ := Kd.R_slice HO274.out; subst eo43; obtain ⟨hcz44_0, hcz44_1, hcz44_2⟩ := zc3 BK243.out; obtain ⟨hfz44_0, hfz44_1⟩ := zf2 BK243.out; have hfz44_2 := blk_frozen BK243.out 2) | ((with_reducible refine gate_builtin (b := .append) (xs := #[.tmp 49, .tmp 57]) rfl ?_); at_builtin; refine Kd.R_append k48 (w0 := w0) w0.heap.size rfl (.tmp 49) (.tmp 57) 23 48 (.agg #[(.int .i64 0), (.int .i64 0), (.string ⟨#[]⟩), (.string ⟨#[]⟩), (.int .i64 0), (.int .i64 0), (.int .i64 0)]) 72 rfl Try.underlying23 info48 rfl (by decide) (by omega) (.slice Ao43 t272.length co43) t272 (⟨3, 0, (⟨#[]⟩ : ByteArray), (⟨#[]⟩ : ByteArray), wrap64 ((t272.length : Int) - 1), (-1), ((rd_T69 s0_0 s0_1).f2)⟩ : S48) [.int .i64 3, .int .i64 0, .string (⟨#[]⟩ : ByteArray), .string (⟨#[]⟩ : ByteArray), .int .i64 (wrap64 ((t272.length : Int) - 1)), .int .i64 (-1), .int .i64 ((rd_T69 s0_0 s0_1).f2)] (fun k_ => (P1_ k_ ∨ w.heap.size ≤ k_)) (fun _ => False) rfl zq39 ?aP (fun _ hk => hk.elim) ?aF ?aO ?aB ?aS ?aL ?_; (case aP => exact k48_mkM _ _ _ (⟨3, 0, (⟨#[]⟩ : ByteArray), (⟨#[]⟩ : ByteArray), wrap64 ((t272.length : Int) - 1), (-1), ((rd_T69 s0_0 s0_1).f2)⟩ : S48)); (case aB => exact zq15); (case aF => exact (fun k_ hk => (.inr (Nat.le_trans (show Kept w _ (fun k_ => (P1_ k_) ∨ k_ = g) from zq13).1 hk)))); (case aO => exact (by (with_reducible repeat (first | apply Kd.R_alloc | apply Kd.R_drewN | apply Kd.R_drew)); exact Kd.R_mono (Kd.R_far (p := ⟨g, 2, none⟩) (IsS57.apart HI0.out HO274.out (by decide)) (fun _ hk => hk.2) (.int .i64 (wrap64 (t276 - 1)))) (fun _ hk => hk.1))); (case aS => exact (below_size zq15)); (case aL => have := LMc36.out; omega); intro v280 w45 ho hb hg hat; rw [← Ny279.out] at ho; replace BK243 := za (blk_grown (g := gb243) (o := .cells #[.int .i64 ((rd_T69 s0_0 s0_1).f0), .string ((rd_T69 s0_0 s0_1).f1), .int .i64 ((rd_T69 s0_0 s0_1).f2)] 69 (0, 0)) zq66 hg (Kd.R_ne HO274.out BK243.out (by decide))); replace HI0 := za (IsS57.grown zq9 hg (IsS57.own_ne HI0.out HO274.out (by decide))); replace HB := za (hb); replace HK := za (Kept.of_grown (S := (fun k_ => (P1_ k_) ∨ k_ = g)) hg zq13 (fun k_ e_ => Or.imp_left Or.inl ((HO274.out.1 k_ e_)))); have HO281 := za (ho); clear HO274; clear ho hb hg hat))
         go_ret
         exact ⟨_, zq16, by (with_reducible repeat (first | apply Kd.R_alloc | apply Kd.R_drewN | apply Kd.R_drew)); exact HO281.out, zq9, zq15, zq13⟩
        ·
         rw [if_neg c36] at H
         exact absurd H (by simp)
      ·
       replace c20 := Bool.eq_false_iff.mpr c20
       subst c20
       rw [if_neg (show ¬ (false = true) by decide)] at H
       replace H := Option.bind_eq_some_iff.mp H
       obtain ⟨⟨t282, t283, t284, t285, t286⟩, A460, H⟩ := H
       (try dsimp only at H)
       have A46 := za A460
       clear A460
       by_cases c47 : t282 = true
       ·
        subst c47
        rw [if_pos rfl] at H
        replace H := Option.bind_eq_some_iff.mp H
        obtain ⟨⟨t287, t288, t289, t290⟩, A480, H⟩ := H
        (try dsimp only at H)
        have A48 := za A480
        clear A480
        replace H := Option.bind_eq_some_iff.mp H
        obtain ⟨⟨t291, t294, t295, t296, t297⟩, A490, H⟩ := H
        (try dsimp only at H)
        have A49 := za A490
        clear A490
        replace H := Option.bind_eq_some_iff.mp H
        obtain ⟨⟨t298, t299, t300, t301⟩, A500, H⟩ := H
        (try dsimp only at H)
        have A50 := za A500
        clear A500
        simp only [Option.some.injEq, Prod.mk.injEq] at H
        obtain ⟨rfl, rfl, rfl, rfl, rfl⟩ := H
        go_wp2_with (first | ((with_reducible refine gate_callee (f := 30) rfl ?_); refine goesL_ (some 61) rfl rfl Try.func30 zq18 rfl #[.pointer (some ⟨g, 0, none⟩), .string (⟨#[40]⟩ : ByteArray)] rfl zq1 ?_; (with_reducible refine (rr_is.calls g s0_0 x1001_5 x1002_5 x1003_5 x1004_5 (⟨#[40]⟩ : ByteArray) true t283 t284 t285 t286 w0 _ ?side1 ?side2 A46.out).mono ?_); (case side1 => exact zq9); (case side2 => exact zq15); rintro e w51 ⟨rfl, hi, hb, hk⟩; refine ⟨_, rfl, ?_⟩; replace HO_1 := za (Kd.R_mono (Kd.R_keep (IsS57.apart (show IsS57 w0 _ g s0_0 x1001_5 x1002_5 x1003_5 x1004_5 from zq9) (zr HO_1.out) (by decide)) hk (fun _ h => h.2)) (fun _ h => h.1)); replace BK243 := za (KeepBut.blk hk (g' := gb243) (zb BK243.out) NB243_0.out (by simp)); replace HK := za (Kept.of_keep (S := (fun k_ => (P1_ k_) ∨ k_ = g)) zq13 hk (.inl (.inr rfl))); replace HB := za (hb); replace HI0 := za (hi)) | ((with_reducible refine gate_callee (f := 38) rfl ?_); refine goesL_ (some 63) rfl rfl Try.func38 zq18 rfl #[.pointer (some ⟨g, 0, none⟩), .string (⟨#[40]⟩ : ByteArray)] rfl zq1 ?_; (with_reducible refine (rr_open.calls kj5 g s0_0 t283 t284 t285 t286 (⟨#[40]⟩ : ByteArray) t287 t288 t289 t290 w0 _ ?side1 ?side2 A48.out).mono ?_); (case side1 => exact zq9); (case side2 => exact zq15); rintro e w52 ⟨rfl, hi, hb, hk⟩; refine ⟨_, rfl, ?_⟩; replace HO_1 := za (Kd.R_mono (Kd.R_keep (IsS57.apart (show IsS57 w0 _ g s0_0 t283 t284 t285 t286 from zq9) (zr HO_1.out) (by decide)) hk (fun _ h => h.2)) (fun _ h => h.1)); replace BK243 := za (KeepBut.blk hk (g' := gb243) (zb BK243.out) NB243_0.out (by simp)); replace HK := za (Kept.of_keep (S := (fun k_ => (P1_ k_) ∨ k_ = g)) zq13 hk (.inl (.inr rfl))); replace HB := za (hb); replace HI0 := za (hi); (try clear hb hk hi); obtain ⟨Ao53, co53, eo53⟩ := Kd.R_slice HO_1.out; subst eo53) | ((with_reducible refine gate_callee (f := 43) rfl ?_); refine goesL_ (some 66) rfl rfl Try.func43 zq18 rfl #[.pointer (some ⟨g, 0, none⟩), .slice Ao53 l1.length co53] rfl zq1 ?_; (with_reducible refine (IH43_.out kj5 (by have := HJ5.out; omega) g s0_0 t287 t288 t289 t290 (fun k_ => some k_ = (.slice Ao53 l1.length co53 : Value).ownBlock) (.slice Ao53 l1.length co53) l1 t291 t294 t295 t296 t297 w0 _ ?side1 ?side2 ?side3 A49.out).mono ?_); (case side1 => exact zq9); (case side2 => exact zq15); (case side3 => exact zq100); rintro e w54 ⟨v292, rfl, ho0, hi, hb, hkp⟩; refine ⟨_, rfl, ?_⟩; replace BK243 := za (blk_kept (zb BK243.out) hkp (fun hs_ => Or.elim hs_ (fun hs_ => (fun e_ => (Kd.R_ne HO_1.out BK243.out (by decide)) e_) hs_) (fun e_ => NB243_0.out e_))); replace HI0 := za (hi); have HO293 := za (Kd.R_mono (ok' := fun k_ => (P1_ k_ ∨ w.heap.size ≤ k_)) ho0 (fun k_ hk_ => Or.elim hk_ (fun hs_ => (HO_1.out.1 k_ (hs_).symm)) (fun hn_ => (.inr (Nat.le_trans zq40 hn_))))); replace HK := za (Kept.then_ (S := (fun k_ => (P1_ k_) ∨ k_ = g)) zq13 hkp (fun k_ hs_ => Or.elim hs_ (fun hs_ => (fun e_ => Or.imp_left Or.inl ((HO_1.out.1 k_ e_.symm))) hs_) (fun e_ => .inl (.inr e_)))); replace HB := za (hb); clear HO_1) | ((with_reducible refine gate_callee (f := 21) rfl ?_); refine goesL_ (some 68) rfl rfl Try.func21 zq18 rfl #[.pointer (some ⟨g, 0, none⟩), .string (⟨#[41]⟩ : ByteArray)] rfl zq1 ?_; (with_reducible refine (rr_want.calls g s0_0 t294 t295 t296 t297 (⟨#[41]⟩ : ByteArray) t298 t299 t300 t301 w0 _ ?side1 ?side2 A50.out).mono ?_); (case side1 => exact zq9); (case side2 => exact zq15); rintro e w55 ⟨rfl, hi, hb, hk⟩; refine ⟨_, rfl, ?_⟩; replace BK243 := za (KeepBut.blk hk (g' := gb243) (zb BK243.out) NB243_0.out (by simp)); replace HO293 := za (Kd.R_mono (Kd.R_keep (IsS57.apart (show IsS57 w0 _ g s0_0 t294 t295 t296 t297 from zq9) (zr HO293.out) (by decide)) hk (fun _ h => h.2)) (fun _ h => h.1)); replace HK := za (Kept.of_keep (S := (fun k_ => (P1_ k_) ∨ k_ = g)) zq13 hk (.inl (.inr rfl))); replace HB := za (hb); replace HI0 := za (hi); (try clear hb hk hi); obtain ⟨ASz56_0, cSz56_0, HGz56, hgz56, HSz56_0⟩ := HI0.out; have hcz56_0 := cellS57_0 HGz56; have hcz56_1 := cellS57_1 HGz56; have hcz56_2 := cellS57_2 HGz56; have hcz56_3 := cellS57_3 HGz56; have hcz56_4 := cellS57_4 HGz56; have hfz56_1 := blk_frozen HGz56 1; have hfz56_2 := blk_frozen HGz56 2; have hfz56_3 := blk_frozen HGz56 3; have hfz56_4 := blk_frozen HGz56 4; clear HGz56 hgz56))
        go_ret
        exact ⟨_, zq16, by (with_reducible repeat (first | apply Kd.R_alloc | apply Kd.R_drewN | apply Kd.R_drew)); exact Kd.R_mono (Kd.R_far (p := ⟨g, 2, none⟩) (IsS57.apart HI0.out HO293.out (by decide)) (fun _ hk => hk.2) (.int .i64 (wrap64 (t299 - 1)))) (fun _ hk => hk.1), zq9, zq15, zq13⟩
       ·
        replace c47 := Bool.eq_false_iff.mpr c47
        subst c47
        rw [if_neg (show ¬ (false = true) by decide)] at H
        by_cases c57 : ((rd_T69 s0_0 s0_1).f0) = 2
        ·
         rw [if_pos c57] at H
         have c57b0 := beq_iff_eq.mpr c57
         have c57b1 := bne_eq_false_iff_eq.mpr c57
         clear c57
         replace H := Option.bind_eq_some_iff.mp H
         obtain ⟨t302, A580, H⟩ := H
         (try dsimp only at H)
         have A58 := za A580
         clear A580
         by_cases c59 : l1.length < 1954687338268
         ·
          rw [if_pos c59] at H
          have LMc59 := za c59
          clear c59
          obtain ⟨y303, hy303⟩ : ∃ y_ : List (S48), y_ = (l1 ++ [(⟨1, t302, (⟨#[]⟩ : ByteArray), (⟨#[]⟩ : ByteArray), (-1), (-1), ((rd_T69 s0_0 s0_1).f2)⟩ : S48)]) := ⟨_, rfl⟩
          replace H : (some (y303, wrap64 (t283 + 1), t284, t285, t286)) = some (r1, r2, r3, r4, r5) := by first | (rw [hy303]; with_reducible exact H) | (have H2_ := (Option.bind_some _ _).symm.trans H; rw [hy303]; with_reducible exact H2_) | (have H2_ := (Option.bind_some _ _).symm.trans H; with_reducible exact H2_) | with_reducible exact H | (rw [hy303]; exact H) | exact H
          have Ny303 := za hy303
          clear hy303
          simp only [Option.some.injEq, Prod.mk.injEq] at H
          obtain ⟨rfl, rfl, rfl, rfl, rfl⟩ := H
          try go_wp2_with (first | ((with_reducible refine gate_callee (f := 30) rfl ?_); refine goesL_ (some 61) rfl rfl Try.func30 zq18 rfl #[.pointer (some ⟨g, 0, none⟩), .string (⟨#[40]⟩ : ByteArray)] rfl zq1 ?_; (with_reducible refine (rr_is.calls g s0_0 x1001_5 x1002_5 x1003_5 x1004_5 (⟨#[40]⟩ : ByteArray) false t283 t284 t285 t286 w0 _ ?side1 ?side2 A46.out).mono ?_); (case side1 => exact zq9); (case side2 => exact zq15); rintro e w60 ⟨rfl, hi, hb, hk⟩; refine ⟨_, rfl, ?_⟩; replace HO_1 := za (Kd.R_mono (Kd.R_keep (IsS57.apart (show IsS57 w0 _ g s0_0 x1001_5 x1002_5 x1003_5 x1004_5 from zq9) (zr HO_1.out) (by decide)) hk (fun _ h => h.2)) (fun _ h => h.1)); replace BK243 := za (KeepBut.blk hk (g' := gb243) (zb BK243.out) NB243_0.out (by simp)); replace HK := za (Kept.of_keep (S := (fun k_ => (P1_ k_) ∨ k_ = g)) zq13 hk (.inl (.inr rfl))); replace HB := za (hb); replace HI0 := za (hi); (try clear hb hk hi); have hnb61 := NB243_0.out; have hnc61 := NB0_243.out; obtain ⟨hcz62_0, hcz62_1, hcz62_2⟩ := zc3 BK243.out; obtain ⟨hfz62_0, hfz62_1, hfz62_2⟩ := zf3 BK243.out; obtain ⟨ASz63_0, cSz63_0, HGz63, hgz63, HSz63_0⟩ := HI0.out; have hcz63_0 := cellS57_0 HGz63; have hcz63_1 := cellS57_1 HGz63; have hcz63_2 := cellS57_2 HGz63; have hcz63_3 := cellS57_3 HGz63; have hcz63_4 := cellS57_4 HGz63; have hfz63_1 := blk_frozen HGz63 1; have hfz63_2 := blk_frozen HGz63 2; have hfz63_3 := blk_frozen HGz63 3; have hfz63_4 := blk_frozen HGz63 4; clear HGz63 hgz63))
          have n0_ : Aside0 (Kd.R k48 48 (w60.setCell ⟨g, 1, none⟩ (.int .i64 (wrap64 (t283 + 1)))) w0.heap.size (fun k_ => (P1_ k_ ∨ w.heap.size ≤ k_)) u9000_ l1) := ⟨by (with_reducible repeat (first | apply Kd.R_alloc | apply Kd.R_drewN | apply Kd.R_drew)); exact Kd.R_mono (Kd.R_far (p := ⟨g, 1, none⟩) (IsS57.apart HI0.out HO_1.out (by decide)) (fun _ hk => hk.2) (.int .i64 (wrap64 (t283 + 1)))) (fun _ hk => hk.1)⟩
          have n1_ : Aside0 ((w60.setCell ⟨g, 1, none⟩ (.int .i64 (wrap64 (t283 + 1)))).heap[gb243]? = some (.cells #[.int .i64 ((rd_T69 s0_0 s0_1).f0), .string ((rd_T69 s0_0 s0_1).f1), .int .i64 ((rd_T69 s0_0 s0_1).f2)] 69 (0, 0))) := ⟨zq66⟩
          have n2_ : Aside0 (IsS57 w0 (w60.setCell ⟨g, 1, none⟩ (.int .i64 (wrap64 (t283 + 1)))) g s0_0 (wrap64 (t283 + 1)) t284 t285 t286) := ⟨zq9⟩
          have n3_ : Aside0 (Kept w (w60.setCell ⟨g, 1, none⟩ (.int .i64 (wrap64 (t283 + 1)))) (fun k_ => (P1_ k_) ∨ k_ = g)) := ⟨zq13⟩
          have n4_ : Aside0 (Below w0.heap.size w0 (w60.setCell ⟨g, 1, none⟩ (.int .i64 (wrap64 (t283 + 1))))) := ⟨zq15⟩
          generalize (w60.setCell ⟨g, 1, none⟩ (.int .i64 (wrap64 (t283 + 1)))) = w64 at n0_ n1_ n2_ n3_ n4_ ⊢
          have HO_1 := n0_
          have BK243 := n1_
          have HI0 := n2_
          have HK := n3_
          have HB := n4_
          clear n0_ n1_ n2_ n3_ n4_
          replace HO_1 := za (Kd.R_drew HO_1.out)
          replace BK243 := za (blk_drew BK243.out)
          replace HI0 := za (IsS57.drew HI0.out)
          replace HK := za (Kept.drew HK.out)
          replace HB := za (below_drew1 HB.out)
          refine start_ (n := 10) (S := fun w' => w'.cell? ⟨gb243, 0, none⟩ = some (.int .i64 ((rd_T69 s0_0 s0_1).f0)) ∧ w'.cell? ⟨gb243, 1, none⟩ = some (.string ((rd_T69 s0_0 s0_1).f1)) ∧ w'.cell? ⟨gb243, 2, none⟩ = some (.int .i64 ((rd_T69 s0_0 s0_1).f2))) (ds := []) #[false, false, false, false, false, false, false, false, false, false] zq18 rfl rfl ⟨(blk_cell BK243.out 0).trans rfl, (blk_cell BK243.out 1).trans rfl, (blk_cell BK243.out 2).trans rfl⟩ (fun hHeld => ?_); refine with_tabW rr_unary.tab20 rr_unary.bits20 (fun HT_ HW_ => ?_)
          generalize w64.drew = w65 at HO_1 BK243 HI0 HK HB hHeld ⊢
          refine pure_ (i := 0) (N := some 88) #[true, false, false, false, false, false, false, false, false, false] rfl rfl (any_of HT_.out zq18) (fun _ _ _ h => h) (Or.inl ⟨by rfl, zpv⟩) zpw ?_
          refine pure_ (i := 1) (N := some 89) #[true, true, false, false, false, false, false, false, false, false] rfl rfl (any_of HT_.out zq18) (fun _ _ _ h => h) (Or.inl ⟨by rfl, zpv⟩) zpw ?_
          refine pure_ (i := 4) (N := some 92) #[true, true, false, false, true, false, false, false, false, false] rfl rfl (any_of HT_.out zq18) (fun _ _ _ h => h) (Or.inl ⟨by rfl, zpv⟩) zpw ?_
          refine take_ (i := 2) (N := some 90) (v := ?_) (a' := ?_) #[true, true, true, false, true, false, false, false, false, false] rfl rfl (take_ofW HT_.out HW_.out zq18) (fun _ _ _ h => h) (Or.inl ⟨by rfl, ?_⟩) hHeld ?_ ?_
          rotate_left
          ·
           rintro w' ⟨s0, s1, s2⟩
           go_simp
           with_reducible rfl
          rotate_left
          ·
           simp only [Act.put, List.setIfInBounds_toArray, List.set_cons_zero, List.set_cons_succ, i64_w, i32_w]
           rfl
          refine take_ (i := 5) (N := some 93) (v := ?_) (a' := ?_) #[true, true, true, false, true, true, false, false, false, false] rfl rfl (take_ofW HT_.out HW_.out zq18) (fun _ _ _ h => h) (Or.inl ⟨by rfl, ?_⟩) hHeld ?_ ?_
          rotate_left
          ·
           rintro w' ⟨s0, s1, s2⟩
           go_simp
           with_reducible rfl
          rotate_left
          ·
           simp only [Act.put, List.setIfInBounds_toArray, List.set_cons_zero, List.set_cons_succ, i64_w, i32_w]
           rfl
          refine one_ (i := 3) (N := some 91) #[true, true, true, true, true, true, false, false, false, false] rfl rfl (one_of HT_.out zq18) (by decide) (fun K hK => ?_)
          refine goes_ Try.func31 zq18 rfl #[.string ((rd_T69 s0_0 s0_1).f1)] (by rfl) rfl rfl zq1 ?_
          with_reducible refine (ra_num.calls kj5 ((rd_T69 s0_0 s0_1).f1) t302 _ A58.out).mono ?_
          rintro e w' ⟨rfl, ⟨nd, rfl⟩⟩
          refine ⟨_, rfl, ?_⟩
          refine hK.out _ _ ⟨(blk_cell BK243.out 0).trans rfl, (blk_cell BK243.out 1).trans rfl, (blk_cell BK243.out 2).trans rfl⟩ (fun hHeld => ?_)
          clear hK K
          refine norm_ (a' := ?_) ?_ ?_
          rotate_left
          ·
           show Act.put _ (some 91) _ = _
           simp only [Act.put, List.setIfInBounds_toArray, List.set_cons_zero, List.set_cons_succ, i64_w, i32_w]
           rfl
          refine pure_ (i := 6) (N := some 94) #[true, true, true, true, true, true, true, false, false, false] rfl rfl (any_of HT_.out zq18) (fun _ _ _ h => h) (Or.inl ⟨by rfl, zpv⟩) zpw ?_
          refine one_ (i := 7) (N := some 95) #[true, true, true, true, true, true, true, true, false, false] rfl rfl (one_of HT_.out zq18) (by decide) (fun K hK => ?_)
          refine value_ (w1 := ?_) (v := ?_) (by rfl) rfl ?_ ?_
          rotate_left 2
          ·
           go_simp
           constructor
           ·
            rfl
           ·
            rfl
          refine hK.out _ _ ⟨(blk_cell (blk_alloc BK243.out _) 0).trans rfl, (blk_cell (blk_alloc BK243.out _) 1).trans rfl, (blk_cell (blk_alloc BK243.out _) 2).trans rfl⟩ (fun hHeld => ?_)
          clear hK K
          refine norm_ (a' := ?_) ?_ ?_
          rotate_left
          ·
           show Act.put _ (some 95) _ = _
           simp only [Act.put, List.setIfInBounds_toArray, List.set_cons_zero, List.set_cons_succ, i64_w, i32_w]
           rfl
          refine one_ (i := 8) (N := some 96) #[true, true, true, true, true, true, true, true, true, false] rfl rfl (one_of HT_.out zq18) (by decide) (fun K hK => ?_)
          refine Kd.R_append_step k48 (w0 := w0) w0.heap.size (by rfl) (.tmp 88) (.tmp 95) 23 48 (.agg #[(.int .i64 0), (.int .i64 0), (.string ⟨#[]⟩), (.string ⟨#[]⟩), (.int .i64 0), (.int .i64 0), (.int .i64 0)]) 72 rfl Try.underlying23 info48 rfl (by decide) (by omega) u9000_ l1 (⟨1, t302, (⟨#[]⟩ : ByteArray), (⟨#[]⟩ : ByteArray), (-1), (-1), ((rd_T69 s0_0 s0_1).f2)⟩ : S48) [.int .i64 1, .int .i64 t302, .string (⟨#[]⟩ : ByteArray), .string (⟨#[]⟩ : ByteArray), .int .i64 (-1), .int .i64 (-1), .int .i64 ((rd_T69 s0_0 s0_1).f2)] (fun k_ => (P1_ k_ ∨ w.heap.size ≤ k_)) (fun _ => False) rfl rfl ?aP (fun _ hk => hk.elim) ?aF ?aO ?aB ?aS ?aL ?_
          (case aP => exact k48_mkM _ _ _ (⟨1, t302, (⟨#[]⟩ : ByteArray), (⟨#[]⟩ : ByteArray), (-1), (-1), ((rd_T69 s0_0 s0_1).f2)⟩ : S48))
          (case aB => exact zq15)
          (case aF => exact (fun k_ hk => (.inr (Nat.le_trans zq40 hk))))
          (case aO => exact (zr HO_1.out))
          (case aS => exact (below_size zq15))
          (case aL => have := LMc59.out; omega)
          intro v304 w66 ho hb hg hat
          rw [← Ny303.out] at ho
          replace BK243 := za (blk_grown (g := gb243) (zb BK243.out) hg (Kd.R_ne HO_1.out BK243.out (by decide)))
          replace HI0 := za (IsS57.grown zq9 hg (IsS57.own_ne HI0.out HO_1.out (by decide)))
          replace HB := za (hb)
          replace HK := za (Kept.of_grown (S := (fun k_ => (P1_ k_) ∨ k_ = g)) hg zq13 (fun k_ e_ => Or.imp_left Or.inl ((HO_1.out.1 k_ e_))))
          have HO305 := za (ho)
          clear HO_1
          clear ho hb hg hat
          refine hK.out _ _ ⟨(blk_cell BK243.out 0).trans rfl, (blk_cell BK243.out 1).trans rfl, (blk_cell BK243.out 2).trans rfl⟩ (fun hHeld => ?_)
          clear hK K
          refine norm_ (a' := ?_) ?_ ?_
          rotate_left
          ·
           show Act.put _ (some 96) _ = _
           simp only [Act.put, List.setIfInBounds_toArray, List.set_cons_zero, List.set_cons_succ, i64_w, i32_w]
           rfl
          refine pure_ (i := 9) (N := some 4) #[true, true, true, true, true, true, true, true, true, true] rfl rfl (any_of HT_.out zq18) (fun _ _ _ h => h) (Or.inl ⟨by rfl, zpv⟩) zpw ?_
          refine done_ (done_of HT_.out zq18) ?_
          try go_wp2
          go_ret
          exact ⟨_, zq16, by (with_reducible repeat (first | apply Kd.R_alloc | apply Kd.R_drewN | apply Kd.R_drew)); exact HO305.out, zq9, zq15, zq13⟩
         ·
          rw [if_neg c59] at H
          exact absurd H (by simp)
        ·
         rw [if_neg c57] at H
         have c57b0 := beq_eq_false_iff_ne.mpr c57
         have c57b1 := bne_iff_ne.mpr c57
         by_cases c67 : ((rd_T69 s0_0 s0_1).f0) = 1
         ·
          rw [if_pos c67] at H
          have c67b0 := beq_iff_eq.mpr c67
          have c67b1 := bne_eq_false_iff_eq.mpr c67
          clear c67
          replace H := Option.bind_eq_some_iff.mp H
          obtain ⟨⟨t306, t307, t308, t309, t310, t311⟩, A680, H⟩ := H
          (try dsimp only at H)
          have A68 := za A680
          clear A680
          by_cases c69 : l1.length < 1954687338268
          ·
           rw [if_pos c69] at H
           have LMc69 := za c69
           clear c69
           obtain ⟨y312, hy312⟩ : ∃ y_ : List (S48), y_ = (l1 ++ [(⟨2, 0, t306, t307, (-1), (-1), ((rd_T69 s0_0 s0_1).f2)⟩ : S48)]) := ⟨_, rfl⟩
           replace H : (some (y312, t308, t309, t310, t311)) = some (r1, r2, r3, r4, r5) := by first | (rw [hy312]; with_reducible exact H) | (have H2_ := (Option.bind_some _ _).symm.trans H; rw [hy312]; with_reducible exact H2_) | (have H2_ := (Option.bind_some _ _).symm.trans H; with_reducible exact H2_) | with_reducible exact H | (rw [hy312]; exact H) | exact H
           have Ny312 := za hy312
           clear hy312
           simp only [Option.some.injEq, Prod.mk.injEq] at H
           obtain ⟨rfl, rfl, rfl, rfl, rfl⟩ := H
           go_wp2_with (first | ((with_reducible refine gate_callee (f := 30) rfl ?_); refine goesL_ (some 61) rfl rfl Try.func30 zq18 rfl #[.pointer (some ⟨g, 0, none⟩), .string (⟨#[40]⟩ : ByteArray)] rfl zq1 ?_; (with_reducible refine (rr_is.calls g s0_0 x1001_5 x1002_5 x1003_5 x1004_5 (⟨#[40]⟩ : ByteArray) false t283 t284 t285 t286 w0 _ ?side1 ?side2 A46.out).mono ?_); (case side1 => exact zq9); (case side2 => exact zq15); rintro e w70 ⟨rfl, hi, hb, hk⟩; refine ⟨_, rfl, ?_⟩; replace HO_1 := za (Kd.R_mono (Kd.R_keep (IsS57.apart (show IsS57 w0 _ g s0_0 x1001_5 x1002_5 x1003_5 x1004_5 from zq9) (zr HO_1.out) (by decide)) hk (fun _ h => h.2)) (fun _ h => h.1)); replace BK243 := za (KeepBut.blk hk (g' := gb243) (zb BK243.out) NB243_0.out (by simp)); replace HK := za (Kept.of_keep (S := (fun k_ => (P1_ k_) ∨ k_ = g)) zq13 hk (.inl (.inr rfl))); replace HB := za (hb); replace HI0 := za (hi); (try clear hb hk hi); have hnb71 := NB243_0.out; have hnc71 := NB0_243.out; obtain ⟨hcz72_0, hcz72_1, hcz72_2⟩ := zc3 BK243.out; obtain ⟨hfz72_0, hfz72_1⟩ := zf2 BK243.out; have hfz72_2 := blk_frozen BK243.out 2) | ((with_reducible refine gate_callee (f := 42) rfl ?_); refine goesL_ (some 103) rfl rfl Try.func42 zq18 rfl #[.pointer (some ⟨g, 0, none⟩)] rfl zq1 ?_; (with_reducible refine (rr_qname.calls g s0_0 t283 t284 t285 t286 t306 t307 t308 t309 t310 t311 w0 _ ?side1 ?side2 A68.out).mono ?_); (case side1 => exact zq9); (case side2 => exact zq15); rintro e w73 ⟨rfl, hi, hb, hk⟩; refine ⟨_, rfl, ?_⟩; replace HO_1 := za (Kd.R_mono (Kd.R_keep (IsS57.apart (show IsS57 w0 _ g s0_0 t283 t284 t285 t286 from zq9) (zr HO_1.out) (by decide)) hk (fun _ h => h.2)) (fun _ h => h.1)); replace BK243 := za (KeepBut.blk hk (g' := gb243) (zb BK243.out) NB243_0.out (by simp)); replace HK := za (Kept.of_keep (S := (fun k_ => (P1_ k_) ∨ k_ = g)) zq13 hk (.inl (.inr rfl))); replace HB := za (hb); replace HI0 := za (hi); (try clear hb hk hi); obtain ⟨hcz74_0, hcz74_1, hcz74_2⟩ := zc3 BK243.out; obtain ⟨hfz74_0, hfz74_1⟩ := zf2 BK243.out; have hfz74_2 := blk_frozen BK243.out 2) | ((with_reducible refine gate_builtin (b := .append) (xs := #[.tmp 106, .tmp 112]) rfl ?_); at_builtin; refine Kd.R_append k48 (w0 := w0) w0.heap.size rfl (.tmp 106) (.tmp 112) 23 48 (.agg #[(.int .i64 0), (.int .i64 0), (.string ⟨#[]⟩), (.string ⟨#[]⟩), (.int .i64 0), (.int .i64 0), (.int .i64 0)]) 72 rfl Try.underlying23 info48 rfl (by decide) (by omega) u9000_ l1 (⟨2, 0, t306, t307, (-1), (-1), ((rd_T69 s0_0 s0_1).f2)⟩ : S48) [.int .i64 2, .int .i64 0, .string t306, .string t307, .int .i64 (-1), .int .i64 (-1), .int .i64 ((rd_T69 s0_0 s0_1).f2)] (fun k_ => (P1_ k_ ∨ w.heap.size ≤ k_)) (fun _ => False) rfl rfl ?aP (fun _ hk => hk.elim) ?aF ?aO ?aB ?aS ?aL ?_; (case aP => exact k48_mkM _ _ _ (⟨2, 0, t306, t307, (-1), (-1), ((rd_T69 s0_0 s0_1).f2)⟩ : S48)); (case aB => exact zq15); (case aF => exact (fun k_ hk => (.inr (Nat.le_trans zq40 hk)))); (case aO => exact (zr HO_1.out)); (case aS => exact (below_size zq15)); (case aL => have := LMc69.out; omega); intro v313 w75 ho hb hg hat; rw [← Ny312.out] at ho; replace BK243 := za (blk_grown (g := gb243) (zb BK243.out) hg (Kd.R_ne HO_1.out BK243.out (by decide))); replace HI0 := za (IsS57.grown zq9 hg (IsS57.own_ne HI0.out HO_1.out (by decide))); replace HB := za (hb); replace HK := za (Kept.of_grown (S := (fun k_ => (P1_ k_) ∨ k_ = g)) hg zq13 (fun k_ e_ => Or.imp_left Or.inl ((HO_1.out.1 k_ e_)))); have HO314 := za (ho); clear HO_1; clear ho hb hg hat))
           go_ret
           exact ⟨_, zq16, by (with_reducible repeat (first | apply Kd.R_alloc | apply Kd.R_drewN | apply Kd.R_drew)); exact HO314.out, zq9, zq15, zq13⟩
          ·
           rw [if_neg c69] at H
           exact absurd H (by simp)
         ·
          rw [if_neg c67] at H
          have c67b0 := beq_eq_false_iff_ne.mpr c67
          have c67b1 := bne_iff_ne.mpr c67
          replace H := Option.bind_eq_some_iff.mp H
          obtain ⟨⟨t315, t316, t317, t318⟩, A760, H⟩ := H
          (try dsimp only at H)
          have A76 := za A760
          clear A760
          simp only [Option.some.injEq, Prod.mk.injEq] at H
          obtain ⟨rfl, rfl, rfl, rfl, rfl⟩ := H
          go_wp2_with (first | ((with_reducible refine gate_callee (f := 30) rfl ?_); refine goesL_ (some 61) rfl rfl Try.func30 zq18 rfl #[.pointer (some ⟨g, 0, none⟩), .string (⟨#[40]⟩ : ByteArray)] rfl zq1 ?_; (with_reducible refine (rr_is.calls g s0_0 x1001_5 x1002_5 x1003_5 x1004_5 (⟨#[40]⟩ : ByteArray) false t283 t284 t285 t286 w0 _ ?side1 ?side2 A46.out).mono ?_); (case side1 => exact zq9); (case side2 => exact zq15); rintro e w77 ⟨rfl, hi, hb, hk⟩; refine ⟨_, rfl, ?_⟩; replace HO_1 := za (Kd.R_mono (Kd.R_keep (IsS57.apart (show IsS57 w0 _ g s0_0 x1001_5 x1002_5 x1003_5 x1004_5 from zq9) (zr HO_1.out) (by decide)) hk (fun _ h => h.2)) (fun _ h => h.1)); replace BK243 := za (KeepBut.blk hk (g' := gb243) (zb BK243.out) NB243_0.out (by simp)); replace HK := za (Kept.of_keep (S := (fun k_ => (P1_ k_) ∨ k_ = g)) zq13 hk (.inl (.inr rfl))); replace HB := za (hb); replace HI0 := za (hi); (try clear hb hk hi); have hnb78 := NB243_0.out; have hnc78 := NB0_243.out; obtain ⟨hcz79_0, hcz79_1, hcz79_2⟩ := zc3 BK243.out; obtain ⟨hfz79_0, hfz79_1⟩ := zf2 BK243.out; have hfz79_2 := blk_frozen BK243.out 2) | ((with_reducible refine gate_callee (f := 27) rfl ?_); refine goesL_ (some 115) rfl rfl Try.func27 zq18 rfl #[.pointer (some ⟨g, 0, none⟩), .int .i64 11] rfl zq1 ?_; (with_reducible refine (rr_fail.calls g s0_0 t283 t284 t285 t286 11 t315 t316 t317 t318 w0 _ ?side1 ?side2 A76.out).mono ?_); (case side1 => exact zq9); (case side2 => exact zq15); rintro e w80 ⟨rfl, hi, hb, hk⟩; refine ⟨_, rfl, ?_⟩; replace HO_1 := za (Kd.R_mono (Kd.R_keep (IsS57.apart (show IsS57 w0 _ g s0_0 t283 t284 t285 t286 from zq9) (zr HO_1.out) (by decide)) hk (fun _ h => h.2)) (fun _ h => h.1)); replace BK243 := za (KeepBut.blk hk (g' := gb243) (zb BK243.out) NB243_0.out (by simp)); replace HK := za (Kept.of_keep (S := (fun k_ => (P1_ k_) ∨ k_ = g)) zq13 hk (.inl (.inr rfl))); replace HB := za (hb); replace HI0 := za (hi)))
          go_ret
          exact ⟨_, zq16, zq68, zq9, zq15, zq13⟩
   ·
    rw [if_neg c5] at H
    exact absurd H (by simp)
  ·
   rw [if_neg c4] at H
   exact absurd H (by simp)
 ·
  rw [if_neg c3] at H
  have c3b0 := beq_eq_false_iff_ne.mpr c3
  have c3b1 := bne_iff_ne.mpr c3
  simp only [Option.some.injEq, Prod.mk.injEq] at H
  obtain ⟨rfl, rfl, rfl, rfl, rfl⟩ := H
  obtain ⟨ASz81_0, cSz81_0, HGz81, hgz81, HSz81_0⟩ := HI0.out
  have hcz81_0 := cellS57_0 HGz81
  have hcz81_1 := cellS57_1 HGz81
  have hcz81_2 := cellS57_2 HGz81
  have hcz81_3 := cellS57_3 HGz81
  have hcz81_4 := cellS57_4 HGz81
  have hfz81_1 := blk_frozen HGz81 1
  have hfz81_2 := blk_frozen HGz81 2
  have hfz81_3 := blk_frozen HGz81 3
  have hfz81_4 := blk_frozen HGz81 4
  clear HGz81 hgz81
  go_enter Try.func50, Try.ntmps50
  go_wp2
  go_ret
  exact ⟨_, zq16, zq95, zq0, zq3, zq6⟩
theorem rr_expr.step (k : Nat) (IH50_ : Aside0 (∀ m, m < k → ∀ (g : Nat) (s0_0 : List (S69)) (s0_1 : Int) (s0_2 : Int) (s0_3 : Int) (s0_4 : Int) (P1_ : Nat → Prop) (u9000_ : Value) (l1 : List (S48)) (r1 : List (S48)) (r2 : Int) (r3 : Int) (r4 : Int) (r5 : Int) (w0 w : World) (hI : IsS57 w0 w g s0_0 s0_1 s0_2 s0_3 s0_4) (hB : Below w0.heap.size w0 w) (ho1 : Kd.R k48 48 w w0.heap.size P1_ u9000_ l1) (h : rr_unary.f m s0_0 s0_1 s0_2 s0_3 s0_4 l1 = some (r1, r2, r3, r4, r5)),
  Calls Try.prog 50 #[.pointer (some ⟨g, 0, none⟩), u9000_] w fun e w' => ∃ v0_ : Value, e = .returned (v0_) ∧ Kd.R k48 48 w' w0.heap.size (fun k_ => (P1_ k_ ∨ w.heap.size ≤ k_)) v0_ r1 ∧ IsS57 w0 w' g s0_0 r2 r3 r4 r5 ∧ Below w0.heap.size w0 w' ∧ Kept w w' (fun k_ => (P1_ k_) ∨ k_ = g))) (IH43_ : Aside0 (∀ m, m < k → ∀ (g : Nat) (s0_0 : List (S69)) (s0_1 : Int) (s0_2 : Int) (s0_3 : Int) (s0_4 : Int) (P1_ : Nat → Prop) (u9000_ : Value) (l1 : List (S48)) (r1 : List (S48)) (r2 : Int) (r3 : Int) (r4 : Int) (r5 : Int) (w0 w : World) (hI : IsS57 w0 w g s0_0 s0_1 s0_2 s0_3 s0_4) (hB : Below w0.heap.size w0 w) (ho1 : Kd.R k48 48 w w0.heap.size P1_ u9000_ l1) (h : rr_expr.f m s0_0 s0_1 s0_2 s0_3 s0_4 l1 = some (r1, r2, r3, r4, r5)),
  Calls Try.prog 43 #[.pointer (some ⟨g, 0, none⟩), u9000_] w fun e w' => ∃ v0_ : Value, e = .returned (v0_) ∧ Kd.R k48 48 w' w0.heap.size (fun k_ => (P1_ k_ ∨ w.heap.size ≤ k_)) v0_ r1 ∧ IsS57 w0 w' g s0_0 r2 r3 r4 r5 ∧ Below w0.heap.size w0 w' ∧ Kept w w' (fun k_ => (P1_ k_) ∨ k_ = g))) (IH46_ : Aside0 (∀ m, m < k → ∀ (g : Nat) (s0_0 : List (S69)) (s0_1 : Int) (s0_2 : Int) (s0_3 : Int) (s0_4 : Int) (P1_ : Nat → Prop) (u9000_ : Value) (l1 : List (S48)) (r1 : List (S48)) (r2 : Int) (r3 : Int) (r4 : Int) (r5 : Int) (w0 w : World) (hI : IsS57 w0 w g s0_0 s0_1 s0_2 s0_3 s0_4) (hB : Below w0.heap.size w0 w) (ho1 : Kd.R k48 48 w w0.heap.size P1_ u9000_ l1) (h : rr_sum.f m s0_0 s0_1 s0_2 s0_3 s0_4 l1 = some (r1, r2, r3, r4, r5)),
  Calls Try.prog 46 #[.pointer (some ⟨g, 0, none⟩), u9000_] w fun e w' => ∃ v0_ : Value, e = .returned (v0_) ∧ Kd.R k48 48 w' w0.heap.size (fun k_ => (P1_ k_ ∨ w.heap.size ≤ k_)) v0_ r1 ∧ IsS57 w0 w' g s0_0 r2 r3 r4 r5 ∧ Below w0.heap.size w0 w' ∧ Kept w w' (fun k_ => (P1_ k_) ∨ k_ = g))) (IH49_ : Aside0 (∀ m, m < k → ∀ (g : Nat) (s0_0 : List (S69)) (s0_1 : Int) (s0_2 : Int) (s0_3 : Int) (s0_4 : Int) (P1_ : Nat → Prop) (u9000_ : Value) (l1 : List (S48)) (r1 : List (S48)) (r2 : Int) (r3 : Int) (r4 : Int) (r5 : Int) (w0 w : World) (hI : IsS57 w0 w g s0_0 s0_1 s0_2 s0_3 s0_4) (hB : Below w0.heap.size w0 w) (ho1 : Kd.R k48 48 w w0.heap.size P1_ u9000_ l1) (h : rr_term.f m s0_0 s0_1 s0_2 s0_3 s0_4 l1 = some (r1, r2, r3, r4, r5)),
  Calls Try.prog 49 #[.pointer (some ⟨g, 0, none⟩), u9000_] w fun e w' => ∃ v0_ : Value, e = .returned (v0_) ∧ Kd.R k48 48 w' w0.heap.size (fun k_ => (P1_ k_ ∨ w.heap.size ≤ k_)) v0_ r1 ∧ IsS57 w0 w' g s0_0 r2 r3 r4 r5 ∧ Below w0.heap.size w0 w' ∧ Kept w w' (fun k_ => (P1_ k_) ∨ k_ = g))) : ∀ (g : Nat) (s0_0 : List (S69)) (s0_1 : Int) (s0_2 : Int) (s0_3 : Int) (s0_4 : Int) (P1_ : Nat → Prop) (u9000_ : Value) (l1 : List (S48)) (r1 : List (S48)) (r2 : Int) (r3 : Int) (r4 : Int) (r5 : Int) (w0 w : World) (hI : IsS57 w0 w g s0_0 s0_1 s0_2 s0_3 s0_4) (hB : Below w0.heap.size w0 w) (ho1 : Kd.R k48 48 w w0.heap.size P1_ u9000_ l1) (h : rr_expr.f k s0_0 s0_1 s0_2 s0_3 s0_4 l1 = some (r1, r2, r3, r4, r5)),
  Calls Try.prog 43 #[.pointer (some ⟨g, 0, none⟩), u9000_] w fun e w' => ∃ v0_ : Value, e = .returned (v0_) ∧ Kd.R k48 48 w' w0.heap.size (fun k_ => (P1_ k_ ∨ w.heap.size ≤ k_)) v0_ r1 ∧ IsS57 w0 w' g s0_0 r2 r3 r4 r5 ∧ Below w0.heap.size w0 w' ∧ Kept w w' (fun k_ => (P1_ k_) ∨ k_ = g) := by
 intro g s0_0 s0_1 s0_2 s0_3 s0_4 P1_ u9000_ l1 r1 r2 r3 r4 r5 w0 w hI hB ho1 h
 cases k with
 | zero => exact absurd h (by simp [rr_expr.f])
 | succ k =>
 simp only [rr_expr.f] at h
 have HO1 := za (show Kd.R k48 48 w w0.heap.size (fun k_ => (P1_ k_ ∨ w.heap.size ≤ k_)) u9000_ l1 from Kd.R_mono ho1 (fun k_ hk => (.inl hk)))
 have HI0 := za hI
 have HL := za hB.size
 clear hI
 have HK := za (Kept.refl w (fun k_ => (P1_ k_) ∨ k_ = g))
 have HW0 := za hB.size
 have HB := za hB
 clear hB
 have H : ((rr_sum.f k s0_0 s0_1 s0_2 s0_3 s0_4 l1).bind fun bt319 => (rr_expr.l0 k bt319.1 (([(⟨#[61, 61]⟩ : ByteArray), (⟨#[60]⟩ : ByteArray), (⟨#[60, 61]⟩ : ByteArray)] : List ByteArray)) 0 s0_0 bt319.2.1 bt319.2.2.1 bt319.2.2.2.1 bt319.2.2.2.2)) = some (r1, r2, r3, r4, r5) := h
 clear h
 replace H := Option.bind_eq_some_iff.mp H
 obtain ⟨⟨t319, t322, t323, t324, t325⟩, A30, H⟩ := H
 (try dsimp only at H)
 have A3 := za A30
 clear A30
 obtain ⟨y326, hy326⟩ : ∃ y_ : List ByteArray, y_ = (([(⟨#[61, 61]⟩ : ByteArray), (⟨#[60]⟩ : ByteArray), (⟨#[60, 61]⟩ : ByteArray)] : List ByteArray)) := ⟨_, rfl⟩
 replace H : (rr_expr.l0 k t319 y326 0 s0_0 t322 t323 t324 t325) = some (r1, r2, r3, r4, r5) := by first | (rw [hy326]; with_reducible exact H) | (have H2_ := (Option.bind_some _ _).symm.trans H; rw [hy326]; with_reducible exact H2_) | (have H2_ := (Option.bind_some _ _).symm.trans H; with_reducible exact H2_) | with_reducible exact H | (rw [hy326]; exact H) | exact H
 have Ny326 := za hy326
 clear hy326
 have H' := za H
 clear H
 obtain ⟨Ao4, co4, eo4⟩ := Kd.R_slice HO1.out
 subst eo4
 go_enter Try.func43, Try.ntmps43
 go_wp2_with (first | ((with_reducible refine gate_callee (f := 46) rfl ?_); refine goesL_ (some 11) rfl rfl Try.func46 zq18 rfl #[.pointer (some ⟨g, 0, none⟩), .slice Ao4 l1.length co4] rfl zq1 ?_; (with_reducible refine (IH46_.out k (by omega) g s0_0 s0_1 s0_2 s0_3 s0_4 (fun k_ => some k_ = (.slice Ao4 l1.length co4 : Value).ownBlock) (.slice Ao4 l1.length co4) l1 t319 t322 t323 t324 t325 w0 _ ?side1 ?side2 ?side3 A3.out).mono ?_); (case side1 => exact zq0); (case side2 => exact zq3); (case side3 => exact Kd.R_tight rfl HO1.out); rintro e w5 ⟨v320, rfl, ho0, hi, hb, hkp⟩; refine ⟨_, rfl, ?_⟩; replace HI0 := za (hi); have HO321 := za (Kd.R_mono (ok' := fun k_ => (P1_ k_ ∨ w.heap.size ≤ k_)) ho0 (fun k_ hk_ => Or.elim hk_ (fun hs_ => (HO1.out.1 k_ (hs_).symm)) (fun hn_ => (.inr (Nat.le_trans zq23 hn_))))); replace HK := za (Kept.then_ (S := (fun k_ => (P1_ k_) ∨ k_ = g)) zq6 hkp (fun k_ hs_ => Or.elim hs_ (fun hs_ => (fun e_ => Or.imp_left Or.inl ((HO1.out.1 k_ e_.symm))) hs_) (fun e_ => .inl (.inr e_)))); replace HB := za (hb); clear HO1) | ((with_reducible refine gate_dst (N := 12) rfl ?_); refine Kd.R_lit Kd.string _ 9 ?hg (N := 12) ?hd (xs := ([(⟨#[61, 61]⟩ : ByteArray), (⟨#[60]⟩ : ByteArray), (⟨#[60, 61]⟩ : ByteArray)] : List ByteArray)) (inner := [.string (⟨#[61, 61]⟩ : ByteArray), .string (⟨#[60]⟩ : ByteArray), .string (⟨#[60, 61]⟩ : ByteArray)]) (ok := fun _ => True) (okp := fun _ => True) ?hr ?hp (fun _ hk => hk) trivial (Below.refl _ _) (Nat.le_refl _) (by simp) ?_; (case hd => rfl); (case hg => rfl); (case hr => exact zq39); (case hp => exact (Reps.one (show Kd.M Kd.string _ _ _ (⟨#[61, 61]⟩ : ByteArray) [.string (⟨#[61, 61]⟩ : ByteArray)] from rfl) (Reps.one (show Kd.M Kd.string _ _ _ (⟨#[60]⟩ : ByteArray) [.string (⟨#[60]⟩ : ByteArray)] from rfl) (Reps.one (show Kd.M Kd.string _ _ _ (⟨#[60, 61]⟩ : ByteArray) [.string (⟨#[60, 61]⟩ : ByteArray)] from rfl) (Reps.none _ _))))); intro v327 w6 ho7 hb hg_ hnew_; clear hg_ hnew_; (first | rw [← Ny326.out] at ho7 | (simp only [Int.reduceToNat] at ho7; rw [← Ny326.out] at ho7)); replace HO321 := za (Kd.R_below (zr HO321.out) hb); have HO328 := za (Kd.R_lower (Kd.R_newM (M := fun k_ => (P1_ k_ ∨ w.heap.size ≤ k_)) ho7 zq23 (fun k_ h_ => .inr h_)) (below_size zq3)); replace HK := za (Kept.below (S := (fun k_ => (P1_ k_) ∨ k_ = g)) zq6 hb); replace HB := za (below_step zq3 hb); replace HI0 := za (IsS57.below zq0 hb); clear hb ho7))
 go_loopg [6] k (fun kq v6 w' => ∃ (x6_1 : Int) (x1001_1 : Int) (x1002_1 : Int) (x1003_1 : Int) (x1004_1 : Int), v6 = .int .i64 x6_1 ∧ Aside0 (rr_expr.l0 kq t319 y326 x6_1 s0_0 x1001_1 x1002_1 x1003_1 x1004_1 = some (r1, r2, r3, r4, r5)) ∧ Aside0 (kq ≤ k) ∧ Aside0 (Kd.R k48 48 w' w0.heap.size (fun k_ => (P1_ k_ ∨ w.heap.size ≤ k_)) v320 t319) ∧ Aside0 (Kd.R Kd.string 9 w' w0.heap.size (fun k_ => (P1_ k_ ∨ w.heap.size ≤ k_)) v327 y326) ∧ Aside0 (IsS57 w0 w' g s0_0 x1001_1 x1002_1 x1003_1 x1004_1) ∧ Aside0 (Kept w w' (fun k_ => (P1_ k_) ∨ k_ = g)) ∧ Aside0 (Below w0.heap.size w0 w'))
 case atStart => exact ⟨(0), (t322), (t323), (t324), (t325), zq29, H', ⟨Nat.le_refl _⟩, ⟨by (with_reducible repeat (first | apply Kd.R_alloc | apply Kd.R_drewN | apply Kd.R_drew)); exact HO321.out⟩, ⟨by (with_reducible repeat (first | apply Kd.R_alloc | apply Kd.R_drewN | apply Kd.R_drew)); exact Kd.R_mono HO328.out (fun _ hk => hk.1)⟩, ⟨zq0⟩, ⟨zq6⟩, ⟨zq3⟩⟩
 case round =>
  clear H'
  obtain ⟨x6_1, x1001_1, x1002_1, x1003_1, x1004_1, rfl, HA, HK1, HO_1, HO_5, HI0, HK, HB⟩ := hrel
  cases gk with
  | zero => exact absurd HA.out (by simp [rr_expr.l0])
  | succ k1 =>
   have H := HA.out
   clear HA
   simp only [rr_expr.l0] at H
   by_cases c8 : x6_1 < (y326.length : Int)
   ·
    rw [if_pos c8] at H
    have c8b0 := decide_eq_true c8
    clear c8
    replace H := Option.bind_eq_some_iff.mp H
    obtain ⟨⟨t329, t330, t331, t332, t333⟩, A90, H⟩ := H
    (try dsimp only at H)
    have A9 := za A90
    clear A90
    by_cases c10 : 0 ≤ x6_1
    ·
     rw [if_pos c10] at H
     have c10b0 := decide_eq_true c10
     clear c10
     replace H := Option.bind_eq_some_iff.mp H
     obtain ⟨⟨t335, t336, t337, t338, t339⟩, A110, H⟩ := H
     (try dsimp only at H)
     have A11 := za A110
     clear A110
     by_cases c12 : t335 = true
     ·
      subst c12
      rw [if_pos rfl] at H
      replace H := Option.bind_eq_some_iff.mp H
      obtain ⟨⟨t340, t343, t344, t345, t346⟩, A130, H⟩ := H
      (try dsimp only at H)
      have A13 := za A130
      clear A130
      replace H := Option.bind_eq_some_iff.mp H
      obtain ⟨t347, A140, H⟩ := H
      (try dsimp only at H)
      have A14 := za A140
      clear A140
      simp only [Option.some.injEq, Prod.mk.injEq] at H
      obtain ⟨rfl, rfl, rfl, rfl, rfl⟩ := H
      obtain ⟨Ao15, co15, eo15⟩ := Kd.R_slice HO_5.out
      subst eo15
      obtain ⟨Ao16, co16, eo16⟩ := Kd.R_slice HO_1.out
      subst eo16
      go_wp2_with (first | ((with_reducible refine gate_callee (f := 22) rfl ?_); refine goesL_ (some 23) rfl rfl Try.func22 zq18 rfl #[.pointer (some ⟨g, 0, none⟩)] rfl zq1 ?_; (with_reducible refine (rr_here.calls g s0_0 x1001_1 x1002_1 x1003_1 x1004_1 t329 t330 t331 t332 t333 w0 _ ?side1 ?side2 A9.out).mono ?_); (case side1 => exact zq0); (case side2 => exact zq3); rintro e w17 ⟨rfl, hi, hb, hk⟩; refine ⟨_, rfl, ?_⟩; replace HO_1 := za (Kd.R_mono (Kd.R_keep (IsS57.apart (show IsS57 w0 _ g s0_0 x1001_1 x1002_1 x1003_1 x1004_1 from zq0) (zr HO_1.out) (by decide)) hk (fun _ h => h.2)) (fun _ h => h.1)); replace HO_5 := za (Kd.R_mono (Kd.R_keep (IsS57.apart (show IsS57 w0 _ g s0_0 x1001_1 x1002_1 x1003_1 x1004_1 from zq0) (zr HO_5.out) (by decide)) hk (fun _ h => h.2)) (fun _ h => h.1)); replace HK := za (Kept.of_keep (S := (fun k_ => (P1_ k_) ∨ k_ = g)) zq6 hk (.inl (.inr rfl))); replace HB := za (hb); replace HI0 := za (hi); (try clear hb hk hi); have p334 : 0 ≤ (x6_1 : Int) := of_decide_eq_true zq11; have q334 : x6_1 < (y326.length : Int) := of_decide_eq_true zq11; obtain ⟨ad334, e334, hx334_0⟩ := Kd.at_string (Kd.R_reads' HO_5.out).2.2 x6_1 p334 q334; cases e334; replace p334 := eq_true p334; replace q334 := eq_true q334) | ((with_reducible refine gate_callee (f := 24) rfl ?_); refine goesL_ (some 29) rfl rfl Try.func24 zq18 rfl #[.pointer (some ⟨g, 0, none⟩), .string (rdOf ByteArray.empty y326 x6_1)] rfl zq1 ?_; (with_reducible refine (rr_take.calls g s0_0 t330 t331 t332 t333 (rdOf ByteArray.empty y326 x6_1) true t336 t337 t338 t339 w0 _ ?side1 ?side2 A11.out).mono ?_); (case side1 => exact zq0); (case side2 => exact zq3); rintro e w18 ⟨rfl, hi, hb, hk⟩; refine ⟨_, rfl, ?_⟩; replace HO_1 := za (Kd.R_mono (Kd.R_keep (IsS57.apart (show IsS57 w0 _ g s0_0 t330 t331 t332 t333 from zq0) (zr HO_1.out) (by decide)) hk (fun _ h => h.2)) (fun _ h => h.1)); replace HO_5 := za (Kd.R_mono (Kd.R_keep (IsS57.apart (show IsS57 w0 _ g s0_0 t330 t331 t332 t333 from zq0) (zr HO_5.out) (by decide)) hk (fun _ h => h.2)) (fun _ h => h.1)); replace HK := za (Kept.of_keep (S := (fun k_ => (P1_ k_) ∨ k_ = g)) zq6 hk (.inl (.inr rfl))); replace HB := za (hb); replace HI0 := za (hi)) | ((with_reducible refine gate_callee (f := 46) rfl ?_); refine goesL_ (some 32) rfl rfl Try.func46 zq18 rfl #[.pointer (some ⟨g, 0, none⟩), .slice Ao16 t319.length co16] rfl zq1 ?_; (with_reducible refine (IH46_.out k1 (by have := HK1.out; omega) g s0_0 t336 t337 t338 t339 (fun k_ => some k_ = (.slice Ao16 t319.length co16 : Value).ownBlock) (.slice Ao16 t319.length co16) t319 t340 t343 t344 t345 t346 w0 _ ?side1 ?side2 ?side3 A13.out).mono ?_); (case side1 => exact zq0); (case side2 => exact zq3); (case side3 => exact zq100); rintro e w19 ⟨v341, rfl, ho0, hi, hb, hkp⟩; refine ⟨_, rfl, ?_⟩; replace HO_5 := za (Kd.R_mono (ok' := fun k_ => (P1_ k_ ∨ w.heap.size ≤ k_)) (Kd.R_keptB ((IsS57.apart HI0.out (Kd.R_apart' HO_5.out (Kd.R_typed HO_1.out) (by decide)) (by decide))) hkp (fun k_ hk_ hs_ => Or.elim hs_ (fun hs_ => (hk_.1.2) hs_) (fun e_ => (hk_.2) e_))) (fun k_ hk_ => hk_.1.1.1)); replace HI0 := za (hi); have HO342 := za (Kd.R_mono (ok' := fun k_ => (P1_ k_ ∨ w.heap.size ≤ k_)) ho0 (fun k_ hk_ => Or.elim hk_ (fun hs_ => (HO_1.out.1 k_ (hs_).symm)) (fun hn_ => (.inr (Nat.le_trans zq23 hn_))))); replace HK := za (Kept.then_ (S := (fun k_ => (P1_ k_) ∨ k_ = g)) zq6 hkp (fun k_ hs_ => Or.elim hs_ (fun hs_ => (fun e_ => Or.imp_left Or.inl ((HO_1.out.1 k_ e_.symm))) hs_) (fun e_ => .inl (.inr e_)))); replace HB := za (hb); clear HO_1; (try clear hb hkp ho0); obtain ⟨Ao20, co20, eo20⟩ := Kd.R_slice HO342.out; subst eo20) | ((with_reducible refine gate_callee (f := 47) rfl ?_); refine goesL_ (some 37) rfl rfl Try.func47 zq18 rfl #[.slice Ao20 t340.length co20, .int .i64 (wrap64 ((t319.length : Int) - 1)), .int .i64 (wrap64 (10 + x6_1)), .int .i64 t329] rfl zq1 ?_; (with_reducible refine (ra_two.calls (fun k_ => some k_ = (.slice Ao20 t340.length co20 : Value).ownBlock) (.slice Ao20 t340.length co20) t340 (wrap64 ((t319.length : Int) - 1)) (wrap64 (10 + x6_1)) t329 t347 w0 _ ?side1 ?side2 A14.out).mono ?_); (case side1 => exact zq3); (case side2 => exact Kd.R_tight rfl HO342.out); rintro e w21 ⟨v348, rfl, ho0, hb, hkp⟩; refine ⟨_, rfl, ?_⟩; replace HO_5 := za (Kd.R_mono (ok' := fun k_ => (P1_ k_ ∨ w.heap.size ≤ k_)) (Kd.R_keptB ((Kd.R_apart' HO_5.out (Kd.R_typed HO342.out) (by decide))) hkp (fun k_ hk_ hs_ => (hk_.2) hs_)) (fun k_ hk_ => hk_.1.1)); replace HI0 := za (IsS57.kept zq0 hkp (fun hs_ => (fun e_ => (IsS57.own_ne HI0.out HO342.out (by decide)) e_) hs_)); have HO349 := za (Kd.R_mono (ok' := fun k_ => (P1_ k_ ∨ w.heap.size ≤ k_)) ho0 (fun k_ hk_ => Or.elim hk_ (fun hs_ => (HO342.out.1 k_ (hs_).symm)) (fun hn_ => (.inr (Nat.le_trans zq23 hn_))))); replace HK := za (Kept.then_ (S := (fun k_ => (P1_ k_) ∨ k_ = g)) zq6 hkp (fun k_ hs_ => (fun e_ => Or.imp_left Or.inl ((HO342.out.1 k_ e_.symm))) hs_)); replace HB := za (hb); clear HO342))
      go_ret
      exact ⟨_, zq16, by (with_reducible repeat (first | apply Kd.R_alloc | apply Kd.R_drewN | apply Kd.R_drew)); exact HO349.out, zq0, zq3, zq6⟩
     ·
      replace c12 := Bool.eq_false_iff.mpr c12
      subst c12
      rw [if_neg (show ¬ (false = true) by decide)] at H
      have H' := za H
      clear H
      obtain ⟨Ao22, co22, eo22⟩ := Kd.R_slice HO_5.out
      subst eo22
      obtain ⟨Ao23, co23, eo23⟩ := Kd.R_slice HO_1.out
      subst eo23
      go_wp2_with (first | ((with_reducible refine gate_callee (f := 22) rfl ?_); refine goesL_ (some 23) rfl rfl Try.func22 zq18 rfl #[.pointer (some ⟨g, 0, none⟩)] rfl zq1 ?_; (with_reducible refine (rr_here.calls g s0_0 x1001_1 x1002_1 x1003_1 x1004_1 t329 t330 t331 t332 t333 w0 _ ?side1 ?side2 A9.out).mono ?_); (case side1 => exact zq0); (case side2 => exact zq3); rintro e w24 ⟨rfl, hi, hb, hk⟩; refine ⟨_, rfl, ?_⟩; replace HO_1 := za (Kd.R_mono (Kd.R_keep (IsS57.apart (show IsS57 w0 _ g s0_0 x1001_1 x1002_1 x1003_1 x1004_1 from zq0) (zr HO_1.out) (by decide)) hk (fun _ h => h.2)) (fun _ h => h.1)); replace HO_5 := za (Kd.R_mono (Kd.R_keep (IsS57.apart (show IsS57 w0 _ g s0_0 x1001_1 x1002_1 x1003_1 x1004_1 from zq0) (zr HO_5.out) (by decide)) hk (fun _ h => h.2)) (fun _ h => h.1)); replace HK := za (Kept.of_keep (S := (fun k_ => (P1_ k_) ∨ k_ = g)) zq6 hk (.inl (.inr rfl))); replace HB := za (hb); replace HI0 := za (hi); (try clear hb hk hi); have p334 : 0 ≤ (x6_1 : Int) := of_decide_eq_true zq11; have q334 : x6_1 < (y326.length : Int) := of_decide_eq_true zq11; obtain ⟨ad334, e334, hx334_0⟩ := Kd.at_string (Kd.R_reads' HO_5.out).2.2 x6_1 p334 q334; cases e334; replace p334 := eq_true p334; replace q334 := eq_true q334) | ((with_reducible refine gate_callee (f := 24) rfl ?_); refine goesL_ (some 29) rfl rfl Try.func24 zq18 rfl #[.pointer (some ⟨g, 0, none⟩), .string (rdOf ByteArray.empty y326 x6_1)] rfl zq1 ?_; (with_reducible refine (rr_take.calls g s0_0 t330 t331 t332 t333 (rdOf ByteArray.empty y326 x6_1) false t336 t337 t338 t339 w0 _ ?side1 ?side2 A11.out).mono ?_); (case side1 => exact zq0); (case side2 => exact zq3); rintro e w25 ⟨rfl, hi, hb, hk⟩; refine ⟨_, rfl, ?_⟩; replace HO_1 := za (Kd.R_mono (Kd.R_keep (IsS57.apart (show IsS57 w0 _ g s0_0 t330 t331 t332 t333 from zq0) (zr HO_1.out) (by decide)) hk (fun _ h => h.2)) (fun _ h => h.1)); replace HO_5 := za (Kd.R_mono (Kd.R_keep (IsS57.apart (show IsS57 w0 _ g s0_0 t330 t331 t332 t333 from zq0) (zr HO_5.out) (by decide)) hk (fun _ h => h.2)) (fun _ h => h.1)); replace HK := za (Kept.of_keep (S := (fun k_ => (P1_ k_) ∨ k_ = g)) zq6 hk (.inl (.inr rfl))); replace HB := za (hb); replace HI0 := za (hi)))
      go_roundg k1
      case measure => have := HK1.out; omega
      case rel => exact ⟨(wrap64 (x6_1 + 1)), (t336), (t337), (t338), (t339), zq29, H', ⟨by have := HK1.out; omega⟩, ⟨zq68⟩, ⟨zq35⟩, ⟨zq0⟩, ⟨zq6⟩, ⟨zq3⟩⟩
    ·
     rw [if_neg c10] at H
     exact absurd H (by simp)
   ·
    rw [if_neg c8] at H
    have c8b0 := decide_eq_false c8
    clear c8
    simp only [Option.some.injEq, Prod.mk.injEq] at H
    obtain ⟨rfl, rfl, rfl, rfl, rfl⟩ := H
    obtain ⟨Ao26, co26, eo26⟩ := Kd.R_slice HO_5.out
    subst eo26
    go_wp2
    go_ret
    exact ⟨_, zq16, zq68, zq0, zq3, zq6⟩
end Go.Proofs.Ytcmpmlklednhbaa.QEvalJoins
