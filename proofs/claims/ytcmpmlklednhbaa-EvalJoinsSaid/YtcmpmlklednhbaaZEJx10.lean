import Derived.Test.YtcmpmlklednhbaaZEJx9
namespace Go.Proofs.Ytcmpmlklednhbaa.QEvalJoins
open Go.RowKit Go.Proofs.YtcmpmlklednhbaaW.PrintWords Go.Proofs.YtcmpmlklednhbaaW.PrintLast Go.Proofs.YtcmpmlklednhbaaW.PrintMore
set_option maxHeartbeats 8000000
set_option maxRecDepth 100000
attribute [local go_sem] max2_int min2_int max_two min_two max_three min_three max_four min_four
set_option linter.unusedVariables false
set_option linter.unusedSimpArgs false
theorem rr_sum.step (k : Nat) (IH50_ : Aside0 (∀ m, m < k → ∀ (g : Nat) (s0_0 : List (S69)) (s0_1 : Int) (s0_2 : Int) (s0_3 : Int) (s0_4 : Int) (P1_ : Nat → Prop) (u9000_ : Value) (l1 : List (S48)) (r1 : List (S48)) (r2 : Int) (r3 : Int) (r4 : Int) (r5 : Int) (w0 w : World) (hI : IsS57 w0 w g s0_0 s0_1 s0_2 s0_3 s0_4) (hB : Below w0.heap.size w0 w) (ho1 : Kd.R k48 48 w w0.heap.size P1_ u9000_ l1) (h : rr_unary.f m s0_0 s0_1 s0_2 s0_3 s0_4 l1 = some (r1, r2, r3, r4, r5)),
  Calls Try.prog 50 #[.pointer (some ⟨g, 0, none⟩), u9000_] w fun e w' => ∃ v0_ : Value, e = .returned (v0_) ∧ Kd.R k48 48 w' w0.heap.size (fun k_ => (P1_ k_ ∨ w.heap.size ≤ k_)) v0_ r1 ∧ IsS57 w0 w' g s0_0 r2 r3 r4 r5 ∧ Below w0.heap.size w0 w' ∧ Kept w w' (fun k_ => (P1_ k_) ∨ k_ = g))) (IH43_ : Aside0 (∀ m, m < k → ∀ (g : Nat) (s0_0 : List (S69)) (s0_1 : Int) (s0_2 : Int) (s0_3 : Int) (s0_4 : Int) (P1_ : Nat → Prop) (u9000_ : Value) (l1 : List (S48)) (r1 : List (S48)) (r2 : Int) (r3 : Int) (r4 : Int) (r5 : Int) (w0 w : World) (hI : IsS57 w0 w g s0_0 s0_1 s0_2 s0_3 s0_4) (hB : Below w0.heap.size w0 w) (ho1 : Kd.R k48 48 w w0.heap.size P1_ u9000_ l1) (h : rr_expr.f m s0_0 s0_1 s0_2 s0_3 s0_4 l1 = some (r1, r2, r3, r4, r5)),
  Calls Try.prog 43 #[.pointer (some ⟨g, 0, none⟩), u9000_] w fun e w' => ∃ v0_ : Value, e = .returned (v0_) ∧ Kd.R k48 48 w' w0.heap.size (fun k_ => (P1_ k_ ∨ w.heap.size ≤ k_)) v0_ r1 ∧ IsS57 w0 w' g s0_0 r2 r3 r4 r5 ∧ Below w0.heap.size w0 w' ∧ Kept w w' (fun k_ => (P1_ k_) ∨ k_ = g))) (IH46_ : Aside0 (∀ m, m < k → ∀ (g : Nat) (s0_0 : List (S69)) (s0_1 : Int) (s0_2 : Int) (s0_3 : Int) (s0_4 : Int) (P1_ : Nat → Prop) (u9000_ : Value) (l1 : List (S48)) (r1 : List (S48)) (r2 : Int) (r3 : Int) (r4 : Int) (r5 : Int) (w0 w : World) (hI : IsS57 w0 w g s0_0 s0_1 s0_2 s0_3 s0_4) (hB : Below w0.heap.size w0 w) (ho1 : Kd.R k48 48 w w0.heap.size P1_ u9000_ l1) (h : rr_sum.f m s0_0 s0_1 s0_2 s0_3 s0_4 l1 = some (r1, r2, r3, r4, r5)),
  Calls Try.prog 46 #[.pointer (some ⟨g, 0, none⟩), u9000_] w fun e w' => ∃ v0_ : Value, e = .returned (v0_) ∧ Kd.R k48 48 w' w0.heap.size (fun k_ => (P1_ k_ ∨ w.heap.size ≤ k_)) v0_ r1 ∧ IsS57 w0 w' g s0_0 r2 r3 r4 r5 ∧ Below w0.heap.size w0 w' ∧ Kept w w' (fun k_ => (P1_ k_) ∨ k_ = g))) (IH49_ : Aside0 (∀ m, m < k → ∀ (g : Nat) (s0_0 : List (S69)) (s0_1 : Int) (s0_2 : Int) (s0_3 : Int) (s0_4 : Int) (P1_ : Nat → Prop) (u9000_ : Value) (l1 : List (S48)) (r1 : List (S48)) (r2 : Int) (r3 : Int) (r4 : Int) (r5 : Int) (w0 w : World) (hI : IsS57 w0 w g s0_0 s0_1 s0_2 s0_3 s0_4) (hB : Below w0.heap.size w0 w) (ho1 : Kd.R k48 48 w w0.heap.size P1_ u9000_ l1) (h : rr_term.f m s0_0 s0_1 s0_2 s0_3 s0_4 l1 = some (r1, r2, r3, r4, r5)),
  Calls Try.prog 49 #[.pointer (some ⟨g, 0, none⟩), u9000_] w fun e w' => ∃ v0_ : Value, e = .returned (v0_) ∧ Kd.R k48 48 w' w0.heap.size (fun k_ => (P1_ k_ ∨ w.heap.size ≤ k_)) v0_ r1 ∧ IsS57 w0 w' g s0_0 r2 r3 r4 r5 ∧ Below w0.heap.size w0 w' ∧ Kept w w' (fun k_ => (P1_ k_) ∨ k_ = g))) : ∀ (g : Nat) (s0_0 : List (S69)) (s0_1 : Int) (s0_2 : Int) (s0_3 : Int) (s0_4 : Int) (P1_ : Nat → Prop) (u9000_ : Value) (l1 : List (S48)) (r1 : List (S48)) (r2 : Int) (r3 : Int) (r4 : Int) (r5 : Int) (w0 w : World) (hI : IsS57 w0 w g s0_0 s0_1 s0_2 s0_3 s0_4) (hB : Below w0.heap.size w0 w) (ho1 : Kd.R k48 48 w w0.heap.size P1_ u9000_ l1) (h : rr_sum.f k s0_0 s0_1 s0_2 s0_3 s0_4 l1 = some (r1, r2, r3, r4, r5)),
  Calls Try.prog 46 #[.pointer (some ⟨g, 0, none⟩), u9000_] w fun e w' => ∃ v0_ : Value, e = .returned (v0_) ∧ Kd.R k48 48 w' w0.heap.size (fun k_ => (P1_ k_ ∨ w.heap.size ≤ k_)) v0_ r1 ∧ IsS57 w0 w' g s0_0 r2 r3 r4 r5 ∧ Below w0.heap.size w0 w' ∧ Kept w w' (fun k_ => (P1_ k_) ∨ k_ = g) := by
 intro g s0_0 s0_1 s0_2 s0_3 s0_4 P1_ u9000_ l1 r1 r2 r3 r4 r5 w0 w hI hB ho1 h
 cases k with
 | zero => exact absurd h (by simp [rr_sum.f])
 | succ k =>
 simp only [rr_sum.f] at h
 have HO1 := za (show Kd.R k48 48 w w0.heap.size (fun k_ => (P1_ k_ ∨ w.heap.size ≤ k_)) u9000_ l1 from Kd.R_mono ho1 (fun k_ hk => (.inl hk)))
 have HI0 := za hI
 have HL := za hB.size
 clear hI
 have HK := za (Kept.refl w (fun k_ => (P1_ k_) ∨ k_ = g))
 have HW0 := za hB.size
 have HB := za hB
 clear hB
 have H : ((rr_term.f k s0_0 s0_1 s0_2 s0_3 s0_4 l1).bind fun bt350 => (rr_sum.l0 k bt350.1 s0_0 bt350.2.1 bt350.2.2.1 bt350.2.2.2.1 bt350.2.2.2.2)) = some (r1, r2, r3, r4, r5) := h
 clear h
 replace H := Option.bind_eq_some_iff.mp H
 obtain ⟨⟨t350, t353, t354, t355, t356⟩, A30, H⟩ := H
 (try dsimp only at H)
 have A3 := za A30
 clear A30
 have H' := za H
 clear H
 obtain ⟨Ao4, co4, eo4⟩ := Kd.R_slice HO1.out
 subst eo4
 go_enter Try.func46, Try.ntmps46
 go_wp2_with (first | ((with_reducible refine gate_callee (f := 49) rfl ?_); refine goesL_ (some 9) rfl rfl Try.func49 zq18 rfl #[.pointer (some ⟨g, 0, none⟩), .slice Ao4 l1.length co4] rfl zq1 ?_; (with_reducible refine (IH49_.out k (by omega) g s0_0 s0_1 s0_2 s0_3 s0_4 (fun k_ => some k_ = (.slice Ao4 l1.length co4 : Value).ownBlock) (.slice Ao4 l1.length co4) l1 t350 t353 t354 t355 t356 w0 _ ?side1 ?side2 ?side3 A3.out).mono ?_); (case side1 => exact zq0); (case side2 => exact zq3); (case side3 => exact Kd.R_tight rfl HO1.out); rintro e w5 ⟨v351, rfl, ho0, hi, hb, hkp⟩; refine ⟨_, rfl, ?_⟩; replace HI0 := za (hi); have HO352 := za (Kd.R_mono (ok' := fun k_ => (P1_ k_ ∨ w.heap.size ≤ k_)) ho0 (fun k_ hk_ => Or.elim hk_ (fun hs_ => (HO1.out.1 k_ (hs_).symm)) (fun hn_ => (.inr (Nat.le_trans zq23 hn_))))); replace HK := za (Kept.then_ (S := (fun k_ => (P1_ k_) ∨ k_ = g)) zq6 hkp (fun k_ hs_ => Or.elim hs_ (fun hs_ => (fun e_ => Or.imp_left Or.inl ((HO1.out.1 k_ e_.symm))) hs_) (fun e_ => .inl (.inr e_)))); replace HB := za (hb); clear HO1))
 (try simp only [Act.put, List.setIfInBounds_toArray, List.set_cons_zero, List.set_cons_succ])
 go_loopg [1] k (fun kq v1 w' => ∃ (x1_1 : List (S48)) (x1001_1 : Int) (x1002_1 : Int) (x1003_1 : Int) (x1004_1 : Int), Aside0 (rr_sum.l0 kq x1_1 s0_0 x1001_1 x1002_1 x1003_1 x1004_1 = some (r1, r2, r3, r4, r5)) ∧ Aside0 (kq ≤ k) ∧ Aside0 (Kd.R k48 48 w' w0.heap.size (fun k_ => (P1_ k_ ∨ w.heap.size ≤ k_)) v1 x1_1) ∧ Aside0 (IsS57 w0 w' g s0_0 x1001_1 x1002_1 x1003_1 x1004_1) ∧ Aside0 (Kept w w' (fun k_ => (P1_ k_) ∨ k_ = g)) ∧ Aside0 (Below w0.heap.size w0 w'))
 case atStart => exact ⟨(t350), (t353), (t354), (t355), (t356), H', ⟨Nat.le_refl _⟩, ⟨by (with_reducible repeat (first | apply Kd.R_alloc | apply Kd.R_drewN | apply Kd.R_drew)); exact HO352.out⟩, ⟨zq0⟩, ⟨zq6⟩, ⟨zq3⟩⟩
 case round =>
  clear H'
  obtain ⟨x1_1, x1001_1, x1002_1, x1003_1, x1004_1, HA, HK1, HO_1, HI0, HK, HB⟩ := hrel
  cases gk with
  | zero => exact absurd HA.out (by simp [rr_sum.l0])
  | succ k1 =>
   have H := HA.out
   clear HA
   simp only [rr_sum.l0] at H
   by_cases c6 : x1003_1 = 0
   ·
    rw [if_pos c6] at H
    have c6b0 := beq_iff_eq.mpr c6
    have c6b1 := bne_eq_false_iff_eq.mpr c6
    clear c6
    replace H := Option.bind_eq_some_iff.mp H
    obtain ⟨⟨t357, t358, t359, t360, t361⟩, A70, H⟩ := H
    (try dsimp only at H)
    have A7 := za A70
    clear A70
    replace H := Option.bind_eq_some_iff.mp H
    obtain ⟨⟨t362, t363, t364, t365, t366⟩, A80, H⟩ := H
    (try dsimp only at H)
    have A8 := za A80
    clear A80
    by_cases c9 : t362 = true
    ·
     subst c9
     rw [if_pos rfl] at H
     replace H := Option.bind_eq_some_iff.mp H
     obtain ⟨⟨t367, t370, t371, t372, t373⟩, A100, H⟩ := H
     (try dsimp only at H)
     have A10 := za A100
     clear A100
     replace H := Option.bind_eq_some_iff.mp H
     obtain ⟨t374, A110, H⟩ := H
     (try dsimp only at H)
     have A11 := za A110
     clear A110
     have H' := za H
     clear H
     obtain ⟨ASz12_0, cSz12_0, HGz12, hgz12, HSz12_0⟩ := HI0.out
     have hcz12_0 := cellS57_0 HGz12
     have hcz12_1 := cellS57_1 HGz12
     have hcz12_2 := cellS57_2 HGz12
     have hcz12_3 := cellS57_3 HGz12
     have hcz12_4 := cellS57_4 HGz12
     have hfz12_1 := blk_frozen HGz12 1
     have hfz12_2 := blk_frozen HGz12 2
     have hfz12_3 := blk_frozen HGz12 3
     have hfz12_4 := blk_frozen HGz12 4
     clear HGz12 hgz12
     obtain ⟨Ao13, co13, eo13⟩ := Kd.R_slice HO_1.out
     subst eo13
     go_wp2_with (first | ((with_reducible refine gate_callee (f := 22) rfl ?_); refine goesL_ (some 19) rfl rfl Try.func22 zq18 rfl #[.pointer (some ⟨g, 0, none⟩)] rfl zq1 ?_; (with_reducible refine (rr_here.calls g s0_0 x1001_1 x1002_1 x1003_1 x1004_1 t357 t358 t359 t360 t361 w0 _ ?side1 ?side2 A7.out).mono ?_); (case side1 => exact zq0); (case side2 => exact zq3); rintro e w14 ⟨rfl, hi, hb, hk⟩; refine ⟨_, rfl, ?_⟩; replace HO_1 := za (Kd.R_mono (Kd.R_keep (IsS57.apart (show IsS57 w0 _ g s0_0 x1001_1 x1002_1 x1003_1 x1004_1 from zq0) (zr HO_1.out) (by decide)) hk (fun _ h => h.2)) (fun _ h => h.1)); replace HK := za (Kept.of_keep (S := (fun k_ => (P1_ k_) ∨ k_ = g)) zq6 hk (.inl (.inr rfl))); replace HB := za (hb); replace HI0 := za (hi)) | ((with_reducible refine gate_callee (f := 24) rfl ?_); refine goesL_ (some 23) rfl rfl Try.func24 zq18 rfl #[.pointer (some ⟨g, 0, none⟩), .string (⟨#[43]⟩ : ByteArray)] rfl zq1 ?_; (with_reducible refine (rr_take.calls g s0_0 t358 t359 t360 t361 (⟨#[43]⟩ : ByteArray) true t363 t364 t365 t366 w0 _ ?side1 ?side2 A8.out).mono ?_); (case side1 => exact zq0); (case side2 => exact zq3); rintro e w15 ⟨rfl, hi, hb, hk⟩; refine ⟨_, rfl, ?_⟩; replace HO_1 := za (Kd.R_mono (Kd.R_keep (IsS57.apart (show IsS57 w0 _ g s0_0 t358 t359 t360 t361 from zq0) (zr HO_1.out) (by decide)) hk (fun _ h => h.2)) (fun _ h => h.1)); replace HK := za (Kept.of_keep (S := (fun k_ => (P1_ k_) ∨ k_ = g)) zq6 hk (.inl (.inr rfl))); replace HB := za (hb); replace HI0 := za (hi)) | ((with_reducible refine gate_callee (f := 49) rfl ?_); refine goesL_ (some 26) rfl rfl Try.func49 zq18 rfl #[.pointer (some ⟨g, 0, none⟩), .slice Ao13 x1_1.length co13] rfl zq1 ?_; (with_reducible refine (IH49_.out k1 (by have := HK1.out; omega) g s0_0 t363 t364 t365 t366 (fun k_ => some k_ = (.slice Ao13 x1_1.length co13 : Value).ownBlock) (.slice Ao13 x1_1.length co13) x1_1 t367 t370 t371 t372 t373 w0 _ ?side1 ?side2 ?side3 A10.out).mono ?_); (case side1 => exact zq0); (case side2 => exact zq3); (case side3 => exact zq100); rintro e w16 ⟨v368, rfl, ho0, hi, hb, hkp⟩; refine ⟨_, rfl, ?_⟩; replace HI0 := za (hi); have HO369 := za (Kd.R_mono (ok' := fun k_ => (P1_ k_ ∨ w.heap.size ≤ k_)) ho0 (fun k_ hk_ => Or.elim hk_ (fun hs_ => (HO_1.out.1 k_ (hs_).symm)) (fun hn_ => (.inr (Nat.le_trans zq23 hn_))))); replace HK := za (Kept.then_ (S := (fun k_ => (P1_ k_) ∨ k_ = g)) zq6 hkp (fun k_ hs_ => Or.elim hs_ (fun hs_ => (fun e_ => Or.imp_left Or.inl ((HO_1.out.1 k_ e_.symm))) hs_) (fun e_ => .inl (.inr e_)))); replace HB := za (hb); clear HO_1; (try clear hb hkp ho0); obtain ⟨Ao17, co17, eo17⟩ := Kd.R_slice HO369.out; subst eo17) | ((with_reducible refine gate_callee (f := 47) rfl ?_); refine goesL_ (some 29) rfl rfl Try.func47 zq18 rfl #[.slice Ao17 t367.length co17, .int .i64 (wrap64 ((x1_1.length : Int) - 1)), .int .i64 5, .int .i64 t357] rfl zq1 ?_; (with_reducible refine (ra_two.calls (fun k_ => some k_ = (.slice Ao17 t367.length co17 : Value).ownBlock) (.slice Ao17 t367.length co17) t367 (wrap64 ((x1_1.length : Int) - 1)) 5 t357 t374 w0 _ ?side1 ?side2 A11.out).mono ?_); (case side1 => exact zq3); (case side2 => exact Kd.R_tight rfl HO369.out); rintro e w18 ⟨v375, rfl, ho0, hb, hkp⟩; refine ⟨_, rfl, ?_⟩; replace HI0 := za (IsS57.kept zq0 hkp (fun hs_ => (fun e_ => (IsS57.own_ne HI0.out HO369.out (by decide)) e_) hs_)); have HO376 := za (Kd.R_mono (ok' := fun k_ => (P1_ k_ ∨ w.heap.size ≤ k_)) ho0 (fun k_ hk_ => Or.elim hk_ (fun hs_ => (HO369.out.1 k_ (hs_).symm)) (fun hn_ => (.inr (Nat.le_trans zq23 hn_))))); replace HK := za (Kept.then_ (S := (fun k_ => (P1_ k_) ∨ k_ = g)) zq6 hkp (fun k_ hs_ => (fun e_ => Or.imp_left Or.inl ((HO369.out.1 k_ e_.symm))) hs_)); replace HB := za (hb); clear HO369))
     go_roundg k1
     case measure => have := HK1.out; omega
     case rel => exact ⟨(t374), (t370), (t371), (t372), (t373), H', ⟨by have := HK1.out; omega⟩, ⟨by (with_reducible repeat (first | apply Kd.R_alloc | apply Kd.R_drewN | apply Kd.R_drew)); exact HO376.out⟩, ⟨zq0⟩, ⟨zq6⟩, ⟨zq3⟩⟩
    ·
     replace c9 := Bool.eq_false_iff.mpr c9
     subst c9
     rw [if_neg (show ¬ (false = true) by decide)] at H
     replace H := Option.bind_eq_some_iff.mp H
     obtain ⟨⟨t377, t378, t379, t380, t381⟩, A190, H⟩ := H
     (try dsimp only at H)
     have A19 := za A190
     clear A190
     by_cases c20 : t377 = true
     ·
      subst c20
      rw [if_pos rfl] at H
      replace H := Option.bind_eq_some_iff.mp H
      obtain ⟨⟨t382, t385, t386, t387, t388⟩, A210, H⟩ := H
      (try dsimp only at H)
      have A21 := za A210
      clear A210
      replace H := Option.bind_eq_some_iff.mp H
      obtain ⟨t389, A220, H⟩ := H
      (try dsimp only at H)
      have A22 := za A220
      clear A220
      have H' := za H
      clear H
      obtain ⟨ASz23_0, cSz23_0, HGz23, hgz23, HSz23_0⟩ := HI0.out
      have hcz23_0 := cellS57_0 HGz23
      have hcz23_1 := cellS57_1 HGz23
      have hcz23_2 := cellS57_2 HGz23
      have hcz23_3 := cellS57_3 HGz23
      have hcz23_4 := cellS57_4 HGz23
      have hfz23_1 := blk_frozen HGz23 1
      have hfz23_2 := blk_frozen HGz23 2
      have hfz23_3 := blk_frozen HGz23 3
      have hfz23_4 := blk_frozen HGz23 4
      clear HGz23 hgz23
      obtain ⟨Ao24, co24, eo24⟩ := Kd.R_slice HO_1.out
      subst eo24
      go_wp2_with (first | ((with_reducible refine gate_callee (f := 22) rfl ?_); refine goesL_ (some 19) rfl rfl Try.func22 zq18 rfl #[.pointer (some ⟨g, 0, none⟩)] rfl zq1 ?_; (with_reducible refine (rr_here.calls g s0_0 x1001_1 x1002_1 x1003_1 x1004_1 t357 t358 t359 t360 t361 w0 _ ?side1 ?side2 A7.out).mono ?_); (case side1 => exact zq0); (case side2 => exact zq3); rintro e w25 ⟨rfl, hi, hb, hk⟩; refine ⟨_, rfl, ?_⟩; replace HO_1 := za (Kd.R_mono (Kd.R_keep (IsS57.apart (show IsS57 w0 _ g s0_0 x1001_1 x1002_1 x1003_1 x1004_1 from zq0) (zr HO_1.out) (by decide)) hk (fun _ h => h.2)) (fun _ h => h.1)); replace HK := za (Kept.of_keep (S := (fun k_ => (P1_ k_) ∨ k_ = g)) zq6 hk (.inl (.inr rfl))); replace HB := za (hb); replace HI0 := za (hi)) | ((with_reducible refine gate_callee (f := 24) rfl ?_); refine goesL_ (some 23) rfl rfl Try.func24 zq18 rfl #[.pointer (some ⟨g, 0, none⟩), .string (⟨#[43]⟩ : ByteArray)] rfl zq1 ?_; (with_reducible refine (rr_take.calls g s0_0 t358 t359 t360 t361 (⟨#[43]⟩ : ByteArray) false t363 t364 t365 t366 w0 _ ?side1 ?side2 A8.out).mono ?_); (case side1 => exact zq0); (case side2 => exact zq3); rintro e w26 ⟨rfl, hi, hb, hk⟩; refine ⟨_, rfl, ?_⟩; replace HO_1 := za (Kd.R_mono (Kd.R_keep (IsS57.apart (show IsS57 w0 _ g s0_0 t358 t359 t360 t361 from zq0) (zr HO_1.out) (by decide)) hk (fun _ h => h.2)) (fun _ h => h.1)); replace HK := za (Kept.of_keep (S := (fun k_ => (P1_ k_) ∨ k_ = g)) zq6 hk (.inl (.inr rfl))); replace HB := za (hb); replace HI0 := za (hi)) | ((with_reducible refine gate_callee (f := 24) rfl ?_); refine goesL_ (some 32) rfl rfl Try.func24 zq18 rfl #[.pointer (some ⟨g, 0, none⟩), .string (⟨#[45]⟩ : ByteArray)] rfl zq1 ?_; (with_reducible refine (rr_take.calls g s0_0 t363 t364 t365 t366 (⟨#[45]⟩ : ByteArray) true t378 t379 t380 t381 w0 _ ?side1 ?side2 A19.out).mono ?_); (case side1 => exact zq0); (case side2 => exact zq3); rintro e w27 ⟨rfl, hi, hb, hk⟩; refine ⟨_, rfl, ?_⟩; replace HO_1 := za (Kd.R_mono (Kd.R_keep (IsS57.apart (show IsS57 w0 _ g s0_0 t363 t364 t365 t366 from zq0) (zr HO_1.out) (by decide)) hk (fun _ h => h.2)) (fun _ h => h.1)); replace HK := za (Kept.of_keep (S := (fun k_ => (P1_ k_) ∨ k_ = g)) zq6 hk (.inl (.inr rfl))); replace HB := za (hb); replace HI0 := za (hi)) | ((with_reducible refine gate_callee (f := 49) rfl ?_); refine goesL_ (some 35) rfl rfl Try.func49 zq18 rfl #[.pointer (some ⟨g, 0, none⟩), .slice Ao24 x1_1.length co24] rfl zq1 ?_; (with_reducible refine (IH49_.out k1 (by have := HK1.out; omega) g s0_0 t378 t379 t380 t381 (fun k_ => some k_ = (.slice Ao24 x1_1.length co24 : Value).ownBlock) (.slice Ao24 x1_1.length co24) x1_1 t382 t385 t386 t387 t388 w0 _ ?side1 ?side2 ?side3 A21.out).mono ?_); (case side1 => exact zq0); (case side2 => exact zq3); (case side3 => exact zq100); rintro e w28 ⟨v383, rfl, ho0, hi, hb, hkp⟩; refine ⟨_, rfl, ?_⟩; replace HI0 := za (hi); have HO384 := za (Kd.R_mono (ok' := fun k_ => (P1_ k_ ∨ w.heap.size ≤ k_)) ho0 (fun k_ hk_ => Or.elim hk_ (fun hs_ => (HO_1.out.1 k_ (hs_).symm)) (fun hn_ => (.inr (Nat.le_trans zq23 hn_))))); replace HK := za (Kept.then_ (S := (fun k_ => (P1_ k_) ∨ k_ = g)) zq6 hkp (fun k_ hs_ => Or.elim hs_ (fun hs_ => (fun e_ => Or.imp_left Or.inl ((HO_1.out.1 k_ e_.symm))) hs_) (fun e_ => .inl (.inr e_)))); replace HB := za (hb); clear HO_1; (try clear hb hkp ho0); obtain ⟨Ao29, co29, eo29⟩ := Kd.R_slice HO384.out; subst eo29) | ((with_reducible refine gate_callee (f := 47) rfl ?_); refine goesL_ (some 38) rfl rfl Try.func47 zq18 rfl #[.slice Ao29 t382.length co29, .int .i64 (wrap64 ((x1_1.length : Int) - 1)), .int .i64 6, .int .i64 t357] rfl zq1 ?_; (with_reducible refine (ra_two.calls (fun k_ => some k_ = (.slice Ao29 t382.length co29 : Value).ownBlock) (.slice Ao29 t382.length co29) t382 (wrap64 ((x1_1.length : Int) - 1)) 6 t357 t389 w0 _ ?side1 ?side2 A22.out).mono ?_); (case side1 => exact zq3); (case side2 => exact Kd.R_tight rfl HO384.out); rintro e w30 ⟨v390, rfl, ho0, hb, hkp⟩; refine ⟨_, rfl, ?_⟩; replace HI0 := za (IsS57.kept zq0 hkp (fun hs_ => (fun e_ => (IsS57.own_ne HI0.out HO384.out (by decide)) e_) hs_)); have HO391 := za (Kd.R_mono (ok' := fun k_ => (P1_ k_ ∨ w.heap.size ≤ k_)) ho0 (fun k_ hk_ => Or.elim hk_ (fun hs_ => (HO384.out.1 k_ (hs_).symm)) (fun hn_ => (.inr (Nat.le_trans zq23 hn_))))); replace HK := za (Kept.then_ (S := (fun k_ => (P1_ k_) ∨ k_ = g)) zq6 hkp (fun k_ hs_ => (fun e_ => Or.imp_left Or.inl ((HO384.out.1 k_ e_.symm))) hs_)); replace HB := za (hb); clear HO384))
      go_roundg k1
      case measure => have := HK1.out; omega
      case rel => exact ⟨(t389), (t385), (t386), (t387), (t388), H', ⟨by have := HK1.out; omega⟩, ⟨by (with_reducible repeat (first | apply Kd.R_alloc | apply Kd.R_drewN | apply Kd.R_drew)); exact HO391.out⟩, ⟨zq0⟩, ⟨zq6⟩, ⟨zq3⟩⟩
     ·
      replace c20 := Bool.eq_false_iff.mpr c20
      subst c20
      rw [if_neg (show ¬ (false = true) by decide)] at H
      simp only [Option.some.injEq, Prod.mk.injEq] at H
      obtain ⟨rfl, rfl, rfl, rfl, rfl⟩ := H
      obtain ⟨ASz31_0, cSz31_0, HGz31, hgz31, HSz31_0⟩ := HI0.out
      have hcz31_0 := cellS57_0 HGz31
      have hcz31_1 := cellS57_1 HGz31
      have hcz31_2 := cellS57_2 HGz31
      have hcz31_3 := cellS57_3 HGz31
      have hcz31_4 := cellS57_4 HGz31
      have hfz31_1 := blk_frozen HGz31 1
      have hfz31_2 := blk_frozen HGz31 2
      have hfz31_3 := blk_frozen HGz31 3
      have hfz31_4 := blk_frozen HGz31 4
      clear HGz31 hgz31
      obtain ⟨Ao32, co32, eo32⟩ := Kd.R_slice HO_1.out
      subst eo32
      go_wp2_with (first | ((with_reducible refine gate_callee (f := 22) rfl ?_); refine goesL_ (some 19) rfl rfl Try.func22 zq18 rfl #[.pointer (some ⟨g, 0, none⟩)] rfl zq1 ?_; (with_reducible refine (rr_here.calls g s0_0 x1001_1 x1002_1 x1003_1 x1004_1 t357 t358 t359 t360 t361 w0 _ ?side1 ?side2 A7.out).mono ?_); (case side1 => exact zq0); (case side2 => exact zq3); rintro e w33 ⟨rfl, hi, hb, hk⟩; refine ⟨_, rfl, ?_⟩; replace HO_1 := za (Kd.R_mono (Kd.R_keep (IsS57.apart (show IsS57 w0 _ g s0_0 x1001_1 x1002_1 x1003_1 x1004_1 from zq0) (zr HO_1.out) (by decide)) hk (fun _ h => h.2)) (fun _ h => h.1)); replace HK := za (Kept.of_keep (S := (fun k_ => (P1_ k_) ∨ k_ = g)) zq6 hk (.inl (.inr rfl))); replace HB := za (hb); replace HI0 := za (hi)) | ((with_reducible refine gate_callee (f := 24) rfl ?_); refine goesL_ (some 23) rfl rfl Try.func24 zq18 rfl #[.pointer (some ⟨g, 0, none⟩), .string (⟨#[43]⟩ : ByteArray)] rfl zq1 ?_; (with_reducible refine (rr_take.calls g s0_0 t358 t359 t360 t361 (⟨#[43]⟩ : ByteArray) false t363 t364 t365 t366 w0 _ ?side1 ?side2 A8.out).mono ?_); (case side1 => exact zq0); (case side2 => exact zq3); rintro e w34 ⟨rfl, hi, hb, hk⟩; refine ⟨_, rfl, ?_⟩; replace HO_1 := za (Kd.R_mono (Kd.R_keep (IsS57.apart (show IsS57 w0 _ g s0_0 t358 t359 t360 t361 from zq0) (zr HO_1.out) (by decide)) hk (fun _ h => h.2)) (fun _ h => h.1)); replace HK := za (Kept.of_keep (S := (fun k_ => (P1_ k_) ∨ k_ = g)) zq6 hk (.inl (.inr rfl))); replace HB := za (hb); replace HI0 := za (hi)) | ((with_reducible refine gate_callee (f := 24) rfl ?_); refine goesL_ (some 32) rfl rfl Try.func24 zq18 rfl #[.pointer (some ⟨g, 0, none⟩), .string (⟨#[45]⟩ : ByteArray)] rfl zq1 ?_; (with_reducible refine (rr_take.calls g s0_0 t363 t364 t365 t366 (⟨#[45]⟩ : ByteArray) false t378 t379 t380 t381 w0 _ ?side1 ?side2 A19.out).mono ?_); (case side1 => exact zq0); (case side2 => exact zq3); rintro e w35 ⟨rfl, hi, hb, hk⟩; refine ⟨_, rfl, ?_⟩; replace HO_1 := za (Kd.R_mono (Kd.R_keep (IsS57.apart (show IsS57 w0 _ g s0_0 t363 t364 t365 t366 from zq0) (zr HO_1.out) (by decide)) hk (fun _ h => h.2)) (fun _ h => h.1)); replace HK := za (Kept.of_keep (S := (fun k_ => (P1_ k_) ∨ k_ = g)) zq6 hk (.inl (.inr rfl))); replace HB := za (hb); replace HI0 := za (hi)))
      go_ret
      exact ⟨_, zq16, zq68, zq0, zq3, zq6⟩
   ·
    rw [if_neg c6] at H
    have c6b0 := beq_eq_false_iff_ne.mpr c6
    have c6b1 := bne_iff_ne.mpr c6
    simp only [Option.some.injEq, Prod.mk.injEq] at H
    obtain ⟨rfl, rfl, rfl, rfl, rfl⟩ := H
    obtain ⟨ASz36_0, cSz36_0, HGz36, hgz36, HSz36_0⟩ := HI0.out
    have hcz36_0 := cellS57_0 HGz36
    have hcz36_1 := cellS57_1 HGz36
    have hcz36_2 := cellS57_2 HGz36
    have hcz36_3 := cellS57_3 HGz36
    have hcz36_4 := cellS57_4 HGz36
    have hfz36_1 := blk_frozen HGz36 1
    have hfz36_2 := blk_frozen HGz36 2
    have hfz36_3 := blk_frozen HGz36 3
    have hfz36_4 := blk_frozen HGz36 4
    clear HGz36 hgz36
    go_wp2
    go_ret
    exact ⟨_, zq16, zq68, zq0, zq3, zq6⟩
theorem rr_term.step (k : Nat) (IH50_ : Aside0 (∀ m, m < k → ∀ (g : Nat) (s0_0 : List (S69)) (s0_1 : Int) (s0_2 : Int) (s0_3 : Int) (s0_4 : Int) (P1_ : Nat → Prop) (u9000_ : Value) (l1 : List (S48)) (r1 : List (S48)) (r2 : Int) (r3 : Int) (r4 : Int) (r5 : Int) (w0 w : World) (hI : IsS57 w0 w g s0_0 s0_1 s0_2 s0_3 s0_4) (hB : Below w0.heap.size w0 w) (ho1 : Kd.R k48 48 w w0.heap.size P1_ u9000_ l1) (h : rr_unary.f m s0_0 s0_1 s0_2 s0_3 s0_4 l1 = some (r1, r2, r3, r4, r5)),
  Calls Try.prog 50 #[.pointer (some ⟨g, 0, none⟩), u9000_] w fun e w' => ∃ v0_ : Value, e = .returned (v0_) ∧ Kd.R k48 48 w' w0.heap.size (fun k_ => (P1_ k_ ∨ w.heap.size ≤ k_)) v0_ r1 ∧ IsS57 w0 w' g s0_0 r2 r3 r4 r5 ∧ Below w0.heap.size w0 w' ∧ Kept w w' (fun k_ => (P1_ k_) ∨ k_ = g))) (IH43_ : Aside0 (∀ m, m < k → ∀ (g : Nat) (s0_0 : List (S69)) (s0_1 : Int) (s0_2 : Int) (s0_3 : Int) (s0_4 : Int) (P1_ : Nat → Prop) (u9000_ : Value) (l1 : List (S48)) (r1 : List (S48)) (r2 : Int) (r3 : Int) (r4 : Int) (r5 : Int) (w0 w : World) (hI : IsS57 w0 w g s0_0 s0_1 s0_2 s0_3 s0_4) (hB : Below w0.heap.size w0 w) (ho1 : Kd.R k48 48 w w0.heap.size P1_ u9000_ l1) (h : rr_expr.f m s0_0 s0_1 s0_2 s0_3 s0_4 l1 = some (r1, r2, r3, r4, r5)),
  Calls Try.prog 43 #[.pointer (some ⟨g, 0, none⟩), u9000_] w fun e w' => ∃ v0_ : Value, e = .returned (v0_) ∧ Kd.R k48 48 w' w0.heap.size (fun k_ => (P1_ k_ ∨ w.heap.size ≤ k_)) v0_ r1 ∧ IsS57 w0 w' g s0_0 r2 r3 r4 r5 ∧ Below w0.heap.size w0 w' ∧ Kept w w' (fun k_ => (P1_ k_) ∨ k_ = g))) (IH46_ : Aside0 (∀ m, m < k → ∀ (g : Nat) (s0_0 : List (S69)) (s0_1 : Int) (s0_2 : Int) (s0_3 : Int) (s0_4 : Int) (P1_ : Nat → Prop) (u9000_ : Value) (l1 : List (S48)) (r1 : List (S48)) (r2 : Int) (r3 : Int) (r4 : Int) (r5 : Int) (w0 w : World) (hI : IsS57 w0 w g s0_0 s0_1 s0_2 s0_3 s0_4) (hB : Below w0.heap.size w0 w) (ho1 : Kd.R k48 48 w w0.heap.size P1_ u9000_ l1) (h : rr_sum.f m s0_0 s0_1 s0_2 s0_3 s0_4 l1 = some (r1, r2, r3, r4, r5)),
  Calls Try.prog 46 #[.pointer (some ⟨g, 0, none⟩), u9000_] w fun e w' => ∃ v0_ : Value, e = .returned (v0_) ∧ Kd.R k48 48 w' w0.heap.size (fun k_ => (P1_ k_ ∨ w.heap.size ≤ k_)) v0_ r1 ∧ IsS57 w0 w' g s0_0 r2 r3 r4 r5 ∧ Below w0.heap.size w0 w' ∧ Kept w w' (fun k_ => (P1_ k_) ∨ k_ = g))) (IH49_ : Aside0 (∀ m, m < k → ∀ (g : Nat) (s0_0 : List (S69)) (s0_1 : Int) (s0_2 : Int) (s0_3 : Int) (s0_4 : Int) (P1_ : Nat → Prop) (u9000_ : Value) (l1 : List (S48)) (r1 : List (S48)) (r2 : Int) (r3 : Int) (r4 : Int) (r5 : Int) (w0 w : World) (hI : IsS57 w0 w g s0_0 s0_1 s0_2 s0_3 s0_4) (hB : Below w0.heap.size w0 w) (ho1 : Kd.R k48 48 w w0.heap.size P1_ u9000_ l1) (h : rr_term.f m s0_0 s0_1 s0_2 s0_3 s0_4 l1 = some (r1, r2, r3, r4, r5)),
  Calls Try.prog 49 #[.pointer (some ⟨g, 0, none⟩), u9000_] w fun e w' => ∃ v0_ : Value, e = .returned (v0_) ∧ Kd.R k48 48 w' w0.heap.size (fun k_ => (P1_ k_ ∨ w.heap.size ≤ k_)) v0_ r1 ∧ IsS57 w0 w' g s0_0 r2 r3 r4 r5 ∧ Below w0.heap.size w0 w' ∧ Kept w w' (fun k_ => (P1_ k_) ∨ k_ = g))) : ∀ (g : Nat) (s0_0 : List (S69)) (s0_1 : Int) (s0_2 : Int) (s0_3 : Int) (s0_4 : Int) (P1_ : Nat → Prop) (u9000_ : Value) (l1 : List (S48)) (r1 : List (S48)) (r2 : Int) (r3 : Int) (r4 : Int) (r5 : Int) (w0 w : World) (hI : IsS57 w0 w g s0_0 s0_1 s0_2 s0_3 s0_4) (hB : Below w0.heap.size w0 w) (ho1 : Kd.R k48 48 w w0.heap.size P1_ u9000_ l1) (h : rr_term.f k s0_0 s0_1 s0_2 s0_3 s0_4 l1 = some (r1, r2, r3, r4, r5)),
  Calls Try.prog 49 #[.pointer (some ⟨g, 0, none⟩), u9000_] w fun e w' => ∃ v0_ : Value, e = .returned (v0_) ∧ Kd.R k48 48 w' w0.heap.size (fun k_ => (P1_ k_ ∨ w.heap.size ≤ k_)) v0_ r1 ∧ IsS57 w0 w' g s0_0 r2 r3 r4 r5 ∧ Below w0.heap.size w0 w' ∧ Kept w w' (fun k_ => (P1_ k_) ∨ k_ = g) := by
 intro g s0_0 s0_1 s0_2 s0_3 s0_4 P1_ u9000_ l1 r1 r2 r3 r4 r5 w0 w hI hB ho1 h
 cases k with
 | zero => exact absurd h (by simp [rr_term.f])
 | succ k =>
 simp only [rr_term.f] at h
 have HO1 := za (show Kd.R k48 48 w w0.heap.size (fun k_ => (P1_ k_ ∨ w.heap.size ≤ k_)) u9000_ l1 from Kd.R_mono ho1 (fun k_ hk => (.inl hk)))
 have HI0 := za hI
 have HL := za hB.size
 clear hI
 have HK := za (Kept.refl w (fun k_ => (P1_ k_) ∨ k_ = g))
 have HW0 := za hB.size
 have HB := za hB
 clear hB
 have H : ((rr_unary.f k s0_0 s0_1 s0_2 s0_3 s0_4 l1).bind fun bt392 => (rr_term.l0 k bt392.1 s0_0 bt392.2.1 bt392.2.2.1 bt392.2.2.2.1 bt392.2.2.2.2)) = some (r1, r2, r3, r4, r5) := h
 clear h
 replace H := Option.bind_eq_some_iff.mp H
 obtain ⟨⟨t392, t395, t396, t397, t398⟩, A30, H⟩ := H
 (try dsimp only at H)
 have A3 := za A30
 clear A30
 have H' := za H
 clear H
 obtain ⟨Ao4, co4, eo4⟩ := Kd.R_slice HO1.out
 subst eo4
 go_enter Try.func49, Try.ntmps49
 go_wp2_with (first | ((with_reducible refine gate_callee (f := 50) rfl ?_); refine goesL_ (some 9) rfl rfl Try.func50 zq18 rfl #[.pointer (some ⟨g, 0, none⟩), .slice Ao4 l1.length co4] rfl zq1 ?_; (with_reducible refine (IH50_.out k (by omega) g s0_0 s0_1 s0_2 s0_3 s0_4 (fun k_ => some k_ = (.slice Ao4 l1.length co4 : Value).ownBlock) (.slice Ao4 l1.length co4) l1 t392 t395 t396 t397 t398 w0 _ ?side1 ?side2 ?side3 A3.out).mono ?_); (case side1 => exact zq0); (case side2 => exact zq3); (case side3 => exact Kd.R_tight rfl HO1.out); rintro e w5 ⟨v393, rfl, ho0, hi, hb, hkp⟩; refine ⟨_, rfl, ?_⟩; replace HI0 := za (hi); have HO394 := za (Kd.R_mono (ok' := fun k_ => (P1_ k_ ∨ w.heap.size ≤ k_)) ho0 (fun k_ hk_ => Or.elim hk_ (fun hs_ => (HO1.out.1 k_ (hs_).symm)) (fun hn_ => (.inr (Nat.le_trans zq23 hn_))))); replace HK := za (Kept.then_ (S := (fun k_ => (P1_ k_) ∨ k_ = g)) zq6 hkp (fun k_ hs_ => Or.elim hs_ (fun hs_ => (fun e_ => Or.imp_left Or.inl ((HO1.out.1 k_ e_.symm))) hs_) (fun e_ => .inl (.inr e_)))); replace HB := za (hb); clear HO1))
 (try simp only [Act.put, List.setIfInBounds_toArray, List.set_cons_zero, List.set_cons_succ])
 go_loopg [1] k (fun kq v1 w' => ∃ (x1_1 : List (S48)) (x1001_1 : Int) (x1002_1 : Int) (x1003_1 : Int) (x1004_1 : Int), Aside0 (rr_term.l0 kq x1_1 s0_0 x1001_1 x1002_1 x1003_1 x1004_1 = some (r1, r2, r3, r4, r5)) ∧ Aside0 (kq ≤ k) ∧ Aside0 (Kd.R k48 48 w' w0.heap.size (fun k_ => (P1_ k_ ∨ w.heap.size ≤ k_)) v1 x1_1) ∧ Aside0 (IsS57 w0 w' g s0_0 x1001_1 x1002_1 x1003_1 x1004_1) ∧ Aside0 (Kept w w' (fun k_ => (P1_ k_) ∨ k_ = g)) ∧ Aside0 (Below w0.heap.size w0 w'))
 case atStart => exact ⟨(t392), (t395), (t396), (t397), (t398), H', ⟨Nat.le_refl _⟩, ⟨by (with_reducible repeat (first | apply Kd.R_alloc | apply Kd.R_drewN | apply Kd.R_drew)); exact HO394.out⟩, ⟨zq0⟩, ⟨zq6⟩, ⟨zq3⟩⟩
 case round =>
  clear H'
  obtain ⟨x1_1, x1001_1, x1002_1, x1003_1, x1004_1, HA, HK1, HO_1, HI0, HK, HB⟩ := hrel
  cases gk with
  | zero => exact absurd HA.out (by simp [rr_term.l0])
  | succ k1 =>
   have H := HA.out
   clear HA
   simp only [rr_term.l0] at H
   by_cases c6 : x1003_1 = 0
   ·
    rw [if_pos c6] at H
    have c6b0 := beq_iff_eq.mpr c6
    have c6b1 := bne_eq_false_iff_eq.mpr c6
    clear c6
    replace H := Option.bind_eq_some_iff.mp H
    obtain ⟨⟨t399, t400, t401, t402, t403⟩, A70, H⟩ := H
    (try dsimp only at H)
    have A7 := za A70
    clear A70
    replace H := Option.bind_eq_some_iff.mp H
    obtain ⟨⟨t404, t405, t406, t407, t408⟩, A80, H⟩ := H
    (try dsimp only at H)
    have A8 := za A80
    clear A80
    by_cases c9 : t404 = true
    ·
     subst c9
     rw [if_pos rfl] at H
     replace H := Option.bind_eq_some_iff.mp H
     obtain ⟨⟨t409, t412, t413, t414, t415⟩, A100, H⟩ := H
     (try dsimp only at H)
     have A10 := za A100
     clear A100
     replace H := Option.bind_eq_some_iff.mp H
     obtain ⟨t416, A110, H⟩ := H
     (try dsimp only at H)
     have A11 := za A110
     clear A110
     have H' := za H
     clear H
     obtain ⟨ASz12_0, cSz12_0, HGz12, hgz12, HSz12_0⟩ := HI0.out
     have hcz12_0 := cellS57_0 HGz12
     have hcz12_1 := cellS57_1 HGz12
     have hcz12_2 := cellS57_2 HGz12
     have hcz12_3 := cellS57_3 HGz12
     have hcz12_4 := cellS57_4 HGz12
     have hfz12_1 := blk_frozen HGz12 1
     have hfz12_2 := blk_frozen HGz12 2
     have hfz12_3 := blk_frozen HGz12 3
     have hfz12_4 := blk_frozen HGz12 4
     clear HGz12 hgz12
     obtain ⟨Ao13, co13, eo13⟩ := Kd.R_slice HO_1.out
     subst eo13
     go_wp2_with (first | ((with_reducible refine gate_callee (f := 22) rfl ?_); refine goesL_ (some 19) rfl rfl Try.func22 zq18 rfl #[.pointer (some ⟨g, 0, none⟩)] rfl zq1 ?_; (with_reducible refine (rr_here.calls g s0_0 x1001_1 x1002_1 x1003_1 x1004_1 t399 t400 t401 t402 t403 w0 _ ?side1 ?side2 A7.out).mono ?_); (case side1 => exact zq0); (case side2 => exact zq3); rintro e w14 ⟨rfl, hi, hb, hk⟩; refine ⟨_, rfl, ?_⟩; replace HO_1 := za (Kd.R_mono (Kd.R_keep (IsS57.apart (show IsS57 w0 _ g s0_0 x1001_1 x1002_1 x1003_1 x1004_1 from zq0) (zr HO_1.out) (by decide)) hk (fun _ h => h.2)) (fun _ h => h.1)); replace HK := za (Kept.of_keep (S := (fun k_ => (P1_ k_) ∨ k_ = g)) zq6 hk (.inl (.inr rfl))); replace HB := za (hb); replace HI0 := za (hi)) | ((with_reducible refine gate_callee (f := 24) rfl ?_); refine goesL_ (some 23) rfl rfl Try.func24 zq18 rfl #[.pointer (some ⟨g, 0, none⟩), .string (⟨#[42]⟩ : ByteArray)] rfl zq1 ?_; (with_reducible refine (rr_take.calls g s0_0 t400 t401 t402 t403 (⟨#[42]⟩ : ByteArray) true t405 t406 t407 t408 w0 _ ?side1 ?side2 A8.out).mono ?_); (case side1 => exact zq0); (case side2 => exact zq3); rintro e w15 ⟨rfl, hi, hb, hk⟩; refine ⟨_, rfl, ?_⟩; replace HO_1 := za (Kd.R_mono (Kd.R_keep (IsS57.apart (show IsS57 w0 _ g s0_0 t400 t401 t402 t403 from zq0) (zr HO_1.out) (by decide)) hk (fun _ h => h.2)) (fun _ h => h.1)); replace HK := za (Kept.of_keep (S := (fun k_ => (P1_ k_) ∨ k_ = g)) zq6 hk (.inl (.inr rfl))); replace HB := za (hb); replace HI0 := za (hi)) | ((with_reducible refine gate_callee (f := 50) rfl ?_); refine goesL_ (some 26) rfl rfl Try.func50 zq18 rfl #[.pointer (some ⟨g, 0, none⟩), .slice Ao13 x1_1.length co13] rfl zq1 ?_; (with_reducible refine (IH50_.out k1 (by have := HK1.out; omega) g s0_0 t405 t406 t407 t408 (fun k_ => some k_ = (.slice Ao13 x1_1.length co13 : Value).ownBlock) (.slice Ao13 x1_1.length co13) x1_1 t409 t412 t413 t414 t415 w0 _ ?side1 ?side2 ?side3 A10.out).mono ?_); (case side1 => exact zq0); (case side2 => exact zq3); (case side3 => exact zq100); rintro e w16 ⟨v410, rfl, ho0, hi, hb, hkp⟩; refine ⟨_, rfl, ?_⟩; replace HI0 := za (hi); have HO411 := za (Kd.R_mono (ok' := fun k_ => (P1_ k_ ∨ w.heap.size ≤ k_)) ho0 (fun k_ hk_ => Or.elim hk_ (fun hs_ => (HO_1.out.1 k_ (hs_).symm)) (fun hn_ => (.inr (Nat.le_trans zq23 hn_))))); replace HK := za (Kept.then_ (S := (fun k_ => (P1_ k_) ∨ k_ = g)) zq6 hkp (fun k_ hs_ => Or.elim hs_ (fun hs_ => (fun e_ => Or.imp_left Or.inl ((HO_1.out.1 k_ e_.symm))) hs_) (fun e_ => .inl (.inr e_)))); replace HB := za (hb); clear HO_1; (try clear hb hkp ho0); obtain ⟨Ao17, co17, eo17⟩ := Kd.R_slice HO411.out; subst eo17) | ((with_reducible refine gate_callee (f := 47) rfl ?_); refine goesL_ (some 29) rfl rfl Try.func47 zq18 rfl #[.slice Ao17 t409.length co17, .int .i64 (wrap64 ((x1_1.length : Int) - 1)), .int .i64 7, .int .i64 t399] rfl zq1 ?_; (with_reducible refine (ra_two.calls (fun k_ => some k_ = (.slice Ao17 t409.length co17 : Value).ownBlock) (.slice Ao17 t409.length co17) t409 (wrap64 ((x1_1.length : Int) - 1)) 7 t399 t416 w0 _ ?side1 ?side2 A11.out).mono ?_); (case side1 => exact zq3); (case side2 => exact Kd.R_tight rfl HO411.out); rintro e w18 ⟨v417, rfl, ho0, hb, hkp⟩; refine ⟨_, rfl, ?_⟩; replace HI0 := za (IsS57.kept zq0 hkp (fun hs_ => (fun e_ => (IsS57.own_ne HI0.out HO411.out (by decide)) e_) hs_)); have HO418 := za (Kd.R_mono (ok' := fun k_ => (P1_ k_ ∨ w.heap.size ≤ k_)) ho0 (fun k_ hk_ => Or.elim hk_ (fun hs_ => (HO411.out.1 k_ (hs_).symm)) (fun hn_ => (.inr (Nat.le_trans zq23 hn_))))); replace HK := za (Kept.then_ (S := (fun k_ => (P1_ k_) ∨ k_ = g)) zq6 hkp (fun k_ hs_ => (fun e_ => Or.imp_left Or.inl ((HO411.out.1 k_ e_.symm))) hs_)); replace HB := za (hb); clear HO411))
     go_roundg k1
     case measure => have := HK1.out; omega
     case rel => exact ⟨(t416), (t412), (t413), (t414), (t415), H', ⟨by have := HK1.out; omega⟩, ⟨by (with_reducible repeat (first | apply Kd.R_alloc | apply Kd.R_drewN | apply Kd.R_drew)); exact HO418.out⟩, ⟨zq0⟩, ⟨zq6⟩, ⟨zq3⟩⟩
    ·
     replace c9 := Bool.eq_false_iff.mpr c9
     subst c9
     rw [if_neg (show ¬ (false = true) by decide)] at H
     replace H := Option.bind_eq_some_iff.mp H
     obtain ⟨⟨t419, t420, t421, t422, t423⟩, A190, H⟩ := H
     (try dsimp only at H)
     have A19 := za A190
     clear A190
     by_cases c20 : t419 = true
     ·
      subst c20
      rw [if_pos rfl] at H
      replace H := Option.bind_eq_some_iff.mp H
      obtain ⟨⟨t424, t427, t428, t429, t430⟩, A210, H⟩ := H
      (try dsimp only at H)
      have A21 := za A210
      clear A210
      replace H := Option.bind_eq_some_iff.mp H
      obtain ⟨t431, A220, H⟩ := H
      (try dsimp only at H)
      have A22 := za A220
      clear A220
      have H' := za H
      clear H
      obtain ⟨ASz23_0, cSz23_0, HGz23, hgz23, HSz23_0⟩ := HI0.out
      have hcz23_0 := cellS57_0 HGz23
      have hcz23_1 := cellS57_1 HGz23
      have hcz23_2 := cellS57_2 HGz23
      have hcz23_3 := cellS57_3 HGz23
      have hcz23_4 := cellS57_4 HGz23
      have hfz23_1 := blk_frozen HGz23 1
      have hfz23_2 := blk_frozen HGz23 2
      have hfz23_3 := blk_frozen HGz23 3
      have hfz23_4 := blk_frozen HGz23 4
      clear HGz23 hgz23
      obtain ⟨Ao24, co24, eo24⟩ := Kd.R_slice HO_1.out
      subst eo24
      go_wp2_with (first | ((with_reducible refine gate_callee (f := 22) rfl ?_); refine goesL_ (some 19) rfl rfl Try.func22 zq18 rfl #[.pointer (some ⟨g, 0, none⟩)] rfl zq1 ?_; (with_reducible refine (rr_here.calls g s0_0 x1001_1 x1002_1 x1003_1 x1004_1 t399 t400 t401 t402 t403 w0 _ ?side1 ?side2 A7.out).mono ?_); (case side1 => exact zq0); (case side2 => exact zq3); rintro e w25 ⟨rfl, hi, hb, hk⟩; refine ⟨_, rfl, ?_⟩; replace HO_1 := za (Kd.R_mono (Kd.R_keep (IsS57.apart (show IsS57 w0 _ g s0_0 x1001_1 x1002_1 x1003_1 x1004_1 from zq0) (zr HO_1.out) (by decide)) hk (fun _ h => h.2)) (fun _ h => h.1)); replace HK := za (Kept.of_keep (S := (fun k_ => (P1_ k_) ∨ k_ = g)) zq6 hk (.inl (.inr rfl))); replace HB := za (hb); replace HI0 := za (hi)) | ((with_reducible refine gate_callee (f := 24) rfl ?_); refine goesL_ (some 23) rfl rfl Try.func24 zq18 rfl #[.pointer (some ⟨g, 0, none⟩), .string (⟨#[42]⟩ : ByteArray)] rfl zq1 ?_; (with_reducible refine (rr_take.calls g s0_0 t400 t401 t402 t403 (⟨#[42]⟩ : ByteArray) false t405 t406 t407 t408 w0 _ ?side1 ?side2 A8.out).mono ?_); (case side1 => exact zq0); (case side2 => exact zq3); rintro e w26 ⟨rfl, hi, hb, hk⟩; refine ⟨_, rfl, ?_⟩; replace HO_1 := za (Kd.R_mono (Kd.R_keep (IsS57.apart (show IsS57 w0 _ g s0_0 t400 t401 t402 t403 from zq0) (zr HO_1.out) (by decide)) hk (fun _ h => h.2)) (fun _ h => h.1)); replace HK := za (Kept.of_keep (S := (fun k_ => (P1_ k_) ∨ k_ = g)) zq6 hk (.inl (.inr rfl))); replace HB := za (hb); replace HI0 := za (hi)) | ((with_reducible refine gate_callee (f := 24) rfl ?_); refine goesL_ (some 32) rfl rfl Try.func24 zq18 rfl #[.pointer (some ⟨g, 0, none⟩), .string (⟨#[47]⟩ : ByteArray)] rfl zq1 ?_; (with_reducible refine (rr_take.calls g s0_0 t405 t406 t407 t408 (⟨#[47]⟩ : ByteArray) true t420 t421 t422 t423 w0 _ ?side1 ?side2 A19.out).mono ?_); (case side1 => exact zq0); (case side2 => exact zq3); rintro e w27 ⟨rfl, hi, hb, hk⟩; refine ⟨_, rfl, ?_⟩; replace HO_1 := za (Kd.R_mono (Kd.R_keep (IsS57.apart (show IsS57 w0 _ g s0_0 t405 t406 t407 t408 from zq0) (zr HO_1.out) (by decide)) hk (fun _ h => h.2)) (fun _ h => h.1)); replace HK := za (Kept.of_keep (S := (fun k_ => (P1_ k_) ∨ k_ = g)) zq6 hk (.inl (.inr rfl))); replace HB := za (hb); replace HI0 := za (hi)) | ((with_reducible refine gate_callee (f := 50) rfl ?_); refine goesL_ (some 35) rfl rfl Try.func50 zq18 rfl #[.pointer (some ⟨g, 0, none⟩), .slice Ao24 x1_1.length co24] rfl zq1 ?_; (with_reducible refine (IH50_.out k1 (by have := HK1.out; omega) g s0_0 t420 t421 t422 t423 (fun k_ => some k_ = (.slice Ao24 x1_1.length co24 : Value).ownBlock) (.slice Ao24 x1_1.length co24) x1_1 t424 t427 t428 t429 t430 w0 _ ?side1 ?side2 ?side3 A21.out).mono ?_); (case side1 => exact zq0); (case side2 => exact zq3); (case side3 => exact zq100); rintro e w28 ⟨v425, rfl, ho0, hi, hb, hkp⟩; refine ⟨_, rfl, ?_⟩; replace HI0 := za (hi); have HO426 := za (Kd.R_mono (ok' := fun k_ => (P1_ k_ ∨ w.heap.size ≤ k_)) ho0 (fun k_ hk_ => Or.elim hk_ (fun hs_ => (HO_1.out.1 k_ (hs_).symm)) (fun hn_ => (.inr (Nat.le_trans zq23 hn_))))); replace HK := za (Kept.then_ (S := (fun k_ => (P1_ k_) ∨ k_ = g)) zq6 hkp (fun k_ hs_ => Or.elim hs_ (fun hs_ => (fun e_ => Or.imp_left Or.inl ((HO_1.out.1 k_ e_.symm))) hs_) (fun e_ => .inl (.inr e_)))); replace HB := za (hb); clear HO_1; (try clear hb hkp ho0); obtain ⟨Ao29, co29, eo29⟩ := Kd.R_slice HO426.out; subst eo29) | ((with_reducible refine gate_callee (f := 47) rfl ?_); refine goesL_ (some 38) rfl rfl Try.func47 zq18 rfl #[.slice Ao29 t424.length co29, .int .i64 (wrap64 ((x1_1.length : Int) - 1)), .int .i64 8, .int .i64 t399] rfl zq1 ?_; (with_reducible refine (ra_two.calls (fun k_ => some k_ = (.slice Ao29 t424.length co29 : Value).ownBlock) (.slice Ao29 t424.length co29) t424 (wrap64 ((x1_1.length : Int) - 1)) 8 t399 t431 w0 _ ?side1 ?side2 A22.out).mono ?_); (case side1 => exact zq3); (case side2 => exact Kd.R_tight rfl HO426.out); rintro e w30 ⟨v432, rfl, ho0, hb, hkp⟩; refine ⟨_, rfl, ?_⟩; replace HI0 := za (IsS57.kept zq0 hkp (fun hs_ => (fun e_ => (IsS57.own_ne HI0.out HO426.out (by decide)) e_) hs_)); have HO433 := za (Kd.R_mono (ok' := fun k_ => (P1_ k_ ∨ w.heap.size ≤ k_)) ho0 (fun k_ hk_ => Or.elim hk_ (fun hs_ => (HO426.out.1 k_ (hs_).symm)) (fun hn_ => (.inr (Nat.le_trans zq23 hn_))))); replace HK := za (Kept.then_ (S := (fun k_ => (P1_ k_) ∨ k_ = g)) zq6 hkp (fun k_ hs_ => (fun e_ => Or.imp_left Or.inl ((HO426.out.1 k_ e_.symm))) hs_)); replace HB := za (hb); clear HO426))
      go_roundg k1
      case measure => have := HK1.out; omega
      case rel => exact ⟨(t431), (t427), (t428), (t429), (t430), H', ⟨by have := HK1.out; omega⟩, ⟨by (with_reducible repeat (first | apply Kd.R_alloc | apply Kd.R_drewN | apply Kd.R_drew)); exact HO433.out⟩, ⟨zq0⟩, ⟨zq6⟩, ⟨zq3⟩⟩
     ·
      replace c20 := Bool.eq_false_iff.mpr c20
      subst c20
      rw [if_neg (show ¬ (false = true) by decide)] at H
      replace H := Option.bind_eq_some_iff.mp H
      obtain ⟨⟨t434, t435, t436, t437, t438⟩, A310, H⟩ := H
      (try dsimp only at H)
      have A31 := za A310
      clear A310
      by_cases c32 : t434 = true
      ·
       subst c32
       rw [if_pos rfl] at H
       replace H := Option.bind_eq_some_iff.mp H
       obtain ⟨⟨t439, t442, t443, t444, t445⟩, A330, H⟩ := H
       (try dsimp only at H)
       have A33 := za A330
       clear A330
       replace H := Option.bind_eq_some_iff.mp H
       obtain ⟨t446, A340, H⟩ := H
       (try dsimp only at H)
       have A34 := za A340
       clear A340
       have H' := za H
       clear H
       obtain ⟨ASz35_0, cSz35_0, HGz35, hgz35, HSz35_0⟩ := HI0.out
       have hcz35_0 := cellS57_0 HGz35
       have hcz35_1 := cellS57_1 HGz35
       have hcz35_2 := cellS57_2 HGz35
       have hcz35_3 := cellS57_3 HGz35
       have hcz35_4 := cellS57_4 HGz35
       have hfz35_1 := blk_frozen HGz35 1
       have hfz35_2 := blk_frozen HGz35 2
       have hfz35_3 := blk_frozen HGz35 3
       have hfz35_4 := blk_frozen HGz35 4
       clear HGz35 hgz35
       obtain ⟨Ao36, co36, eo36⟩ := Kd.R_slice HO_1.out
       subst eo36
       go_wp2_with (first | ((with_reducible refine gate_callee (f := 22) rfl ?_); refine goesL_ (some 19) rfl rfl Try.func22 zq18 rfl #[.pointer (some ⟨g, 0, none⟩)] rfl zq1 ?_; (with_reducible refine (rr_here.calls g s0_0 x1001_1 x1002_1 x1003_1 x1004_1 t399 t400 t401 t402 t403 w0 _ ?side1 ?side2 A7.out).mono ?_); (case side1 => exact zq0); (case side2 => exact zq3); rintro e w37 ⟨rfl, hi, hb, hk⟩; refine ⟨_, rfl, ?_⟩; replace HO_1 := za (Kd.R_mono (Kd.R_keep (IsS57.apart (show IsS57 w0 _ g s0_0 x1001_1 x1002_1 x1003_1 x1004_1 from zq0) (zr HO_1.out) (by decide)) hk (fun _ h => h.2)) (fun _ h => h.1)); replace HK := za (Kept.of_keep (S := (fun k_ => (P1_ k_) ∨ k_ = g)) zq6 hk (.inl (.inr rfl))); replace HB := za (hb); replace HI0 := za (hi)) | ((with_reducible refine gate_callee (f := 24) rfl ?_); refine goesL_ (some 23) rfl rfl Try.func24 zq18 rfl #[.pointer (some ⟨g, 0, none⟩), .string (⟨#[42]⟩ : ByteArray)] rfl zq1 ?_; (with_reducible refine (rr_take.calls g s0_0 t400 t401 t402 t403 (⟨#[42]⟩ : ByteArray) false t405 t406 t407 t408 w0 _ ?side1 ?side2 A8.out).mono ?_); (case side1 => exact zq0); (case side2 => exact zq3); rintro e w38 ⟨rfl, hi, hb, hk⟩; refine ⟨_, rfl, ?_⟩; replace HO_1 := za (Kd.R_mono (Kd.R_keep (IsS57.apart (show IsS57 w0 _ g s0_0 t400 t401 t402 t403 from zq0) (zr HO_1.out) (by decide)) hk (fun _ h => h.2)) (fun _ h => h.1)); replace HK := za (Kept.of_keep (S := (fun k_ => (P1_ k_) ∨ k_ = g)) zq6 hk (.inl (.inr rfl))); replace HB := za (hb); replace HI0 := za (hi)) | ((with_reducible refine gate_callee (f := 24) rfl ?_); refine goesL_ (some 32) rfl rfl Try.func24 zq18 rfl #[.pointer (some ⟨g, 0, none⟩), .string (⟨#[47]⟩ : ByteArray)] rfl zq1 ?_; (with_reducible refine (rr_take.calls g s0_0 t405 t406 t407 t408 (⟨#[47]⟩ : ByteArray) false t420 t421 t422 t423 w0 _ ?side1 ?side2 A19.out).mono ?_); (case side1 => exact zq0); (case side2 => exact zq3); rintro e w39 ⟨rfl, hi, hb, hk⟩; refine ⟨_, rfl, ?_⟩; replace HO_1 := za (Kd.R_mono (Kd.R_keep (IsS57.apart (show IsS57 w0 _ g s0_0 t405 t406 t407 t408 from zq0) (zr HO_1.out) (by decide)) hk (fun _ h => h.2)) (fun _ h => h.1)); replace HK := za (Kept.of_keep (S := (fun k_ => (P1_ k_) ∨ k_ = g)) zq6 hk (.inl (.inr rfl))); replace HB := za (hb); replace HI0 := za (hi)) | ((with_reducible refine gate_callee (f := 24) rfl ?_); refine goesL_ (some 41) rfl rfl Try.func24 zq18 rfl #[.pointer (some ⟨g, 0, none⟩), .string (⟨#[37]⟩ : ByteArray)] rfl zq1 ?_; (with_reducible refine (rr_take.calls g s0_0 t420 t421 t422 t423 (⟨#[37]⟩ : ByteArray) true t435 t436 t437 t438 w0 _ ?side1 ?side2 A31.out).mono ?_); (case side1 => exact zq0); (case side2 => exact zq3); rintro e w40 ⟨rfl, hi, hb, hk⟩; refine ⟨_, rfl, ?_⟩; replace HO_1 := za (Kd.R_mono (Kd.R_keep (IsS57.apart (show IsS57 w0 _ g s0_0 t420 t421 t422 t423 from zq0) (zr HO_1.out) (by decide)) hk (fun _ h => h.2)) (fun _ h => h.1)); replace HK := za (Kept.of_keep (S := (fun k_ => (P1_ k_) ∨ k_ = g)) zq6 hk (.inl (.inr rfl))); replace HB := za (hb); replace HI0 := za (hi)) | ((with_reducible refine gate_callee (f := 50) rfl ?_); refine goesL_ (some 44) rfl rfl Try.func50 zq18 rfl #[.pointer (some ⟨g, 0, none⟩), .slice Ao36 x1_1.length co36] rfl zq1 ?_; (with_reducible refine (IH50_.out k1 (by have := HK1.out; omega) g s0_0 t435 t436 t437 t438 (fun k_ => some k_ = (.slice Ao36 x1_1.length co36 : Value).ownBlock) (.slice Ao36 x1_1.length co36) x1_1 t439 t442 t443 t444 t445 w0 _ ?side1 ?side2 ?side3 A33.out).mono ?_); (case side1 => exact zq0); (case side2 => exact zq3); (case side3 => exact zq100); rintro e w41 ⟨v440, rfl, ho0, hi, hb, hkp⟩; refine ⟨_, rfl, ?_⟩; replace HI0 := za (hi); have HO441 := za (Kd.R_mono (ok' := fun k_ => (P1_ k_ ∨ w.heap.size ≤ k_)) ho0 (fun k_ hk_ => Or.elim hk_ (fun hs_ => (HO_1.out.1 k_ (hs_).symm)) (fun hn_ => (.inr (Nat.le_trans zq23 hn_))))); replace HK := za (Kept.then_ (S := (fun k_ => (P1_ k_) ∨ k_ = g)) zq6 hkp (fun k_ hs_ => Or.elim hs_ (fun hs_ => (fun e_ => Or.imp_left Or.inl ((HO_1.out.1 k_ e_.symm))) hs_) (fun e_ => .inl (.inr e_)))); replace HB := za (hb); clear HO_1; (try clear hb hkp ho0); obtain ⟨Ao42, co42, eo42⟩ := Kd.R_slice HO441.out; subst eo42) | ((with_reducible refine gate_callee (f := 47) rfl ?_); refine goesL_ (some 47) rfl rfl Try.func47 zq18 rfl #[.slice Ao42 t439.length co42, .int .i64 (wrap64 ((x1_1.length : Int) - 1)), .int .i64 9, .int .i64 t399] rfl zq1 ?_; (with_reducible refine (ra_two.calls (fun k_ => some k_ = (.slice Ao42 t439.length co42 : Value).ownBlock) (.slice Ao42 t439.length co42) t439 (wrap64 ((x1_1.length : Int) - 1)) 9 t399 t446 w0 _ ?side1 ?side2 A34.out).mono ?_); (case side1 => exact zq3); (case side2 => exact Kd.R_tight rfl HO441.out); rintro e w43 ⟨v447, rfl, ho0, hb, hkp⟩; refine ⟨_, rfl, ?_⟩; replace HI0 := za (IsS57.kept zq0 hkp (fun hs_ => (fun e_ => (IsS57.own_ne HI0.out HO441.out (by decide)) e_) hs_)); have HO448 := za (Kd.R_mono (ok' := fun k_ => (P1_ k_ ∨ w.heap.size ≤ k_)) ho0 (fun k_ hk_ => Or.elim hk_ (fun hs_ => (HO441.out.1 k_ (hs_).symm)) (fun hn_ => (.inr (Nat.le_trans zq23 hn_))))); replace HK := za (Kept.then_ (S := (fun k_ => (P1_ k_) ∨ k_ = g)) zq6 hkp (fun k_ hs_ => (fun e_ => Or.imp_left Or.inl ((HO441.out.1 k_ e_.symm))) hs_)); replace HB := za (hb); clear HO441))
       go_roundg k1
       case measure => have := HK1.out; omega
       case rel => exact ⟨(t446), (t442), (t443), (t444), (t445), H', ⟨by have := HK1.out; omega⟩, ⟨by (with_reducible repeat (first | apply Kd.R_alloc | apply Kd.R_drewN | apply Kd.R_drew)); exact HO448.out⟩, ⟨zq0⟩, ⟨zq6⟩, ⟨zq3⟩⟩
      ·
       replace c32 := Bool.eq_false_iff.mpr c32
       subst c32
       rw [if_neg (show ¬ (false = true) by decide)] at H
       simp only [Option.some.injEq, Prod.mk.injEq] at H
       obtain ⟨rfl, rfl, rfl, rfl, rfl⟩ := H
       obtain ⟨ASz44_0, cSz44_0, HGz44, hgz44, HSz44_0⟩ := HI0.out
       have hcz44_0 := cellS57_0 HGz44
       have hcz44_1 := cellS57_1 HGz44
       have hcz44_2 := cellS57_2 HGz44
       have hcz44_3 := cellS57_3 HGz44
       have hcz44_4 := cellS57_4 HGz44
       have hfz44_1 := blk_frozen HGz44 1
       have hfz44_2 := blk_frozen HGz44 2
       have hfz44_3 := blk_frozen HGz44 3
       have hfz44_4 := blk_frozen HGz44 4
       clear HGz44 hgz44
       obtain ⟨Ao45, co45, eo45⟩ := Kd.R_slice HO_1.out
       subst eo45
       go_wp2_with (first | ((with_reducible refine gate_callee (f := 22) rfl ?_); refine goesL_ (some 19) rfl rfl Try.func22 zq18 rfl #[.pointer (some ⟨g, 0, none⟩)] rfl zq1 ?_; (with_reducible refine (rr_here.calls g s0_0 x1001_1 x1002_1 x1003_1 x1004_1 t399 t400 t401 t402 t403 w0 _ ?side1 ?side2 A7.out).mono ?_); (case side1 => exact zq0); (case side2 => exact zq3); rintro e w46 ⟨rfl, hi, hb, hk⟩; refine ⟨_, rfl, ?_⟩; replace HO_1 := za (Kd.R_mono (Kd.R_keep (IsS57.apart (show IsS57 w0 _ g s0_0 x1001_1 x1002_1 x1003_1 x1004_1 from zq0) (zr HO_1.out) (by decide)) hk (fun _ h => h.2)) (fun _ h => h.1)); replace HK := za (Kept.of_keep (S := (fun k_ => (P1_ k_) ∨ k_ = g)) zq6 hk (.inl (.inr rfl))); replace HB := za (hb); replace HI0 := za (hi)) | ((with_reducible refine gate_callee (f := 24) rfl ?_); refine goesL_ (some 23) rfl rfl Try.func24 zq18 rfl #[.pointer (some ⟨g, 0, none⟩), .string (⟨#[42]⟩ : ByteArray)] rfl zq1 ?_; (with_reducible refine (rr_take.calls g s0_0 t400 t401 t402 t403 (⟨#[42]⟩ : ByteArray) false t405 t406 t407 t408 w0 _ ?side1 ?side2 A8.out).mono ?_); (case side1 => exact zq0); (case side2 => exact zq3); rintro e w47 ⟨rfl, hi, hb, hk⟩; refine ⟨_, rfl, ?_⟩; replace HO_1 := za (Kd.R_mono (Kd.R_keep (IsS57.apart (show IsS57 w0 _ g s0_0 t400 t401 t402 t403 from zq0) (zr HO_1.out) (by decide)) hk (fun _ h => h.2)) (fun _ h => h.1)); replace HK := za (Kept.of_keep (S := (fun k_ => (P1_ k_) ∨ k_ = g)) zq6 hk (.inl (.inr rfl))); replace HB := za (hb); replace HI0 := za (hi)) | ((with_reducible refine gate_callee (f := 24) rfl ?_); refine goesL_ (some 32) rfl rfl Try.func24 zq18 rfl #[.pointer (some ⟨g, 0, none⟩), .string (⟨#[47]⟩ : ByteArray)] rfl zq1 ?_; (with_reducible refine (rr_take.calls g s0_0 t405 t406 t407 t408 (⟨#[47]⟩ : ByteArray) false t420 t421 t422 t423 w0 _ ?side1 ?side2 A19.out).mono ?_); (case side1 => exact zq0); (case side2 => exact zq3); rintro e w48 ⟨rfl, hi, hb, hk⟩; refine ⟨_, rfl, ?_⟩; replace HO_1 := za (Kd.R_mono (Kd.R_keep (IsS57.apart (show IsS57 w0 _ g s0_0 t405 t406 t407 t408 from zq0) (zr HO_1.out) (by decide)) hk (fun _ h => h.2)) (fun _ h => h.1)); replace HK := za (Kept.of_keep (S := (fun k_ => (P1_ k_) ∨ k_ = g)) zq6 hk (.inl (.inr rfl))); replace HB := za (hb); replace HI0 := za (hi)) | ((with_reducible refine gate_callee (f := 24) rfl ?_); refine goesL_ (some 41) rfl rfl Try.func24 zq18 rfl #[.pointer (some ⟨g, 0, none⟩), .string (⟨#[37]⟩ : ByteArray)] rfl zq1 ?_; (with_reducible refine (rr_take.calls g s0_0 t420 t421 t422 t423 (⟨#[37]⟩ : ByteArray) false t435 t436 t437 t438 w0 _ ?side1 ?side2 A31.out).mono ?_); (case side1 => exact zq0); (case side2 => exact zq3); rintro e w49 ⟨rfl, hi, hb, hk⟩; refine ⟨_, rfl, ?_⟩; replace HO_1 := za (Kd.R_mono (Kd.R_keep (IsS57.apart (show IsS57 w0 _ g s0_0 t420 t421 t422 t423 from zq0) (zr HO_1.out) (by decide)) hk (fun _ h => h.2)) (fun _ h => h.1)); replace HK := za (Kept.of_keep (S := (fun k_ => (P1_ k_) ∨ k_ = g)) zq6 hk (.inl (.inr rfl))); replace HB := za (hb); replace HI0 := za (hi)))
       go_ret
       exact ⟨_, zq16, zq68, zq0, zq3, zq6⟩
   ·
    rw [if_neg c6] at H
    have c6b0 := beq_eq_false_iff_ne.mpr c6
    have c6b1 := bne_iff_ne.mpr c6
    simp only [Option.some.injEq, Prod.mk.injEq] at H
    obtain ⟨rfl, rfl, rfl, rfl, rfl⟩ := H
    obtain ⟨ASz50_0, cSz50_0, HGz50, hgz50, HSz50_0⟩ := HI0.out
    have hcz50_0 := cellS57_0 HGz50
    have hcz50_1 := cellS57_1 HGz50
    have hcz50_2 := cellS57_2 HGz50
    have hcz50_3 := cellS57_3 HGz50
    have hcz50_4 := cellS57_4 HGz50
    have hfz50_1 := blk_frozen HGz50 1
    have hfz50_2 := blk_frozen HGz50 2
    have hfz50_3 := blk_frozen HGz50 3
    have hfz50_4 := blk_frozen HGz50 4
    clear HGz50 hgz50
    go_wp2
    go_ret
    exact ⟨_, zq16, zq68, zq0, zq3, zq6⟩
theorem rr_unary_group.all (k : Nat) : (∀ (g : Nat) (s0_0 : List (S69)) (s0_1 : Int) (s0_2 : Int) (s0_3 : Int) (s0_4 : Int) (P1_ : Nat → Prop) (u9000_ : Value) (l1 : List (S48)) (r1 : List (S48)) (r2 : Int) (r3 : Int) (r4 : Int) (r5 : Int) (w0 w : World) (hI : IsS57 w0 w g s0_0 s0_1 s0_2 s0_3 s0_4) (hB : Below w0.heap.size w0 w) (ho1 : Kd.R k48 48 w w0.heap.size P1_ u9000_ l1) (h : rr_unary.f k s0_0 s0_1 s0_2 s0_3 s0_4 l1 = some (r1, r2, r3, r4, r5)),
  Calls Try.prog 50 #[.pointer (some ⟨g, 0, none⟩), u9000_] w fun e w' => ∃ v0_ : Value, e = .returned (v0_) ∧ Kd.R k48 48 w' w0.heap.size (fun k_ => (P1_ k_ ∨ w.heap.size ≤ k_)) v0_ r1 ∧ IsS57 w0 w' g s0_0 r2 r3 r4 r5 ∧ Below w0.heap.size w0 w' ∧ Kept w w' (fun k_ => (P1_ k_) ∨ k_ = g)) ∧ (∀ (g : Nat) (s0_0 : List (S69)) (s0_1 : Int) (s0_2 : Int) (s0_3 : Int) (s0_4 : Int) (P1_ : Nat → Prop) (u9000_ : Value) (l1 : List (S48)) (r1 : List (S48)) (r2 : Int) (r3 : Int) (r4 : Int) (r5 : Int) (w0 w : World) (hI : IsS57 w0 w g s0_0 s0_1 s0_2 s0_3 s0_4) (hB : Below w0.heap.size w0 w) (ho1 : Kd.R k48 48 w w0.heap.size P1_ u9000_ l1) (h : rr_expr.f k s0_0 s0_1 s0_2 s0_3 s0_4 l1 = some (r1, r2, r3, r4, r5)),
  Calls Try.prog 43 #[.pointer (some ⟨g, 0, none⟩), u9000_] w fun e w' => ∃ v0_ : Value, e = .returned (v0_) ∧ Kd.R k48 48 w' w0.heap.size (fun k_ => (P1_ k_ ∨ w.heap.size ≤ k_)) v0_ r1 ∧ IsS57 w0 w' g s0_0 r2 r3 r4 r5 ∧ Below w0.heap.size w0 w' ∧ Kept w w' (fun k_ => (P1_ k_) ∨ k_ = g)) ∧ (∀ (g : Nat) (s0_0 : List (S69)) (s0_1 : Int) (s0_2 : Int) (s0_3 : Int) (s0_4 : Int) (P1_ : Nat → Prop) (u9000_ : Value) (l1 : List (S48)) (r1 : List (S48)) (r2 : Int) (r3 : Int) (r4 : Int) (r5 : Int) (w0 w : World) (hI : IsS57 w0 w g s0_0 s0_1 s0_2 s0_3 s0_4) (hB : Below w0.heap.size w0 w) (ho1 : Kd.R k48 48 w w0.heap.size P1_ u9000_ l1) (h : rr_sum.f k s0_0 s0_1 s0_2 s0_3 s0_4 l1 = some (r1, r2, r3, r4, r5)),
  Calls Try.prog 46 #[.pointer (some ⟨g, 0, none⟩), u9000_] w fun e w' => ∃ v0_ : Value, e = .returned (v0_) ∧ Kd.R k48 48 w' w0.heap.size (fun k_ => (P1_ k_ ∨ w.heap.size ≤ k_)) v0_ r1 ∧ IsS57 w0 w' g s0_0 r2 r3 r4 r5 ∧ Below w0.heap.size w0 w' ∧ Kept w w' (fun k_ => (P1_ k_) ∨ k_ = g)) ∧ (∀ (g : Nat) (s0_0 : List (S69)) (s0_1 : Int) (s0_2 : Int) (s0_3 : Int) (s0_4 : Int) (P1_ : Nat → Prop) (u9000_ : Value) (l1 : List (S48)) (r1 : List (S48)) (r2 : Int) (r3 : Int) (r4 : Int) (r5 : Int) (w0 w : World) (hI : IsS57 w0 w g s0_0 s0_1 s0_2 s0_3 s0_4) (hB : Below w0.heap.size w0 w) (ho1 : Kd.R k48 48 w w0.heap.size P1_ u9000_ l1) (h : rr_term.f k s0_0 s0_1 s0_2 s0_3 s0_4 l1 = some (r1, r2, r3, r4, r5)),
  Calls Try.prog 49 #[.pointer (some ⟨g, 0, none⟩), u9000_] w fun e w' => ∃ v0_ : Value, e = .returned (v0_) ∧ Kd.R k48 48 w' w0.heap.size (fun k_ => (P1_ k_ ∨ w.heap.size ≤ k_)) v0_ r1 ∧ IsS57 w0 w' g s0_0 r2 r3 r4 r5 ∧ Below w0.heap.size w0 w' ∧ Kept w w' (fun k_ => (P1_ k_) ∨ k_ = g)) := by
 induction k using Nat.strongRecOn with
 | _ k ih => exact ⟨rr_unary.step k ⟨fun m hm => (ih m hm).1⟩ ⟨fun m hm => (ih m hm).2.1⟩ ⟨fun m hm => (ih m hm).2.2.1⟩ ⟨fun m hm => (ih m hm).2.2.2⟩, rr_expr.step k ⟨fun m hm => (ih m hm).1⟩ ⟨fun m hm => (ih m hm).2.1⟩ ⟨fun m hm => (ih m hm).2.2.1⟩ ⟨fun m hm => (ih m hm).2.2.2⟩, rr_sum.step k ⟨fun m hm => (ih m hm).1⟩ ⟨fun m hm => (ih m hm).2.1⟩ ⟨fun m hm => (ih m hm).2.2.1⟩ ⟨fun m hm => (ih m hm).2.2.2⟩, rr_term.step k ⟨fun m hm => (ih m hm).1⟩ ⟨fun m hm => (ih m hm).2.1⟩ ⟨fun m hm => (ih m hm).2.2.1⟩ ⟨fun m hm => (ih m hm).2.2.2⟩⟩
theorem rr_unary.calls (k : Nat) : ∀ (g : Nat) (s0_0 : List (S69)) (s0_1 : Int) (s0_2 : Int) (s0_3 : Int) (s0_4 : Int) (P1_ : Nat → Prop) (u9000_ : Value) (l1 : List (S48)) (r1 : List (S48)) (r2 : Int) (r3 : Int) (r4 : Int) (r5 : Int) (w0 w : World) (hI : IsS57 w0 w g s0_0 s0_1 s0_2 s0_3 s0_4) (hB : Below w0.heap.size w0 w) (ho1 : Kd.R k48 48 w w0.heap.size P1_ u9000_ l1) (h : rr_unary.f k s0_0 s0_1 s0_2 s0_3 s0_4 l1 = some (r1, r2, r3, r4, r5)),
  Calls Try.prog 50 #[.pointer (some ⟨g, 0, none⟩), u9000_] w fun e w' => ∃ v0_ : Value, e = .returned (v0_) ∧ Kd.R k48 48 w' w0.heap.size (fun k_ => (P1_ k_ ∨ w.heap.size ≤ k_)) v0_ r1 ∧ IsS57 w0 w' g s0_0 r2 r3 r4 r5 ∧ Below w0.heap.size w0 w' ∧ Kept w w' (fun k_ => (P1_ k_) ∨ k_ = g) := (rr_unary_group.all k).1
theorem rr_expr.calls (k : Nat) : ∀ (g : Nat) (s0_0 : List (S69)) (s0_1 : Int) (s0_2 : Int) (s0_3 : Int) (s0_4 : Int) (P1_ : Nat → Prop) (u9000_ : Value) (l1 : List (S48)) (r1 : List (S48)) (r2 : Int) (r3 : Int) (r4 : Int) (r5 : Int) (w0 w : World) (hI : IsS57 w0 w g s0_0 s0_1 s0_2 s0_3 s0_4) (hB : Below w0.heap.size w0 w) (ho1 : Kd.R k48 48 w w0.heap.size P1_ u9000_ l1) (h : rr_expr.f k s0_0 s0_1 s0_2 s0_3 s0_4 l1 = some (r1, r2, r3, r4, r5)),
  Calls Try.prog 43 #[.pointer (some ⟨g, 0, none⟩), u9000_] w fun e w' => ∃ v0_ : Value, e = .returned (v0_) ∧ Kd.R k48 48 w' w0.heap.size (fun k_ => (P1_ k_ ∨ w.heap.size ≤ k_)) v0_ r1 ∧ IsS57 w0 w' g s0_0 r2 r3 r4 r5 ∧ Below w0.heap.size w0 w' ∧ Kept w w' (fun k_ => (P1_ k_) ∨ k_ = g) := (rr_unary_group.all k).2.1
theorem rr_sum.calls (k : Nat) : ∀ (g : Nat) (s0_0 : List (S69)) (s0_1 : Int) (s0_2 : Int) (s0_3 : Int) (s0_4 : Int) (P1_ : Nat → Prop) (u9000_ : Value) (l1 : List (S48)) (r1 : List (S48)) (r2 : Int) (r3 : Int) (r4 : Int) (r5 : Int) (w0 w : World) (hI : IsS57 w0 w g s0_0 s0_1 s0_2 s0_3 s0_4) (hB : Below w0.heap.size w0 w) (ho1 : Kd.R k48 48 w w0.heap.size P1_ u9000_ l1) (h : rr_sum.f k s0_0 s0_1 s0_2 s0_3 s0_4 l1 = some (r1, r2, r3, r4, r5)),
  Calls Try.prog 46 #[.pointer (some ⟨g, 0, none⟩), u9000_] w fun e w' => ∃ v0_ : Value, e = .returned (v0_) ∧ Kd.R k48 48 w' w0.heap.size (fun k_ => (P1_ k_ ∨ w.heap.size ≤ k_)) v0_ r1 ∧ IsS57 w0 w' g s0_0 r2 r3 r4 r5 ∧ Below w0.heap.size w0 w' ∧ Kept w w' (fun k_ => (P1_ k_) ∨ k_ = g) := (rr_unary_group.all k).2.2.1
theorem rr_term.calls (k : Nat) : ∀ (g : Nat) (s0_0 : List (S69)) (s0_1 : Int) (s0_2 : Int) (s0_3 : Int) (s0_4 : Int) (P1_ : Nat → Prop) (u9000_ : Value) (l1 : List (S48)) (r1 : List (S48)) (r2 : Int) (r3 : Int) (r4 : Int) (r5 : Int) (w0 w : World) (hI : IsS57 w0 w g s0_0 s0_1 s0_2 s0_3 s0_4) (hB : Below w0.heap.size w0 w) (ho1 : Kd.R k48 48 w w0.heap.size P1_ u9000_ l1) (h : rr_term.f k s0_0 s0_1 s0_2 s0_3 s0_4 l1 = some (r1, r2, r3, r4, r5)),
  Calls Try.prog 49 #[.pointer (some ⟨g, 0, none⟩), u9000_] w fun e w' => ∃ v0_ : Value, e = .returned (v0_) ∧ Kd.R k48 48 w' w0.heap.size (fun k_ => (P1_ k_ ∨ w.heap.size ≤ k_)) v0_ r1 ∧ IsS57 w0 w' g s0_0 r2 r3 r4 r5 ∧ Below w0.heap.size w0 w' ∧ Kept w w' (fun k_ => (P1_ k_) ∨ k_ = g) := (rr_unary_group.all k).2.2.2
end Go.Proofs.Ytcmpmlklednhbaa.QEvalJoins
