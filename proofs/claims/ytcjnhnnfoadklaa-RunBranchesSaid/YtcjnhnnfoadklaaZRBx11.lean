import Derived.Test.YtcjnhnnfoadklaaZRBx10
namespace Go.Proofs.Ytcjnhnnfoadklaa.QRunBranches
open Go.RowKit Go.Proofs.YtcjnhnnfoadklaaW.PrintWords Go.Proofs.YtcjnhnnfoadklaaW.PrintLast Go.Proofs.YtcjnhnnfoadklaaW.PrintMore
attribute [local go_sem] max2_int min2_int max_two min_two max_three min_three max_four min_four
set_option linter.unusedVariables false
set_option linter.unusedSimpArgs false
def rr_sum.l0 : Nat → List (S140) → List (S110) → Int → Int → Int → Int → Option ((List (S140)) × Int × Int × Int × Int)
 | 0, _, _, _, _, _, _ => none
 | k + 1, x1, x1000, x1001, x1002, x1003, x1004 => if x1003 = 0 then ((rr_here.f x1000 x1001 x1002 x1003 x1004).bind fun bt312 => ((rr_take.f x1000 bt312.2.1 bt312.2.2.1 bt312.2.2.2.1 bt312.2.2.2.2 (⟨#[43]⟩ : ByteArray)).bind fun bt317 => (if bt317.1 = true then ((rr_term.f k x1000 bt317.2.1 bt317.2.2.1 bt317.2.2.2.1 bt317.2.2.2.2 x1).bind fun bt322 => ((ra_two.f bt322.1 (wrap64 ((x1.length : Int) - 1)) 5 bt312.1).bind fun t329 => (rr_sum.l0 k t329 x1000 bt322.2.1 bt322.2.2.1 bt322.2.2.2.1 bt322.2.2.2.2))) else ((rr_take.f x1000 bt317.2.1 bt317.2.2.1 bt317.2.2.2.1 bt317.2.2.2.2 (⟨#[45]⟩ : ByteArray)).bind fun bt332 => (if bt332.1 = true then (none) else (some (x1, bt332.2.1, bt332.2.2.1, bt332.2.2.2.1, bt332.2.2.2.2))))))) else (none)
def rr_sum.f (k : Nat) (s0_0 : List (S110)) (s0_1 : Int) (s0_2 : Int) (s0_3 : Int) (s0_4 : Int) (l1 : List (S140)) : Option ((List (S140)) × Int × Int × Int × Int) := (rr_term.f k s0_0 s0_1 s0_2 s0_3 s0_4 l1).bind fun bt305 => (rr_sum.l0 k bt305.1 s0_0 bt305.2.1 bt305.2.2.1 bt305.2.2.2.1 bt305.2.2.2.2)
theorem rr_sum.mono_l : ∀ k, (∀ y0 y1 y2 y3 y4 y5, LeO (rr_sum.l0 k y0 y1 y2 y3 y4 y5) (rr_sum.l0 (k + 1) y0 y1 y2 y3 y4 y5))
 | 0 => fun _ _ _ _ _ _ r h => by simp [rr_sum.l0] at h
 | k + 1 => by
  have ih0 := rr_sum.mono_l k
  ·
   intro y0 y1 y2 y3 y4 y5
   unfold rr_sum.l0
   repeat' with_reducible first | apply ih0 | apply rr_term.mono | exact LeO.refl _ | exact LeO.none _ | refine LeO.ite ?_ ?_ | refine LeO.bind ?_ (fun _ => ?_)
theorem rr_sum.mono : ∀ a0 a1 a2 a3 a4 a5 k, LeO (rr_sum.f k a0 a1 a2 a3 a4 a5) (rr_sum.f (k + 1) a0 a1 a2 a3 a4 a5) := by
 intro a0 a1 a2 a3 a4 a5 k
 have ih0 := rr_sum.mono_l k
 unfold rr_sum.f
 repeat' with_reducible first | apply ih0 | apply rr_term.mono | exact LeO.refl _ | exact LeO.none _ | refine LeO.ite ?_ ?_ | refine LeO.bind ?_ (fun _ => ?_)
set_option maxHeartbeats 8000000 in
set_option maxRecDepth 100000 in
theorem rr_sum.calls (k : Nat) (g : Nat) (s0_0 : List (S110)) (s0_1 : Int) (s0_2 : Int) (s0_3 : Int) (s0_4 : Int) (P1_ : Nat → Prop) (u9000_ : Value) (l1 : List (S140)) (r1 : List (S140)) (r2 : Int) (r3 : Int) (r4 : Int) (r5 : Int) (w0 w : World) (hI : IsS83 w0 w g s0_0 s0_1 s0_2 s0_3 s0_4) (hB : Below w0.heap.size w0 w) (ho1 : Kd.R k140 140 w w0.heap.size P1_ u9000_ l1) (h : rr_sum.f k s0_0 s0_1 s0_2 s0_3 s0_4 l1 = some (r1, r2, r3, r4, r5)) :
  Calls Try.prog 82 #[.pointer (some ⟨g, 0, none⟩), u9000_] w fun e w' => ∃ v0_ : Value, e = .returned (v0_) ∧ Kd.R k140 140 w' w0.heap.size (fun k_ => (P1_ k_ ∨ w.heap.size ≤ k_)) v0_ r1 ∧ IsS83 w0 w' g s0_0 r2 r3 r4 r5 ∧ Below w0.heap.size w0 w' ∧ Kept w w' (fun k_ => (P1_ k_) ∨ k_ = g) := by
 have HO1 := za (show Kd.R k140 140 w w0.heap.size (fun k_ => (P1_ k_ ∨ w.heap.size ≤ k_)) u9000_ l1 from Kd.R_mono ho1 (fun k_ hk => (.inl hk)))
 have HI0 := za hI
 have HL := za hB.size
 clear hI
 have HK := za (Kept.refl w (fun k_ => (P1_ k_) ∨ k_ = g))
 have HW0 := za hB.size
 have HB := za hB
 clear hB
 have H : ((rr_term.f k s0_0 s0_1 s0_2 s0_3 s0_4 l1).bind fun bt305 => (rr_sum.l0 k bt305.1 s0_0 bt305.2.1 bt305.2.2.1 bt305.2.2.2.1 bt305.2.2.2.2)) = some (r1, r2, r3, r4, r5) := h
 clear h
 replace H := Option.bind_eq_some_iff.mp H
 obtain ⟨⟨t305, t308, t309, t310, t311⟩, A30, H⟩ := H
 (try dsimp only at H)
 have A3 := za A30
 clear A30
 have H' := za H
 clear H
 obtain ⟨Ao4, co4, eo4⟩ := Kd.R_slice HO1.out
 subst eo4
 go_enter Try.func82, Try.ntmps82
 go_wp2_with (first | ((with_reducible refine gate_callee (f := 92) rfl ?_); refine goesL_ (some 9) rfl rfl Try.func92 zq13 rfl #[.pointer (some ⟨g, 0, none⟩), .slice Ao4 l1.length co4] rfl zq2 ?_; (with_reducible refine (rr_term.calls k g s0_0 s0_1 s0_2 s0_3 s0_4 (fun k_ => some k_ = (.slice Ao4 l1.length co4 : Value).ownBlock) (.slice Ao4 l1.length co4) l1 t305 t308 t309 t310 t311 w0 _ ?side1 ?side2 ?side3 A3.out).mono ?_); (case side1 => exact zq0); (case side2 => exact zq4); (case side3 => exact Kd.R_tight rfl HO1.out); rintro e w5 ⟨v306, rfl, ho0, hi, hb, hkp⟩; refine ⟨_, rfl, ?_⟩; replace HI0 := za (hi); have HO307 := za (Kd.R_mono (ok' := fun k_ => (P1_ k_ ∨ w.heap.size ≤ k_)) ho0 (fun k_ hk_ => Or.elim hk_ (fun hs_ => (HO1.out.1 k_ (hs_).symm)) (fun hn_ => (.inr (Nat.le_trans zq35 hn_))))); replace HK := za (Kept.then_ (S := (fun k_ => (P1_ k_) ∨ k_ = g)) zq14 hkp (fun k_ hs_ => Or.elim hs_ (fun hs_ => (fun e_ => Or.imp_left Or.inl ((HO1.out.1 k_ e_.symm))) hs_) (fun e_ => .inl (.inr e_)))); replace HB := za (hb); clear HO1; (try clear hb hkp ho0)))
 (try simp only [Act.put, List.setIfInBounds_toArray, List.set_cons_zero, List.set_cons_succ])
 go_loopg [1] k (fun kq v1 w' => ∃ (x1_1 : List (S140)) (x1001_1 : Int) (x1002_1 : Int) (x1003_1 : Int) (x1004_1 : Int), Aside0 (rr_sum.l0 kq x1_1 s0_0 x1001_1 x1002_1 x1003_1 x1004_1 = some (r1, r2, r3, r4, r5)) ∧ Aside0 (kq ≤ k) ∧ Aside0 (Kd.R k140 140 w' w0.heap.size (fun k_ => (P1_ k_ ∨ w.heap.size ≤ k_)) v1 x1_1) ∧ Aside0 (IsS83 w0 w' g s0_0 x1001_1 x1002_1 x1003_1 x1004_1) ∧ Aside0 (Kept w w' (fun k_ => (P1_ k_) ∨ k_ = g)) ∧ Aside0 (Below w0.heap.size w0 w'))
 case atStart => exact ⟨(t305), (t308), (t309), (t310), (t311), H', ⟨Nat.le_refl _⟩, ⟨by (with_reducible repeat (first | apply Kd.R_alloc | apply Kd.R_drewN | apply Kd.R_drew)); exact HO307.out⟩, ⟨zq0⟩, ⟨zq14⟩, ⟨zq4⟩⟩
 case round =>
  clear H'
  obtain ⟨x1_1, x1001_1, x1002_1, x1003_1, x1004_1, HA, HK1, HO_1, HI0, HK, HB⟩ := hrel
  cases gk with
  | zero => exact absurd HA.out (by simp [rr_sum.l0])
  | succ k1 =>
   have H := HA.out
   clear HA
   simp only [rr_sum.l0] at H
   by_cases c6 : x1003_1 = 0
   ·
    rw [if_pos c6] at H
    have c6b0 := beq_iff_eq.mpr c6
    have c6b1 := bne_eq_false_iff_eq.mpr c6
    clear c6
    replace H := Option.bind_eq_some_iff.mp H
    obtain ⟨⟨t312, t313, t314, t315, t316⟩, A70, H⟩ := H
    (try dsimp only at H)
    have A7 := za A70
    clear A70
    replace H := Option.bind_eq_some_iff.mp H
    obtain ⟨⟨t317, t318, t319, t320, t321⟩, A80, H⟩ := H
    (try dsimp only at H)
    have A8 := za A80
    clear A80
    by_cases c9 : t317 = true
    ·
     subst c9
     rw [if_pos rfl] at H
     replace H := Option.bind_eq_some_iff.mp H
     obtain ⟨⟨t322, t325, t326, t327, t328⟩, A100, H⟩ := H
     (try dsimp only at H)
     have A10 := za A100
     clear A100
     replace H := Option.bind_eq_some_iff.mp H
     obtain ⟨t329, A110, H⟩ := H
     (try dsimp only at H)
     have A11 := za A110
     clear A110
     have H' := za H
     clear H
     obtain ⟨ASz12_0, cSz12_0, HGz12, hgz12, HSz12_0⟩ := HI0.out
     have hcz12_0 := cellS83_0 HGz12
     have hcz12_1 := cellS83_1 HGz12
     have hcz12_2 := cellS83_2 HGz12
     have hcz12_3 := cellS83_3 HGz12
     have hcz12_4 := cellS83_4 HGz12
     have hfz12_1 := blk_frozen HGz12 1
     have hfz12_2 := blk_frozen HGz12 2
     have hfz12_3 := blk_frozen HGz12 3
     have hfz12_4 := blk_frozen HGz12 4
     clear HGz12 hgz12
     obtain ⟨Ao13, co13, eo13⟩ := Kd.R_slice HO_1.out
     subst eo13
     go_wp2_with (first | ((with_reducible refine gate_callee (f := 46) rfl ?_); refine goesL_ (some 19) rfl rfl Try.func46 zq13 rfl #[.pointer (some ⟨g, 0, none⟩)] rfl zq2 ?_; (with_reducible refine (rr_here.calls g s0_0 x1001_1 x1002_1 x1003_1 x1004_1 t312 t313 t314 t315 t316 w0 _ ?side1 ?side2 A7.out).mono ?_); (case side1 => exact zq0); (case side2 => exact zq4); rintro e w14 ⟨rfl, hi, hb, hk⟩; refine ⟨_, rfl, ?_⟩; replace HO_1 := za (Kd.R_mono (Kd.R_keep (IsS83.apart (show IsS83 w0 _ g s0_0 x1001_1 x1002_1 x1003_1 x1004_1 from zq0) (zr HO_1.out) (by decide)) hk (fun _ h => h.2)) (fun _ h => h.1)); replace HK := za (Kept.of_keep (S := (fun k_ => (P1_ k_) ∨ k_ = g)) zq14 hk (.inl (.inr rfl))); replace HB := za (hb); replace HI0 := za (hi); (try clear hb hk hi)) | ((with_reducible refine gate_callee (f := 48) rfl ?_); refine goesL_ (some 23) rfl rfl Try.func48 zq13 rfl #[.pointer (some ⟨g, 0, none⟩), .string (⟨#[43]⟩ : ByteArray)] rfl zq2 ?_; (with_reducible refine (rr_take.calls g s0_0 t313 t314 t315 t316 (⟨#[43]⟩ : ByteArray) true t318 t319 t320 t321 w0 _ ?side1 ?side2 A8.out).mono ?_); (case side1 => exact zq0); (case side2 => exact zq4); rintro e w15 ⟨rfl, hi, hb, hk⟩; refine ⟨_, rfl, ?_⟩; replace HO_1 := za (Kd.R_mono (Kd.R_keep (IsS83.apart (show IsS83 w0 _ g s0_0 t313 t314 t315 t316 from zq0) (zr HO_1.out) (by decide)) hk (fun _ h => h.2)) (fun _ h => h.1)); replace HK := za (Kept.of_keep (S := (fun k_ => (P1_ k_) ∨ k_ = g)) zq14 hk (.inl (.inr rfl))); replace HB := za (hb); replace HI0 := za (hi); (try clear hb hk hi)) | ((with_reducible refine gate_callee (f := 92) rfl ?_); refine goesL_ (some 26) rfl rfl Try.func92 zq13 rfl #[.pointer (some ⟨g, 0, none⟩), .slice Ao13 x1_1.length co13] rfl zq2 ?_; (with_reducible refine (rr_term.calls k1 g s0_0 t318 t319 t320 t321 (fun k_ => some k_ = (.slice Ao13 x1_1.length co13 : Value).ownBlock) (.slice Ao13 x1_1.length co13) x1_1 t322 t325 t326 t327 t328 w0 _ ?side1 ?side2 ?side3 A10.out).mono ?_); (case side1 => exact zq0); (case side2 => exact zq4); (case side3 => exact Kd.R_tight rfl HO_1.out); rintro e w16 ⟨v323, rfl, ho0, hi, hb, hkp⟩; refine ⟨_, rfl, ?_⟩; replace HI0 := za (hi); have HO324 := za (Kd.R_mono (ok' := fun k_ => (P1_ k_ ∨ w.heap.size ≤ k_)) ho0 (fun k_ hk_ => Or.elim hk_ (fun hs_ => (HO_1.out.1 k_ (hs_).symm)) (fun hn_ => (.inr (Nat.le_trans zq35 hn_))))); replace HK := za (Kept.then_ (S := (fun k_ => (P1_ k_) ∨ k_ = g)) zq14 hkp (fun k_ hs_ => Or.elim hs_ (fun hs_ => (fun e_ => Or.imp_left Or.inl ((HO_1.out.1 k_ e_.symm))) hs_) (fun e_ => .inl (.inr e_)))); replace HB := za (hb); clear HO_1; (try clear hb hkp ho0); obtain ⟨Ao17, co17, eo17⟩ := Kd.R_slice HO324.out; subst eo17) | ((with_reducible refine gate_callee (f := 83) rfl ?_); refine goesL_ (some 29) rfl rfl Try.func83 zq13 rfl #[.slice Ao17 t322.length co17, .int .i64 (wrap64 ((x1_1.length : Int) - 1)), .int .i64 5, .int .i64 t312] rfl zq2 ?_; (with_reducible refine (ra_two.calls (fun k_ => some k_ = (.slice Ao17 t322.length co17 : Value).ownBlock) (.slice Ao17 t322.length co17) t322 (wrap64 ((x1_1.length : Int) - 1)) 5 t312 t329 w0 _ ?side1 ?side2 A11.out).mono ?_); (case side1 => exact zq4); (case side2 => exact Kd.R_tight rfl HO324.out); rintro e w18 ⟨v330, rfl, ho0, hb, hkp⟩; refine ⟨_, rfl, ?_⟩; replace HI0 := za (IsS83.kept zq0 hkp (fun hs_ => (fun e_ => (IsS83.own_ne HI0.out HO324.out (by decide)) e_) hs_)); have HO331 := za (Kd.R_mono (ok' := fun k_ => (P1_ k_ ∨ w.heap.size ≤ k_)) ho0 (fun k_ hk_ => Or.elim hk_ (fun hs_ => (HO324.out.1 k_ (hs_).symm)) (fun hn_ => (.inr (Nat.le_trans zq35 hn_))))); replace HK := za (Kept.then_ (S := (fun k_ => (P1_ k_) ∨ k_ = g)) zq14 hkp (fun k_ hs_ => (fun e_ => Or.imp_left Or.inl ((HO324.out.1 k_ e_.symm))) hs_)); replace HB := za (hb); clear HO324; (try clear hb hkp ho0)))
     go_roundg k1
     case measure => have := HK1.out; omega
     case rel => exact ⟨(t329), (t325), (t326), (t327), (t328), H', ⟨by have := HK1.out; omega⟩, ⟨by (with_reducible repeat (first | apply Kd.R_alloc | apply Kd.R_drewN | apply Kd.R_drew)); exact HO331.out⟩, ⟨zq0⟩, ⟨zq14⟩, ⟨zq4⟩⟩
    ·
     replace c9 := Bool.eq_false_iff.mpr c9
     subst c9
     rw [if_neg (show ¬ (false = true) by decide)] at H
     replace H := Option.bind_eq_some_iff.mp H
     obtain ⟨⟨t332, t333, t334, t335, t336⟩, A190, H⟩ := H
     (try dsimp only at H)
     have A19 := za A190
     clear A190
     by_cases c20 : t332 = true
     ·
      subst c20
      rw [if_pos rfl] at H
      exact absurd H (by simp)
     ·
      replace c20 := Bool.eq_false_iff.mpr c20
      subst c20
      rw [if_neg (show ¬ (false = true) by decide)] at H
      simp only [Option.some.injEq, Prod.mk.injEq] at H
      obtain ⟨rfl, rfl, rfl, rfl, rfl⟩ := H
      obtain ⟨ASz21_0, cSz21_0, HGz21, hgz21, HSz21_0⟩ := HI0.out
      have hcz21_0 := cellS83_0 HGz21
      have hcz21_1 := cellS83_1 HGz21
      have hcz21_2 := cellS83_2 HGz21
      have hcz21_3 := cellS83_3 HGz21
      have hcz21_4 := cellS83_4 HGz21
      have hfz21_1 := blk_frozen HGz21 1
      have hfz21_2 := blk_frozen HGz21 2
      have hfz21_3 := blk_frozen HGz21 3
      have hfz21_4 := blk_frozen HGz21 4
      clear HGz21 hgz21
      obtain ⟨Ao22, co22, eo22⟩ := Kd.R_slice HO_1.out
      subst eo22
      go_wp2_with (first | ((with_reducible refine gate_callee (f := 46) rfl ?_); refine goesL_ (some 19) rfl rfl Try.func46 zq13 rfl #[.pointer (some ⟨g, 0, none⟩)] rfl zq2 ?_; (with_reducible refine (rr_here.calls g s0_0 x1001_1 x1002_1 x1003_1 x1004_1 t312 t313 t314 t315 t316 w0 _ ?side1 ?side2 A7.out).mono ?_); (case side1 => exact zq0); (case side2 => exact zq4); rintro e w23 ⟨rfl, hi, hb, hk⟩; refine ⟨_, rfl, ?_⟩; replace HO_1 := za (Kd.R_mono (Kd.R_keep (IsS83.apart (show IsS83 w0 _ g s0_0 x1001_1 x1002_1 x1003_1 x1004_1 from zq0) (zr HO_1.out) (by decide)) hk (fun _ h => h.2)) (fun _ h => h.1)); replace HK := za (Kept.of_keep (S := (fun k_ => (P1_ k_) ∨ k_ = g)) zq14 hk (.inl (.inr rfl))); replace HB := za (hb); replace HI0 := za (hi); (try clear hb hk hi)) | ((with_reducible refine gate_callee (f := 48) rfl ?_); refine goesL_ (some 23) rfl rfl Try.func48 zq13 rfl #[.pointer (some ⟨g, 0, none⟩), .string (⟨#[43]⟩ : ByteArray)] rfl zq2 ?_; (with_reducible refine (rr_take.calls g s0_0 t313 t314 t315 t316 (⟨#[43]⟩ : ByteArray) false t318 t319 t320 t321 w0 _ ?side1 ?side2 A8.out).mono ?_); (case side1 => exact zq0); (case side2 => exact zq4); rintro e w24 ⟨rfl, hi, hb, hk⟩; refine ⟨_, rfl, ?_⟩; replace HO_1 := za (Kd.R_mono (Kd.R_keep (IsS83.apart (show IsS83 w0 _ g s0_0 t313 t314 t315 t316 from zq0) (zr HO_1.out) (by decide)) hk (fun _ h => h.2)) (fun _ h => h.1)); replace HK := za (Kept.of_keep (S := (fun k_ => (P1_ k_) ∨ k_ = g)) zq14 hk (.inl (.inr rfl))); replace HB := za (hb); replace HI0 := za (hi); (try clear hb hk hi)) | ((with_reducible refine gate_callee (f := 48) rfl ?_); refine goesL_ (some 32) rfl rfl Try.func48 zq13 rfl #[.pointer (some ⟨g, 0, none⟩), .string (⟨#[45]⟩ : ByteArray)] rfl zq2 ?_; (with_reducible refine (rr_take.calls g s0_0 t318 t319 t320 t321 (⟨#[45]⟩ : ByteArray) false t333 t334 t335 t336 w0 _ ?side1 ?side2 A19.out).mono ?_); (case side1 => exact zq0); (case side2 => exact zq4); rintro e w25 ⟨rfl, hi, hb, hk⟩; refine ⟨_, rfl, ?_⟩; replace HO_1 := za (Kd.R_mono (Kd.R_keep (IsS83.apart (show IsS83 w0 _ g s0_0 t318 t319 t320 t321 from zq0) (zr HO_1.out) (by decide)) hk (fun _ h => h.2)) (fun _ h => h.1)); replace HK := za (Kept.of_keep (S := (fun k_ => (P1_ k_) ∨ k_ = g)) zq14 hk (.inl (.inr rfl))); replace HB := za (hb); replace HI0 := za (hi); (try clear hb hk hi)))
      go_ret
      exact ⟨_, zq16, zq93, zq0, zq4, zq14⟩
   ·
    rw [if_neg c6] at H
    exact absurd H (by simp)
def rr_expr.l0 : Nat → List (S140) → List ByteArray → Int → List (S110) → Int → Int → Int → Int → Option ((List (S140)) × Int × Int × Int × Int)
 | 0, _, _, _, _, _, _, _, _ => none
 | k + 1, x1, x5, x6, x1000, x1001, x1002, x1003, x1004 => if x6 < (x5.length : Int) then ((rr_here.f x1000 x1001 x1002 x1003 x1004).bind fun bt347 => (if 0 ≤ x6 then ((rr_take.f x1000 bt347.2.1 bt347.2.2.1 bt347.2.2.2.1 bt347.2.2.2.2 (rdOf ByteArray.empty x5 x6)).bind fun bt353 => (if bt353.1 = true then (none) else (rr_expr.l0 k x1 x5 (wrap64 (x6 + 1)) x1000 bt353.2.1 bt353.2.2.1 bt353.2.2.2.1 bt353.2.2.2.2))) else (none))) else (some (x1, x1001, x1002, x1003, x1004))
def rr_expr.f (k : Nat) (s0_0 : List (S110)) (s0_1 : Int) (s0_2 : Int) (s0_3 : Int) (s0_4 : Int) (l1 : List (S140)) : Option ((List (S140)) × Int × Int × Int × Int) := (rr_sum.f k s0_0 s0_1 s0_2 s0_3 s0_4 l1).bind fun bt337 => (rr_expr.l0 k bt337.1 (([(⟨#[61, 61]⟩ : ByteArray), (⟨#[60]⟩ : ByteArray), (⟨#[60, 61]⟩ : ByteArray)] : List ByteArray)) 0 s0_0 bt337.2.1 bt337.2.2.1 bt337.2.2.2.1 bt337.2.2.2.2)
theorem rr_expr.mono_l : ∀ k, (∀ y0 y1 y2 y3 y4 y5 y6 y7, LeO (rr_expr.l0 k y0 y1 y2 y3 y4 y5 y6 y7) (rr_expr.l0 (k + 1) y0 y1 y2 y3 y4 y5 y6 y7))
 | 0 => fun _ _ _ _ _ _ _ _ r h => by simp [rr_expr.l0] at h
 | k + 1 => by
  have ih0 := rr_expr.mono_l k
  ·
   intro y0 y1 y2 y3 y4 y5 y6 y7
   unfold rr_expr.l0
   repeat' with_reducible first | apply ih0 | apply rr_sum.mono | exact LeO.refl _ | exact LeO.none _ | refine LeO.ite ?_ ?_ | refine LeO.bind ?_ (fun _ => ?_)
theorem rr_expr.mono : ∀ a0 a1 a2 a3 a4 a5 k, LeO (rr_expr.f k a0 a1 a2 a3 a4 a5) (rr_expr.f (k + 1) a0 a1 a2 a3 a4 a5) := by
 intro a0 a1 a2 a3 a4 a5 k
 have ih0 := rr_expr.mono_l k
 unfold rr_expr.f
 repeat' with_reducible first | apply ih0 | apply rr_sum.mono | exact LeO.refl _ | exact LeO.none _ | refine LeO.ite ?_ ?_ | refine LeO.bind ?_ (fun _ => ?_)
set_option maxHeartbeats 8000000 in
set_option maxRecDepth 100000 in
theorem rr_expr.calls (k : Nat) (g : Nat) (s0_0 : List (S110)) (s0_1 : Int) (s0_2 : Int) (s0_3 : Int) (s0_4 : Int) (P1_ : Nat → Prop) (u9000_ : Value) (l1 : List (S140)) (r1 : List (S140)) (r2 : Int) (r3 : Int) (r4 : Int) (r5 : Int) (w0 w : World) (hI : IsS83 w0 w g s0_0 s0_1 s0_2 s0_3 s0_4) (hB : Below w0.heap.size w0 w) (ho1 : Kd.R k140 140 w w0.heap.size P1_ u9000_ l1) (h : rr_expr.f k s0_0 s0_1 s0_2 s0_3 s0_4 l1 = some (r1, r2, r3, r4, r5)) :
  Calls Try.prog 73 #[.pointer (some ⟨g, 0, none⟩), u9000_] w fun e w' => ∃ v0_ : Value, e = .returned (v0_) ∧ Kd.R k140 140 w' w0.heap.size (fun k_ => (P1_ k_ ∨ w.heap.size ≤ k_)) v0_ r1 ∧ IsS83 w0 w' g s0_0 r2 r3 r4 r5 ∧ Below w0.heap.size w0 w' ∧ Kept w w' (fun k_ => (P1_ k_) ∨ k_ = g) := by
 have HO1 := za (show Kd.R k140 140 w w0.heap.size (fun k_ => (P1_ k_ ∨ w.heap.size ≤ k_)) u9000_ l1 from Kd.R_mono ho1 (fun k_ hk => (.inl hk)))
 have HI0 := za hI
 have HL := za hB.size
 clear hI
 have HK := za (Kept.refl w (fun k_ => (P1_ k_) ∨ k_ = g))
 have HW0 := za hB.size
 have HB := za hB
 clear hB
 have H : ((rr_sum.f k s0_0 s0_1 s0_2 s0_3 s0_4 l1).bind fun bt337 => (rr_expr.l0 k bt337.1 (([(⟨#[61, 61]⟩ : ByteArray), (⟨#[60]⟩ : ByteArray), (⟨#[60, 61]⟩ : ByteArray)] : List ByteArray)) 0 s0_0 bt337.2.1 bt337.2.2.1 bt337.2.2.2.1 bt337.2.2.2.2)) = some (r1, r2, r3, r4, r5) := h
 clear h
 replace H := Option.bind_eq_some_iff.mp H
 obtain ⟨⟨t337, t340, t341, t342, t343⟩, A30, H⟩ := H
 (try dsimp only at H)
 have A3 := za A30
 clear A30
 obtain ⟨y344, hy344⟩ : ∃ y_ : List ByteArray, y_ = (([(⟨#[61, 61]⟩ : ByteArray), (⟨#[60]⟩ : ByteArray), (⟨#[60, 61]⟩ : ByteArray)] : List ByteArray)) := ⟨_, rfl⟩
 replace H : (rr_expr.l0 k t337 y344 0 s0_0 t340 t341 t342 t343) = some (r1, r2, r3, r4, r5) := by first | (rw [hy344]; with_reducible exact H) | (have H2_ := (Option.bind_some _ _).symm.trans H; rw [hy344]; with_reducible exact H2_) | (have H2_ := (Option.bind_some _ _).symm.trans H; with_reducible exact H2_) | with_reducible exact H | (rw [hy344]; exact H) | exact H
 have Ny344 := za hy344
 clear hy344
 have H' := za H
 clear H
 obtain ⟨Ao4, co4, eo4⟩ := Kd.R_slice HO1.out
 subst eo4
 go_enter Try.func73, Try.ntmps73
 go_wp2_with (first | ((with_reducible refine gate_callee (f := 82) rfl ?_); refine goesL_ (some 11) rfl rfl Try.func82 zq13 rfl #[.pointer (some ⟨g, 0, none⟩), .slice Ao4 l1.length co4] rfl zq2 ?_; (with_reducible refine (rr_sum.calls k g s0_0 s0_1 s0_2 s0_3 s0_4 (fun k_ => some k_ = (.slice Ao4 l1.length co4 : Value).ownBlock) (.slice Ao4 l1.length co4) l1 t337 t340 t341 t342 t343 w0 _ ?side1 ?side2 ?side3 A3.out).mono ?_); (case side1 => exact zq0); (case side2 => exact zq4); (case side3 => exact Kd.R_tight rfl HO1.out); rintro e w5 ⟨v338, rfl, ho0, hi, hb, hkp⟩; refine ⟨_, rfl, ?_⟩; replace HI0 := za (hi); have HO339 := za (Kd.R_mono (ok' := fun k_ => (P1_ k_ ∨ w.heap.size ≤ k_)) ho0 (fun k_ hk_ => Or.elim hk_ (fun hs_ => (HO1.out.1 k_ (hs_).symm)) (fun hn_ => (.inr (Nat.le_trans zq35 hn_))))); replace HK := za (Kept.then_ (S := (fun k_ => (P1_ k_) ∨ k_ = g)) zq14 hkp (fun k_ hs_ => Or.elim hs_ (fun hs_ => (fun e_ => Or.imp_left Or.inl ((HO1.out.1 k_ e_.symm))) hs_) (fun e_ => .inl (.inr e_)))); replace HB := za (hb); clear HO1; (try clear hb hkp ho0)) | ((with_reducible refine gate_dst (N := 12) rfl ?_); refine Kd.R_lit Kd.string _ 9 ?hg (N := 12) ?hd (xs := ([(⟨#[61, 61]⟩ : ByteArray), (⟨#[60]⟩ : ByteArray), (⟨#[60, 61]⟩ : ByteArray)] : List ByteArray)) (inner := [.string (⟨#[61, 61]⟩ : ByteArray), .string (⟨#[60]⟩ : ByteArray), .string (⟨#[60, 61]⟩ : ByteArray)]) (ok := fun _ => True) (okp := fun _ => True) ?hr ?hp (fun _ hk => hk) trivial (Below.refl _ _) (Nat.le_refl _) (by simp) ?_; (case hd => rfl); (case hg => rfl); (case hr => exact zq19); (case hp => exact (Reps.one (show Kd.M Kd.string _ _ _ (⟨#[61, 61]⟩ : ByteArray) [.string (⟨#[61, 61]⟩ : ByteArray)] from rfl) (Reps.one (show Kd.M Kd.string _ _ _ (⟨#[60]⟩ : ByteArray) [.string (⟨#[60]⟩ : ByteArray)] from rfl) (Reps.one (show Kd.M Kd.string _ _ _ (⟨#[60, 61]⟩ : ByteArray) [.string (⟨#[60, 61]⟩ : ByteArray)] from rfl) (Reps.none _ _))))); intro v345 w6 ho7 hb hg_ hnew_; clear hg_ hnew_; (first | rw [← Ny344.out] at ho7 | (simp only [Int.reduceToNat] at ho7; rw [← Ny344.out] at ho7)); replace HO339 := za (Kd.R_below (zr HO339.out) hb); have HO346 := za (Kd.R_lower (Kd.R_newM (M := fun k_ => (P1_ k_ ∨ w.heap.size ≤ k_)) ho7 zq35 (fun k_ h_ => .inr h_)) (below_size zq4)); replace HK := za (Kept.below (S := (fun k_ => (P1_ k_) ∨ k_ = g)) zq14 hb); replace HB := za (below_step zq4 hb); replace HI0 := za (IsS83.below zq0 hb); clear hb ho7))
 go_loopg [6] k (fun kq v6 w' => ∃ (x6_1 : Int) (x1001_1 : Int) (x1002_1 : Int) (x1003_1 : Int) (x1004_1 : Int), v6 = .int .i64 x6_1 ∧ Aside0 (rr_expr.l0 kq t337 y344 x6_1 s0_0 x1001_1 x1002_1 x1003_1 x1004_1 = some (r1, r2, r3, r4, r5)) ∧ Aside0 (kq ≤ k) ∧ Aside0 (Kd.R k140 140 w' w0.heap.size (fun k_ => (P1_ k_ ∨ w.heap.size ≤ k_)) v338 t337) ∧ Aside0 (Kd.R Kd.string 9 w' w0.heap.size (fun k_ => (P1_ k_ ∨ w.heap.size ≤ k_)) v345 y344) ∧ Aside0 (IsS83 w0 w' g s0_0 x1001_1 x1002_1 x1003_1 x1004_1) ∧ Aside0 (Kept w w' (fun k_ => (P1_ k_) ∨ k_ = g)) ∧ Aside0 (Below w0.heap.size w0 w'))
 case atStart => exact ⟨(0), (t340), (t341), (t342), (t343), zq22, H', ⟨Nat.le_refl _⟩, ⟨by (with_reducible repeat (first | apply Kd.R_alloc | apply Kd.R_drewN | apply Kd.R_drew)); exact HO339.out⟩, ⟨by (with_reducible repeat (first | apply Kd.R_alloc | apply Kd.R_drewN | apply Kd.R_drew)); exact Kd.R_mono HO346.out (fun _ hk => hk.1)⟩, ⟨zq0⟩, ⟨zq14⟩, ⟨zq4⟩⟩
 case round =>
  clear H'
  obtain ⟨x6_1, x1001_1, x1002_1, x1003_1, x1004_1, rfl, HA, HK1, HO_1, HO_5, HI0, HK, HB⟩ := hrel
  cases gk with
  | zero => exact absurd HA.out (by simp [rr_expr.l0])
  | succ k1 =>
   have H := HA.out
   clear HA
   simp only [rr_expr.l0] at H
   by_cases c8 : x6_1 < (y344.length : Int)
   ·
    rw [if_pos c8] at H
    have c8b0 : decide (x6_1 < (y344.length : Int)) = true := decide_eq_true c8
    clear c8
    replace H := Option.bind_eq_some_iff.mp H
    obtain ⟨⟨t347, t348, t349, t350, t351⟩, A90, H⟩ := H
    (try dsimp only at H)
    have A9 := za A90
    clear A90
    by_cases c10 : 0 ≤ x6_1
    ·
     rw [if_pos c10] at H
     have c10b0 := decide_eq_true c10
     clear c10
     replace H := Option.bind_eq_some_iff.mp H
     obtain ⟨⟨t353, t354, t355, t356, t357⟩, A110, H⟩ := H
     (try dsimp only at H)
     have A11 := za A110
     clear A110
     by_cases c12 : t353 = true
     ·
      subst c12
      rw [if_pos rfl] at H
      exact absurd H (by simp)
     ·
      replace c12 := Bool.eq_false_iff.mpr c12
      subst c12
      rw [if_neg (show ¬ (false = true) by decide)] at H
      have H' := za H
      clear H
      obtain ⟨Ao13, co13, eo13⟩ := Kd.R_slice HO_5.out
      subst eo13
      obtain ⟨Ao14, co14, eo14⟩ := Kd.R_slice HO_1.out
      subst eo14
      go_wp2_with (first | ((with_reducible refine gate_callee (f := 46) rfl ?_); refine goesL_ (some 23) rfl rfl Try.func46 zq13 rfl #[.pointer (some ⟨g, 0, none⟩)] rfl zq2 ?_; (with_reducible refine (rr_here.calls g s0_0 x1001_1 x1002_1 x1003_1 x1004_1 t347 t348 t349 t350 t351 w0 _ ?side1 ?side2 A9.out).mono ?_); (case side1 => exact zq0); (case side2 => exact zq4); rintro e w15 ⟨rfl, hi, hb, hk⟩; refine ⟨_, rfl, ?_⟩; replace HO_1 := za (Kd.R_mono (Kd.R_keep (IsS83.apart (show IsS83 w0 _ g s0_0 x1001_1 x1002_1 x1003_1 x1004_1 from zq0) (zr HO_1.out) (by decide)) hk (fun _ h => h.2)) (fun _ h => h.1)); replace HO_5 := za (Kd.R_mono (Kd.R_keep (IsS83.apart (show IsS83 w0 _ g s0_0 x1001_1 x1002_1 x1003_1 x1004_1 from zq0) (zr HO_5.out) (by decide)) hk (fun _ h => h.2)) (fun _ h => h.1)); replace HK := za (Kept.of_keep (S := (fun k_ => (P1_ k_) ∨ k_ = g)) zq14 hk (.inl (.inr rfl))); replace HB := za (hb); replace HI0 := za (hi); (try clear hb hk hi); have p352 : 0 ≤ (x6_1 : Int) := of_decide_eq_true zq10; have q352 : x6_1 < (y344.length : Int) := of_decide_eq_true zq10; obtain ⟨ad352, e352, hx352_0⟩ := Kd.at_string (Kd.R_reads' HO_5.out).2.2 x6_1 p352 q352; cases e352; replace p352 := eq_true p352; replace q352 := eq_true q352) | ((with_reducible refine gate_callee (f := 48) rfl ?_); refine goesL_ (some 29) rfl rfl Try.func48 zq13 rfl #[.pointer (some ⟨g, 0, none⟩), .string (rdOf ByteArray.empty y344 x6_1)] rfl zq2 ?_; (with_reducible refine (rr_take.calls g s0_0 t348 t349 t350 t351 (rdOf ByteArray.empty y344 x6_1) false t354 t355 t356 t357 w0 _ ?side1 ?side2 A11.out).mono ?_); (case side1 => exact zq0); (case side2 => exact zq4); rintro e w16 ⟨rfl, hi, hb, hk⟩; refine ⟨_, rfl, ?_⟩; replace HO_1 := za (Kd.R_mono (Kd.R_keep (IsS83.apart (show IsS83 w0 _ g s0_0 t348 t349 t350 t351 from zq0) (zr HO_1.out) (by decide)) hk (fun _ h => h.2)) (fun _ h => h.1)); replace HO_5 := za (Kd.R_mono (Kd.R_keep (IsS83.apart (show IsS83 w0 _ g s0_0 t348 t349 t350 t351 from zq0) (zr HO_5.out) (by decide)) hk (fun _ h => h.2)) (fun _ h => h.1)); replace HK := za (Kept.of_keep (S := (fun k_ => (P1_ k_) ∨ k_ = g)) zq14 hk (.inl (.inr rfl))); replace HB := za (hb); replace HI0 := za (hi); (try clear hb hk hi)))
      go_roundg k1
      case measure => have := HK1.out; omega
      case rel => exact ⟨(wrap64 (x6_1 + 1)), (t354), (t355), (t356), (t357), zq22, H', ⟨by have := HK1.out; omega⟩, ⟨zq93⟩, ⟨zq38⟩, ⟨zq0⟩, ⟨zq14⟩, ⟨zq4⟩⟩
    ·
     rw [if_neg c10] at H
     exact absurd H (by simp)
   ·
    rw [if_neg c8] at H
    have c8b0 : decide (x6_1 < (y344.length : Int)) = false := decide_eq_false c8
    clear c8
    simp only [Option.some.injEq, Prod.mk.injEq] at H
    obtain ⟨rfl, rfl, rfl, rfl, rfl⟩ := H
    obtain ⟨Ao17, co17, eo17⟩ := Kd.R_slice HO_5.out
    subst eo17
    go_wp2
    go_ret
    exact ⟨_, zq16, zq93, zq0, zq4, zq14⟩
def rr_call.l0 : Nat → List (S110) → Int → Int → Int → Int → Int → Int → ByteArray → ByteArray → ByteArray → Bool → ByteArray → ByteArray → Option (Int × Int × ByteArray × ByteArray × ByteArray × Bool × ByteArray × ByteArray × (List (S140)) × (List (List (S140))) × (List (S91)) × (List (S91)) × Int × Int × Int × Int)
 | 0, _, _, _, _, _, _, _, _, _, _, _, _, _ => none
 | k + 1, x1000, x1001, x1002, x1003, x1004, x359000, x359001, x359002, x359003, x359004, x359005, x359006, x359007 => if x1003 = 0 then (none) else ((rr_want.f x1000 x1001 x1002 x1003 x1004 (⟨#[41]⟩ : ByteArray)).bind fun bt380 => (some (x359000, x359001, x359002, x359003, x359004, x359005, x359006, x359007, ([] : List (S140)), ([] : List (List (S140))), ([] : List (S91)), ([] : List (S91)), bt380.1, bt380.2.1, bt380.2.2.1, bt380.2.2.2)))
def rr_call.f (k : Nat) (s0_0 : List (S110)) (s0_1 : Int) (s0_2 : Int) (s0_3 : Int) (s0_4 : Int) (a1_0 : Int) (a1_1 : Int) (a1_2 : ByteArray) (a1_3 : ByteArray) (a1_4 : ByteArray) (a1_5 : Bool) (a1_6 : ByteArray) (a1_7 : ByteArray) : Option (Int × Int × ByteArray × ByteArray × ByteArray × Bool × ByteArray × ByteArray × (List (S140)) × (List (List (S140))) × (List (S91)) × (List (S91)) × Int × Int × Int × Int) := (rr_qname.f s0_0 s0_1 s0_2 s0_3 s0_4).bind fun bt360 => ((rr_take.f s0_0 bt360.2.2.1 bt360.2.2.2.1 bt360.2.2.2.2.1 bt360.2.2.2.2.2 (⟨#[61]⟩ : ByteArray)).bind fun bt366 => (if bt366.1 = true then (none) else ((rr_want.f s0_0 bt366.2.1 bt366.2.2.1 bt366.2.2.2.1 bt366.2.2.2.2 (⟨#[40]⟩ : ByteArray)).bind fun bt371 => ((rr_is.f s0_0 bt371.1 bt371.2.1 bt371.2.2.1 bt371.2.2.2 (⟨#[41]⟩ : ByteArray)).bind fun bt375 => (if bt375.1 = true then (none) else (rr_call.l0 k s0_0 bt375.2.1 bt375.2.2.1 bt375.2.2.2.1 bt375.2.2.2.2 4 a1_1 a1_2 a1_3 a1_4 a1_5 bt360.1 bt360.2.1))))))
theorem rr_call.mono_l : ∀ k, (∀ y0 y1 y2 y3 y4 y5 y6 y7 y8 y9 y10 y11 y12, LeO (rr_call.l0 k y0 y1 y2 y3 y4 y5 y6 y7 y8 y9 y10 y11 y12) (rr_call.l0 (k + 1) y0 y1 y2 y3 y4 y5 y6 y7 y8 y9 y10 y11 y12))
 | 0 => fun _ _ _ _ _ _ _ _ _ _ _ _ _ r h => by simp [rr_call.l0] at h
 | k + 1 => by
  have ih0 := rr_call.mono_l k
  ·
   intro y0 y1 y2 y3 y4 y5 y6 y7 y8 y9 y10 y11 y12
   unfold rr_call.l0
   repeat' with_reducible first | apply ih0 | exact LeO.refl _ | exact LeO.none _ | refine LeO.ite ?_ ?_ | refine LeO.bind ?_ (fun _ => ?_)
theorem rr_call.mono : ∀ a0 a1 a2 a3 a4 a5 a6 a7 a8 a9 a10 a11 a12 k, LeO (rr_call.f k a0 a1 a2 a3 a4 a5 a6 a7 a8 a9 a10 a11 a12) (rr_call.f (k + 1) a0 a1 a2 a3 a4 a5 a6 a7 a8 a9 a10 a11 a12) := by
 intro a0 a1 a2 a3 a4 a5 a6 a7 a8 a9 a10 a11 a12 k
 have ih0 := rr_call.mono_l k
 unfold rr_call.f
 repeat' with_reducible first | apply ih0 | exact LeO.refl _ | exact LeO.none _ | refine LeO.ite ?_ ?_ | refine LeO.bind ?_ (fun _ => ?_)
set_option maxHeartbeats 8000000 in
set_option maxRecDepth 100000 in
theorem rr_call.calls (k : Nat) (g : Nat) (s0_0 : List (S110)) (s0_1 : Int) (s0_2 : Int) (s0_3 : Int) (s0_4 : Int) (a1_0 : Int) (a1_1 : Int) (a1_2 : ByteArray) (a1_3 : ByteArray) (a1_4 : ByteArray) (a1_5 : Bool) (a1_6 : ByteArray) (a1_7 : ByteArray) (r1 : Int) (r2 : Int) (r3 : ByteArray) (r4 : ByteArray) (r5 : ByteArray) (r6 : Bool) (r7 : ByteArray) (r8 : ByteArray) (r9 : List (S140)) (r10 : List (List (S140))) (r11 : List (S91)) (r12 : List (S91)) (r13 : Int) (r14 : Int) (r15 : Int) (r16 : Int) (w0 w : World) (hI : IsS83 w0 w g s0_0 s0_1 s0_2 s0_3 s0_4) (hB : Below w0.heap.size w0 w) (h : rr_call.f k s0_0 s0_1 s0_2 s0_3 s0_4 a1_0 a1_1 a1_2 a1_3 a1_4 a1_5 a1_6 a1_7 = some (r1, r2, r3, r4, r5, r6, r7, r8, r9, r10, r11, r12, r13, r14, r15, r16)) :
  Calls Try.prog 74 #[.pointer (some ⟨g, 0, none⟩), .agg #[.int .i64 a1_0, .int .i64 a1_1, .string a1_2, .string a1_3, .string a1_4, .bool a1_5, .string a1_6, .string a1_7, .slice none 0 0, .slice none 0 0, .slice none 0 0, .slice none 0 0]] w fun e w' => ∃ v8_ v9_ v10_ v11_ : Value, e = .returned (.agg #[.int .i64 r1, .int .i64 r2, .string r3, .string r4, .string r5, .bool r6, .string r7, .string r8, v8_, v9_, v10_, v11_]) ∧ Kd.R k140 140 w' w.heap.size (fun _ => True) v8_ r9 ∧ Kd.S (Kd.slice 140 k140) 88 w' w.heap.size (fun k_ => some k_ ≠ (v8_ : Value).ownBlock) v9_ r10 ∧ Kd.R k91 91 w' w.heap.size (fun k_ => some k_ ≠ (v8_ : Value).ownBlock ∧ some k_ ≠ (v9_ : Value).ownBlock ∧ some k_ ≠ (v11_ : Value).ownBlock) v10_ r11 ∧ Kd.R k91 91 w' w.heap.size (fun k_ => some k_ ≠ (v8_ : Value).ownBlock ∧ some k_ ≠ (v9_ : Value).ownBlock ∧ some k_ ≠ (v10_ : Value).ownBlock) v11_ r12 ∧ IsS83 w0 w' g s0_0 r13 r14 r15 r16 ∧ Below w0.heap.size w0 w' ∧ KeepBut w w' g none := by
 have hu91 := Try.underlying91
 have HI0 := za hI
 have HK := za (KeepBut.refl w g none)
 have HL := za hB.size
 clear hI
 have HW0 := za hB.size
 have HB := za hB
 clear hB
 have H : ((rr_qname.f s0_0 s0_1 s0_2 s0_3 s0_4).bind fun bt360 => ((rr_take.f s0_0 bt360.2.2.1 bt360.2.2.2.1 bt360.2.2.2.2.1 bt360.2.2.2.2.2 (⟨#[61]⟩ : ByteArray)).bind fun bt366 => (if bt366.1 = true then (none) else ((rr_want.f s0_0 bt366.2.1 bt366.2.2.1 bt366.2.2.2.1 bt366.2.2.2.2 (⟨#[40]⟩ : ByteArray)).bind fun bt371 => ((rr_is.f s0_0 bt371.1 bt371.2.1 bt371.2.2.1 bt371.2.2.2 (⟨#[41]⟩ : ByteArray)).bind fun bt375 => (if bt375.1 = true then (none) else (rr_call.l0 k s0_0 bt375.2.1 bt375.2.2.1 bt375.2.2.2.1 bt375.2.2.2.2 4 a1_1 a1_2 a1_3 a1_4 a1_5 bt360.1 bt360.2.1))))))) = some (r1, r2, r3, r4, r5, r6, r7, r8, r9, r10, r11, r12, r13, r14, r15, r16) := h
 clear h
 replace H := Option.bind_eq_some_iff.mp H
 obtain ⟨⟨t360, t361, t362, t363, t364, t365⟩, A30, H⟩ := H
 (try dsimp only at H)
 have A3 := za A30
 clear A30
 replace H := Option.bind_eq_some_iff.mp H
 obtain ⟨⟨t366, t367, t368, t369, t370⟩, A40, H⟩ := H
 (try dsimp only at H)
 have A4 := za A40
 clear A40
 by_cases c5 : t366 = true
 ·
  subst c5
  rw [if_pos rfl] at H
  exact absurd H (by simp)
 ·
  replace c5 := Bool.eq_false_iff.mpr c5
  subst c5
  rw [if_neg (show ¬ (false = true) by decide)] at H
  replace H := Option.bind_eq_some_iff.mp H
  obtain ⟨⟨t371, t372, t373, t374⟩, A60, H⟩ := H
  (try dsimp only at H)
  have A6 := za A60
  clear A60
  replace H := Option.bind_eq_some_iff.mp H
  obtain ⟨⟨t375, t376, t377, t378, t379⟩, A70, H⟩ := H
  (try dsimp only at H)
  have A7 := za A70
  clear A70
  by_cases c8 : t375 = true
  ·
   subst c8
   rw [if_pos rfl] at H
   exact absurd H (by simp)
  ·
   replace c8 := Bool.eq_false_iff.mpr c8
   subst c8
   rw [if_neg (show ¬ (false = true) by decide)] at H
   have H' := za H
   clear H
   go_enter Try.func74, Try.ntmps74
   go_wp2_with (first | ((with_reducible refine gate_dst (N := 3) rfl ?_); refine box_event ?hg (N := 3) ?hd (cs := #[.int .i64 a1_0, .int .i64 a1_1, .string a1_2, .string a1_3, .string a1_4, .bool a1_5, .string a1_6, .string a1_7, .slice none 0 0, .slice none 0 0, .slice none 0 0, .slice none 0 0]) (t := 91) ?hr ?_; (case hd => rfl); (case hg => rfl); (case hr => exact zq19); intro gb358 hg w9 hbox hb; replace HB := za (below_step zq4 hb); have BK358 := za (hbox); have GW358 := za ((by rw [hg]; exact (keep_size (w := w) (g := g) (row := none) zq7) : w.heap.size ≤ gb358)); have GE358 := za ((Nat.le_trans HW0.out (by rw [hg]; exact (keep_size (w := w) (g := g) (row := none) zq7) : w.heap.size ≤ gb358) : w0.heap.size ≤ gb358)); replace HK := za (KeepBut.trans zq7 (KeepBut.of_below hb g none) (.inl rfl)); have NB0_358 := za ((by rw [hg]; exact Nat.ne_of_lt (IsS83.lt (show IsS83 w0 _ g s0_0 s0_1 s0_2 s0_3 s0_4 from zq0)) : g ≠ gb358)); have NB358_0 := za ((by rw [hg]; exact Nat.ne_of_gt (IsS83.lt (show IsS83 w0 _ g s0_0 s0_1 s0_2 s0_3 s0_4 from zq0)) : gb358 ≠ g)); replace HI0 := za (IsS83.below zq0 hb); clear hb hbox hg) | ((with_reducible refine gate_dst (N := 4) rfl ?_); refine box_event ?hg (N := 4) ?hd (cs := #[.int .i64 0, .int .i64 0, .string (⟨#[]⟩ : ByteArray), .string (⟨#[]⟩ : ByteArray), .string (⟨#[]⟩ : ByteArray), .bool false, .string (⟨#[]⟩ : ByteArray), .string (⟨#[]⟩ : ByteArray), .slice none 0 0, .slice none 0 0, .slice none 0 0, .slice none 0 0]) (t := 91) ?hr ?_; (case hd => rfl); (case hg => rfl); (case hr => exact zq19); intro gb359 hg w10 hbox hb; replace HB := za (below_step (by repeat (first | (with_reducible first | exact HB.out | apply below_alloc | apply pw_below_drewN | apply below_drew1 | refine below_set ?_ (IsS83.ge HI0.out) | refine below_set ?_ GE358.out) | exact HB.out)) hb); have BK359 := za (hbox); have GW359 := za ((by rw [hg]; exact (keep_size (w := w) (g := g) (row := none) zq80) : w.heap.size ≤ gb359)); have GE359 := za ((Nat.le_trans HW0.out (by rw [hg]; exact (keep_size (w := w) (g := g) (row := none) zq80) : w.heap.size ≤ gb359) : w0.heap.size ≤ gb359)); replace HK := za (KeepBut.trans zq80 (KeepBut.of_below hb g none) (.inl rfl)); have NB358_359 := za ((by rw [hg]; exact Nat.ne_of_lt (blk_lt (g := gb358) (zb BK358.out)) : gb358 ≠ gb359)); have NB359_358 := za ((by rw [hg]; exact Nat.ne_of_gt (blk_lt (g := gb358) (zb BK358.out)) : gb359 ≠ gb358)); replace BK358 := za (blk_below (g := gb358) (zb BK358.out) hb); have NB0_359 := za ((by rw [hg]; exact Nat.ne_of_lt (IsS83.lt (show IsS83 w0 _ g s0_0 s0_1 s0_2 s0_3 s0_4 from zq70)) : g ≠ gb359)); have NB359_0 := za ((by rw [hg]; exact Nat.ne_of_gt (IsS83.lt (show IsS83 w0 _ g s0_0 s0_1 s0_2 s0_3 s0_4 from zq70)) : gb359 ≠ g)); replace HI0 := za (IsS83.below zq70 hb); clear hb hbox hg; have hnb11 := NB358_359.out; have hnc11 := NB359_358.out; have hnb12 := NB358_0.out; have hnc12 := NB0_358.out; obtain ⟨hcz13_0, hcz13_1, hcz13_2, hcz13_3, hcz13_4, hcz13_5, hcz13_6, hcz13_7, hcz13_8, hcz13_9, hcz13_10, hcz13_11⟩ := zc12 BK358.out; obtain ⟨hfz13_0, hfz13_1, hfz13_2, hfz13_3, hfz13_4, hfz13_5, hfz13_6, hfz13_7, hfz13_8, hfz13_9, hfz13_10⟩ := zf11 BK358.out; have hfz13_11 := blk_frozen BK358.out 11) | ((with_reducible refine gate_callee (f := 72) rfl ?_); refine goesL_ (some 12) rfl rfl Try.func72 zq13 rfl #[.pointer (some ⟨g, 0, none⟩)] rfl zq2 ?_; (with_reducible refine (rr_qname.calls g s0_0 s0_1 s0_2 s0_3 s0_4 t360 t361 t362 t363 t364 t365 w0 _ ?side1 ?side2 A3.out).mono ?_); (case side1 => exact zq32); (case side2 => exact zq37); rintro e w14 ⟨rfl, hi, hb, hk⟩; refine ⟨_, rfl, ?_⟩; replace BK358 := za (KeepBut.blk hk (g' := gb358) (o := .cells #[.int .i64 4, .int .i64 a1_1, .string a1_2, .string a1_3, .string a1_4, .bool a1_5, .string a1_6, .string a1_7, .slice none 0 0, .slice none 0 0, .slice none 0 0, .slice none 0 0] 91 (0, 0)) (by (with_reducible repeat (first | refine blk_drewN ?_ _ | refine blk_drew ?_ | refine blk_alloc ?_ _)); refine blk_put (cs := #[.int .i64 a1_0, .int .i64 a1_1, .string a1_2, .string a1_3, .string a1_4, .bool a1_5, .string a1_6, .string a1_7, .slice none 0 0, .slice none 0 0, .slice none 0 0, .slice none 0 0]) ?_ 0 _ rfl; (with_reducible repeat (first | refine blk_drewN ?_ _ | refine blk_drew ?_ | refine blk_alloc ?_ _)); exact BK358.out) NB358_0.out (by simp)); replace BK359 := za (KeepBut.blk hk (g' := gb359) (o := .cells #[.int .i64 0, .int .i64 0, .string (⟨#[]⟩ : ByteArray), .string (⟨#[]⟩ : ByteArray), .string (⟨#[]⟩ : ByteArray), .bool false, .string (⟨#[]⟩ : ByteArray), .string (⟨#[]⟩ : ByteArray), .slice none 0 0, .slice none 0 0, .slice none 0 0, .slice none 0 0] 91 (0, 0)) (by (with_reducible repeat (first | refine blk_drewN ?_ _ | refine blk_drew ?_ | refine blk_alloc ?_ _)); refine blk_far ?_ NB359_358.out _; (with_reducible repeat (first | refine blk_drewN ?_ _ | refine blk_drew ?_ | refine blk_alloc ?_ _)); exact BK359.out) NB359_0.out (by simp)); replace HK := za (KeepBut.trans zq41 hk (.inl rfl)); replace HB := za (hb); replace HI0 := za (hi); (try clear hb hk hi)) | ((with_reducible refine gate_callee (f := 48) rfl ?_); refine goesL_ (some 16) rfl rfl Try.func48 zq13 rfl #[.pointer (some ⟨g, 0, none⟩), .string (⟨#[61]⟩ : ByteArray)] rfl zq2 ?_; (with_reducible refine (rr_take.calls g s0_0 t362 t363 t364 t365 (⟨#[61]⟩ : ByteArray) false t367 t368 t369 t370 w0 _ ?side1 ?side2 A4.out).mono ?_); (case side1 => exact zq32); (case side2 => exact zq37); rintro e w15 ⟨rfl, hi, hb, hk⟩; refine ⟨_, rfl, ?_⟩; replace BK358 := za (KeepBut.blk hk (g' := gb358) (zb BK358.out) NB358_0.out (by simp)); replace BK359 := za (KeepBut.blk hk (g' := gb359) (zb BK359.out) NB359_0.out (by simp)); replace HK := za (KeepBut.trans zq41 hk (.inl rfl)); replace HB := za (hb); replace HI0 := za (hi); (try clear hb hk hi); obtain ⟨hcz16_0, hcz16_1, hcz16_2, hcz16_3, hcz16_4, hcz16_5, hcz16_6, hcz16_7, hcz16_8, hcz16_9, hcz16_10, hcz16_11⟩ := zc12 BK358.out; obtain ⟨hfz16_0, hfz16_1, hfz16_2, hfz16_3, hfz16_4, hfz16_5, hfz16_6, hfz16_7, hfz16_8, hfz16_9, hfz16_10⟩ := zf11 BK358.out; have hfz16_11 := blk_frozen BK358.out 11) | ((with_reducible refine gate_callee (f := 45) rfl ?_); refine goesL_ (some 34) rfl rfl Try.func45 zq13 rfl #[.pointer (some ⟨g, 0, none⟩), .string (⟨#[40]⟩ : ByteArray)] rfl zq2 ?_; (with_reducible refine (rr_want.calls g s0_0 t367 t368 t369 t370 (⟨#[40]⟩ : ByteArray) t371 t372 t373 t374 w0 _ ?side1 ?side2 A6.out).mono ?_); (case side1 => exact zq32); (case side2 => exact zq37); rintro e w17 ⟨rfl, hi, hb, hk⟩; refine ⟨_, rfl, ?_⟩; replace BK358 := za (KeepBut.blk hk (g' := gb358) (o := .cells #[.int .i64 4, .int .i64 a1_1, .string a1_2, .string a1_3, .string a1_4, .bool a1_5, .string t360, .string t361, .slice none 0 0, .slice none 0 0, .slice none 0 0, .slice none 0 0] 91 (0, 0)) (by (with_reducible repeat (first | refine blk_drewN ?_ _ | refine blk_drew ?_ | refine blk_alloc ?_ _)); refine blk_put (cs := #[.int .i64 4, .int .i64 a1_1, .string a1_2, .string a1_3, .string a1_4, .bool a1_5, .string t360, .string a1_7, .slice none 0 0, .slice none 0 0, .slice none 0 0, .slice none 0 0]) ?_ 7 _ rfl; (with_reducible repeat (first | refine blk_drewN ?_ _ | refine blk_drew ?_ | refine blk_alloc ?_ _)); refine blk_put (cs := #[.int .i64 4, .int .i64 a1_1, .string a1_2, .string a1_3, .string a1_4, .bool a1_5, .string a1_6, .string a1_7, .slice none 0 0, .slice none 0 0, .slice none 0 0, .slice none 0 0]) ?_ 6 _ rfl; (with_reducible repeat (first | refine blk_drewN ?_ _ | refine blk_drew ?_ | refine blk_alloc ?_ _)); exact BK358.out) NB358_0.out (by simp)); replace BK359 := za (KeepBut.blk hk (g' := gb359) (o := .cells #[.int .i64 0, .int .i64 0, .string (⟨#[]⟩ : ByteArray), .string (⟨#[]⟩ : ByteArray), .string (⟨#[]⟩ : ByteArray), .bool false, .string (⟨#[]⟩ : ByteArray), .string (⟨#[]⟩ : ByteArray), .slice none 0 0, .slice none 0 0, .slice none 0 0, .slice none 0 0] 91 (0, 0)) (by (with_reducible repeat (first | refine blk_drewN ?_ _ | refine blk_drew ?_ | refine blk_alloc ?_ _)); refine blk_far ?_ NB359_358.out _; (with_reducible repeat (first | refine blk_drewN ?_ _ | refine blk_drew ?_ | refine blk_alloc ?_ _)); refine blk_far ?_ NB359_358.out _; (with_reducible repeat (first | refine blk_drewN ?_ _ | refine blk_drew ?_ | refine blk_alloc ?_ _)); exact BK359.out) NB359_0.out (by simp)); replace HK := za (KeepBut.trans zq41 hk (.inl rfl)); replace HB := za (hb); replace HI0 := za (hi); (try clear hb hk hi)) | ((with_reducible refine gate_callee (f := 54) rfl ?_); refine goesL_ (some 36) rfl rfl Try.func54 zq13 rfl #[.pointer (some ⟨g, 0, none⟩), .string (⟨#[41]⟩ : ByteArray)] rfl zq2 ?_; (with_reducible refine (rr_is.calls g s0_0 t371 t372 t373 t374 (⟨#[41]⟩ : ByteArray) false t376 t377 t378 t379 w0 _ ?side1 ?side2 A7.out).mono ?_); (case side1 => exact zq32); (case side2 => exact zq37); rintro e w18 ⟨rfl, hi, hb, hk⟩; refine ⟨_, rfl, ?_⟩; replace BK358 := za (KeepBut.blk hk (g' := gb358) (zb BK358.out) NB358_0.out (by simp)); replace BK359 := za (KeepBut.blk hk (g' := gb359) (zb BK359.out) NB359_0.out (by simp)); replace HK := za (KeepBut.trans zq41 hk (.inl rfl)); replace HB := za (hb); replace HI0 := za (hi); (try clear hb hk hi)))
   (try simp only [Act.put, List.setIfInBounds_toArray, List.set_cons_zero, List.set_cons_succ])
   go_loopg [] k (fun kq w' => ∃ (x1001_1 : Int) (x1002_1 : Int) (x1003_1 : Int) (x1004_1 : Int), Aside0 (rr_call.l0 kq s0_0 x1001_1 x1002_1 x1003_1 x1004_1 4 a1_1 a1_2 a1_3 a1_4 a1_5 t360 t361 = some (r1, r2, r3, r4, r5, r6, r7, r8, r9, r10, r11, r12, r13, r14, r15, r16)) ∧ Aside0 (kq ≤ k) ∧ Aside0 (w'.heap[gb358]? = some (.cells #[.int .i64 4, .int .i64 a1_1, .string a1_2, .string a1_3, .string a1_4, .bool a1_5, .string t360, .string t361, (.slice none 0 0), (.slice none 0 0), (.slice none 0 0), (.slice none 0 0)] 91 (0, 0))) ∧ Aside0 (w'.heap[gb359]? = some (.cells #[.int .i64 0, .int .i64 0, .string (⟨#[]⟩ : ByteArray), .string (⟨#[]⟩ : ByteArray), .string (⟨#[]⟩ : ByteArray), .bool false, .string (⟨#[]⟩ : ByteArray), .string (⟨#[]⟩ : ByteArray), (.slice none 0 0), (.slice none 0 0), (.slice none 0 0), (.slice none 0 0)] 91 (0, 0))) ∧ Aside0 (IsS83 w0 w' g s0_0 x1001_1 x1002_1 x1003_1 x1004_1) ∧ Aside0 (KeepBut w w' g none) ∧ Aside0 (Below w0.heap.size w0 w'))
   case atStart => exact ⟨(t376), (t377), (t378), (t379), H', ⟨Nat.le_refl _⟩, ⟨by (with_reducible repeat (first | refine blk_drewN ?_ _ | refine blk_drew ?_ | refine blk_alloc ?_ _)); exact BK358.out⟩, ⟨by (with_reducible repeat (first | refine blk_drewN ?_ _ | refine blk_drew ?_ | refine blk_alloc ?_ _)); exact BK359.out⟩, ⟨zq32⟩, ⟨zq41⟩, ⟨zq37⟩⟩
   case round =>
    clear H'
    obtain ⟨x1001_1, x1002_1, x1003_1, x1004_1, HA, HK1, BK358, BK359, HI0, HK, HB⟩ := hrel
    cases gk with
    | zero => exact absurd HA.out (by simp [rr_call.l0])
    | succ k1 =>
     have H := HA.out
     clear HA
     simp only [rr_call.l0] at H
     by_cases c19 : x1003_1 = 0
     ·
      rw [if_pos c19] at H
      exact absurd H (by simp)
     ·
      rw [if_neg c19] at H
      have c19b0 := beq_eq_false_iff_ne.mpr c19
      have c19b1 := bne_iff_ne.mpr c19
      replace H := Option.bind_eq_some_iff.mp H
      obtain ⟨⟨t380, t381, t382, t383⟩, A200, H⟩ := H
      (try dsimp only at H)
      have A20 := za A200
      clear A200
      simp only [Option.some.injEq, Prod.mk.injEq] at H
      obtain ⟨rfl, rfl, rfl, rfl, rfl, rfl, rfl, rfl, rfl, rfl, rfl, rfl, rfl, rfl, rfl, rfl⟩ := H
      obtain ⟨ASz21_0, cSz21_0, HGz21, hgz21, HSz21_0⟩ := HI0.out
      have hcz21_0 := cellS83_0 HGz21
      have hcz21_1 := cellS83_1 HGz21
      have hcz21_2 := cellS83_2 HGz21
      have hcz21_3 := cellS83_3 HGz21
      have hcz21_4 := cellS83_4 HGz21
      have hfz21_1 := blk_frozen HGz21 1
      have hfz21_2 := blk_frozen HGz21 2
      have hfz21_3 := blk_frozen HGz21 3
      have hfz21_4 := blk_frozen HGz21 4
      clear HGz21 hgz21
      go_wp2_with (first | ((with_reducible refine gate_callee (f := 45) rfl ?_); refine goesL_ (some 54) rfl rfl Try.func45 zq13 rfl #[.pointer (some ⟨g, 0, none⟩), .string (⟨#[41]⟩ : ByteArray)] rfl zq2 ?_; (with_reducible refine (rr_want.calls g s0_0 x1001_1 x1002_1 x1003_1 x1004_1 (⟨#[41]⟩ : ByteArray) t380 t381 t382 t383 w0 _ ?side1 ?side2 A20.out).mono ?_); (case side1 => exact zq32); (case side2 => exact zq37); rintro e w22 ⟨rfl, hi, hb, hk⟩; refine ⟨_, rfl, ?_⟩; replace BK358 := za (KeepBut.blk hk (g' := gb358) (zb BK358.out) NB358_0.out (by simp)); replace BK359 := za (KeepBut.blk hk (g' := gb359) (zb BK359.out) NB359_0.out (by simp)); replace HK := za (KeepBut.trans zq41 hk (.inl rfl)); replace HB := za (hb); replace HI0 := za (hi); (try clear hb hk hi); have hnb23 := NB358_359.out; have hnc23 := NB359_358.out; have hnb24 := NB358_0.out; have hnc24 := NB0_358.out; obtain ⟨hcz25_0, hcz25_1, hcz25_2, hcz25_3, hcz25_4, hcz25_5, hcz25_6, hcz25_7, hcz25_8, hcz25_9, hcz25_10, hcz25_11⟩ := zc12 BK358.out; obtain ⟨hfz25_0, hfz25_1, hfz25_2, hfz25_3, hfz25_4, hfz25_5, hfz25_6, hfz25_7, hfz25_8, hfz25_9, hfz25_10, hfz25_11⟩ := zf12 BK358.out; have hnb26 := NB359_0.out; have hnc26 := NB0_359.out; obtain ⟨hcz27_0, hcz27_1, hcz27_2, hcz27_3, hcz27_4, hcz27_5, hcz27_6, hcz27_7, hcz27_8, hcz27_9, hcz27_10, hcz27_11⟩ := zc12 BK359.out; obtain ⟨hfz27_0, hfz27_1, hfz27_2, hfz27_3, hfz27_4, hfz27_5, hfz27_6, hfz27_7, hfz27_8, hfz27_9, hfz27_10⟩ := zf11 BK359.out; have hfz27_11 := blk_frozen BK359.out 11))
      refine bodyPost_ret (results_cell_row rfl _ _ gb359 91 #[.int .i64 4, .int .i64 a1_1, .string a1_2, .string a1_3, .string a1_4, .bool a1_5, .string t360, .string t361, .slice none 0 0, .slice none 0 0, .slice none 0 0, .slice none 0 0] (0, 0) _ rfl (by (with_reducible repeat (first | refine blk_drewN ?_ _ | refine blk_drew ?_ | refine blk_alloc ?_ _)); refine blk_put (cs := #[.int .i64 4, .int .i64 a1_1, .string a1_2, .string a1_3, .string a1_4, .bool a1_5, .string t360, .string t361, .slice none 0 0, .slice none 0 0, .slice none 0 0, .slice none 0 0]) ?_ 11 _ rfl; (with_reducible repeat (first | refine blk_drewN ?_ _ | refine blk_drew ?_ | refine blk_alloc ?_ _)); refine blk_put (cs := #[.int .i64 4, .int .i64 a1_1, .string a1_2, .string a1_3, .string a1_4, .bool a1_5, .string t360, .string t361, .slice none 0 0, .slice none 0 0, .slice none 0 0, .slice none 0 0]) ?_ 10 _ rfl; (with_reducible repeat (first | refine blk_drewN ?_ _ | refine blk_drew ?_ | refine blk_alloc ?_ _)); refine blk_put (cs := #[.int .i64 4, .int .i64 a1_1, .string a1_2, .string a1_3, .string a1_4, .bool a1_5, .string t360, .string t361, .slice none 0 0, .slice none 0 0, .slice none 0 0, .slice none 0 0]) ?_ 9 _ rfl; (with_reducible repeat (first | refine blk_drewN ?_ _ | refine blk_drew ?_ | refine blk_alloc ?_ _)); refine blk_put (cs := #[.int .i64 4, .int .i64 a1_1, .string a1_2, .string a1_3, .string a1_4, .bool a1_5, .string t360, .string t361, .slice none 0 0, .slice none 0 0, .slice none 0 0, .slice none 0 0]) ?_ 8 _ rfl; (with_reducible repeat (first | refine blk_drewN ?_ _ | refine blk_drew ?_ | refine blk_alloc ?_ _)); refine blk_put (cs := #[.int .i64 4, .int .i64 a1_1, .string a1_2, .string a1_3, .string a1_4, .bool a1_5, .string t360, .string (⟨#[]⟩ : ByteArray), .slice none 0 0, .slice none 0 0, .slice none 0 0, .slice none 0 0]) ?_ 7 _ rfl; (with_reducible repeat (first | refine blk_drewN ?_ _ | refine blk_drew ?_ | refine blk_alloc ?_ _)); refine blk_put (cs := #[.int .i64 4, .int .i64 a1_1, .string a1_2, .string a1_3, .string a1_4, .bool a1_5, .string (⟨#[]⟩ : ByteArray), .string (⟨#[]⟩ : ByteArray), .slice none 0 0, .slice none 0 0, .slice none 0 0, .slice none 0 0]) ?_ 6 _ rfl; (with_reducible repeat (first | refine blk_drewN ?_ _ | refine blk_drew ?_ | refine blk_alloc ?_ _)); refine blk_put (cs := #[.int .i64 4, .int .i64 a1_1, .string a1_2, .string a1_3, .string a1_4, .bool false, .string (⟨#[]⟩ : ByteArray), .string (⟨#[]⟩ : ByteArray), .slice none 0 0, .slice none 0 0, .slice none 0 0, .slice none 0 0]) ?_ 5 _ rfl; (with_reducible repeat (first | refine blk_drewN ?_ _ | refine blk_drew ?_ | refine blk_alloc ?_ _)); refine blk_put (cs := #[.int .i64 4, .int .i64 a1_1, .string a1_2, .string a1_3, .string (⟨#[]⟩ : ByteArray), .bool false, .string (⟨#[]⟩ : ByteArray), .string (⟨#[]⟩ : ByteArray), .slice none 0 0, .slice none 0 0, .slice none 0 0, .slice none 0 0]) ?_ 4 _ rfl; (with_reducible repeat (first | refine blk_drewN ?_ _ | refine blk_drew ?_ | refine blk_alloc ?_ _)); refine blk_put (cs := #[.int .i64 4, .int .i64 a1_1, .string a1_2, .string (⟨#[]⟩ : ByteArray), .string (⟨#[]⟩ : ByteArray), .bool false, .string (⟨#[]⟩ : ByteArray), .string (⟨#[]⟩ : ByteArray), .slice none 0 0, .slice none 0 0, .slice none 0 0, .slice none 0 0]) ?_ 3 _ rfl; (with_reducible repeat (first | refine blk_drewN ?_ _ | refine blk_drew ?_ | refine blk_alloc ?_ _)); refine blk_put (cs := #[.int .i64 4, .int .i64 a1_1, .string (⟨#[]⟩ : ByteArray), .string (⟨#[]⟩ : ByteArray), .string (⟨#[]⟩ : ByteArray), .bool false, .string (⟨#[]⟩ : ByteArray), .string (⟨#[]⟩ : ByteArray), .slice none 0 0, .slice none 0 0, .slice none 0 0, .slice none 0 0]) ?_ 2 _ rfl; (with_reducible repeat (first | refine blk_drewN ?_ _ | refine blk_drew ?_ | refine blk_alloc ?_ _)); refine blk_put (cs := #[.int .i64 4, .int .i64 0, .string (⟨#[]⟩ : ByteArray), .string (⟨#[]⟩ : ByteArray), .string (⟨#[]⟩ : ByteArray), .bool false, .string (⟨#[]⟩ : ByteArray), .string (⟨#[]⟩ : ByteArray), .slice none 0 0, .slice none 0 0, .slice none 0 0, .slice none 0 0]) ?_ 1 _ rfl; (with_reducible repeat (first | refine blk_drewN ?_ _ | refine blk_drew ?_ | refine blk_alloc ?_ _)); refine blk_put (cs := #[.int .i64 0, .int .i64 0, .string (⟨#[]⟩ : ByteArray), .string (⟨#[]⟩ : ByteArray), .string (⟨#[]⟩ : ByteArray), .bool false, .string (⟨#[]⟩ : ByteArray), .string (⟨#[]⟩ : ByteArray), .slice none 0 0, .slice none 0 0, .slice none 0 0, .slice none 0 0]) ?_ 0 _ rfl; (with_reducible repeat (first | refine blk_drewN ?_ _ | refine blk_drew ?_ | refine blk_alloc ?_ _)); exact BK359.out) Try.underlying91 rfl zq13) rfl ?_
      exact ⟨_, _, _, _, zq16, zq33, by first | exact Kd.S_nil _ _ _ _ _ | exact Kd.N_nil _ _ _ _ _ | exact Kd.V_nil _ _ _ _ _ | exact Kd.Q_nil _ _ _ _ _ | exact Kd.R_nil _ _ _ _ _, zq33, zq33, zq32, zq37, zq41⟩
mutual
def rr_stmt.j0 : Nat → Bool → List (S110) → Int → Int → Int → Int → Int → Int → ByteArray → ByteArray → ByteArray → Bool → ByteArray → ByteArray → Option (Int × Int × ByteArray × ByteArray × ByteArray × Bool × ByteArray × ByteArray × (List (S140)) × (List (List (S140))) × (List (S91)) × (List (S91)) × Int × Int × Int × Int)
 | 0, _, _, _, _, _, _, _, _, _, _, _, _, _, _ => none
 | k + 1, x12, x1000, x1001, x1002, x1003, x1004, x391000, x391001, x391002, x391003, x391004, x391005, x391006, x391007 => if x12 = true then ((rr_qname.f x1000 x1001 x1002 x1003 x1004).bind fun bt392 => ((rr_want.f x1000 bt392.2.2.1 bt392.2.2.2.1 bt392.2.2.2.2.1 bt392.2.2.2.2.2 (⟨#[61]⟩ : ByteArray)).bind fun bt398 => ((rr_expr.f k x1000 bt398.1 bt398.2.1 bt398.2.2.1 bt398.2.2.2 ([] : List (S140))).bind fun bt402 => ((rr_want.f x1000 bt402.2.1 bt402.2.2.1 bt402.2.2.2.1 bt402.2.2.2.2 (⟨#[59]⟩ : ByteArray)).bind fun bt409 => (some (2, x391001, bt392.1, bt392.2.1, x391004, x391005, x391006, x391007, bt402.1, ([] : List (List (S140))), ([] : List (S91)), ([] : List (S91)), bt409.1, bt409.2.1, bt409.2.2.1, bt409.2.2.2)))))) else ((rr_take.f x1000 x1001 x1002 x1003 x1004 (⟨#[108, 101, 116]⟩ : ByteArray)).bind fun bt413 => (if bt413.1 = true then ((rr_name.f x1000 bt413.2.1 bt413.2.2.1 bt413.2.2.2.1 bt413.2.2.2.2).bind fun bt418 => ((rr_want.f x1000 bt418.2.1 bt418.2.2.1 bt418.2.2.2.1 bt418.2.2.2.2 (⟨#[58]⟩ : ByteArray)).bind fun bt423 => ((rr_name.f x1000 bt423.1 bt423.2.1 bt423.2.2.1 bt423.2.2.2).bind fun bt427 => ((rr_want.f x1000 bt427.2.1 bt427.2.2.1 bt427.2.2.2.1 bt427.2.2.2.2 (⟨#[61]⟩ : ByteArray)).bind fun bt432 => ((rr_expr.f k x1000 bt432.1 bt432.2.1 bt432.2.2.1 bt432.2.2.2 ([] : List (S140))).bind fun bt436 => ((rr_want.f x1000 bt436.2.1 bt436.2.2.1 bt436.2.2.2.1 bt436.2.2.2.2 (⟨#[59]⟩ : ByteArray)).bind fun bt443 => (some (1, x391001, x391002, bt418.1, bt427.1, x391005, x391006, x391007, bt436.1, ([] : List (List (S140))), ([] : List (S91)), ([] : List (S91)), bt443.1, bt443.2.1, bt443.2.2.1, bt443.2.2.2)))))))) else ((rr_take.f x1000 bt413.2.1 bt413.2.2.1 bt413.2.2.2.1 bt413.2.2.2.2 (⟨#[114, 101, 115, 117, 108, 116]⟩ : ByteArray)).bind fun bt447 => (if bt447.1 = true then ((rr_want.f x1000 bt447.2.1 bt447.2.2.1 bt447.2.2.2.1 bt447.2.2.2.2 (⟨#[61]⟩ : ByteArray)).bind fun bt452 => ((rr_expr.f k x1000 bt452.1 bt452.2.1 bt452.2.2.1 bt452.2.2.2 ([] : List (S140))).bind fun bt456 => ((rr_want.f x1000 bt456.2.1 bt456.2.2.1 bt456.2.2.2.1 bt456.2.2.2.2 (⟨#[59]⟩ : ByteArray)).bind fun bt463 => (some (3, x391001, x391002, x391003, x391004, x391005, x391006, x391007, bt456.1, ([] : List (List (S140))), ([] : List (S91)), ([] : List (S91)), bt463.1, bt463.2.1, bt463.2.2.1, bt463.2.2.2))))) else ((rr_take.f x1000 bt447.2.1 bt447.2.2.1 bt447.2.2.2.1 bt447.2.2.2.2 (⟨#[99, 97, 108, 108]⟩ : ByteArray)).bind fun bt467 => (if bt467.1 = true then ((rr_call.f k x1000 bt467.2.1 bt467.2.2.1 bt467.2.2.2.1 bt467.2.2.2.2 x391000 x391001 x391002 x391003 x391004 x391005 x391006 x391007).bind fun bt472 => ((rr_want.f x1000 bt472.2.2.2.2.2.2.2.2.2.2.2.2.1 bt472.2.2.2.2.2.2.2.2.2.2.2.2.2.1 bt472.2.2.2.2.2.2.2.2.2.2.2.2.2.2.1 bt472.2.2.2.2.2.2.2.2.2.2.2.2.2.2.2 (⟨#[59]⟩ : ByteArray)).bind fun bt496 => (some (bt472.1, bt472.2.1, bt472.2.2.1, bt472.2.2.2.1, bt472.2.2.2.2.1, bt472.2.2.2.2.2.1, bt472.2.2.2.2.2.2.1, bt472.2.2.2.2.2.2.2.1, bt472.2.2.2.2.2.2.2.2.1, bt472.2.2.2.2.2.2.2.2.2.1, bt472.2.2.2.2.2.2.2.2.2.2.1, bt472.2.2.2.2.2.2.2.2.2.2.2.1, bt496.1, bt496.2.1, bt496.2.2.1, bt496.2.2.2)))) else ((rr_take.f x1000 bt467.2.1 bt467.2.2.1 bt467.2.2.2.1 bt467.2.2.2.2 (⟨#[101, 109, 105, 116]⟩ : ByteArray)).bind fun bt500 => (if bt500.1 = true then ((rr_name.f x1000 bt500.2.1 bt500.2.2.1 bt500.2.2.2.1 bt500.2.2.2.2).bind fun bt505 => ((rr_want.f x1000 bt505.2.1 bt505.2.2.1 bt505.2.2.2.1 bt505.2.2.2.2 (⟨#[59]⟩ : ByteArray)).bind fun bt510 => (some (7, x391001, x391002, bt505.1, x391004, x391005, x391006, x391007, ([] : List (S140)), ([] : List (List (S140))), ([] : List (S91)), ([] : List (S91)), bt510.1, bt510.2.1, bt510.2.2.1, bt510.2.2.2)))) else ((rr_take.f x1000 bt500.2.1 bt500.2.2.1 bt500.2.2.2.1 bt500.2.2.2.2 (⟨#[115, 107, 105, 112]⟩ : ByteArray)).bind fun bt514 => (if bt514.1 = true then ((rr_want.f x1000 bt514.2.1 bt514.2.2.1 bt514.2.2.2.1 bt514.2.2.2.2 (⟨#[59]⟩ : ByteArray)).bind fun bt519 => (some (8, x391001, x391002, x391003, x391004, x391005, x391006, x391007, ([] : List (S140)), ([] : List (List (S140))), ([] : List (S91)), ([] : List (S91)), bt519.1, bt519.2.1, bt519.2.2.1, bt519.2.2.2))) else ((rr_take.f x1000 bt514.2.1 bt514.2.2.1 bt514.2.2.2.1 bt514.2.2.2.2 (⟨#[105, 102]⟩ : ByteArray)).bind fun bt523 => (if bt523.1 = true then ((rr_expr.f k x1000 bt523.2.1 bt523.2.2.1 bt523.2.2.2.1 bt523.2.2.2.2 ([] : List (S140))).bind fun bt528 => ((rr_block.f k x1000 bt528.2.1 bt528.2.2.1 bt528.2.2.2.1 bt528.2.2.2.2).bind fun bt535 => ((rr_take.f x1000 bt535.2.1 bt535.2.2.1 bt535.2.2.2.1 bt535.2.2.2.2 (⟨#[101, 108, 115, 101]⟩ : ByteArray)).bind fun bt542 => (if bt542.1 = true then ((rr_block.f k x1000 bt542.2.1 bt542.2.2.1 bt542.2.2.2.1 bt542.2.2.2.2).bind fun bt547 => (some (5, x391001, x391002, x391003, x391004, x391005, x391006, x391007, bt528.1, ([] : List (List (S140))), bt535.1, bt547.1, bt547.2.1, bt547.2.2.1, bt547.2.2.2.1, bt547.2.2.2.2))) else (some (5, x391001, x391002, x391003, x391004, x391005, x391006, x391007, bt528.1, ([] : List (List (S140))), bt535.1, ([] : List (S91)), bt542.2.1, bt542.2.2.1, bt542.2.2.2.1, bt542.2.2.2.2)))))) else ((rr_take.f x1000 bt523.2.1 bt523.2.2.1 bt523.2.2.2.1 bt523.2.2.2.2 (⟨#[119, 104, 105, 108, 101]⟩ : ByteArray)).bind fun bt554 => (if bt554.1 = true then ((rr_expr.f k x1000 bt554.2.1 bt554.2.2.1 bt554.2.2.2.1 bt554.2.2.2.2 ([] : List (S140))).bind fun bt559 => ((rr_block.f k x1000 bt559.2.1 bt559.2.2.1 bt559.2.2.2.1 bt559.2.2.2.2).bind fun bt566 => (some (6, x391001, x391002, x391003, x391004, x391005, x391006, x391007, bt559.1, ([] : List (List (S140))), bt566.1, ([] : List (S91)), bt566.2.1, bt566.2.2.1, bt566.2.2.2.1, bt566.2.2.2.2)))) else ((rr_fail.f x1000 bt554.2.1 bt554.2.2.1 bt554.2.2.2.1 bt554.2.2.2.2 11).bind fun bt573 => (some (x391000, x391001, x391002, x391003, x391004, x391005, x391006, x391007, ([] : List (S140)), ([] : List (List (S140))), ([] : List (S91)), ([] : List (S91)), bt573.1, bt573.2.1, bt573.2.2.1, bt573.2.2.2)))))))))))))))))
def rr_stmt.f : Nat → List (S110) → Int → Int → Int → Int → Option (Int × Int × ByteArray × ByteArray × ByteArray × Bool × ByteArray × ByteArray × (List (S140)) × (List (List (S140))) × (List (S91)) × (List (S91)) × Int × Int × Int × Int)
 | 0, _, _, _, _, _ => none
 | k + 1, s0_0, s0_1, s0_2, s0_3, s0_4 => (rr_here.f s0_0 s0_1 s0_2 s0_3 s0_4).bind fun bt385 => (if bt385.2.2.2.1 = 0 then (if 0 ≤ bt385.2.1 then (if bt385.2.1 < (s0_0.length : Int) then (rr_stmt.j0 k (((rd_T110 s0_0 bt385.2.1).f0) == 1) s0_0 bt385.2.1 bt385.2.2.1 bt385.2.2.2.1 bt385.2.2.2.2 0 bt385.1 (⟨#[]⟩ : ByteArray) (⟨#[]⟩ : ByteArray) (⟨#[]⟩ : ByteArray) false (⟨#[]⟩ : ByteArray) (⟨#[]⟩ : ByteArray)) else (none)) else (none)) else (rr_stmt.j0 k false s0_0 bt385.2.1 bt385.2.2.1 bt385.2.2.2.1 bt385.2.2.2.2 0 bt385.1 (⟨#[]⟩ : ByteArray) (⟨#[]⟩ : ByteArray) (⟨#[]⟩ : ByteArray) false (⟨#[]⟩ : ByteArray) (⟨#[]⟩ : ByteArray)))
def rr_block.l0 : Nat → List (S91) → List (S110) → Int → Int → Int → Int → Option ((List (S91)) × Int × Int × Int × Int)
 | 0, _, _, _, _, _, _ => none
 | k + 1, x3, x1000, x1001, x1002, x1003, x1004 => if x1003 = 0 then ((rr_is.f x1000 x1001 x1002 x1003 x1004 (⟨#[125]⟩ : ByteArray)).bind fun bt581 => (if bt581.1 = true then ((rr_want.f x1000 bt581.2.1 bt581.2.2.1 bt581.2.2.2.1 bt581.2.2.2.2 (⟨#[125]⟩ : ByteArray)).bind fun bt586 => (some (x3, bt586.1, wrap64 (bt586.2.1 - 1), bt586.2.2.1, bt586.2.2.2))) else ((rr_stmt.f k x1000 bt581.2.1 bt581.2.2.1 bt581.2.2.2.1 bt581.2.2.2.2).bind fun bt590 => (if x3.length < 703687441776 then (rr_block.l0 k (x3 ++ [(⟨bt590.1, bt590.2.1, bt590.2.2.1, bt590.2.2.2.1, bt590.2.2.2.2.1, bt590.2.2.2.2.2.1, bt590.2.2.2.2.2.2.1, bt590.2.2.2.2.2.2.2.1, bt590.2.2.2.2.2.2.2.2.1, bt590.2.2.2.2.2.2.2.2.2.1, bt590.2.2.2.2.2.2.2.2.2.2.1, bt590.2.2.2.2.2.2.2.2.2.2.2.1⟩ : S91)]) x1000 bt590.2.2.2.2.2.2.2.2.2.2.2.2.1 bt590.2.2.2.2.2.2.2.2.2.2.2.2.2.1 bt590.2.2.2.2.2.2.2.2.2.2.2.2.2.2.1 bt590.2.2.2.2.2.2.2.2.2.2.2.2.2.2.2) else (none))))) else ((rr_want.f x1000 x1001 x1002 x1003 x1004 (⟨#[125]⟩ : ByteArray)).bind fun bt617 => (some (x3, bt617.1, wrap64 (bt617.2.1 - 1), bt617.2.2.1, bt617.2.2.2)))
def rr_block.f : Nat → List (S110) → Int → Int → Int → Int → Option ((List (S91)) × Int × Int × Int × Int)
 | 0, _, _, _, _, _ => none
 | k + 1, s0_0, s0_1, s0_2, s0_3, s0_4 => (rr_open.f k s0_0 s0_1 s0_2 s0_3 s0_4 (⟨#[123]⟩ : ByteArray)).bind fun bt577 => (rr_block.l0 k ([] : List (S91)) s0_0 bt577.1 bt577.2.1 bt577.2.2.1 bt577.2.2.2)
end
theorem rr_stmt_group.mono_l : ∀ k, (∀ y0 y1 y2 y3 y4, LeO (rr_stmt.f k y0 y1 y2 y3 y4) (rr_stmt.f (k + 1) y0 y1 y2 y3 y4)) ∧ (∀ y0 y1 y2 y3 y4 y5 y6 y7 y8 y9 y10 y11 y12 y13, LeO (rr_stmt.j0 k y0 y1 y2 y3 y4 y5 y6 y7 y8 y9 y10 y11 y12 y13) (rr_stmt.j0 (k + 1) y0 y1 y2 y3 y4 y5 y6 y7 y8 y9 y10 y11 y12 y13)) ∧ (∀ y0 y1 y2 y3 y4, LeO (rr_block.f k y0 y1 y2 y3 y4) (rr_block.f (k + 1) y0 y1 y2 y3 y4)) ∧ (∀ y0 y1 y2 y3 y4 y5, LeO (rr_block.l0 k y0 y1 y2 y3 y4 y5) (rr_block.l0 (k + 1) y0 y1 y2 y3 y4 y5))
 | 0 => ⟨fun _ _ _ _ _ r h => by simp [rr_stmt.f] at h, fun _ _ _ _ _ _ _ _ _ _ _ _ _ _ r h => by simp [rr_stmt.j0] at h, fun _ _ _ _ _ r h => by simp [rr_block.f] at h, fun _ _ _ _ _ _ r h => by simp [rr_block.l0] at h⟩
 | k + 1 => by
  obtain ⟨ih0, ih1, ih2, ih3⟩ := rr_stmt_group.mono_l k
  refine ⟨?_, ?_, ?_, ?_⟩
  ·
   intro y0 y1 y2 y3 y4
   unfold rr_stmt.f
   repeat' with_reducible first | apply ih0 | apply ih1 | apply ih2 | apply ih3 | apply rr_call.mono | apply rr_expr.mono | apply rr_open.mono | exact LeO.refl _ | exact LeO.none _ | refine LeO.ite ?_ ?_ | refine LeO.bind ?_ (fun _ => ?_)
  ·
   intro y0 y1 y2 y3 y4 y5 y6 y7 y8 y9 y10 y11 y12 y13
   unfold rr_stmt.j0
   repeat' with_reducible first | apply ih0 | apply ih1 | apply ih2 | apply ih3 | apply rr_call.mono | apply rr_expr.mono | apply rr_open.mono | exact LeO.refl _ | exact LeO.none _ | refine LeO.ite ?_ ?_ | refine LeO.bind ?_ (fun _ => ?_)
  ·
   intro y0 y1 y2 y3 y4
   unfold rr_block.f
   repeat' with_reducible first | apply ih0 | apply ih1 | apply ih2 | apply ih3 | apply rr_call.mono | apply rr_expr.mono | apply rr_open.mono | exact LeO.refl _ | exact LeO.none _ | refine LeO.ite ?_ ?_ | refine LeO.bind ?_ (fun _ => ?_)
  ·
   intro y0 y1 y2 y3 y4 y5
   unfold rr_block.l0
   repeat' with_reducible first | apply ih0 | apply ih1 | apply ih2 | apply ih3 | apply rr_call.mono | apply rr_expr.mono | apply rr_open.mono | exact LeO.refl _ | exact LeO.none _ | refine LeO.ite ?_ ?_ | refine LeO.bind ?_ (fun _ => ?_)
theorem rr_stmt.mono : ∀ a0 a1 a2 a3 a4 k, LeO (rr_stmt.f k a0 a1 a2 a3 a4) (rr_stmt.f (k + 1) a0 a1 a2 a3 a4) := fun a0 a1 a2 a3 a4 k => (rr_stmt_group.mono_l k).1 a0 a1 a2 a3 a4
theorem rr_block.mono : ∀ a0 a1 a2 a3 a4 k, LeO (rr_block.f k a0 a1 a2 a3 a4) (rr_block.f (k + 1) a0 a1 a2 a3 a4) := fun a0 a1 a2 a3 a4 k => (rr_stmt_group.mono_l k).2.2.1 a0 a1 a2 a3 a4
end Go.Proofs.Ytcjnhnnfoadklaa.QRunBranches
