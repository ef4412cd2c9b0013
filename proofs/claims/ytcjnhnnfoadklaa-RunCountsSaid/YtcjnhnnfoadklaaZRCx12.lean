import Derived.Test.YtcjnhnnfoadklaaZRCx10
import Derived.Test.YtcjnhnnfoadklaaZRCx11
namespace Go.Proofs.Ytcjnhnnfoadklaa.QRunCounts
open Go.RowKit Go.Proofs.YtcjnhnnfoadklaaW.PrintWords Go.Proofs.YtcjnhnnfoadklaaW.PrintLast Go.Proofs.YtcjnhnnfoadklaaW.PrintMore
attribute [local go_sem] max2_int min2_int max_two min_two max_three min_three max_four min_four
set_option linter.unusedVariables false
set_option linter.unusedSimpArgs false
def rr_sum.l0 : Nat → List (S140) → List (S110) → Int → Int → Int → Int → Option ((List (S140)) × Int × Int × Int × Int)
 | 0, _, _, _, _, _, _ => none
 | k + 1, x1, x1000, x1001, x1002, x1003, x1004 => if x1003 = 0 then ((rr_here.f x1000 x1001 x1002 x1003 x1004).bind fun bt297 => ((rr_take.f x1000 bt297.2.1 bt297.2.2.1 bt297.2.2.2.1 bt297.2.2.2.2 (⟨#[43]⟩ : ByteArray)).bind fun bt302 => (if bt302.1 = true then ((rr_term.f k x1000 bt302.2.1 bt302.2.2.1 bt302.2.2.2.1 bt302.2.2.2.2 x1).bind fun bt307 => ((ra_two.f bt307.1 (wrap64 ((x1.length : Int) - 1)) 5 bt297.1).bind fun t314 => (rr_sum.l0 k t314 x1000 bt307.2.1 bt307.2.2.1 bt307.2.2.2.1 bt307.2.2.2.2))) else ((rr_take.f x1000 bt302.2.1 bt302.2.2.1 bt302.2.2.2.1 bt302.2.2.2.2 (⟨#[45]⟩ : ByteArray)).bind fun bt317 => (if bt317.1 = true then ((rr_term.f k x1000 bt317.2.1 bt317.2.2.1 bt317.2.2.2.1 bt317.2.2.2.2 x1).bind fun bt322 => ((ra_two.f bt322.1 (wrap64 ((x1.length : Int) - 1)) 6 bt297.1).bind fun t329 => (rr_sum.l0 k t329 x1000 bt322.2.1 bt322.2.2.1 bt322.2.2.2.1 bt322.2.2.2.2))) else (some (x1, bt317.2.1, bt317.2.2.1, bt317.2.2.2.1, bt317.2.2.2.2))))))) else (none)
def rr_sum.f (k : Nat) (s0_0 : List (S110)) (s0_1 : Int) (s0_2 : Int) (s0_3 : Int) (s0_4 : Int) (l1 : List (S140)) : Option ((List (S140)) × Int × Int × Int × Int) := (rr_term.f k s0_0 s0_1 s0_2 s0_3 s0_4 l1).bind fun bt290 => (rr_sum.l0 k bt290.1 s0_0 bt290.2.1 bt290.2.2.1 bt290.2.2.2.1 bt290.2.2.2.2)
theorem rr_sum.mono_l : ∀ k, (∀ y0 y1 y2 y3 y4 y5, LeO (rr_sum.l0 k y0 y1 y2 y3 y4 y5) (rr_sum.l0 (k + 1) y0 y1 y2 y3 y4 y5))
 | 0 => fun _ _ _ _ _ _ r h => by simp [rr_sum.l0] at h
 | k + 1 => by
  have ih0 := rr_sum.mono_l k
  ·
   intro y0 y1 y2 y3 y4 y5
   unfold rr_sum.l0
   repeat' with_reducible first | apply ih0 | apply rr_term.mono | exact LeO.refl _ | exact LeO.none _ | refine LeO.ite ?_ ?_ | refine LeO.bind ?_ (fun _ => ?_)
theorem rr_sum.mono : ∀ a0 a1 a2 a3 a4 a5 k, LeO (rr_sum.f k a0 a1 a2 a3 a4 a5) (rr_sum.f (k + 1) a0 a1 a2 a3 a4 a5) := by
 intro a0 a1 a2 a3 a4 a5 k
 have ih0 := rr_sum.mono_l k
 unfold rr_sum.f
 repeat' with_reducible first | apply ih0 | apply rr_term.mono | exact LeO.refl _ | exact LeO.none _ | refine LeO.ite ?_ ?_ | refine LeO.bind ?_ (fun _ => ?_)
set_option maxHeartbeats 8000000 in
set_option maxRecDepth 100000 in
theorem rr_sum.calls (k : Nat) (g : Nat) (s0_0 : List (S110)) (s0_1 : Int) (s0_2 : Int) (s0_3 : Int) (s0_4 : Int) (P1_ : Nat → Prop) (u9000_ : Value) (l1 : List (S140)) (r1 : List (S140)) (r2 : Int) (r3 : Int) (r4 : Int) (r5 : Int) (w0 w : World) (hI : IsS83 w0 w g s0_0 s0_1 s0_2 s0_3 s0_4) (hB : Below w0.heap.size w0 w) (ho1 : Kd.R k140 140 w w0.heap.size P1_ u9000_ l1) (h : rr_sum.f k s0_0 s0_1 s0_2 s0_3 s0_4 l1 = some (r1, r2, r3, r4, r5)) :
  Calls Try.prog 82 #[.pointer (some ⟨g, 0, none⟩), u9000_] w fun e w' => ∃ v0_ : Value, e = .returned (v0_) ∧ Kd.R k140 140 w' w0.heap.size (fun k_ => (P1_ k_ ∨ w.heap.size ≤ k_)) v0_ r1 ∧ IsS83 w0 w' g s0_0 r2 r3 r4 r5 ∧ Below w0.heap.size w0 w' ∧ Kept w w' (fun k_ => (P1_ k_) ∨ k_ = g) := by
 have HO1 := za (show Kd.R k140 140 w w0.heap.size (fun k_ => (P1_ k_ ∨ w.heap.size ≤ k_)) u9000_ l1 from Kd.R_mono ho1 (fun k_ hk => (.inl hk)))
 have HI0 := za hI
 have HL := za hB.size
 clear hI
 have HK := za (Kept.refl w (fun k_ => (P1_ k_) ∨ k_ = g))
 have HW0 := za hB.size
 have HB := za hB
 clear hB
 have H : ((rr_term.f k s0_0 s0_1 s0_2 s0_3 s0_4 l1).bind fun bt290 => (rr_sum.l0 k bt290.1 s0_0 bt290.2.1 bt290.2.2.1 bt290.2.2.2.1 bt290.2.2.2.2)) = some (r1, r2, r3, r4, r5) := h
 clear h
 replace H := Option.bind_eq_some_iff.mp H
 obtain ⟨⟨t290, t293, t294, t295, t296⟩, A30, H⟩ := H
 (try dsimp only at H)
 have A3 := za A30
 clear A30
 have H' := za H
 clear H
 obtain ⟨Ao4, co4, eo4⟩ := Kd.R_slice HO1.out
 subst eo4
 go_enter Try.func82, Try.ntmps82
 go_wp2_with (first | ((with_reducible refine gate_callee (f := 92) rfl ?_); refine goesL_ (some 9) rfl rfl Try.func92 zq12 rfl #[.pointer (some ⟨g, 0, none⟩), .slice Ao4 l1.length co4] rfl zq1 ?_; (with_reducible refine (rr_term.calls k g s0_0 s0_1 s0_2 s0_3 s0_4 (fun k_ => some k_ = (.slice Ao4 l1.length co4 : Value).ownBlock) (.slice Ao4 l1.length co4) l1 t290 t293 t294 t295 t296 w0 _ ?side1 ?side2 ?side3 A3.out).mono ?_); (case side1 => exact zq0); (case side2 => exact zq3); (case side3 => exact Kd.R_tight rfl HO1.out); rintro e w5 ⟨v291, rfl, ho0, hi, hb, hkp⟩; refine ⟨_, rfl, ?_⟩; replace HI0 := za (hi); have HO292 := za (Kd.R_mono (ok' := fun k_ => (P1_ k_ ∨ w.heap.size ≤ k_)) ho0 (fun k_ hk_ => Or.elim hk_ (fun hs_ => (HO1.out.1 k_ (hs_).symm)) (fun hn_ => (.inr (Nat.le_trans zq25 hn_))))); replace HK := za (Kept.then_ (S := (fun k_ => (P1_ k_) ∨ k_ = g)) zq11 hkp (fun k_ hs_ => Or.elim hs_ (fun hs_ => (fun e_ => Or.imp_left Or.inl ((HO1.out.1 k_ e_.symm))) hs_) (fun e_ => .inl (.inr e_)))); replace HB := za (hb); clear HO1; (try clear hb hkp ho0)))
 (try simp only [Act.put, List.setIfInBounds_toArray, List.set_cons_zero, List.set_cons_succ])
 go_loopg [1] k (fun kq v1 w' => ∃ (x1_1 : List (S140)) (x1001_1 : Int) (x1002_1 : Int) (x1003_1 : Int) (x1004_1 : Int), Aside0 (rr_sum.l0 kq x1_1 s0_0 x1001_1 x1002_1 x1003_1 x1004_1 = some (r1, r2, r3, r4, r5)) ∧ Aside0 (kq ≤ k) ∧ Aside0 (Kd.R k140 140 w' w0.heap.size (fun k_ => (P1_ k_ ∨ w.heap.size ≤ k_)) v1 x1_1) ∧ Aside0 (IsS83 w0 w' g s0_0 x1001_1 x1002_1 x1003_1 x1004_1) ∧ Aside0 (Kept w w' (fun k_ => (P1_ k_) ∨ k_ = g)) ∧ Aside0 (Below w0.heap.size w0 w'))
 case atStart => exact ⟨(t290), (t293), (t294), (t295), (t296), H', ⟨Nat.le_refl _⟩, ⟨by (with_reducible repeat (first | apply Kd.R_alloc | apply Kd.R_drewN | apply Kd.R_drew)); exact HO292.out⟩, ⟨zq0⟩, ⟨zq11⟩, ⟨zq3⟩⟩
 case round =>
  clear H'
  obtain ⟨x1_1, x1001_1, x1002_1, x1003_1, x1004_1, HA, HK1, HO_1, HI0, HK, HB⟩ := hrel
  cases gk with
  | zero => exact absurd HA.out (by simp [rr_sum.l0])
  | succ k1 =>
   have H := HA.out
   clear HA
   simp only [rr_sum.l0] at H
   by_cases c6 : x1003_1 = 0
   ·
    rw [if_pos c6] at H
    have c6b0 := beq_iff_eq.mpr c6
    have c6b1 := bne_eq_false_iff_eq.mpr c6
    clear c6
    replace H := Option.bind_eq_some_iff.mp H
    obtain ⟨⟨t297, t298, t299, t300, t301⟩, A70, H⟩ := H
    (try dsimp only at H)
    have A7 := za A70
    clear A70
    replace H := Option.bind_eq_some_iff.mp H
    obtain ⟨⟨t302, t303, t304, t305, t306⟩, A80, H⟩ := H
    (try dsimp only at H)
    have A8 := za A80
    clear A80
    by_cases c9 : t302 = true
    ·
     subst c9
     rw [if_pos rfl] at H
     replace H := Option.bind_eq_some_iff.mp H
     obtain ⟨⟨t307, t310, t311, t312, t313⟩, A100, H⟩ := H
     (try dsimp only at H)
     have A10 := za A100
     clear A100
     replace H := Option.bind_eq_some_iff.mp H
     obtain ⟨t314, A110, H⟩ := H
     (try dsimp only at H)
     have A11 := za A110
     clear A110
     have H' := za H
     clear H
     obtain ⟨ASz12_0, cSz12_0, HGz12, hgz12, HSz12_0⟩ := HI0.out
     have hcz12_0 := cellS83_0 HGz12
     have hcz12_1 := cellS83_1 HGz12
     have hcz12_2 := cellS83_2 HGz12
     have hcz12_3 := cellS83_3 HGz12
     have hcz12_4 := cellS83_4 HGz12
     have hfz12_1 := blk_frozen HGz12 1
     have hfz12_2 := blk_frozen HGz12 2
     have hfz12_3 := blk_frozen HGz12 3
     have hfz12_4 := blk_frozen HGz12 4
     clear HGz12 hgz12
     obtain ⟨Ao13, co13, eo13⟩ := Kd.R_slice HO_1.out
     subst eo13
     go_wp2_with (first | ((with_reducible refine gate_callee (f := 46) rfl ?_); refine goesL_ (some 19) rfl rfl Try.func46 zq12 rfl #[.pointer (some ⟨g, 0, none⟩)] rfl zq1 ?_; (with_reducible refine (rr_here.calls g s0_0 x1001_1 x1002_1 x1003_1 x1004_1 t297 t298 t299 t300 t301 w0 _ ?side1 ?side2 A7.out).mono ?_); (case side1 => exact zq0); (case side2 => exact zq3); rintro e w14 ⟨rfl, hi, hb, hk⟩; refine ⟨_, rfl, ?_⟩; replace HO_1 := za (Kd.R_mono (Kd.R_keep (IsS83.apart (show IsS83 w0 _ g s0_0 x1001_1 x1002_1 x1003_1 x1004_1 from zq0) (zr HO_1.out) (by decide)) hk (fun _ h => h.2)) (fun _ h => h.1)); replace HK := za (Kept.of_keep (S := (fun k_ => (P1_ k_) ∨ k_ = g)) zq11 hk (.inl (.inr rfl))); replace HB := za (hb); replace HI0 := za (hi); (try clear hb hk hi)) | ((with_reducible refine gate_callee (f := 48) rfl ?_); refine goesL_ (some 23) rfl rfl Try.func48 zq12 rfl #[.pointer (some ⟨g, 0, none⟩), .string (⟨#[43]⟩ : ByteArray)] rfl zq1 ?_; (with_reducible refine (rr_take.calls g s0_0 t298 t299 t300 t301 (⟨#[43]⟩ : ByteArray) true t303 t304 t305 t306 w0 _ ?side1 ?side2 A8.out).mono ?_); (case side1 => exact zq0); (case side2 => exact zq3); rintro e w15 ⟨rfl, hi, hb, hk⟩; refine ⟨_, rfl, ?_⟩; replace HO_1 := za (Kd.R_mono (Kd.R_keep (IsS83.apart (show IsS83 w0 _ g s0_0 t298 t299 t300 t301 from zq0) (zr HO_1.out) (by decide)) hk (fun _ h => h.2)) (fun _ h => h.1)); replace HK := za (Kept.of_keep (S := (fun k_ => (P1_ k_) ∨ k_ = g)) zq11 hk (.inl (.inr rfl))); replace HB := za (hb); replace HI0 := za (hi); (try clear hb hk hi)) | ((with_reducible refine gate_callee (f := 92) rfl ?_); refine goesL_ (some 26) rfl rfl Try.func92 zq12 rfl #[.pointer (some ⟨g, 0, none⟩), .slice Ao13 x1_1.length co13] rfl zq1 ?_; (with_reducible refine (rr_term.calls k1 g s0_0 t303 t304 t305 t306 (fun k_ => some k_ = (.slice Ao13 x1_1.length co13 : Value).ownBlock) (.slice Ao13 x1_1.length co13) x1_1 t307 t310 t311 t312 t313 w0 _ ?side1 ?side2 ?side3 A10.out).mono ?_); (case side1 => exact zq0); (case side2 => exact zq3); (case side3 => exact Kd.R_tight rfl HO_1.out); rintro e w16 ⟨v308, rfl, ho0, hi, hb, hkp⟩; refine ⟨_, rfl, ?_⟩; replace HI0 := za (hi); have HO309 := za (Kd.R_mono (ok' := fun k_ => (P1_ k_ ∨ w.heap.size ≤ k_)) ho0 (fun k_ hk_ => Or.elim hk_ (fun hs_ => (HO_1.out.1 k_ (hs_).symm)) (fun hn_ => (.inr (Nat.le_trans zq25 hn_))))); replace HK := za (Kept.then_ (S := (fun k_ => (P1_ k_) ∨ k_ = g)) zq11 hkp (fun k_ hs_ => Or.elim hs_ (fun hs_ => (fun e_ => Or.imp_left Or.inl ((HO_1.out.1 k_ e_.symm))) hs_) (fun e_ => .inl (.inr e_)))); replace HB := za (hb); clear HO_1; (try clear hb hkp ho0); obtain ⟨Ao17, co17, eo17⟩ := Kd.R_slice HO309.out; subst eo17) | ((with_reducible refine gate_callee (f := 83) rfl ?_); refine goesL_ (some 29) rfl rfl Try.func83 zq12 rfl #[.slice Ao17 t307.length co17, .int .i64 (wrap64 ((x1_1.length : Int) - 1)), .int .i64 5, .int .i64 t297] rfl zq1 ?_; (with_reducible refine (ra_two.calls (fun k_ => some k_ = (.slice Ao17 t307.length co17 : Value).ownBlock) (.slice Ao17 t307.length co17) t307 (wrap64 ((x1_1.length : Int) - 1)) 5 t297 t314 w0 _ ?side1 ?side2 A11.out).mono ?_); (case side1 => exact zq3); (case side2 => exact Kd.R_tight rfl HO309.out); rintro e w18 ⟨v315, rfl, ho0, hb, hkp⟩; refine ⟨_, rfl, ?_⟩; replace HI0 := za (IsS83.kept zq0 hkp (fun hs_ => (fun e_ => (IsS83.own_ne HI0.out HO309.out (by decide)) e_) hs_)); have HO316 := za (Kd.R_mono (ok' := fun k_ => (P1_ k_ ∨ w.heap.size ≤ k_)) ho0 (fun k_ hk_ => Or.elim hk_ (fun hs_ => (HO309.out.1 k_ (hs_).symm)) (fun hn_ => (.inr (Nat.le_trans zq25 hn_))))); replace HK := za (Kept.then_ (S := (fun k_ => (P1_ k_) ∨ k_ = g)) zq11 hkp (fun k_ hs_ => (fun e_ => Or.imp_left Or.inl ((HO309.out.1 k_ e_.symm))) hs_)); replace HB := za (hb); clear HO309; (try clear hb hkp ho0)))
     go_roundg k1
     case measure => have := HK1.out; omega
     case rel => exact ⟨(t314), (t310), (t311), (t312), (t313), H', ⟨by have := HK1.out; omega⟩, ⟨by (with_reducible repeat (first | apply Kd.R_alloc | apply Kd.R_drewN | apply Kd.R_drew)); exact HO316.out⟩, ⟨zq0⟩, ⟨zq11⟩, ⟨zq3⟩⟩
    ·
     replace c9 := Bool.eq_false_iff.mpr c9
     subst c9
     rw [if_neg (show ¬ (false = true) by decide)] at H
     replace H := Option.bind_eq_some_iff.mp H
     obtain ⟨⟨t317, t318, t319, t320, t321⟩, A190, H⟩ := H
     (try dsimp only at H)
     have A19 := za A190
     clear A190
     by_cases c20 : t317 = true
     ·
      subst c20
      rw [if_pos rfl] at H
      replace H := Option.bind_eq_some_iff.mp H
      obtain ⟨⟨t322, t325, t326, t327, t328⟩, A210, H⟩ := H
      (try dsimp only at H)
      have A21 := za A210
      clear A210
      replace H := Option.bind_eq_some_iff.mp H
      obtain ⟨t329, A220, H⟩ := H
      (try dsimp only at H)
      have A22 := za A220
      clear A220
      have H' := za H
      clear H
      obtain ⟨ASz23_0, cSz23_0, HGz23, hgz23, HSz23_0⟩ := HI0.out
      have hcz23_0 := cellS83_0 HGz23
      have hcz23_1 := cellS83_1 HGz23
      have hcz23_2 := cellS83_2 HGz23
      have hcz23_3 := cellS83_3 HGz23
      have hcz23_4 := cellS83_4 HGz23
      have hfz23_1 := blk_frozen HGz23 1
      have hfz23_2 := blk_frozen HGz23 2
      have hfz23_3 := blk_frozen HGz23 3
      have hfz23_4 := blk_frozen HGz23 4
      clear HGz23 hgz23
      obtain ⟨Ao24, co24, eo24⟩ := Kd.R_slice HO_1.out
      subst eo24
      go_wp2_with (first | ((with_reducible refine gate_callee (f := 46) rfl ?_); refine goesL_ (some 19) rfl rfl Try.func46 zq12 rfl #[.pointer (some ⟨g, 0, none⟩)] rfl zq1 ?_; (with_reducible refine (rr_here.calls g s0_0 x1001_1 x1002_1 x1003_1 x1004_1 t297 t298 t299 t300 t301 w0 _ ?side1 ?side2 A7.out).mono ?_); (case side1 => exact zq0); (case side2 => exact zq3); rintro e w25 ⟨rfl, hi, hb, hk⟩; refine ⟨_, rfl, ?_⟩; replace HO_1 := za (Kd.R_mono (Kd.R_keep (IsS83.apart (show IsS83 w0 _ g s0_0 x1001_1 x1002_1 x1003_1 x1004_1 from zq0) (zr HO_1.out) (by decide)) hk (fun _ h => h.2)) (fun _ h => h.1)); replace HK := za (Kept.of_keep (S := (fun k_ => (P1_ k_) ∨ k_ = g)) zq11 hk (.inl (.inr rfl))); replace HB := za (hb); replace HI0 := za (hi); (try clear hb hk hi)) | ((with_reducible refine gate_callee (f := 48) rfl ?_); refine goesL_ (some 23) rfl rfl Try.func48 zq12 rfl #[.pointer (some ⟨g, 0, none⟩), .string (⟨#[43]⟩ : ByteArray)] rfl zq1 ?_; (with_reducible refine (rr_take.calls g s0_0 t298 t299 t300 t301 (⟨#[43]⟩ : ByteArray) false t303 t304 t305 t306 w0 _ ?side1 ?side2 A8.out).mono ?_); (case side1 => exact zq0); (case side2 => exact zq3); rintro e w26 ⟨rfl, hi, hb, hk⟩; refine ⟨_, rfl, ?_⟩; replace HO_1 := za (Kd.R_mono (Kd.R_keep (IsS83.apart (show IsS83 w0 _ g s0_0 t298 t299 t300 t301 from zq0) (zr HO_1.out) (by decide)) hk (fun _ h => h.2)) (fun _ h => h.1)); replace HK := za (Kept.of_keep (S := (fun k_ => (P1_ k_) ∨ k_ = g)) zq11 hk (.inl (.inr rfl))); replace HB := za (hb); replace HI0 := za (hi); (try clear hb hk hi)) | ((with_reducible refine gate_callee (f := 48) rfl ?_); refine goesL_ (some 32) rfl rfl Try.func48 zq12 rfl #[.pointer (some ⟨g, 0, none⟩), .string (⟨#[45]⟩ : ByteArray)] rfl zq1 ?_; (with_reducible refine (rr_take.calls g s0_0 t303 t304 t305 t306 (⟨#[45]⟩ : ByteArray) true t318 t319 t320 t321 w0 _ ?side1 ?side2 A19.out).mono ?_); (case side1 => exact zq0); (case side2 => exact zq3); rintro e w27 ⟨rfl, hi, hb, hk⟩; refine ⟨_, rfl, ?_⟩; replace HO_1 := za (Kd.R_mono (Kd.R_keep (IsS83.apart (show IsS83 w0 _ g s0_0 t303 t304 t305 t306 from zq0) (zr HO_1.out) (by decide)) hk (fun _ h => h.2)) (fun _ h => h.1)); replace HK := za (Kept.of_keep (S := (fun k_ => (P1_ k_) ∨ k_ = g)) zq11 hk (.inl (.inr rfl))); replace HB := za (hb); replace HI0 := za (hi); (try clear hb hk hi)) | ((with_reducible refine gate_callee (f := 92) rfl ?_); refine goesL_ (some 35) rfl rfl Try.func92 zq12 rfl #[.pointer (some ⟨g, 0, none⟩), .slice Ao24 x1_1.length co24] rfl zq1 ?_; (with_reducible refine (rr_term.calls k1 g s0_0 t318 t319 t320 t321 (fun k_ => some k_ = (.slice Ao24 x1_1.length co24 : Value).ownBlock) (.slice Ao24 x1_1.length co24) x1_1 t322 t325 t326 t327 t328 w0 _ ?side1 ?side2 ?side3 A21.out).mono ?_); (case side1 => exact zq0); (case side2 => exact zq3); (case side3 => exact Kd.R_tight rfl HO_1.out); rintro e w28 ⟨v323, rfl, ho0, hi, hb, hkp⟩; refine ⟨_, rfl, ?_⟩; replace HI0 := za (hi); have HO324 := za (Kd.R_mono (ok' := fun k_ => (P1_ k_ ∨ w.heap.size ≤ k_)) ho0 (fun k_ hk_ => Or.elim hk_ (fun hs_ => (HO_1.out.1 k_ (hs_).symm)) (fun hn_ => (.inr (Nat.le_trans zq25 hn_))))); replace HK := za (Kept.then_ (S := (fun k_ => (P1_ k_) ∨ k_ = g)) zq11 hkp (fun k_ hs_ => Or.elim hs_ (fun hs_ => (fun e_ => Or.imp_left Or.inl ((HO_1.out.1 k_ e_.symm))) hs_) (fun e_ => .inl (.inr e_)))); replace HB := za (hb); clear HO_1; (try clear hb hkp ho0); obtain ⟨Ao29, co29, eo29⟩ := Kd.R_slice HO324.out; subst eo29) | ((with_reducible refine gate_callee (f := 83) rfl ?_); refine goesL_ (some 38) rfl rfl Try.func83 zq12 rfl #[.slice Ao29 t322.length co29, .int .i64 (wrap64 ((x1_1.length : Int) - 1)), .int .i64 6, .int .i64 t297] rfl zq1 ?_; (with_reducible refine (ra_two.calls (fun k_ => some k_ = (.slice Ao29 t322.length co29 : Value).ownBlock) (.slice Ao29 t322.length co29) t322 (wrap64 ((x1_1.length : Int) - 1)) 6 t297 t329 w0 _ ?side1 ?side2 A22.out).mono ?_); (case side1 => exact zq3); (case side2 => exact Kd.R_tight rfl HO324.out); rintro e w30 ⟨v330, rfl, ho0, hb, hkp⟩; refine ⟨_, rfl, ?_⟩; replace HI0 := za (IsS83.kept zq0 hkp (fun hs_ => (fun e_ => (IsS83.own_ne HI0.out HO324.out (by decide)) e_) hs_)); have HO331 := za (Kd.R_mono (ok' := fun k_ => (P1_ k_ ∨ w.heap.size ≤ k_)) ho0 (fun k_ hk_ => Or.elim hk_ (fun hs_ => (HO324.out.1 k_ (hs_).symm)) (fun hn_ => (.inr (Nat.le_trans zq25 hn_))))); replace HK := za (Kept.then_ (S := (fun k_ => (P1_ k_) ∨ k_ = g)) zq11 hkp (fun k_ hs_ => (fun e_ => Or.imp_left Or.inl ((HO324.out.1 k_ e_.symm))) hs_)); replace HB := za (hb); clear HO324; (try clear hb hkp ho0)))
      go_roundg k1
      case measure => have := HK1.out; omega
      case rel => exact ⟨(t329), (t325), (t326), (t327), (t328), H', ⟨by have := HK1.out; omega⟩, ⟨by (with_reducible repeat (first | apply Kd.R_alloc | apply Kd.R_drewN | apply Kd.R_drew)); exact HO331.out⟩, ⟨zq0⟩, ⟨zq11⟩, ⟨zq3⟩⟩
     ·
      replace c20 := Bool.eq_false_iff.mpr c20
      subst c20
      rw [if_neg (show ¬ (false = true) by decide)] at H
      simp only [Option.some.injEq, Prod.mk.injEq] at H
      obtain ⟨rfl, rfl, rfl, rfl, rfl⟩ := H
      obtain ⟨ASz31_0, cSz31_0, HGz31, hgz31, HSz31_0⟩ := HI0.out
      have hcz31_0 := cellS83_0 HGz31
      have hcz31_1 := cellS83_1 HGz31
      have hcz31_2 := cellS83_2 HGz31
      have hcz31_3 := cellS83_3 HGz31
      have hcz31_4 := cellS83_4 HGz31
      have hfz31_1 := blk_frozen HGz31 1
      have hfz31_2 := blk_frozen HGz31 2
      have hfz31_3 := blk_frozen HGz31 3
      have hfz31_4 := blk_frozen HGz31 4
      clear HGz31 hgz31
      obtain ⟨Ao32, co32, eo32⟩ := Kd.R_slice HO_1.out
      subst eo32
      go_wp2_with (first | ((with_reducible refine gate_callee (f := 46) rfl ?_); refine goesL_ (some 19) rfl rfl Try.func46 zq12 rfl #[.pointer (some ⟨g, 0, none⟩)] rfl zq1 ?_; (with_reducible refine (rr_here.calls g s0_0 x1001_1 x1002_1 x1003_1 x1004_1 t297 t298 t299 t300 t301 w0 _ ?side1 ?side2 A7.out).mono ?_); (case side1 => exact zq0); (case side2 => exact zq3); rintro e w33 ⟨rfl, hi, hb, hk⟩; refine ⟨_, rfl, ?_⟩; replace HO_1 := za (Kd.R_mono (Kd.R_keep (IsS83.apart (show IsS83 w0 _ g s0_0 x1001_1 x1002_1 x1003_1 x1004_1 from zq0) (zr HO_1.out) (by decide)) hk (fun _ h => h.2)) (fun _ h => h.1)); replace HK := za (Kept.of_keep (S := (fun k_ => (P1_ k_) ∨ k_ = g)) zq11 hk (.inl (.inr rfl))); replace HB := za (hb); replace HI0 := za (hi); (try clear hb hk hi)) | ((with_reducible refine gate_callee (f := 48) rfl ?_); refine goesL_ (some 23) rfl rfl Try.func48 zq12 rfl #[.pointer (some ⟨g, 0, none⟩), .string (⟨#[43]⟩ : ByteArray)] rfl zq1 ?_; (with_reducible refine (rr_take.calls g s0_0 t298 t299 t300 t301 (⟨#[43]⟩ : ByteArray) false t303 t304 t305 t306 w0 _ ?side1 ?side2 A8.out).mono ?_); (case side1 => exact zq0); (case side2 => exact zq3); rintro e w34 ⟨rfl, hi, hb, hk⟩; refine ⟨_, rfl, ?_⟩; replace HO_1 := za (Kd.R_mono (Kd.R_keep (IsS83.apart (show IsS83 w0 _ g s0_0 t298 t299 t300 t301 from zq0) (zr HO_1.out) (by decide)) hk (fun _ h => h.2)) (fun _ h => h.1)); replace HK := za (Kept.of_keep (S := (fun k_ => (P1_ k_) ∨ k_ = g)) zq11 hk (.inl (.inr rfl))); replace HB := za (hb); replace HI0 := za (hi); (try clear hb hk hi)) | ((with_reducible refine gate_callee (f := 48) rfl ?_); refine goesL_ (some 32) rfl rfl Try.func48 zq12 rfl #[.pointer (some ⟨g, 0, none⟩), .string (⟨#[45]⟩ : ByteArray)] rfl zq1 ?_; (with_reducible refine (rr_take.calls g s0_0 t303 t304 t305 t306 (⟨#[45]⟩ : ByteArray) false t318 t319 t320 t321 w0 _ ?side1 ?side2 A19.out).mono ?_); (case side1 => exact zq0); (case side2 => exact zq3); rintro e w35 ⟨rfl, hi, hb, hk⟩; refine ⟨_, rfl, ?_⟩; replace HO_1 := za (Kd.R_mono (Kd.R_keep (IsS83.apart (show IsS83 w0 _ g s0_0 t303 t304 t305 t306 from zq0) (zr HO_1.out) (by decide)) hk (fun _ h => h.2)) (fun _ h => h.1)); replace HK := za (Kept.of_keep (S := (fun k_ => (P1_ k_) ∨ k_ = g)) zq11 hk (.inl (.inr rfl))); replace HB := za (hb); replace HI0 := za (hi); (try clear hb hk hi)))
      go_ret
      exact ⟨_, zq14, zq77, zq0, zq3, zq11⟩
   ·
    rw [if_neg c6] at H
    exact absurd H (by simp)
def rr_expr.l0 : Nat → List (S140) → List ByteArray → Int → List (S110) → Int → Int → Int → Int → Option ((List (S140)) × Int × Int × Int × Int)
 | 0, _, _, _, _, _, _, _, _ => none
 | k + 1, x1, x5, x6, x1000, x1001, x1002, x1003, x1004 => if x6 < (x5.length : Int) then ((rr_here.f x1000 x1001 x1002 x1003 x1004).bind fun bt342 => (if 0 ≤ x6 then ((rr_take.f x1000 bt342.2.1 bt342.2.2.1 bt342.2.2.2.1 bt342.2.2.2.2 (rdOf ByteArray.empty x5 x6)).bind fun bt348 => (if bt348.1 = true then (none) else (rr_expr.l0 k x1 x5 (wrap64 (x6 + 1)) x1000 bt348.2.1 bt348.2.2.1 bt348.2.2.2.1 bt348.2.2.2.2))) else (none))) else (some (x1, x1001, x1002, x1003, x1004))
def rr_expr.f (k : Nat) (s0_0 : List (S110)) (s0_1 : Int) (s0_2 : Int) (s0_3 : Int) (s0_4 : Int) (l1 : List (S140)) : Option ((List (S140)) × Int × Int × Int × Int) := (rr_sum.f k s0_0 s0_1 s0_2 s0_3 s0_4 l1).bind fun bt332 => (rr_expr.l0 k bt332.1 (([(⟨#[61, 61]⟩ : ByteArray), (⟨#[60]⟩ : ByteArray), (⟨#[60, 61]⟩ : ByteArray)] : List ByteArray)) 0 s0_0 bt332.2.1 bt332.2.2.1 bt332.2.2.2.1 bt332.2.2.2.2)
theorem rr_expr.mono_l : ∀ k, (∀ y0 y1 y2 y3 y4 y5 y6 y7, LeO (rr_expr.l0 k y0 y1 y2 y3 y4 y5 y6 y7) (rr_expr.l0 (k + 1) y0 y1 y2 y3 y4 y5 y6 y7))
 | 0 => fun _ _ _ _ _ _ _ _ r h => by simp [rr_expr.l0] at h
 | k + 1 => by
  have ih0 := rr_expr.mono_l k
  ·
   intro y0 y1 y2 y3 y4 y5 y6 y7
   unfold rr_expr.l0
   repeat' with_reducible first | apply ih0 | apply rr_sum.mono | exact LeO.refl _ | exact LeO.none _ | refine LeO.ite ?_ ?_ | refine LeO.bind ?_ (fun _ => ?_)
theorem rr_expr.mono : ∀ a0 a1 a2 a3 a4 a5 k, LeO (rr_expr.f k a0 a1 a2 a3 a4 a5) (rr_expr.f (k + 1) a0 a1 a2 a3 a4 a5) := by
 intro a0 a1 a2 a3 a4 a5 k
 have ih0 := rr_expr.mono_l k
 unfold rr_expr.f
 repeat' with_reducible first | apply ih0 | apply rr_sum.mono | exact LeO.refl _ | exact LeO.none _ | refine LeO.ite ?_ ?_ | refine LeO.bind ?_ (fun _ => ?_)
set_option maxHeartbeats 8000000 in
set_option maxRecDepth 100000 in
theorem rr_expr.calls (k : Nat) (g : Nat) (s0_0 : List (S110)) (s0_1 : Int) (s0_2 : Int) (s0_3 : Int) (s0_4 : Int) (P1_ : Nat → Prop) (u9000_ : Value) (l1 : List (S140)) (r1 : List (S140)) (r2 : Int) (r3 : Int) (r4 : Int) (r5 : Int) (w0 w : World) (hI : IsS83 w0 w g s0_0 s0_1 s0_2 s0_3 s0_4) (hB : Below w0.heap.size w0 w) (ho1 : Kd.R k140 140 w w0.heap.size P1_ u9000_ l1) (h : rr_expr.f k s0_0 s0_1 s0_2 s0_3 s0_4 l1 = some (r1, r2, r3, r4, r5)) :
  Calls Try.prog 73 #[.pointer (some ⟨g, 0, none⟩), u9000_] w fun e w' => ∃ v0_ : Value, e = .returned (v0_) ∧ Kd.R k140 140 w' w0.heap.size (fun k_ => (P1_ k_ ∨ w.heap.size ≤ k_)) v0_ r1 ∧ IsS83 w0 w' g s0_0 r2 r3 r4 r5 ∧ Below w0.heap.size w0 w' ∧ Kept w w' (fun k_ => (P1_ k_) ∨ k_ = g) := by
 have HO1 := za (show Kd.R k140 140 w w0.heap.size (fun k_ => (P1_ k_ ∨ w.heap.size ≤ k_)) u9000_ l1 from Kd.R_mono ho1 (fun k_ hk => (.inl hk)))
 have HI0 := za hI
 have HL := za hB.size
 clear hI
 have HK := za (Kept.refl w (fun k_ => (P1_ k_) ∨ k_ = g))
 have HW0 := za hB.size
 have HB := za hB
 clear hB
 have H : ((rr_sum.f k s0_0 s0_1 s0_2 s0_3 s0_4 l1).bind fun bt332 => (rr_expr.l0 k bt332.1 (([(⟨#[61, 61]⟩ : ByteArray), (⟨#[60]⟩ : ByteArray), (⟨#[60, 61]⟩ : ByteArray)] : List ByteArray)) 0 s0_0 bt332.2.1 bt332.2.2.1 bt332.2.2.2.1 bt332.2.2.2.2)) = some (r1, r2, r3, r4, r5) := h
 clear h
 replace H := Option.bind_eq_some_iff.mp H
 obtain ⟨⟨t332, t335, t336, t337, t338⟩, A30, H⟩ := H
 (try dsimp only at H)
 have A3 := za A30
 clear A30
 obtain ⟨y339, hy339⟩ : ∃ y_ : List ByteArray, y_ = (([(⟨#[61, 61]⟩ : ByteArray), (⟨#[60]⟩ : ByteArray), (⟨#[60, 61]⟩ : ByteArray)] : List ByteArray)) := ⟨_, rfl⟩
 replace H : (rr_expr.l0 k t332 y339 0 s0_0 t335 t336 t337 t338) = some (r1, r2, r3, r4, r5) := by first | (rw [hy339]; with_reducible exact H) | (have H2_ := (Option.bind_some _ _).symm.trans H; rw [hy339]; with_reducible exact H2_) | (have H2_ := (Option.bind_some _ _).symm.trans H; with_reducible exact H2_) | with_reducible exact H | (rw [hy339]; exact H) | exact H
 have Ny339 := za hy339
 clear hy339
 have H' := za H
 clear H
 obtain ⟨Ao4, co4, eo4⟩ := Kd.R_slice HO1.out
 subst eo4
 go_enter Try.func73, Try.ntmps73
 go_wp2_with (first | ((with_reducible refine gate_callee (f := 82) rfl ?_); refine goesL_ (some 11) rfl rfl Try.func82 zq12 rfl #[.pointer (some ⟨g, 0, none⟩), .slice Ao4 l1.length co4] rfl zq1 ?_; (with_reducible refine (rr_sum.calls k g s0_0 s0_1 s0_2 s0_3 s0_4 (fun k_ => some k_ = (.slice Ao4 l1.length co4 : Value).ownBlock) (.slice Ao4 l1.length co4) l1 t332 t335 t336 t337 t338 w0 _ ?side1 ?side2 ?side3 A3.out).mono ?_); (case side1 => exact zq0); (case side2 => exact zq3); (case side3 => exact Kd.R_tight rfl HO1.out); rintro e w5 ⟨v333, rfl, ho0, hi, hb, hkp⟩; refine ⟨_, rfl, ?_⟩; replace HI0 := za (hi); have HO334 := za (Kd.R_mono (ok' := fun k_ => (P1_ k_ ∨ w.heap.size ≤ k_)) ho0 (fun k_ hk_ => Or.elim hk_ (fun hs_ => (HO1.out.1 k_ (hs_).symm)) (fun hn_ => (.inr (Nat.le_trans zq25 hn_))))); replace HK := za (Kept.then_ (S := (fun k_ => (P1_ k_) ∨ k_ = g)) zq11 hkp (fun k_ hs_ => Or.elim hs_ (fun hs_ => (fun e_ => Or.imp_left Or.inl ((HO1.out.1 k_ e_.symm))) hs_) (fun e_ => .inl (.inr e_)))); replace HB := za (hb); clear HO1; (try clear hb hkp ho0)) | ((with_reducible refine gate_dst (N := 12) rfl ?_); refine Kd.R_lit Kd.string _ 9 ?hg (N := 12) ?hd (xs := ([(⟨#[61, 61]⟩ : ByteArray), (⟨#[60]⟩ : ByteArray), (⟨#[60, 61]⟩ : ByteArray)] : List ByteArray)) (inner := [.string (⟨#[61, 61]⟩ : ByteArray), .string (⟨#[60]⟩ : ByteArray), .string (⟨#[60, 61]⟩ : ByteArray)]) (ok := fun _ => True) (okp := fun _ => True) ?hr ?hp (fun _ hk => hk) trivial (Below.refl _ _) (Nat.le_refl _) (by simp) ?_; (case hd => rfl); (case hg => rfl); (case hr => exact zq17); (case hp => exact (Reps.one (show Kd.M Kd.string _ _ _ (⟨#[61, 61]⟩ : ByteArray) [.string (⟨#[61, 61]⟩ : ByteArray)] from rfl) (Reps.one (show Kd.M Kd.string _ _ _ (⟨#[60]⟩ : ByteArray) [.string (⟨#[60]⟩ : ByteArray)] from rfl) (Reps.one (show Kd.M Kd.string _ _ _ (⟨#[60, 61]⟩ : ByteArray) [.string (⟨#[60, 61]⟩ : ByteArray)] from rfl) (Reps.none _ _))))); intro v340 w6 ho7 hb hg_ hnew_; clear hg_ hnew_; (first | rw [← Ny339.out] at ho7 | (simp only [Int.reduceToNat] at ho7; rw [← Ny339.out] at ho7)); replace HO334 := za (Kd.R_below (zr HO334.out) hb); have HO341 := za (Kd.R_lower (Kd.R_newM (M := fun k_ => (P1_ k_ ∨ w.heap.size ≤ k_)) ho7 zq25 (fun k_ h_ => .inr h_)) (below_size zq3)); replace HK := za (Kept.below (S := (fun k_ => (P1_ k_) ∨ k_ = g)) zq11 hb); replace HB := za (below_step zq3 hb); replace HI0 := za (IsS83.below zq0 hb); clear hb ho7))
 go_loopg [6] k (fun kq v6 w' => ∃ (x6_1 : Int) (x1001_1 : Int) (x1002_1 : Int) (x1003_1 : Int) (x1004_1 : Int), v6 = .int .i64 x6_1 ∧ Aside0 (rr_expr.l0 kq t332 y339 x6_1 s0_0 x1001_1 x1002_1 x1003_1 x1004_1 = some (r1, r2, r3, r4, r5)) ∧ Aside0 (kq ≤ k) ∧ Aside0 (Kd.R k140 140 w' w0.heap.size (fun k_ => (P1_ k_ ∨ w.heap.size ≤ k_)) v333 t332) ∧ Aside0 (Kd.R Kd.string 9 w' w0.heap.size (fun k_ => (P1_ k_ ∨ w.heap.size ≤ k_)) v340 y339) ∧ Aside0 (IsS83 w0 w' g s0_0 x1001_1 x1002_1 x1003_1 x1004_1) ∧ Aside0 (Kept w w' (fun k_ => (P1_ k_) ∨ k_ = g)) ∧ Aside0 (Below w0.heap.size w0 w'))
 case atStart => exact ⟨(0), (t335), (t336), (t337), (t338), zq16, H', ⟨Nat.le_refl _⟩, ⟨by (with_reducible repeat (first | apply Kd.R_alloc | apply Kd.R_drewN | apply Kd.R_drew)); exact HO334.out⟩, ⟨by (with_reducible repeat (first | apply Kd.R_alloc | apply Kd.R_drewN | apply Kd.R_drew)); exact Kd.R_mono HO341.out (fun _ hk => hk.1)⟩, ⟨zq0⟩, ⟨zq11⟩, ⟨zq3⟩⟩
 case round =>
  clear H'
  obtain ⟨x6_1, x1001_1, x1002_1, x1003_1, x1004_1, rfl, HA, HK1, HO_1, HO_5, HI0, HK, HB⟩ := hrel
  cases gk with
  | zero => exact absurd HA.out (by simp [rr_expr.l0])
  | succ k1 =>
   have H := HA.out
   clear HA
   simp only [rr_expr.l0] at H
   by_cases c8 : x6_1 < (y339.length : Int)
   ·
    rw [if_pos c8] at H
    have c8b0 : decide (x6_1 < (y339.length : Int)) = true := decide_eq_true c8
    clear c8
    replace H := Option.bind_eq_some_iff.mp H
    obtain ⟨⟨t342, t343, t344, t345, t346⟩, A90, H⟩ := H
    (try dsimp only at H)
    have A9 := za A90
    clear A90
    by_cases c10 : 0 ≤ x6_1
    ·
     rw [if_pos c10] at H
     have c10b0 := decide_eq_true c10
     clear c10
     replace H := Option.bind_eq_some_iff.mp H
     obtain ⟨⟨t348, t349, t350, t351, t352⟩, A110, H⟩ := H
     (try dsimp only at H)
     have A11 := za A110
     clear A110
     by_cases c12 : t348 = true
     ·
      subst c12
      rw [if_pos rfl] at H
      exact absurd H (by simp)
     ·
      replace c12 := Bool.eq_false_iff.mpr c12
      subst c12
      rw [if_neg (show ¬ (false = true) by decide)] at H
      have H' := za H
      clear H
      obtain ⟨Ao13, co13, eo13⟩ := Kd.R_slice HO_5.out
      subst eo13
      obtain ⟨Ao14, co14, eo14⟩ := Kd.R_slice HO_1.out
      subst eo14
      go_wp2_with (first | ((with_reducible refine gate_callee (f := 46) rfl ?_); refine goesL_ (some 23) rfl rfl Try.func46 zq12 rfl #[.pointer (some ⟨g, 0, none⟩)] rfl zq1 ?_; (with_reducible refine (rr_here.calls g s0_0 x1001_1 x1002_1 x1003_1 x1004_1 t342 t343 t344 t345 t346 w0 _ ?side1 ?side2 A9.out).mono ?_); (case side1 => exact zq0); (case side2 => exact zq3); rintro e w15 ⟨rfl, hi, hb, hk⟩; refine ⟨_, rfl, ?_⟩; replace HO_1 := za (Kd.R_mono (Kd.R_keep (IsS83.apart (show IsS83 w0 _ g s0_0 x1001_1 x1002_1 x1003_1 x1004_1 from zq0) (zr HO_1.out) (by decide)) hk (fun _ h => h.2)) (fun _ h => h.1)); replace HO_5 := za (Kd.R_mono (Kd.R_keep (IsS83.apart (show IsS83 w0 _ g s0_0 x1001_1 x1002_1 x1003_1 x1004_1 from zq0) (zr HO_5.out) (by decide)) hk (fun _ h => h.2)) (fun _ h => h.1)); replace HK := za (Kept.of_keep (S := (fun k_ => (P1_ k_) ∨ k_ = g)) zq11 hk (.inl (.inr rfl))); replace HB := za (hb); replace HI0 := za (hi); (try clear hb hk hi); have p347 : 0 ≤ (x6_1 : Int) := of_decide_eq_true zq6; have q347 : x6_1 < (y339.length : Int) := of_decide_eq_true zq6; obtain ⟨ad347, e347, hx347_0⟩ := Kd.at_string (Kd.R_reads' HO_5.out).2.2 x6_1 p347 q347; cases e347; replace p347 := eq_true p347; replace q347 := eq_true q347) | ((with_reducible refine gate_callee (f := 48) rfl ?_); refine goesL_ (some 29) rfl rfl Try.func48 zq12 rfl #[.pointer (some ⟨g, 0, none⟩), .string (rdOf ByteArray.empty y339 x6_1)] rfl zq1 ?_; (with_reducible refine (rr_take.calls g s0_0 t343 t344 t345 t346 (rdOf ByteArray.empty y339 x6_1) false t349 t350 t351 t352 w0 _ ?side1 ?side2 A11.out).mono ?_); (case side1 => exact zq0); (case side2 => exact zq3); rintro e w16 ⟨rfl, hi, hb, hk⟩; refine ⟨_, rfl, ?_⟩; replace HO_1 := za (Kd.R_mono (Kd.R_keep (IsS83.apart (show IsS83 w0 _ g s0_0 t343 t344 t345 t346 from zq0) (zr HO_1.out) (by decide)) hk (fun _ h => h.2)) (fun _ h => h.1)); replace HO_5 := za (Kd.R_mono (Kd.R_keep (IsS83.apart (show IsS83 w0 _ g s0_0 t343 t344 t345 t346 from zq0) (zr HO_5.out) (by decide)) hk (fun _ h => h.2)) (fun _ h => h.1)); replace HK := za (Kept.of_keep (S := (fun k_ => (P1_ k_) ∨ k_ = g)) zq11 hk (.inl (.inr rfl))); replace HB := za (hb); replace HI0 := za (hi); (try clear hb hk hi)))
      go_roundg k1
      case measure => have := HK1.out; omega
      case rel => exact ⟨(wrap64 (x6_1 + 1)), (t349), (t350), (t351), (t352), zq16, H', ⟨by have := HK1.out; omega⟩, ⟨zq77⟩, ⟨zq32⟩, ⟨zq0⟩, ⟨zq11⟩, ⟨zq3⟩⟩
    ·
     rw [if_neg c10] at H
     exact absurd H (by simp)
   ·
    rw [if_neg c8] at H
    have c8b0 : decide (x6_1 < (y339.length : Int)) = false := decide_eq_false c8
    clear c8
    simp only [Option.some.injEq, Prod.mk.injEq] at H
    obtain ⟨rfl, rfl, rfl, rfl, rfl⟩ := H
    obtain ⟨Ao17, co17, eo17⟩ := Kd.R_slice HO_5.out
    subst eo17
    go_wp2
    go_ret
    exact ⟨_, zq14, zq77, zq0, zq3, zq11⟩
def rr_call.l0 : Nat → List (S110) → Int → Int → Int → Int → Int → Int → ByteArray → ByteArray → ByteArray → Bool → ByteArray → ByteArray → Option (Int × Int × ByteArray × ByteArray × ByteArray × Bool × ByteArray × ByteArray × (List (S140)) × (List (List (S140))) × (List (S91)) × (List (S91)) × Int × Int × Int × Int)
 | 0, _, _, _, _, _, _, _, _, _, _, _, _, _ => none
 | k + 1, x1000, x1001, x1002, x1003, x1004, x354000, x354001, x354002, x354003, x354004, x354005, x354006, x354007 => if x1003 = 0 then (none) else ((rr_want.f x1000 x1001 x1002 x1003 x1004 (⟨#[41]⟩ : ByteArray)).bind fun bt375 => (some (x354000, x354001, x354002, x354003, x354004, x354005, x354006, x354007, ([] : List (S140)), ([] : List (List (S140))), ([] : List (S91)), ([] : List (S91)), bt375.1, bt375.2.1, bt375.2.2.1, bt375.2.2.2)))
def rr_call.f (k : Nat) (s0_0 : List (S110)) (s0_1 : Int) (s0_2 : Int) (s0_3 : Int) (s0_4 : Int) (a1_0 : Int) (a1_1 : Int) (a1_2 : ByteArray) (a1_3 : ByteArray) (a1_4 : ByteArray) (a1_5 : Bool) (a1_6 : ByteArray) (a1_7 : ByteArray) : Option (Int × Int × ByteArray × ByteArray × ByteArray × Bool × ByteArray × ByteArray × (List (S140)) × (List (List (S140))) × (List (S91)) × (List (S91)) × Int × Int × Int × Int) := (rr_qname.f s0_0 s0_1 s0_2 s0_3 s0_4).bind fun bt355 => ((rr_take.f s0_0 bt355.2.2.1 bt355.2.2.2.1 bt355.2.2.2.2.1 bt355.2.2.2.2.2 (⟨#[61]⟩ : ByteArray)).bind fun bt361 => (if bt361.1 = true then (none) else ((rr_want.f s0_0 bt361.2.1 bt361.2.2.1 bt361.2.2.2.1 bt361.2.2.2.2 (⟨#[40]⟩ : ByteArray)).bind fun bt366 => ((rr_is.f s0_0 bt366.1 bt366.2.1 bt366.2.2.1 bt366.2.2.2 (⟨#[41]⟩ : ByteArray)).bind fun bt370 => (if bt370.1 = true then (none) else (rr_call.l0 k s0_0 bt370.2.1 bt370.2.2.1 bt370.2.2.2.1 bt370.2.2.2.2 4 a1_1 a1_2 a1_3 a1_4 a1_5 bt355.1 bt355.2.1))))))
theorem rr_call.mono_l : ∀ k, (∀ y0 y1 y2 y3 y4 y5 y6 y7 y8 y9 y10 y11 y12, LeO (rr_call.l0 k y0 y1 y2 y3 y4 y5 y6 y7 y8 y9 y10 y11 y12) (rr_call.l0 (k + 1) y0 y1 y2 y3 y4 y5 y6 y7 y8 y9 y10 y11 y12))
 | 0 => fun _ _ _ _ _ _ _ _ _ _ _ _ _ r h => by simp [rr_call.l0] at h
 | k + 1 => by
  have ih0 := rr_call.mono_l k
  ·
   intro y0 y1 y2 y3 y4 y5 y6 y7 y8 y9 y10 y11 y12
   unfold rr_call.l0
   repeat' with_reducible first | apply ih0 | exact LeO.refl _ | exact LeO.none _ | refine LeO.ite ?_ ?_ | refine LeO.bind ?_ (fun _ => ?_)
theorem rr_call.mono : ∀ a0 a1 a2 a3 a4 a5 a6 a7 a8 a9 a10 a11 a12 k, LeO (rr_call.f k a0 a1 a2 a3 a4 a5 a6 a7 a8 a9 a10 a11 a12) (rr_call.f (k + 1) a0 a1 a2 a3 a4 a5 a6 a7 a8 a9 a10 a11 a12) := by
 intro a0 a1 a2 a3 a4 a5 a6 a7 a8 a9 a10 a11 a12 k
 have ih0 := rr_call.mono_l k
 unfold rr_call.f
 repeat' with_reducible first | apply ih0 | exact LeO.refl _ | exact LeO.none _ | refine LeO.ite ?_ ?_ | refine LeO.bind ?_ (fun _ => ?_)
set_option maxHeartbeats 8000000 in
set_option maxRecDepth 100000 in
theorem rr_call.calls (k : Nat) (g : Nat) (s0_0 : List (S110)) (s0_1 : Int) (s0_2 : Int) (s0_3 : Int) (s0_4 : Int) (a1_0 : Int) (a1_1 : Int) (a1_2 : ByteArray) (a1_3 : ByteArray) (a1_4 : ByteArray) (a1_5 : Bool) (a1_6 : ByteArray) (a1_7 : ByteArray) (r1 : Int) (r2 : Int) (r3 : ByteArray) (r4 : ByteArray) (r5 : ByteArray) (r6 : Bool) (r7 : ByteArray) (r8 : ByteArray) (r9 : List (S140)) (r10 : List (List (S140))) (r11 : List (S91)) (r12 : List (S91)) (r13 : Int) (r14 : Int) (r15 : Int) (r16 : Int) (w0 w : World) (hI : IsS83 w0 w g s0_0 s0_1 s0_2 s0_3 s0_4) (hB : Below w0.heap.size w0 w) (h : rr_call.f k s0_0 s0_1 s0_2 s0_3 s0_4 a1_0 a1_1 a1_2 a1_3 a1_4 a1_5 a1_6 a1_7 = some (r1, r2, r3, r4, r5, r6, r7, r8, r9, r10, r11, r12, r13, r14, r15, r16)) :
  Calls Try.prog 74 #[.pointer (some ⟨g, 0, none⟩), .agg #[.int .i64 a1_0, .int .i64 a1_1, .string a1_2, .string a1_3, .string a1_4, .bool a1_5, .string a1_6, .string a1_7, .slice none 0 0, .slice none 0 0, .slice none 0 0, .slice none 0 0]] w fun e w' => ∃ v8_ v9_ v10_ v11_ : Value, e = .returned (.agg #[.int .i64 r1, .int .i64 r2, .string r3, .string r4, .string r5, .bool r6, .string r7, .string r8, v8_, v9_, v10_, v11_]) ∧ Kd.R k140 140 w' w.heap.size (fun _ => True) v8_ r9 ∧ Kd.S (Kd.slice 140 k140) 88 w' w.heap.size (fun k_ => some k_ ≠ (v8_ : Value).ownBlock) v9_ r10 ∧ Kd.R k91 91 w' w.heap.size (fun k_ => some k_ ≠ (v8_ : Value).ownBlock ∧ some k_ ≠ (v9_ : Value).ownBlock ∧ some k_ ≠ (v11_ : Value).ownBlock) v10_ r11 ∧ Kd.R k91 91 w' w.heap.size (fun k_ => some k_ ≠ (v8_ : Value).ownBlock ∧ some k_ ≠ (v9_ : Value).ownBlock ∧ some k_ ≠ (v10_ : Value).ownBlock) v11_ r12 ∧ IsS83 w0 w' g s0_0 r13 r14 r15 r16 ∧ Below w0.heap.size w0 w' ∧ KeepBut w w' g none := by
 have hu91 := Try.underlying91
 have HI0 := za hI
 have HK := za (KeepBut.refl w g none)
 have HL := za hB.size
 clear hI
 have HW0 := za hB.size
 have HB := za hB
 clear hB
 have H : ((rr_qname.f s0_0 s0_1 s0_2 s0_3 s0_4).bind fun bt355 => ((rr_take.f s0_0 bt355.2.2.1 bt355.2.2.2.1 bt355.2.2.2.2.1 bt355.2.2.2.2.2 (⟨#[61]⟩ : ByteArray)).bind fun bt361 => (if bt361.1 = true then (none) else ((rr_want.f s0_0 bt361.2.1 bt361.2.2.1 bt361.2.2.2.1 bt361.2.2.2.2 (⟨#[40]⟩ : ByteArray)).bind fun bt366 => ((rr_is.f s0_0 bt366.1 bt366.2.1 bt366.2.2.1 bt366.2.2.2 (⟨#[41]⟩ : ByteArray)).bind fun bt370 => (if bt370.1 = true then (none) else (rr_call.l0 k s0_0 bt370.2.1 bt370.2.2.1 bt370.2.2.2.1 bt370.2.2.2.2 4 a1_1 a1_2 a1_3 a1_4 a1_5 bt355.1 bt355.2.1))))))) = some (r1, r2, r3, r4, r5, r6, r7, r8, r9, r10, r11, r12, r13, r14, r15, r16) := h
 clear h
 replace H := Option.bind_eq_some_iff.mp H
 obtain ⟨⟨t355, t356, t357, t358, t359, t360⟩, A30, H⟩ := H
 (try dsimp only at H)
 have A3 := za A30
 clear A30
 replace H := Option.bind_eq_some_iff.mp H
 obtain ⟨⟨t361, t362, t363, t364, t365⟩, A40, H⟩ := H
 (try dsimp only at H)
 have A4 := za A40
 clear A40
 by_cases c5 : t361 = true
 ·
  subst c5
  rw [if_pos rfl] at H
  exact absurd H (by simp)
 ·
  replace c5 := Bool.eq_false_iff.mpr c5
  subst c5
  rw [if_neg (show ¬ (false = true) by decide)] at H
  replace H := Option.bind_eq_some_iff.mp H
  obtain ⟨⟨t366, t367, t368, t369⟩, A60, H⟩ := H
  (try dsimp only at H)
  have A6 := za A60
  clear A60
  replace H := Option.bind_eq_some_iff.mp H
  obtain ⟨⟨t370, t371, t372, t373, t374⟩, A70, H⟩ := H
  (try dsimp only at H)
  have A7 := za A70
  clear A70
  by_cases c8 : t370 = true
  ·
   subst c8
   rw [if_pos rfl] at H
   exact absurd H (by simp)
  ·
   replace c8 := Bool.eq_false_iff.mpr c8
   subst c8
   rw [if_neg (show ¬ (false = true) by decide)] at H
   have H' := za H
   clear H
   go_enter Try.func74, Try.ntmps74
   go_wp2_with (first | ((with_reducible refine gate_dst (N := 3) rfl ?_); refine box_event ?hg (N := 3) ?hd (cs := #[.int .i64 a1_0, .int .i64 a1_1, .string a1_2, .string a1_3, .string a1_4, .bool a1_5, .string a1_6, .string a1_7, .slice none 0 0, .slice none 0 0, .slice none 0 0, .slice none 0 0]) (t := 91) ?hr ?_; (case hd => rfl); (case hg => rfl); (case hr => exact zq17); intro gb353 hg w9 hbox hb; replace HB := za (below_step zq3 hb); have BK353 := za (hbox); have GW353 := za ((by rw [hg]; exact (keep_size (w := w) (g := g) (row := none) zq5) : w.heap.size ≤ gb353)); have GE353 := za ((Nat.le_trans HW0.out (by rw [hg]; exact (keep_size (w := w) (g := g) (row := none) zq5) : w.heap.size ≤ gb353) : w0.heap.size ≤ gb353)); replace HK := za (KeepBut.trans zq5 (KeepBut.of_below hb g none) (.inl rfl)); have NB0_353 := za ((by rw [hg]; exact Nat.ne_of_lt (IsS83.lt (show IsS83 w0 _ g s0_0 s0_1 s0_2 s0_3 s0_4 from zq0)) : g ≠ gb353)); have NB353_0 := za ((by rw [hg]; exact Nat.ne_of_gt (IsS83.lt (show IsS83 w0 _ g s0_0 s0_1 s0_2 s0_3 s0_4 from zq0)) : gb353 ≠ g)); replace HI0 := za (IsS83.below zq0 hb); clear hb hbox hg) | ((with_reducible refine gate_dst (N := 4) rfl ?_); refine box_event ?hg (N := 4) ?hd (cs := #[.int .i64 0, .int .i64 0, .string (⟨#[]⟩ : ByteArray), .string (⟨#[]⟩ : ByteArray), .string (⟨#[]⟩ : ByteArray), .bool false, .string (⟨#[]⟩ : ByteArray), .string (⟨#[]⟩ : ByteArray), .slice none 0 0, .slice none 0 0, .slice none 0 0, .slice none 0 0]) (t := 91) ?hr ?_; (case hd => rfl); (case hg => rfl); (case hr => exact zq17); intro gb354 hg w10 hbox hb; replace HB := za (below_step (by repeat (first | (with_reducible first | exact HB.out | apply below_alloc | apply pw_below_drewN | apply below_drew1 | refine below_set ?_ (IsS83.ge HI0.out) | refine below_set ?_ GE353.out) | exact HB.out)) hb); have BK354 := za (hbox); have GW354 := za ((by rw [hg]; exact (keep_size (w := w) (g := g) (row := none) zq71) : w.heap.size ≤ gb354)); have GE354 := za ((Nat.le_trans HW0.out (by rw [hg]; exact (keep_size (w := w) (g := g) (row := none) zq71) : w.heap.size ≤ gb354) : w0.heap.size ≤ gb354)); replace HK := za (KeepBut.trans zq71 (KeepBut.of_below hb g none) (.inl rfl)); have NB353_354 := za ((by rw [hg]; exact Nat.ne_of_lt (blk_lt (g := gb353) (zb BK353.out)) : gb353 ≠ gb354)); have NB354_353 := za ((by rw [hg]; exact Nat.ne_of_gt (blk_lt (g := gb353) (zb BK353.out)) : gb354 ≠ gb353)); replace BK353 := za (blk_below (g := gb353) (zb BK353.out) hb); have NB0_354 := za ((by rw [hg]; exact Nat.ne_of_lt (IsS83.lt (show IsS83 w0 _ g s0_0 s0_1 s0_2 s0_3 s0_4 from zq59)) : g ≠ gb354)); have NB354_0 := za ((by rw [hg]; exact Nat.ne_of_gt (IsS83.lt (show IsS83 w0 _ g s0_0 s0_1 s0_2 s0_3 s0_4 from zq59)) : gb354 ≠ g)); replace HI0 := za (IsS83.below zq59 hb); clear hb hbox hg; have hnb11 := NB353_354.out; have hnc11 := NB354_353.out; have hnb12 := NB353_0.out; have hnc12 := NB0_353.out; obtain ⟨hcz13_0, hcz13_1, hcz13_2, hcz13_3, hcz13_4, hcz13_5, hcz13_6, hcz13_7, hcz13_8, hcz13_9, hcz13_10, hcz13_11⟩ := zc12 BK353.out; obtain ⟨hfz13_0, hfz13_1, hfz13_2, hfz13_3, hfz13_4, hfz13_5, hfz13_6, hfz13_7, hfz13_8, hfz13_9, hfz13_10⟩ := zf11 BK353.out; have hfz13_11 := blk_frozen BK353.out 11) | ((with_reducible refine gate_callee (f := 72) rfl ?_); refine goesL_ (some 12) rfl rfl Try.func72 zq12 rfl #[.pointer (some ⟨g, 0, none⟩)] rfl zq1 ?_; (with_reducible refine (rr_qname.calls g s0_0 s0_1 s0_2 s0_3 s0_4 t355 t356 t357 t358 t359 t360 w0 _ ?side1 ?side2 A3.out).mono ?_); (case side1 => exact zq28); (case side2 => exact zq31); rintro e w14 ⟨rfl, hi, hb, hk⟩; refine ⟨_, rfl, ?_⟩; replace BK353 := za (KeepBut.blk hk (g' := gb353) (o := .cells #[.int .i64 4, .int .i64 a1_1, .string a1_2, .string a1_3, .string a1_4, .bool a1_5, .string a1_6, .string a1_7, .slice none 0 0, .slice none 0 0, .slice none 0 0, .slice none 0 0] 91 (0, 0)) (by (with_reducible repeat (first | refine blk_drewN ?_ _ | refine blk_drew ?_ | refine blk_alloc ?_ _)); refine blk_put (cs := #[.int .i64 a1_0, .int .i64 a1_1, .string a1_2, .string a1_3, .string a1_4, .bool a1_5, .string a1_6, .string a1_7, .slice none 0 0, .slice none 0 0, .slice none 0 0, .slice none 0 0]) ?_ 0 _ rfl; (with_reducible repeat (first | refine blk_drewN ?_ _ | refine blk_drew ?_ | refine blk_alloc ?_ _)); exact BK353.out) NB353_0.out (by simp)); replace BK354 := za (KeepBut.blk hk (g' := gb354) (o := .cells #[.int .i64 0, .int .i64 0, .string (⟨#[]⟩ : ByteArray), .string (⟨#[]⟩ : ByteArray), .string (⟨#[]⟩ : ByteArray), .bool false, .string (⟨#[]⟩ : ByteArray), .string (⟨#[]⟩ : ByteArray), .slice none 0 0, .slice none 0 0, .slice none 0 0, .slice none 0 0] 91 (0, 0)) (by (with_reducible repeat (first | refine blk_drewN ?_ _ | refine blk_drew ?_ | refine blk_alloc ?_ _)); refine blk_far ?_ NB354_353.out _; (with_reducible repeat (first | refine blk_drewN ?_ _ | refine blk_drew ?_ | refine blk_alloc ?_ _)); exact BK354.out) NB354_0.out (by simp)); replace HK := za (KeepBut.trans zq37 hk (.inl rfl)); replace HB := za (hb); replace HI0 := za (hi); (try clear hb hk hi)) | ((with_reducible refine gate_callee (f := 48) rfl ?_); refine goesL_ (some 16) rfl rfl Try.func48 zq12 rfl #[.pointer (some ⟨g, 0, none⟩), .string (⟨#[61]⟩ : ByteArray)] rfl zq1 ?_; (with_reducible refine (rr_take.calls g s0_0 t357 t358 t359 t360 (⟨#[61]⟩ : ByteArray) false t362 t363 t364 t365 w0 _ ?side1 ?side2 A4.out).mono ?_); (case side1 => exact zq28); (case side2 => exact zq31); rintro e w15 ⟨rfl, hi, hb, hk⟩; refine ⟨_, rfl, ?_⟩; replace BK353 := za (KeepBut.blk hk (g' := gb353) (zb BK353.out) NB353_0.out (by simp)); replace BK354 := za (KeepBut.blk hk (g' := gb354) (zb BK354.out) NB354_0.out (by simp)); replace HK := za (KeepBut.trans zq37 hk (.inl rfl)); replace HB := za (hb); replace HI0 := za (hi); (try clear hb hk hi); obtain ⟨hcz16_0, hcz16_1, hcz16_2, hcz16_3, hcz16_4, hcz16_5, hcz16_6, hcz16_7, hcz16_8, hcz16_9, hcz16_10, hcz16_11⟩ := zc12 BK353.out; obtain ⟨hfz16_0, hfz16_1, hfz16_2, hfz16_3, hfz16_4, hfz16_5, hfz16_6, hfz16_7, hfz16_8, hfz16_9, hfz16_10⟩ := zf11 BK353.out; have hfz16_11 := blk_frozen BK353.out 11) | ((with_reducible refine gate_callee (f := 45) rfl ?_); refine goesL_ (some 34) rfl rfl Try.func45 zq12 rfl #[.pointer (some ⟨g, 0, none⟩), .string (⟨#[40]⟩ : ByteArray)] rfl zq1 ?_; (with_reducible refine (rr_want.calls g s0_0 t362 t363 t364 t365 (⟨#[40]⟩ : ByteArray) t366 t367 t368 t369 w0 _ ?side1 ?side2 A6.out).mono ?_); (case side1 => exact zq28); (case side2 => exact zq31); rintro e w17 ⟨rfl, hi, hb, hk⟩; refine ⟨_, rfl, ?_⟩; replace BK353 := za (KeepBut.blk hk (g' := gb353) (o := .cells #[.int .i64 4, .int .i64 a1_1, .string a1_2, .string a1_3, .string a1_4, .bool a1_5, .string t355, .string t356, .slice none 0 0, .slice none 0 0, .slice none 0 0, .slice none 0 0] 91 (0, 0)) (by (with_reducible repeat (first | refine blk_drewN ?_ _ | refine blk_drew ?_ | refine blk_alloc ?_ _)); refine blk_put (cs := #[.int .i64 4, .int .i64 a1_1, .string a1_2, .string a1_3, .string a1_4, .bool a1_5, .string t355, .string a1_7, .slice none 0 0, .slice none 0 0, .slice none 0 0, .slice none 0 0]) ?_ 7 _ rfl; (with_reducible repeat (first | refine blk_drewN ?_ _ | refine blk_drew ?_ | refine blk_alloc ?_ _)); refine blk_put (cs := #[.int .i64 4, .int .i64 a1_1, .string a1_2, .string a1_3, .string a1_4, .bool a1_5, .string a1_6, .string a1_7, .slice none 0 0, .slice none 0 0, .slice none 0 0, .slice none 0 0]) ?_ 6 _ rfl; (with_reducible repeat (first | refine blk_drewN ?_ _ | refine blk_drew ?_ | refine blk_alloc ?_ _)); exact BK353.out) NB353_0.out (by simp)); replace BK354 := za (KeepBut.blk hk (g' := gb354) (o := .cells #[.int .i64 0, .int .i64 0, .string (⟨#[]⟩ : ByteArray), .string (⟨#[]⟩ : ByteArray), .string (⟨#[]⟩ : ByteArray), .bool false, .string (⟨#[]⟩ : ByteArray), .string (⟨#[]⟩ : ByteArray), .slice none 0 0, .slice none 0 0, .slice none 0 0, .slice none 0 0] 91 (0, 0)) (by (with_reducible repeat (first | refine blk_drewN ?_ _ | refine blk_drew ?_ | refine blk_alloc ?_ _)); refine blk_far ?_ NB354_353.out _; (with_reducible repeat (first | refine blk_drewN ?_ _ | refine blk_drew ?_ | refine blk_alloc ?_ _)); refine blk_far ?_ NB354_353.out _; (with_reducible repeat (first | refine blk_drewN ?_ _ | refine blk_drew ?_ | refine blk_alloc ?_ _)); exact BK354.out) NB354_0.out (by simp)); replace HK := za (KeepBut.trans zq37 hk (.inl rfl)); replace HB := za (hb); replace HI0 := za (hi); (try clear hb hk hi)) | ((with_reducible refine gate_callee (f := 54) rfl ?_); refine goesL_ (some 36) rfl rfl Try.func54 zq12 rfl #[.pointer (some ⟨g, 0, none⟩), .string (⟨#[41]⟩ : ByteArray)] rfl zq1 ?_; (with_reducible refine (rr_is.calls g s0_0 t366 t367 t368 t369 (⟨#[41]⟩ : ByteArray) false t371 t372 t373 t374 w0 _ ?side1 ?side2 A7.out).mono ?_); (case side1 => exact zq28); (case side2 => exact zq31); rintro e w18 ⟨rfl, hi, hb, hk⟩; refine ⟨_, rfl, ?_⟩; replace BK353 := za (KeepBut.blk hk (g' := gb353) (zb BK353.out) NB353_0.out (by simp)); replace BK354 := za (KeepBut.blk hk (g' := gb354) (zb BK354.out) NB354_0.out (by simp)); replace HK := za (KeepBut.trans zq37 hk (.inl rfl)); replace HB := za (hb); replace HI0 := za (hi); (try clear hb hk hi)))
   (try simp only [Act.put, List.setIfInBounds_toArray, List.set_cons_zero, List.set_cons_succ])
   go_loopg [] k (fun kq w' => ∃ (x1001_1 : Int) (x1002_1 : Int) (x1003_1 : Int) (x1004_1 : Int), Aside0 (rr_call.l0 kq s0_0 x1001_1 x1002_1 x1003_1 x1004_1 4 a1_1 a1_2 a1_3 a1_4 a1_5 t355 t356 = some (r1, r2, r3, r4, r5, r6, r7, r8, r9, r10, r11, r12, r13, r14, r15, r16)) ∧ Aside0 (kq ≤ k) ∧ Aside0 (w'.heap[gb353]? = some (.cells #[.int .i64 4, .int .i64 a1_1, .string a1_2, .string a1_3, .string a1_4, .bool a1_5, .string t355, .string t356, (.slice none 0 0), (.slice none 0 0), (.slice none 0 0), (.slice none 0 0)] 91 (0, 0))) ∧ Aside0 (w'.heap[gb354]? = some (.cells #[.int .i64 0, .int .i64 0, .string (⟨#[]⟩ : ByteArray), .string (⟨#[]⟩ : ByteArray), .string (⟨#[]⟩ : ByteArray), .bool false, .string (⟨#[]⟩ : ByteArray), .string (⟨#[]⟩ : ByteArray), (.slice none 0 0), (.slice none 0 0), (.slice none 0 0), (.slice none 0 0)] 91 (0, 0))) ∧ Aside0 (IsS83 w0 w' g s0_0 x1001_1 x1002_1 x1003_1 x1004_1) ∧ Aside0 (KeepBut w w' g none) ∧ Aside0 (Below w0.heap.size w0 w'))
   case atStart => exact ⟨(t371), (t372), (t373), (t374), H', ⟨Nat.le_refl _⟩, ⟨by (with_reducible repeat (first | refine blk_drewN ?_ _ | refine blk_drew ?_ | refine blk_alloc ?_ _)); exact BK353.out⟩, ⟨by (with_reducible repeat (first | refine blk_drewN ?_ _ | refine blk_drew ?_ | refine blk_alloc ?_ _)); exact BK354.out⟩, ⟨zq28⟩, ⟨zq37⟩, ⟨zq31⟩⟩
   case round =>
    clear H'
    obtain ⟨x1001_1, x1002_1, x1003_1, x1004_1, HA, HK1, BK353, BK354, HI0, HK, HB⟩ := hrel
    cases gk with
    | zero => exact absurd HA.out (by simp [rr_call.l0])
    | succ k1 =>
     have H := HA.out
     clear HA
     simp only [rr_call.l0] at H
     by_cases c19 : x1003_1 = 0
     ·
      rw [if_pos c19] at H
      exact absurd H (by simp)
     ·
      rw [if_neg c19] at H
      have c19b0 := beq_eq_false_iff_ne.mpr c19
      have c19b1 := bne_iff_ne.mpr c19
      replace H := Option.bind_eq_some_iff.mp H
      obtain ⟨⟨t375, t376, t377, t378⟩, A200, H⟩ := H
      (try dsimp only at H)
      have A20 := za A200
      clear A200
      simp only [Option.some.injEq, Prod.mk.injEq] at H
      obtain ⟨rfl, rfl, rfl, rfl, rfl, rfl, rfl, rfl, rfl, rfl, rfl, rfl, rfl, rfl, rfl, rfl⟩ := H
      obtain ⟨ASz21_0, cSz21_0, HGz21, hgz21, HSz21_0⟩ := HI0.out
      have hcz21_0 := cellS83_0 HGz21
      have hcz21_1 := cellS83_1 HGz21
      have hcz21_2 := cellS83_2 HGz21
      have hcz21_3 := cellS83_3 HGz21
      have hcz21_4 := cellS83_4 HGz21
      have hfz21_1 := blk_frozen HGz21 1
      have hfz21_2 := blk_frozen HGz21 2
      have hfz21_3 := blk_frozen HGz21 3
      have hfz21_4 := blk_frozen HGz21 4
      clear HGz21 hgz21
      go_wp2_with (first | ((with_reducible refine gate_callee (f := 45) rfl ?_); refine goesL_ (some 54) rfl rfl Try.func45 zq12 rfl #[.pointer (some ⟨g, 0, none⟩), .string (⟨#[41]⟩ : ByteArray)] rfl zq1 ?_; (with_reducible refine (rr_want.calls g s0_0 x1001_1 x1002_1 x1003_1 x1004_1 (⟨#[41]⟩ : ByteArray) t375 t376 t377 t378 w0 _ ?side1 ?side2 A20.out).mono ?_); (case side1 => exact zq28); (case side2 => exact zq31); rintro e w22 ⟨rfl, hi, hb, hk⟩; refine ⟨_, rfl, ?_⟩; replace BK353 := za (KeepBut.blk hk (g' := gb353) (zb BK353.out) NB353_0.out (by simp)); replace BK354 := za (KeepBut.blk hk (g' := gb354) (zb BK354.out) NB354_0.out (by simp)); replace HK := za (KeepBut.trans zq37 hk (.inl rfl)); replace HB := za (hb); replace HI0 := za (hi); (try clear hb hk hi); have hnb23 := NB353_354.out; have hnc23 := NB354_353.out; have hnb24 := NB353_0.out; have hnc24 := NB0_353.out; obtain ⟨hcz25_0, hcz25_1, hcz25_2, hcz25_3, hcz25_4, hcz25_5, hcz25_6, hcz25_7, hcz25_8, hcz25_9, hcz25_10, hcz25_11⟩ := zc12 BK353.out; obtain ⟨hfz25_0, hfz25_1, hfz25_2, hfz25_3, hfz25_4, hfz25_5, hfz25_6, hfz25_7, hfz25_8, hfz25_9, hfz25_10, hfz25_11⟩ := zf12 BK353.out; have hnb26 := NB354_0.out; have hnc26 := NB0_354.out; obtain ⟨hcz27_0, hcz27_1, hcz27_2, hcz27_3, hcz27_4, hcz27_5, hcz27_6, hcz27_7, hcz27_8, hcz27_9, hcz27_10, hcz27_11⟩ := zc12 BK354.out; obtain ⟨hfz27_0, hfz27_1, hfz27_2, hfz27_3, hfz27_4, hfz27_5, hfz27_6, hfz27_7, hfz27_8, hfz27_9, hfz27_10⟩ := zf11 BK354.out; have hfz27_11 := blk_frozen BK354.out 11))
      refine bodyPost_ret (results_cell_row rfl _ _ gb354 91 #[.int .i64 4, .int .i64 a1_1, .string a1_2, .string a1_3, .string a1_4, .bool a1_5, .string t355, .string t356, .slice none 0 0, .slice none 0 0, .slice none 0 0, .slice none 0 0] (0, 0) _ rfl (by (with_reducible repeat (first | refine blk_drewN ?_ _ | refine blk_drew ?_ | refine blk_alloc ?_ _)); refine blk_put (cs := #[.int .i64 4, .int .i64 a1_1, .string a1_2, .string a1_3, .string a1_4, .bool a1_5, .string t355, .string t356, .slice none 0 0, .slice none 0 0, .slice none 0 0, .slice none 0 0]) ?_ 11 _ rfl; (with_reducible repeat (first | refine blk_drewN ?_ _ | refine blk_drew ?_ | refine blk_alloc ?_ _)); refine blk_put (cs := #[.int .i64 4, .int .i64 a1_1, .string a1_2, .string a1_3, .string a1_4, .bool a1_5, .string t355, .string t356, .slice none 0 0, .slice none 0 0, .slice none 0 0, .slice none 0 0]) ?_ 10 _ rfl; (with_reducible repeat (first | refine blk_drewN ?_ _ | refine blk_drew ?_ | refine blk_alloc ?_ _)); refine blk_put (cs := #[.int .i64 4, .int .i64 a1_1, .string a1_2, .string a1_3, .string a1_4, .bool a1_5, .string t355, .string t356, .slice none 0 0, .slice none 0 0, .slice none 0 0, .slice none 0 0]) ?_ 9 _ rfl; (with_reducible repeat (first | refine blk_drewN ?_ _ | refine blk_drew ?_ | refine blk_alloc ?_ _)); refine blk_put (cs := #[.int .i64 4, .int .i64 a1_1, .string a1_2, .string a1_3, .string a1_4, .bool a1_5, .string t355, .string t356, .slice none 0 0, .slice none 0 0, .slice none 0 0, .slice none 0 0]) ?_ 8 _ rfl; (with_reducible repeat (first | refine blk_drewN ?_ _ | refine blk_drew ?_ | refine blk_alloc ?_ _)); refine blk_put (cs := #[.int .i64 4, .int .i64 a1_1, .string a1_2, .string a1_3, .string a1_4, .bool a1_5, .string t355, .string (⟨#[]⟩ : ByteArray), .slice none 0 0, .slice none 0 0, .slice none 0 0, .slice none 0 0]) ?_ 7 _ rfl; (with_reducible repeat (first | refine blk_drewN ?_ _ | refine blk_drew ?_ | refine blk_alloc ?_ _)); refine blk_put (cs := #[.int .i64 4, .int .i64 a1_1, .string a1_2, .string a1_3, .string a1_4, .bool a1_5, .string (⟨#[]⟩ : ByteArray), .string (⟨#[]⟩ : ByteArray), .slice none 0 0, .slice none 0 0, .slice none 0 0, .slice none 0 0]) ?_ 6 _ rfl; (with_reducible repeat (first | refine blk_drewN ?_ _ | refine blk_drew ?_ | refine blk_alloc ?_ _)); refine blk_put (cs := #[.int .i64 4, .int .i64 a1_1, .string a1_2, .string a1_3, .string a1_4, .bool false, .string (⟨#[]⟩ : ByteArray), .string (⟨#[]⟩ : ByteArray), .slice none 0 0, .slice none 0 0, .slice none 0 0, .slice none 0 0]) ?_ 5 _ rfl; (with_reducible repeat (first | refine blk_drewN ?_ _ | refine blk_drew ?_ | refine blk_alloc ?_ _)); refine blk_put (cs := #[.int .i64 4, .int .i64 a1_1, .string a1_2, .string a1_3, .string (⟨#[]⟩ : ByteArray), .bool false, .string (⟨#[]⟩ : ByteArray), .string (⟨#[]⟩ : ByteArray), .slice none 0 0, .slice none 0 0, .slice none 0 0, .slice none 0 0]) ?_ 4 _ rfl; (with_reducible repeat (first | refine blk_drewN ?_ _ | refine blk_drew ?_ | refine blk_alloc ?_ _)); refine blk_put (cs := #[.int .i64 4, .int .i64 a1_1, .string a1_2, .string (⟨#[]⟩ : ByteArray), .string (⟨#[]⟩ : ByteArray), .bool false, .string (⟨#[]⟩ : ByteArray), .string (⟨#[]⟩ : ByteArray), .slice none 0 0, .slice none 0 0, .slice none 0 0, .slice none 0 0]) ?_ 3 _ rfl; (with_reducible repeat (first | refine blk_drewN ?_ _ | refine blk_drew ?_ | refine blk_alloc ?_ _)); refine blk_put (cs := #[.int .i64 4, .int .i64 a1_1, .string (⟨#[]⟩ : ByteArray), .string (⟨#[]⟩ : ByteArray), .string (⟨#[]⟩ : ByteArray), .bool false, .string (⟨#[]⟩ : ByteArray), .string (⟨#[]⟩ : ByteArray), .slice none 0 0, .slice none 0 0, .slice none 0 0, .slice none 0 0]) ?_ 2 _ rfl; (with_reducible repeat (first | refine blk_drewN ?_ _ | refine blk_drew ?_ | refine blk_alloc ?_ _)); refine blk_put (cs := #[.int .i64 4, .int .i64 0, .string (⟨#[]⟩ : ByteArray), .string (⟨#[]⟩ : ByteArray), .string (⟨#[]⟩ : ByteArray), .bool false, .string (⟨#[]⟩ : ByteArray), .string (⟨#[]⟩ : ByteArray), .slice none 0 0, .slice none 0 0, .slice none 0 0, .slice none 0 0]) ?_ 1 _ rfl; (with_reducible repeat (first | refine blk_drewN ?_ _ | refine blk_drew ?_ | refine blk_alloc ?_ _)); refine blk_put (cs := #[.int .i64 0, .int .i64 0, .string (⟨#[]⟩ : ByteArray), .string (⟨#[]⟩ : ByteArray), .string (⟨#[]⟩ : ByteArray), .bool false, .string (⟨#[]⟩ : ByteArray), .string (⟨#[]⟩ : ByteArray), .slice none 0 0, .slice none 0 0, .slice none 0 0, .slice none 0 0]) ?_ 0 _ rfl; (with_reducible repeat (first | refine blk_drewN ?_ _ | refine blk_drew ?_ | refine blk_alloc ?_ _)); exact BK354.out) Try.underlying91 rfl zq12) rfl ?_
      exact ⟨_, _, _, _, zq14, zq29, by first | exact Kd.S_nil _ _ _ _ _ | exact Kd.N_nil _ _ _ _ _ | exact Kd.V_nil _ _ _ _ _ | exact Kd.Q_nil _ _ _ _ _ | exact Kd.R_nil _ _ _ _ _, zq29, zq29, zq28, zq31, zq37⟩
mutual
def rr_stmt.j0 : Nat → Bool → List (S110) → Int → Int → Int → Int → Int → Int → ByteArray → ByteArray → ByteArray → Bool → ByteArray → ByteArray → Option (Int × Int × ByteArray × ByteArray × ByteArray × Bool × ByteArray × ByteArray × (List (S140)) × (List (List (S140))) × (List (S91)) × (List (S91)) × Int × Int × Int × Int)
 | 0, _, _, _, _, _, _, _, _, _, _, _, _, _, _ => none
 | k + 1, x12, x1000, x1001, x1002, x1003, x1004, x386000, x386001, x386002, x386003, x386004, x386005, x386006, x386007 => if x12 = true then ((rr_qname.f x1000 x1001 x1002 x1003 x1004).bind fun bt387 => ((rr_want.f x1000 bt387.2.2.1 bt387.2.2.2.1 bt387.2.2.2.2.1 bt387.2.2.2.2.2 (⟨#[61]⟩ : ByteArray)).bind fun bt393 => ((rr_expr.f k x1000 bt393.1 bt393.2.1 bt393.2.2.1 bt393.2.2.2 ([] : List (S140))).bind fun bt397 => ((rr_want.f x1000 bt397.2.1 bt397.2.2.1 bt397.2.2.2.1 bt397.2.2.2.2 (⟨#[59]⟩ : ByteArray)).bind fun bt404 => (some (2, x386001, bt387.1, bt387.2.1, x386004, x386005, x386006, x386007, bt397.1, ([] : List (List (S140))), ([] : List (S91)), ([] : List (S91)), bt404.1, bt404.2.1, bt404.2.2.1, bt404.2.2.2)))))) else ((rr_take.f x1000 x1001 x1002 x1003 x1004 (⟨#[108, 101, 116]⟩ : ByteArray)).bind fun bt408 => (if bt408.1 = true then ((rr_name.f x1000 bt408.2.1 bt408.2.2.1 bt408.2.2.2.1 bt408.2.2.2.2).bind fun bt413 => ((rr_want.f x1000 bt413.2.1 bt413.2.2.1 bt413.2.2.2.1 bt413.2.2.2.2 (⟨#[58]⟩ : ByteArray)).bind fun bt418 => ((rr_name.f x1000 bt418.1 bt418.2.1 bt418.2.2.1 bt418.2.2.2).bind fun bt422 => ((rr_want.f x1000 bt422.2.1 bt422.2.2.1 bt422.2.2.2.1 bt422.2.2.2.2 (⟨#[61]⟩ : ByteArray)).bind fun bt427 => ((rr_expr.f k x1000 bt427.1 bt427.2.1 bt427.2.2.1 bt427.2.2.2 ([] : List (S140))).bind fun bt431 => ((rr_want.f x1000 bt431.2.1 bt431.2.2.1 bt431.2.2.2.1 bt431.2.2.2.2 (⟨#[59]⟩ : ByteArray)).bind fun bt438 => (some (1, x386001, x386002, bt413.1, bt422.1, x386005, x386006, x386007, bt431.1, ([] : List (List (S140))), ([] : List (S91)), ([] : List (S91)), bt438.1, bt438.2.1, bt438.2.2.1, bt438.2.2.2)))))))) else ((rr_take.f x1000 bt408.2.1 bt408.2.2.1 bt408.2.2.2.1 bt408.2.2.2.2 (⟨#[114, 101, 115, 117, 108, 116]⟩ : ByteArray)).bind fun bt442 => (if bt442.1 = true then ((rr_want.f x1000 bt442.2.1 bt442.2.2.1 bt442.2.2.2.1 bt442.2.2.2.2 (⟨#[61]⟩ : ByteArray)).bind fun bt447 => ((rr_expr.f k x1000 bt447.1 bt447.2.1 bt447.2.2.1 bt447.2.2.2 ([] : List (S140))).bind fun bt451 => ((rr_want.f x1000 bt451.2.1 bt451.2.2.1 bt451.2.2.2.1 bt451.2.2.2.2 (⟨#[59]⟩ : ByteArray)).bind fun bt458 => (some (3, x386001, x386002, x386003, x386004, x386005, x386006, x386007, bt451.1, ([] : List (List (S140))), ([] : List (S91)), ([] : List (S91)), bt458.1, bt458.2.1, bt458.2.2.1, bt458.2.2.2))))) else ((rr_take.f x1000 bt442.2.1 bt442.2.2.1 bt442.2.2.2.1 bt442.2.2.2.2 (⟨#[99, 97, 108, 108]⟩ : ByteArray)).bind fun bt462 => (if bt462.1 = true then ((rr_call.f k x1000 bt462.2.1 bt462.2.2.1 bt462.2.2.2.1 bt462.2.2.2.2 x386000 x386001 x386002 x386003 x386004 x386005 x386006 x386007).bind fun bt467 => ((rr_want.f x1000 bt467.2.2.2.2.2.2.2.2.2.2.2.2.1 bt467.2.2.2.2.2.2.2.2.2.2.2.2.2.1 bt467.2.2.2.2.2.2.2.2.2.2.2.2.2.2.1 bt467.2.2.2.2.2.2.2.2.2.2.2.2.2.2.2 (⟨#[59]⟩ : ByteArray)).bind fun bt491 => (some (bt467.1, bt467.2.1, bt467.2.2.1, bt467.2.2.2.1, bt467.2.2.2.2.1, bt467.2.2.2.2.2.1, bt467.2.2.2.2.2.2.1, bt467.2.2.2.2.2.2.2.1, bt467.2.2.2.2.2.2.2.2.1, bt467.2.2.2.2.2.2.2.2.2.1, bt467.2.2.2.2.2.2.2.2.2.2.1, bt467.2.2.2.2.2.2.2.2.2.2.2.1, bt491.1, bt491.2.1, bt491.2.2.1, bt491.2.2.2)))) else ((rr_take.f x1000 bt462.2.1 bt462.2.2.1 bt462.2.2.2.1 bt462.2.2.2.2 (⟨#[101, 109, 105, 116]⟩ : ByteArray)).bind fun bt495 => (if bt495.1 = true then ((rr_name.f x1000 bt495.2.1 bt495.2.2.1 bt495.2.2.2.1 bt495.2.2.2.2).bind fun bt500 => ((rr_want.f x1000 bt500.2.1 bt500.2.2.1 bt500.2.2.2.1 bt500.2.2.2.2 (⟨#[59]⟩ : ByteArray)).bind fun bt505 => (some (7, x386001, x386002, bt500.1, x386004, x386005, x386006, x386007, ([] : List (S140)), ([] : List (List (S140))), ([] : List (S91)), ([] : List (S91)), bt505.1, bt505.2.1, bt505.2.2.1, bt505.2.2.2)))) else ((rr_take.f x1000 bt495.2.1 bt495.2.2.1 bt495.2.2.2.1 bt495.2.2.2.2 (⟨#[115, 107, 105, 112]⟩ : ByteArray)).bind fun bt509 => (if bt509.1 = true then ((rr_want.f x1000 bt509.2.1 bt509.2.2.1 bt509.2.2.2.1 bt509.2.2.2.2 (⟨#[59]⟩ : ByteArray)).bind fun bt514 => (some (8, x386001, x386002, x386003, x386004, x386005, x386006, x386007, ([] : List (S140)), ([] : List (List (S140))), ([] : List (S91)), ([] : List (S91)), bt514.1, bt514.2.1, bt514.2.2.1, bt514.2.2.2))) else ((rr_take.f x1000 bt509.2.1 bt509.2.2.1 bt509.2.2.2.1 bt509.2.2.2.2 (⟨#[105, 102]⟩ : ByteArray)).bind fun bt518 => (if bt518.1 = true then ((rr_expr.f k x1000 bt518.2.1 bt518.2.2.1 bt518.2.2.2.1 bt518.2.2.2.2 ([] : List (S140))).bind fun bt523 => ((rr_block.f k x1000 bt523.2.1 bt523.2.2.1 bt523.2.2.2.1 bt523.2.2.2.2).bind fun bt530 => ((rr_take.f x1000 bt530.2.1 bt530.2.2.1 bt530.2.2.2.1 bt530.2.2.2.2 (⟨#[101, 108, 115, 101]⟩ : ByteArray)).bind fun bt537 => (if bt537.1 = true then ((rr_block.f k x1000 bt537.2.1 bt537.2.2.1 bt537.2.2.2.1 bt537.2.2.2.2).bind fun bt542 => (some (5, x386001, x386002, x386003, x386004, x386005, x386006, x386007, bt523.1, ([] : List (List (S140))), bt530.1, bt542.1, bt542.2.1, bt542.2.2.1, bt542.2.2.2.1, bt542.2.2.2.2))) else (some (5, x386001, x386002, x386003, x386004, x386005, x386006, x386007, bt523.1, ([] : List (List (S140))), bt530.1, ([] : List (S91)), bt537.2.1, bt537.2.2.1, bt537.2.2.2.1, bt537.2.2.2.2)))))) else ((rr_take.f x1000 bt518.2.1 bt518.2.2.1 bt518.2.2.2.1 bt518.2.2.2.2 (⟨#[119, 104, 105, 108, 101]⟩ : ByteArray)).bind fun bt549 => (if bt549.1 = true then ((rr_expr.f k x1000 bt549.2.1 bt549.2.2.1 bt549.2.2.2.1 bt549.2.2.2.2 ([] : List (S140))).bind fun bt554 => ((rr_block.f k x1000 bt554.2.1 bt554.2.2.1 bt554.2.2.2.1 bt554.2.2.2.2).bind fun bt561 => (some (6, x386001, x386002, x386003, x386004, x386005, x386006, x386007, bt554.1, ([] : List (List (S140))), bt561.1, ([] : List (S91)), bt561.2.1, bt561.2.2.1, bt561.2.2.2.1, bt561.2.2.2.2)))) else ((rr_fail.f x1000 bt549.2.1 bt549.2.2.1 bt549.2.2.2.1 bt549.2.2.2.2 11).bind fun bt568 => (some (x386000, x386001, x386002, x386003, x386004, x386005, x386006, x386007, ([] : List (S140)), ([] : List (List (S140))), ([] : List (S91)), ([] : List (S91)), bt568.1, bt568.2.1, bt568.2.2.1, bt568.2.2.2)))))))))))))))))
def rr_stmt.f : Nat → List (S110) → Int → Int → Int → Int → Option (Int × Int × ByteArray × ByteArray × ByteArray × Bool × ByteArray × ByteArray × (List (S140)) × (List (List (S140))) × (List (S91)) × (List (S91)) × Int × Int × Int × Int)
 | 0, _, _, _, _, _ => none
 | k + 1, s0_0, s0_1, s0_2, s0_3, s0_4 => (rr_here.f s0_0 s0_1 s0_2 s0_3 s0_4).bind fun bt380 => (if bt380.2.2.2.1 = 0 then (if 0 ≤ bt380.2.1 then (if bt380.2.1 < (s0_0.length : Int) then (rr_stmt.j0 k (((rd_T110 s0_0 bt380.2.1).f0) == 1) s0_0 bt380.2.1 bt380.2.2.1 bt380.2.2.2.1 bt380.2.2.2.2 0 bt380.1 (⟨#[]⟩ : ByteArray) (⟨#[]⟩ : ByteArray) (⟨#[]⟩ : ByteArray) false (⟨#[]⟩ : ByteArray) (⟨#[]⟩ : ByteArray)) else (none)) else (none)) else (rr_stmt.j0 k false s0_0 bt380.2.1 bt380.2.2.1 bt380.2.2.2.1 bt380.2.2.2.2 0 bt380.1 (⟨#[]⟩ : ByteArray) (⟨#[]⟩ : ByteArray) (⟨#[]⟩ : ByteArray) false (⟨#[]⟩ : ByteArray) (⟨#[]⟩ : ByteArray)))
def rr_block.l0 : Nat → List (S91) → List (S110) → Int → Int → Int → Int → Option ((List (S91)) × Int × Int × Int × Int)
 | 0, _, _, _, _, _, _ => none
 | k + 1, x3, x1000, x1001, x1002, x1003, x1004 => if x1003 = 0 then ((rr_is.f x1000 x1001 x1002 x1003 x1004 (⟨#[125]⟩ : ByteArray)).bind fun bt576 => (if bt576.1 = true then ((rr_want.f x1000 bt576.2.1 bt576.2.2.1 bt576.2.2.2.1 bt576.2.2.2.2 (⟨#[125]⟩ : ByteArray)).bind fun bt581 => (some (x3, bt581.1, wrap64 (bt581.2.1 - 1), bt581.2.2.1, bt581.2.2.2))) else ((rr_stmt.f k x1000 bt576.2.1 bt576.2.2.1 bt576.2.2.2.1 bt576.2.2.2.2).bind fun bt585 => (if x3.length < 703687441776 then (rr_block.l0 k (x3 ++ [(⟨bt585.1, bt585.2.1, bt585.2.2.1, bt585.2.2.2.1, bt585.2.2.2.2.1, bt585.2.2.2.2.2.1, bt585.2.2.2.2.2.2.1, bt585.2.2.2.2.2.2.2.1, bt585.2.2.2.2.2.2.2.2.1, bt585.2.2.2.2.2.2.2.2.2.1, bt585.2.2.2.2.2.2.2.2.2.2.1, bt585.2.2.2.2.2.2.2.2.2.2.2.1⟩ : S91)]) x1000 bt585.2.2.2.2.2.2.2.2.2.2.2.2.1 bt585.2.2.2.2.2.2.2.2.2.2.2.2.2.1 bt585.2.2.2.2.2.2.2.2.2.2.2.2.2.2.1 bt585.2.2.2.2.2.2.2.2.2.2.2.2.2.2.2) else (none))))) else ((rr_want.f x1000 x1001 x1002 x1003 x1004 (⟨#[125]⟩ : ByteArray)).bind fun bt612 => (some (x3, bt612.1, wrap64 (bt612.2.1 - 1), bt612.2.2.1, bt612.2.2.2)))
def rr_block.f : Nat → List (S110) → Int → Int → Int → Int → Option ((List (S91)) × Int × Int × Int × Int)
 | 0, _, _, _, _, _ => none
 | k + 1, s0_0, s0_1, s0_2, s0_3, s0_4 => (rr_open.f k s0_0 s0_1 s0_2 s0_3 s0_4 (⟨#[123]⟩ : ByteArray)).bind fun bt572 => (rr_block.l0 k ([] : List (S91)) s0_0 bt572.1 bt572.2.1 bt572.2.2.1 bt572.2.2.2)
end
theorem rr_stmt_group.mono_l : ∀ k, (∀ y0 y1 y2 y3 y4, LeO (rr_stmt.f k y0 y1 y2 y3 y4) (rr_stmt.f (k + 1) y0 y1 y2 y3 y4)) ∧ (∀ y0 y1 y2 y3 y4 y5 y6 y7 y8 y9 y10 y11 y12 y13, LeO (rr_stmt.j0 k y0 y1 y2 y3 y4 y5 y6 y7 y8 y9 y10 y11 y12 y13) (rr_stmt.j0 (k + 1) y0 y1 y2 y3 y4 y5 y6 y7 y8 y9 y10 y11 y12 y13)) ∧ (∀ y0 y1 y2 y3 y4, LeO (rr_block.f k y0 y1 y2 y3 y4) (rr_block.f (k + 1) y0 y1 y2 y3 y4)) ∧ (∀ y0 y1 y2 y3 y4 y5, LeO (rr_block.l0 k y0 y1 y2 y3 y4 y5) (rr_block.l0 (k + 1) y0 y1 y2 y3 y4 y5))
 | 0 => ⟨fun _ _ _ _ _ r h => by simp [rr_stmt.f] at h, fun _ _ _ _ _ _ _ _ _ _ _ _ _ _ r h => by simp [rr_stmt.j0] at h, fun _ _ _ _ _ r h => by simp [rr_block.f] at h, fun _ _ _ _ _ _ r h => by simp [rr_block.l0] at h⟩
 | k + 1 => by
  obtain ⟨ih0, ih1, ih2, ih3⟩ := rr_stmt_group.mono_l k
  refine ⟨?_, ?_, ?_, ?_⟩
  ·
   intro y0 y1 y2 y3 y4
   unfold rr_stmt.f
   repeat' with_reducible first | apply ih0 | apply ih1 | apply ih2 | apply ih3 | apply rr_call.mono | apply rr_expr.mono | apply rr_open.mono | exact LeO.refl _ | exact LeO.none _ | refine LeO.ite ?_ ?_ | refine LeO.bind ?_ (fun _ => ?_)
  ·
   intro y0 y1 y2 y3 y4 y5 y6 y7 y8 y9 y10 y11 y12 y13
   unfold rr_stmt.j0
   repeat' with_reducible first | apply ih0 | apply ih1 | apply ih2 | apply ih3 | apply rr_call.mono | apply rr_expr.mono | apply rr_open.mono | exact LeO.refl _ | exact LeO.none _ | refine LeO.ite ?_ ?_ | refine LeO.bind ?_ (fun _ => ?_)
  ·
   intro y0 y1 y2 y3 y4
   unfold rr_block.f
   repeat' with_reducible first | apply ih0 | apply ih1 | apply ih2 | apply ih3 | apply rr_call.mono | apply rr_expr.mono | apply rr_open.mono | exact LeO.refl _ | exact LeO.none _ | refine LeO.ite ?_ ?_ | refine LeO.bind ?_ (fun _ => ?_)
  ·
   intro y0 y1 y2 y3 y4 y5
   unfold rr_block.l0
   repeat' with_reducible first | apply ih0 | apply ih1 | apply ih2 | apply ih3 | apply rr_call.mono | apply rr_expr.mono | apply rr_open.mono | exact LeO.refl _ | exact LeO.none _ | refine LeO.ite ?_ ?_ | refine LeO.bind ?_ (fun _ => ?_)
theorem rr_stmt.mono : ∀ a0 a1 a2 a3 a4 k, LeO (rr_stmt.f k a0 a1 a2 a3 a4) (rr_stmt.f (k + 1) a0 a1 a2 a3 a4) := fun a0 a1 a2 a3 a4 k => (rr_stmt_group.mono_l k).1 a0 a1 a2 a3 a4
theorem rr_block.mono : ∀ a0 a1 a2 a3 a4 k, LeO (rr_block.f k a0 a1 a2 a3 a4) (rr_block.f (k + 1) a0 a1 a2 a3 a4) := fun a0 a1 a2 a3 a4 k => (rr_stmt_group.mono_l k).2.2.1 a0 a1 a2 a3 a4
end Go.Proofs.Ytcjnhnnfoadklaa.QRunCounts
