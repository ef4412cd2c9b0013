import Derived.Test.YtcjnhnnfoadklaaZRLx9
namespace Go.Proofs.Ytcjnhnnfoadklaa.QRunCalls
open Go.RowKit Go.Proofs.YtcjnhnnfoadklaaW.PrintWords Go.Proofs.YtcjnhnnfoadklaaW.PrintLast Go.Proofs.YtcjnhnnfoadklaaW.PrintMore
attribute [local go_sem] max2_int min2_int max_two min_two max_three min_three max_four min_four
set_option linter.unusedVariables false
set_option linter.unusedSimpArgs false
def rr_sum.l0 : Nat → List (S140) → List (S110) → Int → Int → Int → Int → Option ((List (S140)) × Int × Int × Int × Int)
 | 0, _, _, _, _, _, _ => none
 | k + 1, x1, x1000, x1001, x1002, x1003, x1004 => if x1003 = 0 then ((rr_here.f x1000 x1001 x1002 x1003 x1004).bind fun bt275 => ((rr_take.f x1000 bt275.2.1 bt275.2.2.1 bt275.2.2.2.1 bt275.2.2.2.2 (⟨#[43]⟩ : ByteArray)).bind fun bt280 => (if bt280.1 = true then ((rr_term.f k x1000 bt280.2.1 bt280.2.2.1 bt280.2.2.2.1 bt280.2.2.2.2 x1).bind fun bt285 => ((ra_two.f bt285.1 (wrap64 ((x1.length : Int) - 1)) 5 bt275.1).bind fun t292 => (rr_sum.l0 k t292 x1000 bt285.2.1 bt285.2.2.1 bt285.2.2.2.1 bt285.2.2.2.2))) else ((rr_take.f x1000 bt280.2.1 bt280.2.2.1 bt280.2.2.2.1 bt280.2.2.2.2 (⟨#[45]⟩ : ByteArray)).bind fun bt295 => (if bt295.1 = true then ((rr_term.f k x1000 bt295.2.1 bt295.2.2.1 bt295.2.2.2.1 bt295.2.2.2.2 x1).bind fun bt300 => ((ra_two.f bt300.1 (wrap64 ((x1.length : Int) - 1)) 6 bt275.1).bind fun t307 => (rr_sum.l0 k t307 x1000 bt300.2.1 bt300.2.2.1 bt300.2.2.2.1 bt300.2.2.2.2))) else (some (x1, bt295.2.1, bt295.2.2.1, bt295.2.2.2.1, bt295.2.2.2.2))))))) else (none)
def rr_sum.f (k : Nat) (s0_0 : List (S110)) (s0_1 : Int) (s0_2 : Int) (s0_3 : Int) (s0_4 : Int) (l1 : List (S140)) : Option ((List (S140)) × Int × Int × Int × Int) := (rr_term.f k s0_0 s0_1 s0_2 s0_3 s0_4 l1).bind fun bt268 => (rr_sum.l0 k bt268.1 s0_0 bt268.2.1 bt268.2.2.1 bt268.2.2.2.1 bt268.2.2.2.2)
theorem rr_sum.mono_l : ∀ k, (∀ y0 y1 y2 y3 y4 y5, LeO (rr_sum.l0 k y0 y1 y2 y3 y4 y5) (rr_sum.l0 (k + 1) y0 y1 y2 y3 y4 y5))
 | 0 => fun _ _ _ _ _ _ r h => by simp [rr_sum.l0] at h
 | k + 1 => by
  have ih0 := rr_sum.mono_l k
  ·
   intro y0 y1 y2 y3 y4 y5
   unfold rr_sum.l0
   repeat' with_reducible first | apply ih0 | apply rr_term.mono | exact LeO.refl _ | exact LeO.none _ | refine LeO.ite ?_ ?_ | refine LeO.bind ?_ (fun _ => ?_)
theorem rr_sum.mono : ∀ a0 a1 a2 a3 a4 a5 k, LeO (rr_sum.f k a0 a1 a2 a3 a4 a5) (rr_sum.f (k + 1) a0 a1 a2 a3 a4 a5) := by
 intro a0 a1 a2 a3 a4 a5 k
 have ih0 := rr_sum.mono_l k
 unfold rr_sum.f
 repeat' with_reducible first | apply ih0 | apply rr_term.mono | exact LeO.refl _ | exact LeO.none _ | refine LeO.ite ?_ ?_ | refine LeO.bind ?_ (fun _ => ?_)
set_option maxHeartbeats 8000000 in
set_option maxRecDepth 100000 in
theorem rr_sum.calls (k : Nat) (g : Nat) (s0_0 : List (S110)) (s0_1 : Int) (s0_2 : Int) (s0_3 : Int) (s0_4 : Int) (P1_ : Nat → Prop) (u9000_ : Value) (l1 : List (S140)) (r1 : List (S140)) (r2 : Int) (r3 : Int) (r4 : Int) (r5 : Int) (w0 w : World) (hI : IsS83 w0 w g s0_0 s0_1 s0_2 s0_3 s0_4) (hB : Below w0.heap.size w0 w) (ho1 : Kd.R k140 140 w w0.heap.size P1_ u9000_ l1) (h : rr_sum.f k s0_0 s0_1 s0_2 s0_3 s0_4 l1 = some (r1, r2, r3, r4, r5)) :
  Calls Try.prog 82 #[.pointer (some ⟨g, 0, none⟩), u9000_] w fun e w' => ∃ v0_ : Value, e = .returned (v0_) ∧ Kd.R k140 140 w' w0.heap.size (fun k_ => (P1_ k_ ∨ w.heap.size ≤ k_)) v0_ r1 ∧ IsS83 w0 w' g s0_0 r2 r3 r4 r5 ∧ Below w0.heap.size w0 w' ∧ Kept w w' (fun k_ => (P1_ k_) ∨ k_ = g) := by
 have HO1 := za (show Kd.R k140 140 w w0.heap.size (fun k_ => (P1_ k_ ∨ w.heap.size ≤ k_)) u9000_ l1 from Kd.R_mono ho1 (fun k_ hk => (.inl hk)))
 have HI0 := za hI
 have HL := za hB.size
 clear hI
 have HK := za (Kept.refl w (fun k_ => (P1_ k_) ∨ k_ = g))
 have HW0 := za hB.size
 have HB := za hB
 clear hB
 have H : ((rr_term.f k s0_0 s0_1 s0_2 s0_3 s0_4 l1).bind fun bt268 => (rr_sum.l0 k bt268.1 s0_0 bt268.2.1 bt268.2.2.1 bt268.2.2.2.1 bt268.2.2.2.2)) = some (r1, r2, r3, r4, r5) := h
 clear h
 replace H := Option.bind_eq_some_iff.mp H
 obtain ⟨⟨t268, t271, t272, t273, t274⟩, A30, H⟩ := H
 (try dsimp only at H)
 have A3 := za A30
 clear A30
 have H' := za H
 clear H
 obtain ⟨Ao4, co4, eo4⟩ := Kd.R_slice HO1.out
 subst eo4
 go_enter Try.func82, Try.ntmps82
 go_wp2_with (first | ((with_reducible refine gate_callee (f := 92) rfl ?_); refine goesL_ (some 9) rfl rfl Try.func92 zq13 rfl #[.pointer (some ⟨g, 0, none⟩), .slice Ao4 l1.length co4] rfl zq1 ?_; (with_reducible refine (rr_term.calls k g s0_0 s0_1 s0_2 s0_3 s0_4 (fun k_ => some k_ = (.slice Ao4 l1.length co4 : Value).ownBlock) (.slice Ao4 l1.length co4) l1 t268 t271 t272 t273 t274 w0 _ ?side1 ?side2 ?side3 A3.out).mono ?_); (case side1 => exact zq0); (case side2 => exact zq2); (case side3 => exact Kd.R_tight rfl HO1.out); rintro e w5 ⟨v269, rfl, ho0, hi, hb, hkp⟩; refine ⟨_, rfl, ?_⟩; replace HI0 := za (hi); have HO270 := za (Kd.R_mono (ok' := fun k_ => (P1_ k_ ∨ w.heap.size ≤ k_)) ho0 (fun k_ hk_ => Or.elim hk_ (fun hs_ => (HO1.out.1 k_ (hs_).symm)) (fun hn_ => (.inr (Nat.le_trans zq25 hn_))))); replace HK := za (Kept.then_ (S := (fun k_ => (P1_ k_) ∨ k_ = g)) zq7 hkp (fun k_ hs_ => Or.elim hs_ (fun hs_ => (fun e_ => Or.imp_left Or.inl ((HO1.out.1 k_ e_.symm))) hs_) (fun e_ => .inl (.inr e_)))); replace HB := za (hb); clear HO1; (try clear hb hkp ho0)))
 (try simp only [Act.put, List.setIfInBounds_toArray, List.set_cons_zero, List.set_cons_succ])
 go_loopg [1] k (fun kq v1 w' => ∃ (x1_1 : List (S140)) (x1001_1 : Int) (x1002_1 : Int) (x1003_1 : Int) (x1004_1 : Int), Aside0 (rr_sum.l0 kq x1_1 s0_0 x1001_1 x1002_1 x1003_1 x1004_1 = some (r1, r2, r3, r4, r5)) ∧ Aside0 (kq ≤ k) ∧ Aside0 (Kd.R k140 140 w' w0.heap.size (fun k_ => (P1_ k_ ∨ w.heap.size ≤ k_)) v1 x1_1) ∧ Aside0 (IsS83 w0 w' g s0_0 x1001_1 x1002_1 x1003_1 x1004_1) ∧ Aside0 (Kept w w' (fun k_ => (P1_ k_) ∨ k_ = g)) ∧ Aside0 (Below w0.heap.size w0 w'))
 case atStart => exact ⟨(t268), (t271), (t272), (t273), (t274), H', ⟨Nat.le_refl _⟩, ⟨by (with_reducible repeat (first | apply Kd.R_alloc | apply Kd.R_drewN | apply Kd.R_drew)); exact HO270.out⟩, ⟨zq0⟩, ⟨zq7⟩, ⟨zq2⟩⟩
 case round =>
  clear H'
  obtain ⟨x1_1, x1001_1, x1002_1, x1003_1, x1004_1, HA, HK1, HO_1, HI0, HK, HB⟩ := hrel
  cases gk with
  | zero => exact absurd HA.out (by simp [rr_sum.l0])
  | succ k1 =>
   have H := HA.out
   clear HA
   simp only [rr_sum.l0] at H
   by_cases c6 : x1003_1 = 0
   ·
    rw [if_pos c6] at H
    have c6b0 := beq_iff_eq.mpr c6
    have c6b1 := bne_eq_false_iff_eq.mpr c6
    clear c6
    replace H := Option.bind_eq_some_iff.mp H
    obtain ⟨⟨t275, t276, t277, t278, t279⟩, A70, H⟩ := H
    (try dsimp only at H)
    have A7 := za A70
    clear A70
    replace H := Option.bind_eq_some_iff.mp H
    obtain ⟨⟨t280, t281, t282, t283, t284⟩, A80, H⟩ := H
    (try dsimp only at H)
    have A8 := za A80
    clear A80
    by_cases c9 : t280 = true
    ·
     subst c9
     rw [if_pos rfl] at H
     replace H := Option.bind_eq_some_iff.mp H
     obtain ⟨⟨t285, t288, t289, t290, t291⟩, A100, H⟩ := H
     (try dsimp only at H)
     have A10 := za A100
     clear A100
     replace H := Option.bind_eq_some_iff.mp H
     obtain ⟨t292, A110, H⟩ := H
     (try dsimp only at H)
     have A11 := za A110
     clear A110
     have H' := za H
     clear H
     obtain ⟨ASz12_0, cSz12_0, HGz12, hgz12, HSz12_0⟩ := HI0.out
     have hcz12_0 := cellS83_0 HGz12
     have hcz12_1 := cellS83_1 HGz12
     have hcz12_2 := cellS83_2 HGz12
     have hcz12_3 := cellS83_3 HGz12
     have hcz12_4 := cellS83_4 HGz12
     have hfz12_1 := blk_frozen HGz12 1
     have hfz12_2 := blk_frozen HGz12 2
     have hfz12_3 := blk_frozen HGz12 3
     have hfz12_4 := blk_frozen HGz12 4
     clear HGz12 hgz12
     obtain ⟨Ao13, co13, eo13⟩ := Kd.R_slice HO_1.out
     subst eo13
     go_wp2_with (first | ((with_reducible refine gate_callee (f := 46) rfl ?_); refine goesL_ (some 19) rfl rfl Try.func46 zq13 rfl #[.pointer (some ⟨g, 0, none⟩)] rfl zq1 ?_; (with_reducible refine (rr_here.calls g s0_0 x1001_1 x1002_1 x1003_1 x1004_1 t275 t276 t277 t278 t279 w0 _ ?side1 ?side2 A7.out).mono ?_); (case side1 => exact zq0); (case side2 => exact zq2); rintro e w14 ⟨rfl, hi, hb, hk⟩; refine ⟨_, rfl, ?_⟩; replace HO_1 := za (Kd.R_mono (Kd.R_keep (IsS83.apart (show IsS83 w0 _ g s0_0 x1001_1 x1002_1 x1003_1 x1004_1 from zq0) (zr HO_1.out) (by decide)) hk (fun _ h => h.2)) (fun _ h => h.1)); replace HK := za (Kept.of_keep (S := (fun k_ => (P1_ k_) ∨ k_ = g)) zq7 hk (.inl (.inr rfl))); replace HB := za (hb); replace HI0 := za (hi); (try clear hb hk hi)) | ((with_reducible refine gate_callee (f := 48) rfl ?_); refine goesL_ (some 23) rfl rfl Try.func48 zq13 rfl #[.pointer (some ⟨g, 0, none⟩), .string (⟨#[43]⟩ : ByteArray)] rfl zq1 ?_; (with_reducible refine (rr_take.calls g s0_0 t276 t277 t278 t279 (⟨#[43]⟩ : ByteArray) true t281 t282 t283 t284 w0 _ ?side1 ?side2 A8.out).mono ?_); (case side1 => exact zq0); (case side2 => exact zq2); rintro e w15 ⟨rfl, hi, hb, hk⟩; refine ⟨_, rfl, ?_⟩; replace HO_1 := za (Kd.R_mono (Kd.R_keep (IsS83.apart (show IsS83 w0 _ g s0_0 t276 t277 t278 t279 from zq0) (zr HO_1.out) (by decide)) hk (fun _ h => h.2)) (fun _ h => h.1)); replace HK := za (Kept.of_keep (S := (fun k_ => (P1_ k_) ∨ k_ = g)) zq7 hk (.inl (.inr rfl))); replace HB := za (hb); replace HI0 := za (hi); (try clear hb hk hi)) | ((with_reducible refine gate_callee (f := 92) rfl ?_); refine goesL_ (some 26) rfl rfl Try.func92 zq13 rfl #[.pointer (some ⟨g, 0, none⟩), .slice Ao13 x1_1.length co13] rfl zq1 ?_; (with_reducible refine (rr_term.calls k1 g s0_0 t281 t282 t283 t284 (fun k_ => some k_ = (.slice Ao13 x1_1.length co13 : Value).ownBlock) (.slice Ao13 x1_1.length co13) x1_1 t285 t288 t289 t290 t291 w0 _ ?side1 ?side2 ?side3 A10.out).mono ?_); (case side1 => exact zq0); (case side2 => exact zq2); (case side3 => exact Kd.R_tight rfl HO_1.out); rintro e w16 ⟨v286, rfl, ho0, hi, hb, hkp⟩; refine ⟨_, rfl, ?_⟩; replace HI0 := za (hi); have HO287 := za (Kd.R_mono (ok' := fun k_ => (P1_ k_ ∨ w.heap.size ≤ k_)) ho0 (fun k_ hk_ => Or.elim hk_ (fun hs_ => (HO_1.out.1 k_ (hs_).symm)) (fun hn_ => (.inr (Nat.le_trans zq25 hn_))))); replace HK := za (Kept.then_ (S := (fun k_ => (P1_ k_) ∨ k_ = g)) zq7 hkp (fun k_ hs_ => Or.elim hs_ (fun hs_ => (fun e_ => Or.imp_left Or.inl ((HO_1.out.1 k_ e_.symm))) hs_) (fun e_ => .inl (.inr e_)))); replace HB := za (hb); clear HO_1; (try clear hb hkp ho0); obtain ⟨Ao17, co17, eo17⟩ := Kd.R_slice HO287.out; subst eo17) | ((with_reducible refine gate_callee (f := 83) rfl ?_); refine goesL_ (some 29) rfl rfl Try.func83 zq13 rfl #[.slice Ao17 t285.length co17, .int .i64 (wrap64 ((x1_1.length : Int) - 1)), .int .i64 5, .int .i64 t275] rfl zq1 ?_; (with_reducible refine (ra_two.calls (fun k_ => some k_ = (.slice Ao17 t285.length co17 : Value).ownBlock) (.slice Ao17 t285.length co17) t285 (wrap64 ((x1_1.length : Int) - 1)) 5 t275 t292 w0 _ ?side1 ?side2 A11.out).mono ?_); (case side1 => exact zq2); (case side2 => exact Kd.R_tight rfl HO287.out); rintro e w18 ⟨v293, rfl, ho0, hb, hkp⟩; refine ⟨_, rfl, ?_⟩; replace HI0 := za (IsS83.kept zq0 hkp (fun hs_ => (fun e_ => (IsS83.own_ne HI0.out HO287.out (by decide)) e_) hs_)); have HO294 := za (Kd.R_mono (ok' := fun k_ => (P1_ k_ ∨ w.heap.size ≤ k_)) ho0 (fun k_ hk_ => Or.elim hk_ (fun hs_ => (HO287.out.1 k_ (hs_).symm)) (fun hn_ => (.inr (Nat.le_trans zq25 hn_))))); replace HK := za (Kept.then_ (S := (fun k_ => (P1_ k_) ∨ k_ = g)) zq7 hkp (fun k_ hs_ => (fun e_ => Or.imp_left Or.inl ((HO287.out.1 k_ e_.symm))) hs_)); replace HB := za (hb); clear HO287; (try clear hb hkp ho0)))
     go_roundg k1
     case measure => have := HK1.out; omega
     case rel => exact ⟨(t292), (t288), (t289), (t290), (t291), H', ⟨by have := HK1.out; omega⟩, ⟨by (with_reducible repeat (first | apply Kd.R_alloc | apply Kd.R_drewN | apply Kd.R_drew)); exact HO294.out⟩, ⟨zq0⟩, ⟨zq7⟩, ⟨zq2⟩⟩
    ·
     replace c9 := Bool.eq_false_iff.mpr c9
     subst c9
     rw [if_neg (show ¬ (false = true) by decide)] at H
     replace H := Option.bind_eq_some_iff.mp H
     obtain ⟨⟨t295, t296, t297, t298, t299⟩, A190, H⟩ := H
     (try dsimp only at H)
     have A19 := za A190
     clear A190
     by_cases c20 : t295 = true
     ·
      subst c20
      rw [if_pos rfl] at H
      replace H := Option.bind_eq_some_iff.mp H
      obtain ⟨⟨t300, t303, t304, t305, t306⟩, A210, H⟩ := H
      (try dsimp only at H)
      have A21 := za A210
      clear A210
      replace H := Option.bind_eq_some_iff.mp H
      obtain ⟨t307, A220, H⟩ := H
      (try dsimp only at H)
      have A22 := za A220
      clear A220
      have H' := za H
      clear H
      obtain ⟨ASz23_0, cSz23_0, HGz23, hgz23, HSz23_0⟩ := HI0.out
      have hcz23_0 := cellS83_0 HGz23
      have hcz23_1 := cellS83_1 HGz23
      have hcz23_2 := cellS83_2 HGz23
      have hcz23_3 := cellS83_3 HGz23
      have hcz23_4 := cellS83_4 HGz23
      have hfz23_1 := blk_frozen HGz23 1
      have hfz23_2 := blk_frozen HGz23 2
      have hfz23_3 := blk_frozen HGz23 3
      have hfz23_4 := blk_frozen HGz23 4
      clear HGz23 hgz23
      obtain ⟨Ao24, co24, eo24⟩ := Kd.R_slice HO_1.out
      subst eo24
      go_wp2_with (first | ((with_reducible refine gate_callee (f := 46) rfl ?_); refine goesL_ (some 19) rfl rfl Try.func46 zq13 rfl #[.pointer (some ⟨g, 0, none⟩)] rfl zq1 ?_; (with_reducible refine (rr_here.calls g s0_0 x1001_1 x1002_1 x1003_1 x1004_1 t275 t276 t277 t278 t279 w0 _ ?side1 ?side2 A7.out).mono ?_); (case side1 => exact zq0); (case side2 => exact zq2); rintro e w25 ⟨rfl, hi, hb, hk⟩; refine ⟨_, rfl, ?_⟩; replace HO_1 := za (Kd.R_mono (Kd.R_keep (IsS83.apart (show IsS83 w0 _ g s0_0 x1001_1 x1002_1 x1003_1 x1004_1 from zq0) (zr HO_1.out) (by decide)) hk (fun _ h => h.2)) (fun _ h => h.1)); replace HK := za (Kept.of_keep (S := (fun k_ => (P1_ k_) ∨ k_ = g)) zq7 hk (.inl (.inr rfl))); replace HB := za (hb); replace HI0 := za (hi); (try clear hb hk hi)) | ((with_reducible refine gate_callee (f := 48) rfl ?_); refine goesL_ (some 23) rfl rfl Try.func48 zq13 rfl #[.pointer (some ⟨g, 0, none⟩), .string (⟨#[43]⟩ : ByteArray)] rfl zq1 ?_; (with_reducible refine (rr_take.calls g s0_0 t276 t277 t278 t279 (⟨#[43]⟩ : ByteArray) false t281 t282 t283 t284 w0 _ ?side1 ?side2 A8.out).mono ?_); (case side1 => exact zq0); (case side2 => exact zq2); rintro e w26 ⟨rfl, hi, hb, hk⟩; refine ⟨_, rfl, ?_⟩; replace HO_1 := za (Kd.R_mono (Kd.R_keep (IsS83.apart (show IsS83 w0 _ g s0_0 t276 t277 t278 t279 from zq0) (zr HO_1.out) (by decide)) hk (fun _ h => h.2)) (fun _ h => h.1)); replace HK := za (Kept.of_keep (S := (fun k_ => (P1_ k_) ∨ k_ = g)) zq7 hk (.inl (.inr rfl))); replace HB := za (hb); replace HI0 := za (hi); (try clear hb hk hi)) | ((with_reducible refine gate_callee (f := 48) rfl ?_); refine goesL_ (some 32) rfl rfl Try.func48 zq13 rfl #[.pointer (some ⟨g, 0, none⟩), .string (⟨#[45]⟩ : ByteArray)] rfl zq1 ?_; (with_reducible refine (rr_take.calls g s0_0 t281 t282 t283 t284 (⟨#[45]⟩ : ByteArray) true t296 t297 t298 t299 w0 _ ?side1 ?side2 A19.out).mono ?_); (case side1 => exact zq0); (case side2 => exact zq2); rintro e w27 ⟨rfl, hi, hb, hk⟩; refine ⟨_, rfl, ?_⟩; replace HO_1 := za (Kd.R_mono (Kd.R_keep (IsS83.apart (show IsS83 w0 _ g s0_0 t281 t282 t283 t284 from zq0) (zr HO_1.out) (by decide)) hk (fun _ h => h.2)) (fun _ h => h.1)); replace HK := za (Kept.of_keep (S := (fun k_ => (P1_ k_) ∨ k_ = g)) zq7 hk (.inl (.inr rfl))); replace HB := za (hb); replace HI0 := za (hi); (try clear hb hk hi)) | ((with_reducible refine gate_callee (f := 92) rfl ?_); refine goesL_ (some 35) rfl rfl Try.func92 zq13 rfl #[.pointer (some ⟨g, 0, none⟩), .slice Ao24 x1_1.length co24] rfl zq1 ?_; (with_reducible refine (rr_term.calls k1 g s0_0 t296 t297 t298 t299 (fun k_ => some k_ = (.slice Ao24 x1_1.length co24 : Value).ownBlock) (.slice Ao24 x1_1.length co24) x1_1 t300 t303 t304 t305 t306 w0 _ ?side1 ?side2 ?side3 A21.out).mono ?_); (case side1 => exact zq0); (case side2 => exact zq2); (case side3 => exact Kd.R_tight rfl HO_1.out); rintro e w28 ⟨v301, rfl, ho0, hi, hb, hkp⟩; refine ⟨_, rfl, ?_⟩; replace HI0 := za (hi); have HO302 := za (Kd.R_mono (ok' := fun k_ => (P1_ k_ ∨ w.heap.size ≤ k_)) ho0 (fun k_ hk_ => Or.elim hk_ (fun hs_ => (HO_1.out.1 k_ (hs_).symm)) (fun hn_ => (.inr (Nat.le_trans zq25 hn_))))); replace HK := za (Kept.then_ (S := (fun k_ => (P1_ k_) ∨ k_ = g)) zq7 hkp (fun k_ hs_ => Or.elim hs_ (fun hs_ => (fun e_ => Or.imp_left Or.inl ((HO_1.out.1 k_ e_.symm))) hs_) (fun e_ => .inl (.inr e_)))); replace HB := za (hb); clear HO_1; (try clear hb hkp ho0); obtain ⟨Ao29, co29, eo29⟩ := Kd.R_slice HO302.out; subst eo29) | ((with_reducible refine gate_callee (f := 83) rfl ?_); refine goesL_ (some 38) rfl rfl Try.func83 zq13 rfl #[.slice Ao29 t300.length co29, .int .i64 (wrap64 ((x1_1.length : Int) - 1)), .int .i64 6, .int .i64 t275] rfl zq1 ?_; (with_reducible refine (ra_two.calls (fun k_ => some k_ = (.slice Ao29 t300.length co29 : Value).ownBlock) (.slice Ao29 t300.length co29) t300 (wrap64 ((x1_1.length : Int) - 1)) 6 t275 t307 w0 _ ?side1 ?side2 A22.out).mono ?_); (case side1 => exact zq2); (case side2 => exact Kd.R_tight rfl HO302.out); rintro e w30 ⟨v308, rfl, ho0, hb, hkp⟩; refine ⟨_, rfl, ?_⟩; replace HI0 := za (IsS83.kept zq0 hkp (fun hs_ => (fun e_ => (IsS83.own_ne HI0.out HO302.out (by decide)) e_) hs_)); have HO309 := za (Kd.R_mono (ok' := fun k_ => (P1_ k_ ∨ w.heap.size ≤ k_)) ho0 (fun k_ hk_ => Or.elim hk_ (fun hs_ => (HO302.out.1 k_ (hs_).symm)) (fun hn_ => (.inr (Nat.le_trans zq25 hn_))))); replace HK := za (Kept.then_ (S := (fun k_ => (P1_ k_) ∨ k_ = g)) zq7 hkp (fun k_ hs_ => (fun e_ => Or.imp_left Or.inl ((HO302.out.1 k_ e_.symm))) hs_)); replace HB := za (hb); clear HO302; (try clear hb hkp ho0)))
      go_roundg k1
      case measure => have := HK1.out; omega
      case rel => exact ⟨(t307), (t303), (t304), (t305), (t306), H', ⟨by have := HK1.out; omega⟩, ⟨by (with_reducible repeat (first | apply Kd.R_alloc | apply Kd.R_drewN | apply Kd.R_drew)); exact HO309.out⟩, ⟨zq0⟩, ⟨zq7⟩, ⟨zq2⟩⟩
     ·
      replace c20 := Bool.eq_false_iff.mpr c20
      subst c20
      rw [if_neg (show ¬ (false = true) by decide)] at H
      simp only [Option.some.injEq, Prod.mk.injEq] at H
      obtain ⟨rfl, rfl, rfl, rfl, rfl⟩ := H
      obtain ⟨ASz31_0, cSz31_0, HGz31, hgz31, HSz31_0⟩ := HI0.out
      have hcz31_0 := cellS83_0 HGz31
      have hcz31_1 := cellS83_1 HGz31
      have hcz31_2 := cellS83_2 HGz31
      have hcz31_3 := cellS83_3 HGz31
      have hcz31_4 := cellS83_4 HGz31
      have hfz31_1 := blk_frozen HGz31 1
      have hfz31_2 := blk_frozen HGz31 2
      have hfz31_3 := blk_frozen HGz31 3
      have hfz31_4 := blk_frozen HGz31 4
      clear HGz31 hgz31
      obtain ⟨Ao32, co32, eo32⟩ := Kd.R_slice HO_1.out
      subst eo32
      go_wp2_with (first | ((with_reducible refine gate_callee (f := 46) rfl ?_); refine goesL_ (some 19) rfl rfl Try.func46 zq13 rfl #[.pointer (some ⟨g, 0, none⟩)] rfl zq1 ?_; (with_reducible refine (rr_here.calls g s0_0 x1001_1 x1002_1 x1003_1 x1004_1 t275 t276 t277 t278 t279 w0 _ ?side1 ?side2 A7.out).mono ?_); (case side1 => exact zq0); (case side2 => exact zq2); rintro e w33 ⟨rfl, hi, hb, hk⟩; refine ⟨_, rfl, ?_⟩; replace HO_1 := za (Kd.R_mono (Kd.R_keep (IsS83.apart (show IsS83 w0 _ g s0_0 x1001_1 x1002_1 x1003_1 x1004_1 from zq0) (zr HO_1.out) (by decide)) hk (fun _ h => h.2)) (fun _ h => h.1)); replace HK := za (Kept.of_keep (S := (fun k_ => (P1_ k_) ∨ k_ = g)) zq7 hk (.inl (.inr rfl))); replace HB := za (hb); replace HI0 := za (hi); (try clear hb hk hi)) | ((with_reducible refine gate_callee (f := 48) rfl ?_); refine goesL_ (some 23) rfl rfl Try.func48 zq13 rfl #[.pointer (some ⟨g, 0, none⟩), .string (⟨#[43]⟩ : ByteArray)] rfl zq1 ?_; (with_reducible refine (rr_take.calls g s0_0 t276 t277 t278 t279 (⟨#[43]⟩ : ByteArray) false t281 t282 t283 t284 w0 _ ?side1 ?side2 A8.out).mono ?_); (case side1 => exact zq0); (case side2 => exact zq2); rintro e w34 ⟨rfl, hi, hb, hk⟩; refine ⟨_, rfl, ?_⟩; replace HO_1 := za (Kd.R_mono (Kd.R_keep (IsS83.apart (show IsS83 w0 _ g s0_0 t276 t277 t278 t279 from zq0) (zr HO_1.out) (by decide)) hk (fun _ h => h.2)) (fun _ h => h.1)); replace HK := za (Kept.of_keep (S := (fun k_ => (P1_ k_) ∨ k_ = g)) zq7 hk (.inl (.inr rfl))); replace HB := za (hb); replace HI0 := za (hi); (try clear hb hk hi)) | ((with_reducible refine gate_callee (f := 48) rfl ?_); refine goesL_ (some 32) rfl rfl Try.func48 zq13 rfl #[.pointer (some ⟨g, 0, none⟩), .string (⟨#[45]⟩ : ByteArray)] rfl zq1 ?_; (with_reducible refine (rr_take.calls g s0_0 t281 t282 t283 t284 (⟨#[45]⟩ : ByteArray) false t296 t297 t298 t299 w0 _ ?side1 ?side2 A19.out).mono ?_); (case side1 => exact zq0); (case side2 => exact zq2); rintro e w35 ⟨rfl, hi, hb, hk⟩; refine ⟨_, rfl, ?_⟩; replace HO_1 := za (Kd.R_mono (Kd.R_keep (IsS83.apart (show IsS83 w0 _ g s0_0 t281 t282 t283 t284 from zq0) (zr HO_1.out) (by decide)) hk (fun _ h => h.2)) (fun _ h => h.1)); replace HK := za (Kept.of_keep (S := (fun k_ => (P1_ k_) ∨ k_ = g)) zq7 hk (.inl (.inr rfl))); replace HB := za (hb); replace HI0 := za (hi); (try clear hb hk hi)))
      go_ret
      exact ⟨_, zq19, zq73, zq0, zq2, zq7⟩
   ·
    rw [if_neg c6] at H
    exact absurd H (by simp)
def rr_expr.l0 : Nat → List (S140) → List ByteArray → Int → List (S110) → Int → Int → Int → Int → Option ((List (S140)) × Int × Int × Int × Int)
 | 0, _, _, _, _, _, _, _, _ => none
 | k + 1, x1, x5, x6, x1000, x1001, x1002, x1003, x1004 => if x6 < (x5.length : Int) then ((rr_here.f x1000 x1001 x1002 x1003 x1004).bind fun bt320 => (if 0 ≤ x6 then ((rr_take.f x1000 bt320.2.1 bt320.2.2.1 bt320.2.2.2.1 bt320.2.2.2.2 (rdOf ByteArray.empty x5 x6)).bind fun bt326 => (if bt326.1 = true then (none) else (rr_expr.l0 k x1 x5 (wrap64 (x6 + 1)) x1000 bt326.2.1 bt326.2.2.1 bt326.2.2.2.1 bt326.2.2.2.2))) else (none))) else (some (x1, x1001, x1002, x1003, x1004))
def rr_expr.f (k : Nat) (s0_0 : List (S110)) (s0_1 : Int) (s0_2 : Int) (s0_3 : Int) (s0_4 : Int) (l1 : List (S140)) : Option ((List (S140)) × Int × Int × Int × Int) := (rr_sum.f k s0_0 s0_1 s0_2 s0_3 s0_4 l1).bind fun bt310 => (rr_expr.l0 k bt310.1 (([(⟨#[61, 61]⟩ : ByteArray), (⟨#[60]⟩ : ByteArray), (⟨#[60, 61]⟩ : ByteArray)] : List ByteArray)) 0 s0_0 bt310.2.1 bt310.2.2.1 bt310.2.2.2.1 bt310.2.2.2.2)
theorem rr_expr.mono_l : ∀ k, (∀ y0 y1 y2 y3 y4 y5 y6 y7, LeO (rr_expr.l0 k y0 y1 y2 y3 y4 y5 y6 y7) (rr_expr.l0 (k + 1) y0 y1 y2 y3 y4 y5 y6 y7))
 | 0 => fun _ _ _ _ _ _ _ _ r h => by simp [rr_expr.l0] at h
 | k + 1 => by
  have ih0 := rr_expr.mono_l k
  ·
   intro y0 y1 y2 y3 y4 y5 y6 y7
   unfold rr_expr.l0
   repeat' with_reducible first | apply ih0 | apply rr_sum.mono | exact LeO.refl _ | exact LeO.none _ | refine LeO.ite ?_ ?_ | refine LeO.bind ?_ (fun _ => ?_)
theorem rr_expr.mono : ∀ a0 a1 a2 a3 a4 a5 k, LeO (rr_expr.f k a0 a1 a2 a3 a4 a5) (rr_expr.f (k + 1) a0 a1 a2 a3 a4 a5) := by
 intro a0 a1 a2 a3 a4 a5 k
 have ih0 := rr_expr.mono_l k
 unfold rr_expr.f
 repeat' with_reducible first | apply ih0 | apply rr_sum.mono | exact LeO.refl _ | exact LeO.none _ | refine LeO.ite ?_ ?_ | refine LeO.bind ?_ (fun _ => ?_)
set_option maxHeartbeats 8000000 in
set_option maxRecDepth 100000 in
theorem rr_expr.calls (k : Nat) (g : Nat) (s0_0 : List (S110)) (s0_1 : Int) (s0_2 : Int) (s0_3 : Int) (s0_4 : Int) (P1_ : Nat → Prop) (u9000_ : Value) (l1 : List (S140)) (r1 : List (S140)) (r2 : Int) (r3 : Int) (r4 : Int) (r5 : Int) (w0 w : World) (hI : IsS83 w0 w g s0_0 s0_1 s0_2 s0_3 s0_4) (hB : Below w0.heap.size w0 w) (ho1 : Kd.R k140 140 w w0.heap.size P1_ u9000_ l1) (h : rr_expr.f k s0_0 s0_1 s0_2 s0_3 s0_4 l1 = some (r1, r2, r3, r4, r5)) :
  Calls Try.prog 73 #[.pointer (some ⟨g, 0, none⟩), u9000_] w fun e w' => ∃ v0_ : Value, e = .returned (v0_) ∧ Kd.R k140 140 w' w0.heap.size (fun k_ => (P1_ k_ ∨ w.heap.size ≤ k_)) v0_ r1 ∧ IsS83 w0 w' g s0_0 r2 r3 r4 r5 ∧ Below w0.heap.size w0 w' ∧ Kept w w' (fun k_ => (P1_ k_) ∨ k_ = g) := by
 have HO1 := za (show Kd.R k140 140 w w0.heap.size (fun k_ => (P1_ k_ ∨ w.heap.size ≤ k_)) u9000_ l1 from Kd.R_mono ho1 (fun k_ hk => (.inl hk)))
 have HI0 := za hI
 have HL := za hB.size
 clear hI
 have HK := za (Kept.refl w (fun k_ => (P1_ k_) ∨ k_ = g))
 have HW0 := za hB.size
 have HB := za hB
 clear hB
 have H : ((rr_sum.f k s0_0 s0_1 s0_2 s0_3 s0_4 l1).bind fun bt310 => (rr_expr.l0 k bt310.1 (([(⟨#[61, 61]⟩ : ByteArray), (⟨#[60]⟩ : ByteArray), (⟨#[60, 61]⟩ : ByteArray)] : List ByteArray)) 0 s0_0 bt310.2.1 bt310.2.2.1 bt310.2.2.2.1 bt310.2.2.2.2)) = some (r1, r2, r3, r4, r5) := h
 clear h
 replace H := Option.bind_eq_some_iff.mp H
 obtain ⟨⟨t310, t313, t314, t315, t316⟩, A30, H⟩ := H
 (try dsimp only at H)
 have A3 := za A30
 clear A30
 obtain ⟨y317, hy317⟩ : ∃ y_ : List ByteArray, y_ = (([(⟨#[61, 61]⟩ : ByteArray), (⟨#[60]⟩ : ByteArray), (⟨#[60, 61]⟩ : ByteArray)] : List ByteArray)) := ⟨_, rfl⟩
 replace H : (rr_expr.l0 k t310 y317 0 s0_0 t313 t314 t315 t316) = some (r1, r2, r3, r4, r5) := by first | (rw [hy317]; with_reducible exact H) | (have H2_ := (Option.bind_some _ _).symm.trans H; rw [hy317]; with_reducible exact H2_) | (have H2_ := (Option.bind_some _ _).symm.trans H; with_reducible exact H2_) | with_reducible exact H | (rw [hy317]; exact H) | exact H
 have Ny317 := za hy317
 clear hy317
 have H' := za H
 clear H
 obtain ⟨Ao4, co4, eo4⟩ := Kd.R_slice HO1.out
 subst eo4
 go_enter Try.func73, Try.ntmps73
 go_wp2_with (first | ((with_reducible refine gate_callee (f := 82) rfl ?_); refine goesL_ (some 11) rfl rfl Try.func82 zq13 rfl #[.pointer (some ⟨g, 0, none⟩), .slice Ao4 l1.length co4] rfl zq1 ?_; (with_reducible refine (rr_sum.calls k g s0_0 s0_1 s0_2 s0_3 s0_4 (fun k_ => some k_ = (.slice Ao4 l1.length co4 : Value).ownBlock) (.slice Ao4 l1.length co4) l1 t310 t313 t314 t315 t316 w0 _ ?side1 ?side2 ?side3 A3.out).mono ?_); (case side1 => exact zq0); (case side2 => exact zq2); (case side3 => exact Kd.R_tight rfl HO1.out); rintro e w5 ⟨v311, rfl, ho0, hi, hb, hkp⟩; refine ⟨_, rfl, ?_⟩; replace HI0 := za (hi); have HO312 := za (Kd.R_mono (ok' := fun k_ => (P1_ k_ ∨ w.heap.size ≤ k_)) ho0 (fun k_ hk_ => Or.elim hk_ (fun hs_ => (HO1.out.1 k_ (hs_).symm)) (fun hn_ => (.inr (Nat.le_trans zq25 hn_))))); replace HK := za (Kept.then_ (S := (fun k_ => (P1_ k_) ∨ k_ = g)) zq7 hkp (fun k_ hs_ => Or.elim hs_ (fun hs_ => (fun e_ => Or.imp_left Or.inl ((HO1.out.1 k_ e_.symm))) hs_) (fun e_ => .inl (.inr e_)))); replace HB := za (hb); clear HO1; (try clear hb hkp ho0)) | ((with_reducible refine gate_dst (N := 12) rfl ?_); refine Kd.R_lit Kd.string _ 9 ?hg (N := 12) ?hd (xs := ([(⟨#[61, 61]⟩ : ByteArray), (⟨#[60]⟩ : ByteArray), (⟨#[60, 61]⟩ : ByteArray)] : List ByteArray)) (inner := [.string (⟨#[61, 61]⟩ : ByteArray), .string (⟨#[60]⟩ : ByteArray), .string (⟨#[60, 61]⟩ : ByteArray)]) (ok := fun _ => True) (okp := fun _ => True) ?hr ?hp (fun _ hk => hk) trivial (Below.refl _ _) (Nat.le_refl _) (by simp) ?_; (case hd => rfl); (case hg => rfl); (case hr => exact zq21); (case hp => exact (Reps.one (show Kd.M Kd.string _ _ _ (⟨#[61, 61]⟩ : ByteArray) [.string (⟨#[61, 61]⟩ : ByteArray)] from rfl) (Reps.one (show Kd.M Kd.string _ _ _ (⟨#[60]⟩ : ByteArray) [.string (⟨#[60]⟩ : ByteArray)] from rfl) (Reps.one (show Kd.M Kd.string _ _ _ (⟨#[60, 61]⟩ : ByteArray) [.string (⟨#[60, 61]⟩ : ByteArray)] from rfl) (Reps.none _ _))))); intro v318 w6 ho7 hb hg_ hnew_; clear hg_ hnew_; (first | rw [← Ny317.out] at ho7 | (simp only [Int.reduceToNat] at ho7; rw [← Ny317.out] at ho7)); replace HO312 := za (Kd.R_below (zr HO312.out) hb); have HO319 := za (Kd.R_lower (Kd.R_newM (M := fun k_ => (P1_ k_ ∨ w.heap.size ≤ k_)) ho7 zq25 (fun k_ h_ => .inr h_)) (below_size zq2)); replace HK := za (Kept.below (S := (fun k_ => (P1_ k_) ∨ k_ = g)) zq7 hb); replace HB := za (below_step zq2 hb); replace HI0 := za (IsS83.below zq0 hb); clear hb ho7))
 go_loopg [6] k (fun kq v6 w' => ∃ (x6_1 : Int) (x1001_1 : Int) (x1002_1 : Int) (x1003_1 : Int) (x1004_1 : Int), v6 = .int .i64 x6_1 ∧ Aside0 (rr_expr.l0 kq t310 y317 x6_1 s0_0 x1001_1 x1002_1 x1003_1 x1004_1 = some (r1, r2, r3, r4, r5)) ∧ Aside0 (kq ≤ k) ∧ Aside0 (Kd.R k140 140 w' w0.heap.size (fun k_ => (P1_ k_ ∨ w.heap.size ≤ k_)) v311 t310) ∧ Aside0 (Kd.R Kd.string 9 w' w0.heap.size (fun k_ => (P1_ k_ ∨ w.heap.size ≤ k_)) v318 y317) ∧ Aside0 (IsS83 w0 w' g s0_0 x1001_1 x1002_1 x1003_1 x1004_1) ∧ Aside0 (Kept w w' (fun k_ => (P1_ k_) ∨ k_ = g)) ∧ Aside0 (Below w0.heap.size w0 w'))
 case atStart => exact ⟨(0), (t313), (t314), (t315), (t316), zq26, H', ⟨Nat.le_refl _⟩, ⟨by (with_reducible repeat (first | apply Kd.R_alloc | apply Kd.R_drewN | apply Kd.R_drew)); exact HO312.out⟩, ⟨by (with_reducible repeat (first | apply Kd.R_alloc | apply Kd.R_drewN | apply Kd.R_drew)); exact Kd.R_mono HO319.out (fun _ hk => hk.1)⟩, ⟨zq0⟩, ⟨zq7⟩, ⟨zq2⟩⟩
 case round =>
  clear H'
  obtain ⟨x6_1, x1001_1, x1002_1, x1003_1, x1004_1, rfl, HA, HK1, HO_1, HO_5, HI0, HK, HB⟩ := hrel
  cases gk with
  | zero => exact absurd HA.out (by simp [rr_expr.l0])
  | succ k1 =>
   have H := HA.out
   clear HA
   simp only [rr_expr.l0] at H
   by_cases c8 : x6_1 < (y317.length : Int)
   ·
    rw [if_pos c8] at H
    have c8b0 := decide_eq_true c8
    clear c8
    replace H := Option.bind_eq_some_iff.mp H
    obtain ⟨⟨t320, t321, t322, t323, t324⟩, A90, H⟩ := H
    (try dsimp only at H)
    have A9 := za A90
    clear A90
    by_cases c10 : 0 ≤ x6_1
    ·
     rw [if_pos c10] at H
     have c10b0 := decide_eq_true c10
     clear c10
     replace H := Option.bind_eq_some_iff.mp H
     obtain ⟨⟨t326, t327, t328, t329, t330⟩, A110, H⟩ := H
     (try dsimp only at H)
     have A11 := za A110
     clear A110
     by_cases c12 : t326 = true
     ·
      subst c12
      rw [if_pos rfl] at H
      exact absurd H (by simp)
     ·
      replace c12 := Bool.eq_false_iff.mpr c12
      subst c12
      rw [if_neg (show ¬ (false = true) by decide)] at H
      have H' := za H
      clear H
      obtain ⟨Ao13, co13, eo13⟩ := Kd.R_slice HO_5.out
      subst eo13
      obtain ⟨Ao14, co14, eo14⟩ := Kd.R_slice HO_1.out
      subst eo14
      go_wp2_with (first | ((with_reducible refine gate_callee (f := 46) rfl ?_); refine goesL_ (some 23) rfl rfl Try.func46 zq13 rfl #[.pointer (some ⟨g, 0, none⟩)] rfl zq1 ?_; (with_reducible refine (rr_here.calls g s0_0 x1001_1 x1002_1 x1003_1 x1004_1 t320 t321 t322 t323 t324 w0 _ ?side1 ?side2 A9.out).mono ?_); (case side1 => exact zq0); (case side2 => exact zq2); rintro e w15 ⟨rfl, hi, hb, hk⟩; refine ⟨_, rfl, ?_⟩; replace HO_1 := za (Kd.R_mono (Kd.R_keep (IsS83.apart (show IsS83 w0 _ g s0_0 x1001_1 x1002_1 x1003_1 x1004_1 from zq0) (zr HO_1.out) (by decide)) hk (fun _ h => h.2)) (fun _ h => h.1)); replace HO_5 := za (Kd.R_mono (Kd.R_keep (IsS83.apart (show IsS83 w0 _ g s0_0 x1001_1 x1002_1 x1003_1 x1004_1 from zq0) (zr HO_5.out) (by decide)) hk (fun _ h => h.2)) (fun _ h => h.1)); replace HK := za (Kept.of_keep (S := (fun k_ => (P1_ k_) ∨ k_ = g)) zq7 hk (.inl (.inr rfl))); replace HB := za (hb); replace HI0 := za (hi); (try clear hb hk hi); have p325 : 0 ≤ (x6_1 : Int) := of_decide_eq_true zq9; have q325 : x6_1 < (y317.length : Int) := of_decide_eq_true zq9; obtain ⟨ad325, e325, hx325_0⟩ := Kd.at_string (Kd.R_reads' HO_5.out).2.2 x6_1 p325 q325; cases e325; replace p325 := eq_true p325; replace q325 := eq_true q325) | ((with_reducible refine gate_callee (f := 48) rfl ?_); refine goesL_ (some 29) rfl rfl Try.func48 zq13 rfl #[.pointer (some ⟨g, 0, none⟩), .string (rdOf ByteArray.empty y317 x6_1)] rfl zq1 ?_; (with_reducible refine (rr_take.calls g s0_0 t321 t322 t323 t324 (rdOf ByteArray.empty y317 x6_1) false t327 t328 t329 t330 w0 _ ?side1 ?side2 A11.out).mono ?_); (case side1 => exact zq0); (case side2 => exact zq2); rintro e w16 ⟨rfl, hi, hb, hk⟩; refine ⟨_, rfl, ?_⟩; replace HO_1 := za (Kd.R_mono (Kd.R_keep (IsS83.apart (show IsS83 w0 _ g s0_0 t321 t322 t323 t324 from zq0) (zr HO_1.out) (by decide)) hk (fun _ h => h.2)) (fun _ h => h.1)); replace HO_5 := za (Kd.R_mono (Kd.R_keep (IsS83.apart (show IsS83 w0 _ g s0_0 t321 t322 t323 t324 from zq0) (zr HO_5.out) (by decide)) hk (fun _ h => h.2)) (fun _ h => h.1)); replace HK := za (Kept.of_keep (S := (fun k_ => (P1_ k_) ∨ k_ = g)) zq7 hk (.inl (.inr rfl))); replace HB := za (hb); replace HI0 := za (hi); (try clear hb hk hi)))
      go_roundg k1
      case measure => have := HK1.out; omega
      case rel => exact ⟨(wrap64 (x6_1 + 1)), (t327), (t328), (t329), (t330), zq26, H', ⟨by have := HK1.out; omega⟩, ⟨zq73⟩, ⟨zq34⟩, ⟨zq0⟩, ⟨zq7⟩, ⟨zq2⟩⟩
    ·
     rw [if_neg c10] at H
     exact absurd H (by simp)
   ·
    rw [if_neg c8] at H
    have c8b0 := decide_eq_false c8
    clear c8
    simp only [Option.some.injEq, Prod.mk.injEq] at H
    obtain ⟨rfl, rfl, rfl, rfl, rfl⟩ := H
    obtain ⟨Ao17, co17, eo17⟩ := Kd.R_slice HO_5.out
    subst eo17
    go_wp2
    go_ret
    exact ⟨_, zq19, zq73, zq0, zq2, zq7⟩
end Go.Proofs.Ytcjnhnnfoadklaa.QRunCalls
