import Derived.Test.YtkhalpeiifdfiaaZETx21
namespace Go.Proofs.Ytkhalpeiifdfiaa.QEvalTexts
open Go.RowKit Go.Proofs.YtkhalpeiifdfiaaW.PrintWords Go.Proofs.YtkhalpeiifdfiaaW.PrintLast Go.Proofs.YtkhalpeiifdfiaaW.PrintMore
set_option maxHeartbeats 8000000
set_option maxRecDepth 100000
attribute [local go_sem] max2_int min2_int max_two min_two max_three min_three max_four min_four
set_option linter.unusedVariables false
set_option linter.unusedSimpArgs false
mutual
def rl_EvalTexts.j0 : Nat → ByteArray → List (S32) → List (S32) → List (S73) → Bool → Option (Bool)
 | 0, _, _, _, _, _ => none
 | k + 1, x1, x2, x3, x9, x23 => if x23 = true then ((rl_awake.f).bind fun t1035 => (some t1035)) else (rl_EvalTexts.l0 k x1 x2 x3 x9 (-1))
def rl_EvalTexts.l0 : Nat → ByteArray → List (S32) → List (S32) → List (S73) → Int → Option (Bool)
 | 0, _, _, _, _, _ => none
 | k + 1, x1, x2, x3, x9, x11 => if x11 ≤ (x9.length : Int) then ((eval_Value.f k x9 x11 x1 x2 x3).bind fun t1037 => ((rb_Value.f k x9 x11 x1 x2 x3).bind fun t1038 => (if t1037 = t1038 then (rl_EvalTexts.l0 k x1 x2 x3 x9 (wrap64 (x11 + 1))) else (some false)))) else ((rl_awake.f).bind fun t1036 => (some t1036))
end
def rl_EvalTexts.f (k : Nat) (a0 : ByteArray) (a1 : ByteArray) (l2 : List (S32)) (l3 : List (S32)) : Option (Bool) := (rl_Expr.f k a0).bind fun bt1030 => (if bt1030.2 = true then ((rl_great.f l2 l3).bind fun t1034 => (rl_EvalTexts.j0 k a1 l2 l3 bt1030.1 t1034)) else (rl_EvalTexts.j0 k a1 l2 l3 bt1030.1 true))
theorem rl_EvalTexts.mono_l : ∀ k, (∀ y0 y1 y2 y3 y4, LeO (rl_EvalTexts.j0 k y0 y1 y2 y3 y4) (rl_EvalTexts.j0 (k + 1) y0 y1 y2 y3 y4)) ∧ (∀ y0 y1 y2 y3 y4, LeO (rl_EvalTexts.l0 k y0 y1 y2 y3 y4) (rl_EvalTexts.l0 (k + 1) y0 y1 y2 y3 y4))
 | 0 => ⟨fun _ _ _ _ _ r h => by simp [rl_EvalTexts.j0] at h, fun _ _ _ _ _ r h => by simp [rl_EvalTexts.l0] at h⟩
 | k + 1 => by
  obtain ⟨ih0, ih1⟩ := rl_EvalTexts.mono_l k
  refine ⟨?_, ?_⟩
  ·
   intro y0 y1 y2 y3 y4
   unfold rl_EvalTexts.j0
   repeat' with_reducible first | apply ih0 | apply ih1 | apply rl_Expr.mono | apply rb_Value.mono | apply eval_Value.mono | exact LeO.refl _ | exact LeO.none _ | refine LeO.ite ?_ ?_ | refine LeO.bind ?_ (fun _ => ?_)
  ·
   intro y0 y1 y2 y3 y4
   unfold rl_EvalTexts.l0
   repeat' with_reducible first | apply ih0 | apply ih1 | apply rl_Expr.mono | apply rb_Value.mono | apply eval_Value.mono | exact LeO.refl _ | exact LeO.none _ | refine LeO.ite ?_ ?_ | refine LeO.bind ?_ (fun _ => ?_)
theorem rl_EvalTexts.mono : ∀ a0 a1 a2 a3 k, LeO (rl_EvalTexts.f k a0 a1 a2 a3) (rl_EvalTexts.f (k + 1) a0 a1 a2 a3) := by
 intro a0 a1 a2 a3 k
 obtain ⟨ih0, ih1⟩ := rl_EvalTexts.mono_l k
 unfold rl_EvalTexts.f
 repeat' with_reducible first | apply ih0 | apply ih1 | apply rl_Expr.mono | apply rb_Value.mono | apply eval_Value.mono | exact LeO.refl _ | exact LeO.none _ | refine LeO.ite ?_ ?_ | refine LeO.bind ?_ (fun _ => ?_)
theorem rl_EvalTexts.calls (k : Nat) (a0 : ByteArray) (a1 : ByteArray) (A2 : Option Addr) (c2 : Nat) (l2 : List (S32)) (A3 : Option Addr) (c3 : Nat) (l3 : List (S32)) (r : Bool) (w : World) (HLT_ : Aside0 (r = true)) (hr2 : Kd.C k32 w A2 l2.length l2) (hc2 : l2.length ≤ c2) (hr3 : Kd.C k32 w A3 l3.length l3) (hc3 : l3.length ≤ c3) (h : rl_EvalTexts.f k a0 a1 l2 l3 = some r) :
  Calls Try.prog 3 #[.string a0, .string a1, .slice A2 l2.length c2, .slice A3 l3.length c3] w fun e w' => e = .returned (.bool r) ∧ Below w.heap.size w w' := by
 have HR2 := za hr2
 have HC2 := za hc2
 clear hr2 hc2
 have HR3 := za hr3
 have HC3 := za hc3
 clear hr3 hc3
 have HB := za (Below.refl w.heap.size w)
 have H : ((rl_Expr.f k a0).bind fun bt1030 => (if bt1030.2 = true then ((rl_great.f l2 l3).bind fun t1034 => (rl_EvalTexts.j0 k a1 l2 l3 bt1030.1 t1034)) else (rl_EvalTexts.j0 k a1 l2 l3 bt1030.1 true))) = some r := h
 clear h
 replace H := Option.bind_eq_some_iff.mp H
 obtain ⟨⟨t1030, t1031⟩, A50, H⟩ := H
 (try dsimp only at H)
 have A5 := za A50
 clear A50
 have HC6 := za H
 clear H
 go_enter Try.func3, Try.ntmps3
 go_upto_region 2 with (first | ((with_reducible refine gate_callee (f := 11) rfl ?_); refine goesL_ (some 14) rfl rfl Try.func11 zq17 rfl #[.string a0] rfl zq1 ?_; (with_reducible refine (rl_Expr.calls k a0 t1030 t1031 _ A5.out).mono ?_); rintro e w7 ⟨v1032, rfl, ho0, hb⟩; refine ⟨_, rfl, ?_⟩; have HO1033 := za (Kd.R_lower ho0 (below_size zq4)); replace HB := za (below_step zq4 hb)))
 (try simp only [Act.put, List.setIfInBounds_toArray, List.set_cons_zero, List.set_cons_succ])
 go_cut [23] (fun v23 wc => ∃ (kq : Nat) (x23_5 : Bool), v23 = .bool x23_5 ∧ Aside0 (rl_EvalTexts.j0 kq a1 l2 l3 t1030 x23_5 = some r) ∧ Aside0 (kq ≤ k) ∧ Aside0 (Kd.R k73 73 wc w.heap.size (fun _ => True) v1032 t1030) ∧ Aside0 (Below w.heap.size w wc))
 case first =>
  have H := HC6.out
  clear HC6
  by_cases c8 : t1031 = true
  ·
   subst c8
   rw [if_pos rfl] at H
   replace H := Option.bind_eq_some_iff.mp H
   obtain ⟨t1034, A90, H⟩ := H
   (try dsimp only at H)
   have A9 := za A90
   clear A90
   have H' := za H
   clear H
   go_wp2_with (first | ((with_reducible refine gate_callee (f := 12) rfl ?_); (with_reducible refine gate_dst (N := 22) rfl ?_); (refine gate_guard (by rfl) ?_; dsimp only); refine goesL_ (some 22) rfl rfl Try.func12 zq17 rfl #[.slice A2 l2.length c2, .slice A3 l3.length c3] rfl zq1 ?_; (with_reducible refine (rl_great.calls _ _ l2 _ _ l3 t1034 _ ?side1 ?side2 ?side3 ?side4 A9.out).mono ?_); (case side1 => exact zq79); (case side2 => exact HC2.out); (case side3 => exact zq71); (case side4 => exact HC3.out); rintro e w' ⟨rfl, ⟨nd, rfl⟩⟩; refine ⟨_, rfl, ?_⟩))
   go_meet
   case rel => exact ⟨_, (t1034), zq23, H', ⟨zq78⟩, ⟨by (with_reducible repeat (first | apply Kd.R_alloc | apply Kd.R_drewN | apply Kd.R_drew)); exact HO1033.out⟩, ⟨zq4⟩⟩
  ·
   replace c8 := Bool.eq_false_iff.mpr c8
   subst c8
   rw [if_neg (show ¬ (false = true) by decide)] at H
   have H' := za H
   clear H
   go_wp2
   go_meet
   case rel => exact ⟨_, (true), zq23, H', ⟨zq78⟩, ⟨by (with_reducible repeat (first | apply Kd.R_alloc | apply Kd.R_drewN | apply Kd.R_drew)); exact HO1033.out⟩, ⟨zq4⟩⟩
 case rest =>
  clear HC6
  obtain ⟨kq, x23_5, rfl, HA, HJ5, HO_9, HB⟩ := hcut
  cases kq with
  | zero => exact absurd HA.out (by simp [rl_EvalTexts.j0])
  | succ kj5 =>
   have H := HA.out
   clear HA
   simp only [rl_EvalTexts.j0] at H
   by_cases c10 : x23_5 = true
   ·
    subst c10
    rw [if_pos rfl] at H
    replace H := Option.bind_eq_some_iff.mp H
    obtain ⟨t1035, A110, H⟩ := H
    (try dsimp only at H)
    have A11 := za A110
    clear A110
    obtain rfl := Option.some.inj H
    go_wp2_with (first | ((with_reducible refine gate_callee (f := 13) rfl ?_); refine goesL_ (some 24) rfl rfl Try.func13 zq17 rfl #[] rfl zq1 ?_; (with_reducible refine (rl_awake.calls  t1035 _ A11.out).mono ?_); rintro e w' ⟨rfl, ⟨nd, rfl⟩⟩; refine ⟨_, rfl, ?_⟩))
    go_ret
    exact ⟨zq16, zq4⟩
   ·
    replace c10 := Bool.eq_false_iff.mpr c10
    subst c10
    rw [if_neg (show ¬ (false = true) by decide)] at H
    have H' := za H
    clear H
    go_wp2
    go_loopg [11] kj5 (fun kq v11 w' => ∃ (x11_2 : Int), v11 = .int .i64 x11_2 ∧ Aside0 (rl_EvalTexts.l0 kq a1 l2 l3 t1030 x11_2 = some r) ∧ Aside0 (kq ≤ kj5) ∧ Aside0 (Kd.R k73 73 w' w.heap.size (fun _ => True) v1032 t1030) ∧ Aside0 (Below w.heap.size w w'))
    case atStart => exact ⟨((-1)), zq23, H', ⟨Nat.le_refl _⟩, ⟨by (with_reducible repeat (first | apply Kd.R_alloc | apply Kd.R_drewN | apply Kd.R_drew)); exact HO_9.out⟩, ⟨zq4⟩⟩
    case round =>
     clear H'
     obtain ⟨x11_2, rfl, HA, HK2, HO_9, HB⟩ := hrel
     cases gk with
     | zero => exact absurd HA.out (by simp [rl_EvalTexts.l0])
     | succ k2 =>
      have H := HA.out
      clear HA
      simp only [rl_EvalTexts.l0] at H
      by_cases c12 : x11_2 ≤ (t1030.length : Int)
      ·
       rw [if_pos c12] at H
       have c12b0 := decide_eq_true c12
       clear c12
       replace H := Option.bind_eq_some_iff.mp H
       obtain ⟨t1037, A130, H⟩ := H
       (try dsimp only at H)
       have A13 := za A130
       clear A130
       replace H := Option.bind_eq_some_iff.mp H
       obtain ⟨t1038, A140, H⟩ := H
       (try dsimp only at H)
       have A14 := za A140
       clear A140
       by_cases c15 : t1037 = t1038
       ·
        rw [if_pos c15] at H
        have c15b0 := beq_iff_eq.mpr c15
        have c15b1 := bne_eq_false_iff_eq.mpr c15
        clear c15
        have H' := za H
        clear H
        obtain ⟨Ao16, co16, eo16⟩ := Kd.R_slice HO_9.out
        subst eo16
        go_wp2_with (first | ((with_reducible refine gate_callee (f := 14) rfl ?_); refine goesL_ (some 36) rfl rfl Try.func14 zq17 rfl #[.slice Ao16 t1030.length co16, .int .i64 x11_2, .string a1, .slice A2 l2.length c2, .slice A3 l3.length c3] rfl zq1 ?_; (with_reducible refine (eval_Value.calls k2 _ _ t1030 x11_2 a1 _ _ l2 _ _ l3 t1037 _ ?side1 ?side2 ?side3 ?side4 ?side5 ?side6 A13.out).mono ?_); (case side1 => exact zq90); (case side2 => exact (Kd.R_reads' HO_9.out).2.1); (case side3 => exact zq79); (case side4 => exact HC2.out); (case side5 => exact zq71); (case side6 => exact HC3.out); rintro e w17 ⟨rfl, hb⟩; refine ⟨_, rfl, ?_⟩; replace HO_9 := za (Kd.R_below (zr HO_9.out) hb); replace HB := za (below_step zq4 hb)) | ((with_reducible refine gate_callee (f := 15) rfl ?_); refine goesL_ (some 42) rfl rfl Try.func15 zq17 rfl #[.slice Ao16 t1030.length co16, .int .i64 x11_2, .string a1, .slice A2 l2.length c2, .slice A3 l3.length c3] rfl zq1 ?_; (with_reducible refine (rb_Value.calls k2 _ _ t1030 x11_2 a1 _ _ l2 _ _ l3 t1038 _ ?side1 ?side2 ?side3 ?side4 ?side5 ?side6 A14.out).mono ?_); (case side1 => exact zq90); (case side2 => exact (Kd.R_reads' HO_9.out).2.1); (case side3 => exact zq79); (case side4 => exact HC2.out); (case side5 => exact zq71); (case side6 => exact HC3.out); rintro e w18 ⟨rfl, hb⟩; refine ⟨_, rfl, ?_⟩; replace HO_9 := za (Kd.R_below (zr HO_9.out) hb); replace HB := za (below_step zq4 hb)))
        go_roundg k2
        case measure => have := HJ5.out; have := HK2.out; omega
        case rel => exact ⟨(wrap64 (x11_2 + 1)), zq23, H', ⟨by have := HJ5.out; have := HK2.out; omega⟩, ⟨by (with_reducible repeat (first | apply Kd.R_alloc | apply Kd.R_drewN | apply Kd.R_drew)); exact HO_9.out⟩, ⟨zq4⟩⟩
       ·
        rw [if_neg c15] at H
        have c15b0 := beq_eq_false_iff_ne.mpr c15
        have c15b1 := bne_iff_ne.mpr c15
        exact absurd (HLT_.out.symm.trans (Option.some.inj H).symm) (by decide)
      ·
       rw [if_neg c12] at H
       have c12b0 := decide_eq_false c12
       clear c12
       replace H := Option.bind_eq_some_iff.mp H
       obtain ⟨t1036, A190, H⟩ := H
       (try dsimp only at H)
       have A19 := za A190
       clear A190
       obtain rfl := Option.some.inj H
       obtain ⟨Ao20, co20, eo20⟩ := Kd.R_slice HO_9.out
       subst eo20
       go_wp2_with (first | ((with_reducible refine gate_callee (f := 13) rfl ?_); refine goesL_ (some 44) rfl rfl Try.func13 zq17 rfl #[] rfl zq1 ?_; (with_reducible refine (rl_awake.calls  t1036 _ A19.out).mono ?_); rintro e w' ⟨rfl, ⟨nd, rfl⟩⟩; refine ⟨_, rfl, ?_⟩))
       go_ret
       exact ⟨zq16, zq4⟩
def rl_EvalTexts.Pure : Prop := ∀ (a0 : ByteArray) (a1 : ByteArray) (l2 : List (S32)) (l3 : List (S32)), a0.size ≤ 140737488351232 → a1.size ≤ 140737488351232 → l2.length * 40 ≤ 140737488351232 → l3.length * 40 ≤ 140737488351232 → ∃ k, rl_EvalTexts.f k a0 a1 l2 l3 = some true
theorem rl_EvalTexts.walk (P : rl_EvalTexts.Pure) (a0 : ByteArray) (a1 : ByteArray) (a2 : Option Addr) (cap2 : Nat) (l2 : List (S32)) (a3 : Option Addr) (cap3 : Nat) (l3 : List (S32)) (w : World) (w0 : a0.size ≤ 140737488351232) (w1 : a1.size ≤ 140737488351232) (w2 : Kd.C k32 w a2 l2.length l2) (c2 : l2.length ≤ cap2) (y2 : l2.length * 40 ≤ 140737488351232) (w3 : Kd.C k32 w a3 l3.length l3) (c3 : l3.length ≤ cap3) (y3 : l3.length * 40 ≤ 140737488351232) :
  Calls Try.prog 3 #[.string a0, .string a1, .slice a2 l2.length cap2, .slice a3 l3.length cap3] w fun e w' => e = .returned (.bool true) ∧ Below w.heap.size w w' := by
 obtain ⟨k, h⟩ := P a0 a1 l2 l3 w0 w1 y2 y3
 refine (rl_EvalTexts.calls k a0 a1 _ _ l2 _ _ l3 true w ⟨rfl⟩ w2 c2 w3 c3 h).mono ?_
 rintro e w' ⟨rfl, hd⟩
 exact ⟨rfl, hd⟩
end Go.Proofs.Ytkhalpeiifdfiaa.QEvalTexts
