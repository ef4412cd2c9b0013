import Derived.Test.YtcjnhnnfoadklaaZRLx5
namespace Go.Proofs.Ytcjnhnnfoadklaa.QRunCalls
open Go.RowKit Go.Proofs.YtcjnhnnfoadklaaW.PrintWords Go.Proofs.YtcjnhnnfoadklaaW.PrintLast Go.Proofs.YtcjnhnnfoadklaaW.PrintMore
attribute [local go_sem] max2_int min2_int max_two min_two max_three min_three max_four min_four
set_option linter.unusedVariables false
set_option linter.unusedSimpArgs false
mutual
def ra_Lex.l0 : Nat → ByteArray → List (S110) → Int → Option ((List (S110)) × Int × Int)
 | 0, _, _, _ => none
 | k + 1, x0, x5, x6 => if x6 < (x0.size : Int) then (if 0 ≤ x6 then (if (bt x0 x6) = 32 then (ra_Lex.j1 k x0 x5 x6 (bt x0 x6) true) else (if (bt x0 x6) = 9 then (ra_Lex.j1 k x0 x5 x6 (bt x0 x6) true) else (if (bt x0 x6) = 10 then (ra_Lex.j1 k x0 x5 x6 (bt x0 x6) true) else (ra_Lex.j1 k x0 x5 x6 (bt x0 x6) ((bt x0 x6) == 13))))) else (none)) else (if x5.length < 4398046511104 then (some ((x5 ++ [(⟨0, (⟨#[]⟩ : ByteArray), (x0.size : Int)⟩ : S110)]), 0, 0)) else (none))
def ra_Lex.j1 : Nat → ByteArray → List (S110) → Int → Int → Bool → Option ((List (S110)) × Int × Int)
 | 0, _, _, _, _, _ => none
 | k + 1, x0, x5, x6, x7, x38 => if x38 = true then (ra_Lex.l0 k x0 x5 (wrap64 (x6 + 1))) else (if x7 = 35 then (none) else ((ra_letter.f x7).bind fun t128 => (if t128 = true then (ra_Lex.l2 k x0 x5 x6 x6) else ((ra_digit.f x7).bind fun t138 => (if t138 = true then (ra_Lex.l3 k x0 x5 x6 x7 x6) else ((ra_sign.f k x0 x6).bind fun t154 => (if t154.toList = ([] : List UInt8) then (none) else (if x5.length < 4398046511104 then (ra_Lex.l0 k x0 (x5 ++ [(⟨4, t154, x6⟩ : S110)]) (wrap64 (x6 + (t154.size : Int)))) else (none)))))))))
def ra_Lex.j3 : Nat → ByteArray → List (S110) → Int → Int → Option ((List (S110)) × Int × Int)
 | 0, _, _, _, _ => none
 | k + 1, x0, x5, x6, x8 => if 0 ≤ x6 then (if x6 ≤ x8 then (if x8 ≤ (x0.size : Int) then ((ra_Key.f (x0.extract (x6 : Int).toNat (x8 : Int).toNat)).bind fun t131 => (if t131 = true then (if (wrap64 (x8 - x6)) > 20 then (none) else (if x5.length < 4398046511104 then (ra_Lex.l0 k x0 (x5 ++ [(⟨3, x0.extract (x6 : Int).toNat (x8 : Int).toNat, x6⟩ : S110)]) x8) else (none))) else (if (wrap64 (x8 - x6)) > 20 then (none) else (if x5.length < 4398046511104 then (ra_Lex.l0 k x0 (x5 ++ [(⟨1, x0.extract (x6 : Int).toNat (x8 : Int).toNat, x6⟩ : S110)]) x8) else (none))))) else (none)) else (none)) else (none)
def ra_Lex.l2 : Nat → ByteArray → List (S110) → Int → Int → Option ((List (S110)) × Int × Int)
 | 0, _, _, _, _ => none
 | k + 1, x0, x5, x6, x8 => if x8 < (x0.size : Int) then (if 0 ≤ x8 then ((ra_letter.f (bt x0 x8)).bind fun t129 => (if t129 = true then (ra_Lex.l2 k x0 x5 x6 (wrap64 (x8 + 1))) else ((ra_digit.f (bt x0 x8)).bind fun t130 => (if t130 = true then (ra_Lex.l2 k x0 x5 x6 (wrap64 (x8 + 1))) else (if (bt x0 x8) = 95 then (ra_Lex.l2 k x0 x5 x6 (wrap64 (x8 + 1))) else (ra_Lex.j3 k x0 x5 x6 x8)))))) else (none)) else (ra_Lex.j3 k x0 x5 x6 x8)
def ra_Lex.j5 : Nat → ByteArray → List (S110) → Int → Int → Int → Option ((List (S110)) × Int × Int)
 | 0, _, _, _, _, _ => none
 | k + 1, x0, x5, x6, x7, x10 => if (wrap64 (x10 - x6)) > 9 then (none) else (if (wrap64 (x10 - x6)) > 1 then (if x7 = 48 then (none) else (if x10 < (x0.size : Int) then (if 0 ≤ x10 then ((ra_letter.f (bt x0 x10)).bind fun t140 => (if t140 = true then (none) else (if (bt x0 x10) = 95 then (none) else (if 0 ≤ x6 then (if x6 ≤ x10 then (if x10 ≤ (x0.size : Int) then (if x5.length < 4398046511104 then (ra_Lex.l0 k x0 (x5 ++ [(⟨2, x0.extract (x6 : Int).toNat (x10 : Int).toNat, x6⟩ : S110)]) x10) else (none)) else (none)) else (none)) else (none))))) else (none)) else (if 0 ≤ x6 then (if x6 ≤ x10 then (if x10 ≤ (x0.size : Int) then (if x5.length < 4398046511104 then (ra_Lex.l0 k x0 (x5 ++ [(⟨2, x0.extract (x6 : Int).toNat (x10 : Int).toNat, x6⟩ : S110)]) x10) else (none)) else (none)) else (none)) else (none)))) else (if x10 < (x0.size : Int) then (if 0 ≤ x10 then ((ra_letter.f (bt x0 x10)).bind fun t147 => (if t147 = true then (none) else (if (bt x0 x10) = 95 then (none) else (if 0 ≤ x6 then (if x6 ≤ x10 then (if x10 ≤ (x0.size : Int) then (if x5.length < 4398046511104 then (ra_Lex.l0 k x0 (x5 ++ [(⟨2, x0.extract (x6 : Int).toNat (x10 : Int).toNat, x6⟩ : S110)]) x10) else (none)) else (none)) else (none)) else (none))))) else (none)) else (if 0 ≤ x6 then (if x6 ≤ x10 then (if x10 ≤ (x0.size : Int) then (if x5.length < 4398046511104 then (ra_Lex.l0 k x0 (x5 ++ [(⟨2, x0.extract (x6 : Int).toNat (x10 : Int).toNat, x6⟩ : S110)]) x10) else (none)) else (none)) else (none)) else (none))))
def ra_Lex.l3 : Nat → ByteArray → List (S110) → Int → Int → Int → Option ((List (S110)) × Int × Int)
 | 0, _, _, _, _, _ => none
 | k + 1, x0, x5, x6, x7, x10 => if x10 < (x0.size : Int) then (if 0 ≤ x10 then ((ra_digit.f (bt x0 x10)).bind fun t139 => (if t139 = true then (ra_Lex.l3 k x0 x5 x6 x7 (wrap64 (x10 + 1))) else (ra_Lex.j5 k x0 x5 x6 x7 x10))) else (none)) else (ra_Lex.j5 k x0 x5 x6 x7 x10)
end
def ra_Lex.f (k : Nat) (a0 : ByteArray) : Option ((List (S110)) × Int × Int) := if (a0.size : Int) > 8192 then (none) else (ra_Lex.l0 k a0 ([] : List (S110)) 0)
theorem ra_Lex.mono_l : ∀ k, (∀ y0 y1 y2, LeO (ra_Lex.l0 k y0 y1 y2) (ra_Lex.l0 (k + 1) y0 y1 y2)) ∧ (∀ y0 y1 y2 y3 y4, LeO (ra_Lex.j1 k y0 y1 y2 y3 y4) (ra_Lex.j1 (k + 1) y0 y1 y2 y3 y4)) ∧ (∀ y0 y1 y2 y3, LeO (ra_Lex.j3 k y0 y1 y2 y3) (ra_Lex.j3 (k + 1) y0 y1 y2 y3)) ∧ (∀ y0 y1 y2 y3, LeO (ra_Lex.l2 k y0 y1 y2 y3) (ra_Lex.l2 (k + 1) y0 y1 y2 y3)) ∧ (∀ y0 y1 y2 y3 y4, LeO (ra_Lex.j5 k y0 y1 y2 y3 y4) (ra_Lex.j5 (k + 1) y0 y1 y2 y3 y4)) ∧ (∀ y0 y1 y2 y3 y4, LeO (ra_Lex.l3 k y0 y1 y2 y3 y4) (ra_Lex.l3 (k + 1) y0 y1 y2 y3 y4))
 | 0 => ⟨fun _ _ _ r h => by simp [ra_Lex.l0] at h, fun _ _ _ _ _ r h => by simp [ra_Lex.j1] at h, fun _ _ _ _ r h => by simp [ra_Lex.j3] at h, fun _ _ _ _ r h => by simp [ra_Lex.l2] at h, fun _ _ _ _ _ r h => by simp [ra_Lex.j5] at h, fun _ _ _ _ _ r h => by simp [ra_Lex.l3] at h⟩
 | k + 1 => by
  obtain ⟨ih0, ih1, ih2, ih3, ih4, ih5⟩ := ra_Lex.mono_l k
  refine ⟨?_, ?_, ?_, ?_, ?_, ?_⟩
  ·
   intro y0 y1 y2
   unfold ra_Lex.l0
   repeat' with_reducible first | apply ih0 | apply ih1 | apply ih2 | apply ih3 | apply ih4 | apply ih5 | apply ra_sign.mono | exact LeO.refl _ | exact LeO.none _ | refine LeO.ite ?_ ?_ | refine LeO.bind ?_ (fun _ => ?_)
  ·
   intro y0 y1 y2 y3 y4
   unfold ra_Lex.j1
   repeat' with_reducible first | apply ih0 | apply ih1 | apply ih2 | apply ih3 | apply ih4 | apply ih5 | apply ra_sign.mono | exact LeO.refl _ | exact LeO.none _ | refine LeO.ite ?_ ?_ | refine LeO.bind ?_ (fun _ => ?_)
  ·
   intro y0 y1 y2 y3
   unfold ra_Lex.j3
   repeat' with_reducible first | apply ih0 | apply ih1 | apply ih2 | apply ih3 | apply ih4 | apply ih5 | apply ra_sign.mono | exact LeO.refl _ | exact LeO.none _ | refine LeO.ite ?_ ?_ | refine LeO.bind ?_ (fun _ => ?_)
  ·
   intro y0 y1 y2 y3
   unfold ra_Lex.l2
   repeat' with_reducible first | apply ih0 | apply ih1 | apply ih2 | apply ih3 | apply ih4 | apply ih5 | apply ra_sign.mono | exact LeO.refl _ | exact LeO.none _ | refine LeO.ite ?_ ?_ | refine LeO.bind ?_ (fun _ => ?_)
  ·
   intro y0 y1 y2 y3 y4
   unfold ra_Lex.j5
   repeat' with_reducible first | apply ih0 | apply ih1 | apply ih2 | apply ih3 | apply ih4 | apply ih5 | apply ra_sign.mono | exact LeO.refl _ | exact LeO.none _ | refine LeO.ite ?_ ?_ | refine LeO.bind ?_ (fun _ => ?_)
  ·
   intro y0 y1 y2 y3 y4
   unfold ra_Lex.l3
   repeat' with_reducible first | apply ih0 | apply ih1 | apply ih2 | apply ih3 | apply ih4 | apply ih5 | apply ra_sign.mono | exact LeO.refl _ | exact LeO.none _ | refine LeO.ite ?_ ?_ | refine LeO.bind ?_ (fun _ => ?_)
theorem ra_Lex.mono : ∀ a0 k, LeO (ra_Lex.f k a0) (ra_Lex.f (k + 1) a0) := by
 intro a0 k
 obtain ⟨ih0, ih1, ih2, ih3, ih4, ih5⟩ := ra_Lex.mono_l k
 unfold ra_Lex.f
 repeat' with_reducible first | apply ih0 | apply ih1 | apply ih2 | apply ih3 | apply ih4 | apply ih5 | apply ra_sign.mono | exact LeO.refl _ | exact LeO.none _ | refine LeO.ite ?_ ?_ | refine LeO.bind ?_ (fun _ => ?_)
set_option maxHeartbeats 8000000 in
set_option maxRecDepth 100000 in
theorem ra_Lex.calls (k : Nat) (a0 : ByteArray) (r1 : List (S110)) (r2 : Int) (r3 : Int) (w : World) (h : ra_Lex.f k a0 = some (r1, r2, r3)) :
  Calls Try.prog 31 #[.string a0] w fun e w' => ∃ v0_ : Value, e = .returned (.tuple #[v0_, .int .i64 r2, .int .i64 r3]) ∧ Kd.R k110 110 w' w.heap.size (fun _ => True) v0_ r1 ∧ Below w.heap.size w w' := by
 have hu110 := Try.underlying110
 have HB := za (Below.refl w.heap.size w)
 have H : (if (a0.size : Int) > 8192 then (none) else (ra_Lex.l0 k a0 ([] : List (S110)) 0)) = some (r1, r2, r3) := h
 clear h
 by_cases c2 : (a0.size : Int) > 8192
 ·
  rw [if_pos c2] at H
  exact absurd H (by simp)
 ·
  rw [if_neg c2] at H
  have c2b0 : decide (8192 < (a0.size : Int)) = false := decide_eq_false c2
  have c2b1 : decide (8192 < a0.size) = false := decide_eq_false (by omega)
  clear c2
  have H' := za H
  clear H
  go_enter Try.func31, Try.ntmps31
  go_wp2
  go_loopg [5, 6] k (fun kq v5 v6 w' => ∃ (x5_1 : List (S110)) (x6_1 : Int), v6 = .int .i64 x6_1 ∧ Aside0 (ra_Lex.l0 kq a0 x5_1 x6_1 = some (r1, r2, r3)) ∧ Aside0 (kq ≤ k) ∧ Aside0 (Kd.R k110 110 w' w.heap.size (fun _ => True) v5 x5_1) ∧ Aside0 (Below w.heap.size w w'))
  case atStart => exact ⟨(([] : List (S110))), (0), zq26, H', ⟨Nat.le_refl _⟩, ⟨zq36⟩, ⟨zq3⟩⟩
  case round =>
   clear H'
   obtain ⟨x5_1, x6_1, rfl, HA, HK1, HO_5, HB⟩ := hrel
   cases gk with
   | zero => exact absurd HA.out (by simp [ra_Lex.l0])
   | succ k1 =>
    have H := HA.out
    clear HA
    simp only [ra_Lex.l0] at H
    by_cases c3 : x6_1 < (a0.size : Int)
    ·
     rw [if_pos c3] at H
     have c3b0 := decide_eq_true c3
     clear c3
     by_cases c4 : 0 ≤ x6_1
     ·
      rw [if_pos c4] at H
      have c4b0 := decide_eq_true c4
      clear c4
      have HC6 := za H
      clear H
      have p5 : 0 ≤ (x6_1 : Int) := of_decide_eq_true zq9
      have q5 : x6_1 < (a0.size : Int) := of_decide_eq_true zq9
      have hx5 := bt_at a0 x6_1
      replace p5 := eq_true p5
      replace q5 := eq_true q5
      go_upto_region 12 with (fail)
      go_cut [38] (fun v38 wc => ∃ (kq : Nat) (x38_5 : Bool), v38 = .bool x38_5 ∧ Aside0 (ra_Lex.j1 kq a0 x5_1 x6_1 (bt a0 x6_1) x38_5 = some (r1, r2, r3)) ∧ Aside0 (kq ≤ k1) ∧ Aside0 (Kd.R k110 110 wc w.heap.size (fun _ => True) u5 x5_1) ∧ Aside0 (Below w.heap.size w wc))
      case first =>
       have H := HC6.out
       clear HC6
       by_cases c7 : (bt a0 x6_1) = 32
       ·
        rw [if_pos c7] at H
        have c7b0 := beq_iff_eq.mpr c7
        have c7b1 := bne_eq_false_iff_eq.mpr c7
        clear c7
        (first | rw [c7b0] | (simp only [i64_w, i32_w]; rw [c7b0]) | skip)
        as_aux_lemma =>
         have H' := za H
         clear H
         go_wp2
         go_meet
         case rel => exact ⟨_, (true), zq26, H', ⟨by have := HK1.out; first | omega | exact Nat.le_refl _⟩, ⟨zq34⟩, ⟨zq3⟩⟩
       ·
        rw [if_neg c7] at H
        have c7b0 := beq_eq_false_iff_ne.mpr c7
        have c7b1 := bne_iff_ne.mpr c7
        (first | rw [c7b0] | (simp only [i64_w, i32_w]; rw [c7b0]) | skip)
        by_cases c8 : (bt a0 x6_1) = 9
        ·
         rw [if_pos c8] at H
         have c8b0 := beq_iff_eq.mpr c8
         have c8b1 := bne_eq_false_iff_eq.mpr c8
         clear c8
         as_aux_lemma =>
          have H' := za H
          clear H
          go_wp2
          go_meet
          case rel => exact ⟨_, (true), zq26, H', ⟨by have := HK1.out; first | omega | exact Nat.le_refl _⟩, ⟨zq34⟩, ⟨zq3⟩⟩
        ·
         rw [if_neg c8] at H
         have c8b0 := beq_eq_false_iff_ne.mpr c8
         have c8b1 := bne_iff_ne.mpr c8
         by_cases c9 : (bt a0 x6_1) = 10
         ·
          rw [if_pos c9] at H
          have c9b0 := beq_iff_eq.mpr c9
          have c9b1 := bne_eq_false_iff_eq.mpr c9
          clear c9
          as_aux_lemma =>
           have H' := za H
           clear H
           go_wp2
           go_meet
           case rel => exact ⟨_, (true), zq26, H', ⟨by have := HK1.out; first | omega | exact Nat.le_refl _⟩, ⟨zq34⟩, ⟨zq3⟩⟩
         ·
          rw [if_neg c9] at H
          have c9b0 := beq_eq_false_iff_ne.mpr c9
          have c9b1 := bne_iff_ne.mpr c9
          as_aux_lemma =>
           have H' := za H
           clear H
           go_wp2
           go_meet
           case rel => exact ⟨_, (((bt a0 x6_1) == 13)), zq26, H', ⟨by have := HK1.out; first | omega | exact Nat.le_refl _⟩, ⟨zq34⟩, ⟨zq3⟩⟩
      case rest =>
       clear HC6
       obtain ⟨kq, x38_5, rfl, HA, HJ5, HO_5, HB⟩ := hcut
       cases kq with
       | zero => exact absurd HA.out (by simp [ra_Lex.j1])
       | succ kj5 =>
        have H := HA.out
        clear HA
        simp only [ra_Lex.j1] at H
        by_cases c10 : x38_5 = true
        ·
         subst c10
         rw [if_pos rfl] at H
         as_aux_lemma =>
          have H' := za H
          clear H
          go_wp2
          go_roundg kj5
          case measure => have := HK1.out; have := HJ5.out; omega
          case rel => exact ⟨(x5_1), (wrap64 (x6_1 + 1)), zq26, H', ⟨by have := HK1.out; have := HJ5.out; omega⟩, ⟨zq34⟩, ⟨zq3⟩⟩
        ·
         replace c10 := Bool.eq_false_iff.mpr c10
         subst c10
         rw [if_neg (show ¬ (false = true) by decide)] at H
         by_cases c11 : (bt a0 x6_1) = 35
         ·
          rw [if_pos c11] at H
          exact absurd H (by simp)
         ·
          rw [if_neg c11] at H
          have c11b0 := beq_eq_false_iff_ne.mpr c11
          have c11b1 := bne_iff_ne.mpr c11
          replace H := Option.bind_eq_some_iff.mp H
          obtain ⟨t128, A120, H⟩ := H
          (try dsimp only at H)
          have A12 := za A120
          clear A120
          by_cases c13 : t128 = true
          ·
           subst c13
           rw [if_pos rfl] at H
           have HC14 := za H
           clear H
           go_upto_block 5 with (first | ((with_reducible refine gate_callee (f := 41) rfl ?_); refine goesL_ (some 72) rfl rfl Try.func41 zq13 rfl #[.int .u8 (bt a0 x6_1)] rfl zq1 ?_; (with_reducible refine (ra_letter.calls (bt a0 x6_1) true _ A12.out).mono ?_); rintro e w' ⟨rfl, ⟨nd, rfl⟩⟩; refine ⟨_, rfl, ?_⟩))
           (try simp only [Act.put, List.setIfInBounds_toArray, List.set_cons_zero, List.set_cons_succ])
           go_cut [8] (fun v8 wc => ∃ (kq : Nat) (x8_13 : Int), v8 = .int .i64 x8_13 ∧ Aside0 (ra_Lex.j3 kq a0 x5_1 x6_1 x8_13 = some (r1, r2, r3)) ∧ Aside0 (kq ≤ kj5) ∧ Aside0 (Kd.R k110 110 wc w.heap.size (fun _ => True) u5 x5_1) ∧ Aside0 (Below w.heap.size w wc))
           case first =>
            have H := HC14.out
            clear HC14
            have H' := za H
            clear H
            go_wp2
            go_loopg [8] kj5 (fun kq v8 w' => ∃ (x8_3 : Int), v8 = .int .i64 x8_3 ∧ Aside0 (ra_Lex.l2 kq a0 x5_1 x6_1 x8_3 = some (r1, r2, r3)) ∧ Aside0 (kq ≤ kj5) ∧ Aside0 (Kd.R k110 110 w' w.heap.size (fun _ => True) u5 x5_1) ∧ Aside0 (Below w.heap.size w w'))
            case atStart => exact ⟨(x6_1), zq26, H', ⟨Nat.le_refl _⟩, ⟨zq34⟩, ⟨zq3⟩⟩
            case round =>
             clear H'
             obtain ⟨x8_3, rfl, HA, HK3, HO_5, HB⟩ := hrel
             cases gk with
             | zero => exact absurd HA.out (by simp [ra_Lex.l2])
             | succ k3 =>
              have H := HA.out
              clear HA
              simp only [ra_Lex.l2] at H
              by_cases c15 : x8_3 < (a0.size : Int)
              ·
               rw [if_pos c15] at H
               have c15b0 := decide_eq_true c15
               clear c15
               (first | rw [c15b0] | (simp only [i64_w, i32_w]; rw [c15b0]) | skip)
               by_cases c16 : 0 ≤ x8_3
               ·
                rw [if_pos c16] at H
                have c16b0 := decide_eq_true c16
                clear c16
                replace H := Option.bind_eq_some_iff.mp H
                obtain ⟨t129, A180, H⟩ := H
                (try dsimp only at H)
                have A18 := za A180
                clear A180
                by_cases c19 : t129 = true
                ·
                 subst c19
                 rw [if_pos rfl] at H
                 as_aux_lemma =>
                  have H' := za H
                  clear H
                  have p17 : 0 ≤ (x8_3 : Int) := of_decide_eq_true zq9
                  have q17 : x8_3 < (a0.size : Int) := of_decide_eq_true zq9
                  have hx17 := bt_at a0 x8_3
                  replace p17 := eq_true p17
                  replace q17 := eq_true q17
                  go_wp2_with (first | ((with_reducible refine gate_callee (f := 41) rfl ?_); (with_reducible refine gate_dst (N := 82) rfl ?_); (refine gate_guard (by rfl) ?_; dsimp only); refine goesL_ (some 82) rfl rfl Try.func41 zq13 rfl #[.int .u8 (bt a0 x8_3)] rfl zq1 ?_; (with_reducible refine (ra_letter.calls (bt a0 x8_3) true _ A18.out).mono ?_); rintro e w' ⟨rfl, ⟨nd, rfl⟩⟩; refine ⟨_, rfl, ?_⟩))
                  go_roundg k3
                  case measure => have := HK1.out; have := HJ5.out; have := HK3.out; omega
                  case rel => exact ⟨(wrap64 (x8_3 + 1)), zq26, H', ⟨by have := HK1.out; have := HJ5.out; have := HK3.out; omega⟩, ⟨zq34⟩, ⟨zq3⟩⟩
                ·
                 replace c19 := Bool.eq_false_iff.mpr c19
                 subst c19
                 rw [if_neg (show ¬ (false = true) by decide)] at H
                 replace H := Option.bind_eq_some_iff.mp H
                 obtain ⟨t130, A210, H⟩ := H
                 (try dsimp only at H)
                 have A21 := za A210
                 clear A210
                 by_cases c22 : t130 = true
                 ·
                  subst c22
                  rw [if_pos rfl] at H
                  as_aux_lemma =>
                   have H' := za H
                   clear H
                   have p17 : 0 ≤ (x8_3 : Int) := of_decide_eq_true zq9
                   have q17 : x8_3 < (a0.size : Int) := of_decide_eq_true zq9
                   have hx17 := bt_at a0 x8_3
                   replace p17 := eq_true p17
                   replace q17 := eq_true q17
                   go_wp2_with (first | ((with_reducible refine gate_callee (f := 41) rfl ?_); (with_reducible refine gate_dst (N := 82) rfl ?_); (refine gate_guard (by rfl) ?_; dsimp only); refine goesL_ (some 82) rfl rfl Try.func41 zq13 rfl #[.int .u8 (bt a0 x8_3)] rfl zq1 ?_; (with_reducible refine (ra_letter.calls (bt a0 x8_3) false _ A18.out).mono ?_); rintro e w' ⟨rfl, ⟨nd, rfl⟩⟩; refine ⟨_, rfl, ?_⟩; have p20 : 0 ≤ (x8_3 : Int) := of_decide_eq_true zq9; have q20 : x8_3 < (a0.size : Int) := of_decide_eq_true zq9; have hx20 := bt_at a0 x8_3; replace p20 := eq_true p20; replace q20 := eq_true q20) | ((with_reducible refine gate_callee (f := 42) rfl ?_); (with_reducible refine gate_dst (N := 87) rfl ?_); (refine gate_guard (by rfl) ?_; dsimp only); refine goesL_ (some 87) rfl rfl Try.func42 zq13 rfl #[.int .u8 (bt a0 x8_3)] rfl zq1 ?_; (with_reducible refine (ra_digit.calls (bt a0 x8_3) true _ A21.out).mono ?_); rintro e w' ⟨rfl, ⟨nd, rfl⟩⟩; refine ⟨_, rfl, ?_⟩))
                   go_roundg k3
                   case measure => have := HK1.out; have := HJ5.out; have := HK3.out; omega
                   case rel => exact ⟨(wrap64 (x8_3 + 1)), zq26, H', ⟨by have := HK1.out; have := HJ5.out; have := HK3.out; omega⟩, ⟨zq34⟩, ⟨zq3⟩⟩
                 ·
                  replace c22 := Bool.eq_false_iff.mpr c22
                  subst c22
                  rw [if_neg (show ¬ (false = true) by decide)] at H
                  by_cases c24 : (bt a0 x8_3) = 95
                  ·
                   rw [if_pos c24] at H
                   have c24b0 := beq_iff_eq.mpr c24
                   have c24b1 := bne_eq_false_iff_eq.mpr c24
                   clear c24
                   as_aux_lemma =>
                    have H' := za H
                    clear H
                    have p17 : 0 ≤ (x8_3 : Int) := of_decide_eq_true zq9
                    have q17 : x8_3 < (a0.size : Int) := of_decide_eq_true zq9
                    have hx17 := bt_at a0 x8_3
                    replace p17 := eq_true p17
                    replace q17 := eq_true q17
                    go_wp2_with (first | ((with_reducible refine gate_callee (f := 41) rfl ?_); (with_reducible refine gate_dst (N := 82) rfl ?_); (refine gate_guard (by rfl) ?_; dsimp only); refine goesL_ (some 82) rfl rfl Try.func41 zq13 rfl #[.int .u8 (bt a0 x8_3)] rfl zq1 ?_; (with_reducible refine (ra_letter.calls (bt a0 x8_3) false _ A18.out).mono ?_); rintro e w' ⟨rfl, ⟨nd, rfl⟩⟩; refine ⟨_, rfl, ?_⟩; have p20 : 0 ≤ (x8_3 : Int) := of_decide_eq_true zq9; have q20 : x8_3 < (a0.size : Int) := of_decide_eq_true zq9; have hx20 := bt_at a0 x8_3; replace p20 := eq_true p20; replace q20 := eq_true q20) | ((with_reducible refine gate_callee (f := 42) rfl ?_); (with_reducible refine gate_dst (N := 87) rfl ?_); (refine gate_guard (by rfl) ?_; dsimp only); refine goesL_ (some 87) rfl rfl Try.func42 zq13 rfl #[.int .u8 (bt a0 x8_3)] rfl zq1 ?_; (with_reducible refine (ra_digit.calls (bt a0 x8_3) false _ A21.out).mono ?_); rintro e w' ⟨rfl, ⟨nd, rfl⟩⟩; refine ⟨_, rfl, ?_⟩; have p23 : 0 ≤ (x8_3 : Int) := of_decide_eq_true zq9; have q23 : x8_3 < (a0.size : Int) := of_decide_eq_true zq9; have hx23 := bt_at a0 x8_3; replace p23 := eq_true p23; replace q23 := eq_true q23))
                    go_roundg k3
                    case measure => have := HK1.out; have := HJ5.out; have := HK3.out; omega
                    case rel => exact ⟨(wrap64 (x8_3 + 1)), zq26, H', ⟨by have := HK1.out; have := HJ5.out; have := HK3.out; omega⟩, ⟨zq34⟩, ⟨zq3⟩⟩
                  ·
                   rw [if_neg c24] at H
                   have c24b0 := beq_eq_false_iff_ne.mpr c24
                   have c24b1 := bne_iff_ne.mpr c24
                   as_aux_lemma =>
                    have H' := za H
                    clear H
                    have p17 : 0 ≤ (x8_3 : Int) := of_decide_eq_true zq9
                    have q17 : x8_3 < (a0.size : Int) := of_decide_eq_true zq9
                    have hx17 := bt_at a0 x8_3
                    replace p17 := eq_true p17
                    replace q17 := eq_true q17
                    go_wp2_with (first | ((with_reducible refine gate_callee (f := 41) rfl ?_); (with_reducible refine gate_dst (N := 82) rfl ?_); (refine gate_guard (by rfl) ?_; dsimp only); refine goesL_ (some 82) rfl rfl Try.func41 zq13 rfl #[.int .u8 (bt a0 x8_3)] rfl zq1 ?_; (with_reducible refine (ra_letter.calls (bt a0 x8_3) false _ A18.out).mono ?_); rintro e w' ⟨rfl, ⟨nd, rfl⟩⟩; refine ⟨_, rfl, ?_⟩; have p20 : 0 ≤ (x8_3 : Int) := of_decide_eq_true zq9; have q20 : x8_3 < (a0.size : Int) := of_decide_eq_true zq9; have hx20 := bt_at a0 x8_3; replace p20 := eq_true p20; replace q20 := eq_true q20) | ((with_reducible refine gate_callee (f := 42) rfl ?_); (with_reducible refine gate_dst (N := 87) rfl ?_); (refine gate_guard (by rfl) ?_; dsimp only); refine goesL_ (some 87) rfl rfl Try.func42 zq13 rfl #[.int .u8 (bt a0 x8_3)] rfl zq1 ?_; (with_reducible refine (ra_digit.calls (bt a0 x8_3) false _ A21.out).mono ?_); rintro e w' ⟨rfl, ⟨nd, rfl⟩⟩; refine ⟨_, rfl, ?_⟩; have p23 : 0 ≤ (x8_3 : Int) := of_decide_eq_true zq9; have q23 : x8_3 < (a0.size : Int) := of_decide_eq_true zq9; have hx23 := bt_at a0 x8_3; replace p23 := eq_true p23; replace q23 := eq_true q23))
                    go_meet
                    case rel => exact ⟨_, (x8_3), zq26, H', ⟨by have := HK1.out; have := HJ5.out; have := HK3.out; first | omega | exact Nat.le_refl _⟩, ⟨zq34⟩, ⟨zq3⟩⟩
               ·
                rw [if_neg c16] at H
                exact absurd H (by simp)
              ·
               rw [if_neg c15] at H
               have c15b0 := decide_eq_false c15
               clear c15
               (first | rw [c15b0] | (simp only [i64_w, i32_w]; rw [c15b0]) | skip)
               as_aux_lemma =>
                have H' := za H
                clear H
                go_wp2
                go_meet
                case rel => exact ⟨_, (x8_3), zq26, H', ⟨by have := HK1.out; have := HJ5.out; have := HK3.out; first | omega | exact Nat.le_refl _⟩, ⟨zq34⟩, ⟨zq3⟩⟩
           case rest =>
            clear HC14
            obtain ⟨kq, x8_13, rfl, HA, HJ13, HO_5, HB⟩ := hcut
            cases kq with
            | zero => exact absurd HA.out (by simp [ra_Lex.j3])
            | succ kj13 =>
             have H := HA.out
             clear HA
             simp only [ra_Lex.j3] at H
             by_cases c25 : 0 ≤ x6_1
             ·
              rw [if_pos c25] at H
              have c25b0 := eq_true c25
              have c25b1 := decide_eq_true c25
              clear c25
              by_cases c26 : x6_1 ≤ x8_13
              ·
               rw [if_pos c26] at H
               have c26b0 := eq_true c26
               have c26b1 := decide_eq_true c26
               clear c26
               by_cases c27 : x8_13 ≤ (a0.size : Int)
               ·
                rw [if_pos c27] at H
                have c27b0 := eq_true c27
                have c27b1 := decide_eq_true c27
                clear c27
                replace H := Option.bind_eq_some_iff.mp H
                obtain ⟨t131, A280, H⟩ := H
                (try dsimp only at H)
                have A28 := za A280
                clear A280
                by_cases c29 : t131 = true
                ·
                 subst c29
                 rw [if_pos rfl] at H
                 by_cases c30 : (wrap64 (x8_13 - x6_1)) > 20
                 ·
                  rw [if_pos c30] at H
                  exact absurd H (by simp)
                 ·
                  rw [if_neg c30] at H
                  have c30b0 : decide (20 < (wrap64 (x8_13 - x6_1))) = false := decide_eq_false c30
                  clear c30
                  have c31b0 := eq_true (of_decide_eq_true zq9 : 0 ≤ x6_1)
                  have c32b0 := eq_true (of_decide_eq_true zq9 : x6_1 ≤ x8_13)
                  have c33b0 := eq_true (of_decide_eq_true zq9 : x8_13 ≤ (a0.size : Int))
                  by_cases c34 : x5_1.length < 4398046511104
                  ·
                   rw [if_pos c34] at H
                   have LMc34 := za c34
                   clear c34
                   obtain ⟨y132, hy132⟩ : ∃ y_ : List (S110), y_ = (x5_1 ++ [(⟨3, a0.extract (x6_1 : Int).toNat (x8_13 : Int).toNat, x6_1⟩ : S110)]) := ⟨_, rfl⟩
                   replace H : (ra_Lex.l0 kj13 a0 y132 x8_13) = some (r1, r2, r3) := by first | (rw [hy132]; with_reducible exact H) | (have H2_ := (Option.bind_some _ _).symm.trans H; rw [hy132]; with_reducible exact H2_) | (have H2_ := (Option.bind_some _ _).symm.trans H; with_reducible exact H2_) | with_reducible exact H | (rw [hy132]; exact H) | exact H
                   have Ny132 := za hy132
                   clear hy132
                   as_aux_lemma =>
                    have H' := za H
                    clear H
                    go_wp2_with (first | ((with_reducible refine gate_callee (f := 43) rfl ?_); refine goesL_ (some 102) rfl rfl Try.func43 zq13 rfl #[.string (a0.extract (x6_1 : Int).toNat (x8_13 : Int).toNat)] rfl zq1 ?_; (with_reducible refine (ra_Key.calls (a0.extract (x6_1 : Int).toNat (x8_13 : Int).toNat) true _ A28.out).mono ?_); rintro e w' ⟨rfl, ⟨nd, rfl⟩⟩; refine ⟨_, rfl, ?_⟩) | ((with_reducible refine gate_builtin (b := .append) (xs := #[.tmp 108, .tmp 116]) rfl ?_); (try (refine gate_guard (by rfl) ?_; dsimp only)); at_builtin; refine Kd.R_append k110 (w0 := w) w.heap.size rfl (.tmp 108) (.tmp 116) 78 110 (.agg #[(.int .i64 0), (.string ⟨#[]⟩), (.int .i64 0)]) 32 rfl Try.underlying78 info110 rfl (by decide) (by omega) u5 x5_1 (⟨3, a0.extract (x6_1 : Int).toNat (x8_13 : Int).toNat, x6_1⟩ : S110) [.int .i64 3, .string (a0.extract (x6_1 : Int).toNat (x8_13 : Int).toNat), .int .i64 x6_1] (fun _ => True) (fun _ => False) rfl rfl ?aP (fun _ hk => hk.elim) ?aF ?aO ?aB ?aS ?aL ?_; (case aP => exact k110_mkM _ _ _ (⟨3, a0.extract (x6_1 : Int).toNat (x8_13 : Int).toNat, x6_1⟩ : S110)); (case aB => exact zq3); (case aF => exact (fun _ _ => trivial)); (case aO => exact (zr HO_5.out)); (case aS => exact (below_size zq3)); (case aL => have := LMc34.out; omega); intro v133 w35 ho hb hg hat; rw [← Ny132.out] at ho; replace HB := za (hb); have HO134 := za (ho); clear HO_5; clear ho hb hg hat))
                    go_roundg kj13
                    case measure => have := HK1.out; have := HJ5.out; have := HJ13.out; omega
                    case rel => exact ⟨(y132), (x8_13), zq26, H', ⟨by have := HK1.out; have := HJ5.out; have := HJ13.out; omega⟩, ⟨by (with_reducible repeat (first | apply Kd.R_alloc | apply Kd.R_drewN | apply Kd.R_drew)); exact HO134.out⟩, ⟨zq3⟩⟩
                  ·
                   rw [if_neg c34] at H
                   exact absurd H (by simp)
                ·
                 replace c29 := Bool.eq_false_iff.mpr c29
                 subst c29
                 rw [if_neg (show ¬ (false = true) by decide)] at H
                 by_cases c36 : (wrap64 (x8_13 - x6_1)) > 20
                 ·
                  rw [if_pos c36] at H
                  exact absurd H (by simp)
                 ·
                  rw [if_neg c36] at H
                  have c36b0 : decide (20 < (wrap64 (x8_13 - x6_1))) = false := decide_eq_false c36
                  clear c36
                  have c37b0 := eq_true (of_decide_eq_true zq9 : 0 ≤ x6_1)
                  have c38b0 := eq_true (of_decide_eq_true zq9 : x6_1 ≤ x8_13)
                  have c39b0 := eq_true (of_decide_eq_true zq9 : x8_13 ≤ (a0.size : Int))
                  by_cases c40 : x5_1.length < 4398046511104
                  ·
                   rw [if_pos c40] at H
                   have LMc40 := za c40
                   clear c40
                   obtain ⟨y135, hy135⟩ : ∃ y_ : List (S110), y_ = (x5_1 ++ [(⟨1, a0.extract (x6_1 : Int).toNat (x8_13 : Int).toNat, x6_1⟩ : S110)]) := ⟨_, rfl⟩
                   replace H : (ra_Lex.l0 kj13 a0 y135 x8_13) = some (r1, r2, r3) := by first | (rw [hy135]; with_reducible exact H) | (have H2_ := (Option.bind_some _ _).symm.trans H; rw [hy135]; with_reducible exact H2_) | (have H2_ := (Option.bind_some _ _).symm.trans H; with_reducible exact H2_) | with_reducible exact H | (rw [hy135]; exact H) | exact H
                   have Ny135 := za hy135
                   clear hy135
                   as_aux_lemma =>
                    have H' := za H
                    clear H
                    go_wp2_with (first | ((with_reducible refine gate_callee (f := 43) rfl ?_); refine goesL_ (some 102) rfl rfl Try.func43 zq13 rfl #[.string (a0.extract (x6_1 : Int).toNat (x8_13 : Int).toNat)] rfl zq1 ?_; (with_reducible refine (ra_Key.calls (a0.extract (x6_1 : Int).toNat (x8_13 : Int).toNat) false _ A28.out).mono ?_); rintro e w' ⟨rfl, ⟨nd, rfl⟩⟩; refine ⟨_, rfl, ?_⟩) | ((with_reducible refine gate_builtin (b := .append) (xs := #[.tmp 108, .tmp 116]) rfl ?_); (try (refine gate_guard (by rfl) ?_; dsimp only)); at_builtin; refine Kd.R_append k110 (w0 := w) w.heap.size rfl (.tmp 108) (.tmp 116) 78 110 (.agg #[(.int .i64 0), (.string ⟨#[]⟩), (.int .i64 0)]) 32 rfl Try.underlying78 info110 rfl (by decide) (by omega) u5 x5_1 (⟨1, a0.extract (x6_1 : Int).toNat (x8_13 : Int).toNat, x6_1⟩ : S110) [.int .i64 1, .string (a0.extract (x6_1 : Int).toNat (x8_13 : Int).toNat), .int .i64 x6_1] (fun _ => True) (fun _ => False) rfl rfl ?aP (fun _ hk => hk.elim) ?aF ?aO ?aB ?aS ?aL ?_; (case aP => exact k110_mkM _ _ _ (⟨1, a0.extract (x6_1 : Int).toNat (x8_13 : Int).toNat, x6_1⟩ : S110)); (case aB => exact zq3); (case aF => exact (fun _ _ => trivial)); (case aO => exact (zr HO_5.out)); (case aS => exact (below_size zq3)); (case aL => have := LMc40.out; omega); intro v136 w41 ho hb hg hat; rw [← Ny135.out] at ho; replace HB := za (hb); have HO137 := za (ho); clear HO_5; clear ho hb hg hat))
                    go_roundg kj13
                    case measure => have := HK1.out; have := HJ5.out; have := HJ13.out; omega
                    case rel => exact ⟨(y135), (x8_13), zq26, H', ⟨by have := HK1.out; have := HJ5.out; have := HJ13.out; omega⟩, ⟨by (with_reducible repeat (first | apply Kd.R_alloc | apply Kd.R_drewN | apply Kd.R_drew)); exact HO137.out⟩, ⟨zq3⟩⟩
                  ·
                   rw [if_neg c40] at H
                   exact absurd H (by simp)
               ·
                rw [if_neg c27] at H
                exact absurd H (by simp)
              ·
               rw [if_neg c26] at H
               exact absurd H (by simp)
             ·
              rw [if_neg c25] at H
              exact absurd H (by simp)
          ·
           replace c13 := Bool.eq_false_iff.mpr c13
           subst c13
           rw [if_neg (show ¬ (false = true) by decide)] at H
           replace H := Option.bind_eq_some_iff.mp H
           obtain ⟨t138, A420, H⟩ := H
           (try dsimp only at H)
           have A42 := za A420
           clear A420
           by_cases c43 : t138 = true
           ·
            subst c43
            rw [if_pos rfl] at H
            have HC44 := za H
            clear H
            go_upto_block 7 with (first | ((with_reducible refine gate_callee (f := 41) rfl ?_); refine goesL_ (some 72) rfl rfl Try.func41 zq13 rfl #[.int .u8 (bt a0 x6_1)] rfl zq1 ?_; (with_reducible refine (ra_letter.calls (bt a0 x6_1) false _ A12.out).mono ?_); rintro e w' ⟨rfl, ⟨nd, rfl⟩⟩; refine ⟨_, rfl, ?_⟩) | ((with_reducible refine gate_callee (f := 42) rfl ?_); refine goesL_ (some 121) rfl rfl Try.func42 zq13 rfl #[.int .u8 (bt a0 x6_1)] rfl zq1 ?_; (with_reducible refine (ra_digit.calls (bt a0 x6_1) true _ A42.out).mono ?_); rintro e w' ⟨rfl, ⟨nd, rfl⟩⟩; refine ⟨_, rfl, ?_⟩))
            (try simp only [Act.put, List.setIfInBounds_toArray, List.set_cons_zero, List.set_cons_succ])
            go_cut [10] (fun v10 wc => ∃ (kq : Nat) (x10_43 : Int), v10 = .int .i64 x10_43 ∧ Aside0 (ra_Lex.j5 kq a0 x5_1 x6_1 (bt a0 x6_1) x10_43 = some (r1, r2, r3)) ∧ Aside0 (kq ≤ kj5) ∧ Aside0 (Kd.R k110 110 wc w.heap.size (fun _ => True) u5 x5_1) ∧ Aside0 (Below w.heap.size w wc))
            case first =>
             have H := HC44.out
             clear HC44
             have H' := za H
             clear H
             go_wp2
             go_loopg [10] kj5 (fun kq v10 w' => ∃ (x10_3 : Int), v10 = .int .i64 x10_3 ∧ Aside0 (ra_Lex.l3 kq a0 x5_1 x6_1 (bt a0 x6_1) x10_3 = some (r1, r2, r3)) ∧ Aside0 (kq ≤ kj5) ∧ Aside0 (Kd.R k110 110 w' w.heap.size (fun _ => True) u5 x5_1) ∧ Aside0 (Below w.heap.size w w'))
             case atStart => exact ⟨(x6_1), zq26, H', ⟨Nat.le_refl _⟩, ⟨zq34⟩, ⟨zq3⟩⟩
             case round =>
              clear H'
              obtain ⟨x10_3, rfl, HA, HK3, HO_5, HB⟩ := hrel
              cases gk with
              | zero => exact absurd HA.out (by simp [ra_Lex.l3])
              | succ k3 =>
               have H := HA.out
               clear HA
               simp only [ra_Lex.l3] at H
               by_cases c45 : x10_3 < (a0.size : Int)
               ·
                rw [if_pos c45] at H
                have c45b0 := decide_eq_true c45
                clear c45
                (first | rw [c45b0] | (simp only [i64_w, i32_w]; rw [c45b0]) | skip)
                by_cases c46 : 0 ≤ x10_3
                ·
                 rw [if_pos c46] at H
                 have c46b0 := decide_eq_true c46
                 clear c46
                 replace H := Option.bind_eq_some_iff.mp H
                 obtain ⟨t139, A480, H⟩ := H
                 (try dsimp only at H)
                 have A48 := za A480
                 clear A480
                 by_cases c49 : t139 = true
                 ·
                  subst c49
                  rw [if_pos rfl] at H
                  as_aux_lemma =>
                   have H' := za H
                   clear H
                   have p47 : 0 ≤ (x10_3 : Int) := of_decide_eq_true zq9
                   have q47 : x10_3 < (a0.size : Int) := of_decide_eq_true zq9
                   have hx47 := bt_at a0 x10_3
                   replace p47 := eq_true p47
                   replace q47 := eq_true q47
                   go_wp2_with (first | ((with_reducible refine gate_callee (f := 42) rfl ?_); (with_reducible refine gate_dst (N := 131) rfl ?_); (refine gate_guard (by rfl) ?_; dsimp only); refine goesL_ (some 131) rfl rfl Try.func42 zq13 rfl #[.int .u8 (bt a0 x10_3)] rfl zq1 ?_; (with_reducible refine (ra_digit.calls (bt a0 x10_3) true _ A48.out).mono ?_); rintro e w' ⟨rfl, ⟨nd, rfl⟩⟩; refine ⟨_, rfl, ?_⟩))
                   go_roundg k3
                   case measure => have := HK1.out; have := HJ5.out; have := HK3.out; omega
                   case rel => exact ⟨(wrap64 (x10_3 + 1)), zq26, H', ⟨by have := HK1.out; have := HJ5.out; have := HK3.out; omega⟩, ⟨zq34⟩, ⟨zq3⟩⟩
                 ·
                  replace c49 := Bool.eq_false_iff.mpr c49
                  subst c49
                  rw [if_neg (show ¬ (false = true) by decide)] at H
                  as_aux_lemma =>
                   have H' := za H
                   clear H
                   have p47 : 0 ≤ (x10_3 : Int) := of_decide_eq_true zq9
                   have q47 : x10_3 < (a0.size : Int) := of_decide_eq_true zq9
                   have hx47 := bt_at a0 x10_3
                   replace p47 := eq_true p47
                   replace q47 := eq_true q47
                   go_wp2_with (first | ((with_reducible refine gate_callee (f := 42) rfl ?_); (with_reducible refine gate_dst (N := 131) rfl ?_); (refine gate_guard (by rfl) ?_; dsimp only); refine goesL_ (some 131) rfl rfl Try.func42 zq13 rfl #[.int .u8 (bt a0 x10_3)] rfl zq1 ?_; (with_reducible refine (ra_digit.calls (bt a0 x10_3) false _ A48.out).mono ?_); rintro e w' ⟨rfl, ⟨nd, rfl⟩⟩; refine ⟨_, rfl, ?_⟩))
                   go_meet
                   case rel => exact ⟨_, (x10_3), zq26, H', ⟨by have := HK1.out; have := HJ5.out; have := HK3.out; first | omega | exact Nat.le_refl _⟩, ⟨zq34⟩, ⟨zq3⟩⟩
                ·
                 rw [if_neg c46] at H
                 exact absurd H (by simp)
               ·
                rw [if_neg c45] at H
                have c45b0 := decide_eq_false c45
                clear c45
                (first | rw [c45b0] | (simp only [i64_w, i32_w]; rw [c45b0]) | skip)
                as_aux_lemma =>
                 have H' := za H
                 clear H
                 go_wp2
                 go_meet
                 case rel => exact ⟨_, (x10_3), zq26, H', ⟨by have := HK1.out; have := HJ5.out; have := HK3.out; first | omega | exact Nat.le_refl _⟩, ⟨zq34⟩, ⟨zq3⟩⟩
            case rest =>
             clear HC44
             obtain ⟨kq, x10_43, rfl, HA, HJ43, HO_5, HB⟩ := hcut
             cases kq with
             | zero => exact absurd HA.out (by simp [ra_Lex.j5])
             | succ kj43 =>
              have H := HA.out
              clear HA
              simp only [ra_Lex.j5] at H
              by_cases c50 : (wrap64 (x10_43 - x6_1)) > 9
              ·
               rw [if_pos c50] at H
               exact absurd H (by simp)
              ·
               rw [if_neg c50] at H
               have c50b0 : decide (9 < (wrap64 (x10_43 - x6_1))) = false := decide_eq_false c50
               clear c50
               by_cases c51 : (wrap64 (x10_43 - x6_1)) > 1
               ·
                rw [if_pos c51] at H
                have c51b0 : decide (1 < (wrap64 (x10_43 - x6_1))) = true := decide_eq_true c51
                clear c51
                by_cases c52 : (bt a0 x6_1) = 48
                ·
                 rw [if_pos c52] at H
                 exact absurd H (by simp)
                ·
                 rw [if_neg c52] at H
                 have c52b0 := beq_eq_false_iff_ne.mpr c52
                 have c52b1 := bne_iff_ne.mpr c52
                 by_cases c53 : x10_43 < (a0.size : Int)
                 ·
                  rw [if_pos c53] at H
                  have c53b0 := decide_eq_true c53
                  clear c53
                  by_cases c54 : 0 ≤ x10_43
                  ·
                   rw [if_pos c54] at H
                   have c54b0 := decide_eq_true c54
                   clear c54
                   replace H := Option.bind_eq_some_iff.mp H
                   obtain ⟨t140, A560, H⟩ := H
                   (try dsimp only at H)
                   have A56 := za A560
                   clear A560
                   by_cases c57 : t140 = true
                   ·
                    subst c57
                    rw [if_pos rfl] at H
                    exact absurd H (by simp)
                   ·
                    replace c57 := Bool.eq_false_iff.mpr c57
                    subst c57
                    rw [if_neg (show ¬ (false = true) by decide)] at H
                    by_cases c59 : (bt a0 x10_43) = 95
                    ·
                     rw [if_pos c59] at H
                     exact absurd H (by simp)
                    ·
                     rw [if_neg c59] at H
                     have c59b0 := beq_eq_false_iff_ne.mpr c59
                     have c59b1 := bne_iff_ne.mpr c59
                     by_cases c60 : 0 ≤ x6_1
                     ·
                      rw [if_pos c60] at H
                      have c60b0 := eq_true c60
                      have c60b1 := decide_eq_true c60
                      clear c60
                      by_cases c61 : x6_1 ≤ x10_43
                      ·
                       rw [if_pos c61] at H
                       have c61b0 := eq_true c61
                       have c61b1 := decide_eq_true c61
                       clear c61
                       by_cases c62 : x10_43 ≤ (a0.size : Int)
                       ·
                        rw [if_pos c62] at H
                        have c62b0 := eq_true c62
                        have c62b1 := decide_eq_true c62
                        clear c62
                        by_cases c63 : x5_1.length < 4398046511104
                        ·
                         rw [if_pos c63] at H
                         have LMc63 := za c63
                         clear c63
                         obtain ⟨y141, hy141⟩ : ∃ y_ : List (S110), y_ = (x5_1 ++ [(⟨2, a0.extract (x6_1 : Int).toNat (x10_43 : Int).toNat, x6_1⟩ : S110)]) := ⟨_, rfl⟩
                         replace H : (ra_Lex.l0 kj43 a0 y141 x10_43) = some (r1, r2, r3) := by first | (rw [hy141]; with_reducible exact H) | (have H2_ := (Option.bind_some _ _).symm.trans H; rw [hy141]; with_reducible exact H2_) | (have H2_ := (Option.bind_some _ _).symm.trans H; with_reducible exact H2_) | with_reducible exact H | (rw [hy141]; exact H) | exact H
                         have Ny141 := za hy141
                         clear hy141
                         as_aux_lemma =>
                          have H' := za H
                          clear H
                          have p55 : 0 ≤ (x10_43 : Int) := of_decide_eq_true zq9
                          have q55 : x10_43 < (a0.size : Int) := of_decide_eq_true zq9
                          have hx55 := bt_at a0 x10_43
                          replace p55 := eq_true p55
                          replace q55 := eq_true q55
                          go_wp2_with (first | ((with_reducible refine gate_callee (f := 41) rfl ?_); (with_reducible refine gate_dst (N := 157) rfl ?_); (refine gate_guard (by rfl) ?_; dsimp only); refine goesL_ (some 157) rfl rfl Try.func41 zq13 rfl #[.int .u8 (bt a0 x10_43)] rfl zq1 ?_; (with_reducible refine (ra_letter.calls (bt a0 x10_43) false _ A56.out).mono ?_); rintro e w' ⟨rfl, ⟨nd, rfl⟩⟩; refine ⟨_, rfl, ?_⟩; have p58 : 0 ≤ (x10_43 : Int) := of_decide_eq_true zq9; have q58 : x10_43 < (a0.size : Int) := of_decide_eq_true zq9; have hx58 := bt_at a0 x10_43; replace p58 := eq_true p58; replace q58 := eq_true q58) | ((with_reducible refine gate_builtin (b := .append) (xs := #[.tmp 167, .tmp 174]) rfl ?_); (try (refine gate_guard (by rfl) ?_; dsimp only)); at_builtin; refine Kd.R_append k110 (w0 := w) w.heap.size rfl (.tmp 167) (.tmp 174) 78 110 (.agg #[(.int .i64 0), (.string ⟨#[]⟩), (.int .i64 0)]) 32 rfl Try.underlying78 info110 rfl (by decide) (by omega) u5 x5_1 (⟨2, a0.extract (x6_1 : Int).toNat (x10_43 : Int).toNat, x6_1⟩ : S110) [.int .i64 2, .string (a0.extract (x6_1 : Int).toNat (x10_43 : Int).toNat), .int .i64 x6_1] (fun _ => True) (fun _ => False) rfl rfl ?aP (fun _ hk => hk.elim) ?aF ?aO ?aB ?aS ?aL ?_; (case aP => exact k110_mkM _ _ _ (⟨2, a0.extract (x6_1 : Int).toNat (x10_43 : Int).toNat, x6_1⟩ : S110)); (case aB => exact zq3); (case aF => exact (fun _ _ => trivial)); (case aO => exact (zr HO_5.out)); (case aS => exact (below_size zq3)); (case aL => have := LMc63.out; omega); intro v142 w64 ho hb hg hat; rw [← Ny141.out] at ho; replace HB := za (hb); have HO143 := za (ho); clear HO_5; clear ho hb hg hat))
                          go_roundg kj43
                          case measure => have := HK1.out; have := HJ5.out; have := HJ43.out; omega
                          case rel => exact ⟨(y141), (x10_43), zq26, H', ⟨by have := HK1.out; have := HJ5.out; have := HJ43.out; omega⟩, ⟨by (with_reducible repeat (first | apply Kd.R_alloc | apply Kd.R_drewN | apply Kd.R_drew)); exact HO143.out⟩, ⟨zq3⟩⟩
                        ·
                         rw [if_neg c63] at H
                         exact absurd H (by simp)
                       ·
                        rw [if_neg c62] at H
                        exact absurd H (by simp)
                      ·
                       rw [if_neg c61] at H
                       exact absurd H (by simp)
                     ·
                      rw [if_neg c60] at H
                      exact absurd H (by simp)
                  ·
                   rw [if_neg c54] at H
                   exact absurd H (by simp)
                 ·
                  rw [if_neg c53] at H
                  have c53b0 := decide_eq_false c53
                  clear c53
                  by_cases c65 : 0 ≤ x6_1
                  ·
                   rw [if_pos c65] at H
                   have c65b0 := eq_true c65
                   have c65b1 := decide_eq_true c65
                   clear c65
                   by_cases c66 : x6_1 ≤ x10_43
                   ·
                    rw [if_pos c66] at H
                    have c66b0 := eq_true c66
                    have c66b1 := decide_eq_true c66
                    clear c66
                    by_cases c67 : x10_43 ≤ (a0.size : Int)
                    ·
                     rw [if_pos c67] at H
                     have c67b0 := eq_true c67
                     have c67b1 := decide_eq_true c67
                     clear c67
                     by_cases c68 : x5_1.length < 4398046511104
                     ·
                      rw [if_pos c68] at H
                      have LMc68 := za c68
                      clear c68
                      obtain ⟨y144, hy144⟩ : ∃ y_ : List (S110), y_ = (x5_1 ++ [(⟨2, a0.extract (x6_1 : Int).toNat (x10_43 : Int).toNat, x6_1⟩ : S110)]) := ⟨_, rfl⟩
                      replace H : (ra_Lex.l0 kj43 a0 y144 x10_43) = some (r1, r2, r3) := by first | (rw [hy144]; with_reducible exact H) | (have H2_ := (Option.bind_some _ _).symm.trans H; rw [hy144]; with_reducible exact H2_) | (have H2_ := (Option.bind_some _ _).symm.trans H; with_reducible exact H2_) | with_reducible exact H | (rw [hy144]; exact H) | exact H
                      have Ny144 := za hy144
                      clear hy144
                      as_aux_lemma =>
                       have H' := za H
                       clear H
                       go_wp2_with (first | ((with_reducible refine gate_builtin (b := .append) (xs := #[.tmp 167, .tmp 174]) rfl ?_); (try (refine gate_guard (by rfl) ?_; dsimp only)); at_builtin; refine Kd.R_append k110 (w0 := w) w.heap.size rfl (.tmp 167) (.tmp 174) 78 110 (.agg #[(.int .i64 0), (.string ⟨#[]⟩), (.int .i64 0)]) 32 rfl Try.underlying78 info110 rfl (by decide) (by omega) u5 x5_1 (⟨2, a0.extract (x6_1 : Int).toNat (x10_43 : Int).toNat, x6_1⟩ : S110) [.int .i64 2, .string (a0.extract (x6_1 : Int).toNat (x10_43 : Int).toNat), .int .i64 x6_1] (fun _ => True) (fun _ => False) rfl rfl ?aP (fun _ hk => hk.elim) ?aF ?aO ?aB ?aS ?aL ?_; (case aP => exact k110_mkM _ _ _ (⟨2, a0.extract (x6_1 : Int).toNat (x10_43 : Int).toNat, x6_1⟩ : S110)); (case aB => exact zq3); (case aF => exact (fun _ _ => trivial)); (case aO => exact (zr HO_5.out)); (case aS => exact (below_size zq3)); (case aL => have := LMc68.out; omega); intro v145 w69 ho hb hg hat; rw [← Ny144.out] at ho; replace HB := za (hb); have HO146 := za (ho); clear HO_5; clear ho hb hg hat))
                       go_roundg kj43
                       case measure => have := HK1.out; have := HJ5.out; have := HJ43.out; omega
                       case rel => exact ⟨(y144), (x10_43), zq26, H', ⟨by have := HK1.out; have := HJ5.out; have := HJ43.out; omega⟩, ⟨by (with_reducible repeat (first | apply Kd.R_alloc | apply Kd.R_drewN | apply Kd.R_drew)); exact HO146.out⟩, ⟨zq3⟩⟩
                     ·
                      rw [if_neg c68] at H
                      exact absurd H (by simp)
                    ·
                     rw [if_neg c67] at H
                     exact absurd H (by simp)
                   ·
                    rw [if_neg c66] at H
                    exact absurd H (by simp)
                  ·
                   rw [if_neg c65] at H
                   exact absurd H (by simp)
               ·
                rw [if_neg c51] at H
                have c51b0 : decide (1 < (wrap64 (x10_43 - x6_1))) = false := decide_eq_false c51
                clear c51
                by_cases c70 : x10_43 < (a0.size : Int)
                ·
                 rw [if_pos c70] at H
                 have c70b0 := decide_eq_true c70
                 clear c70
                 by_cases c71 : 0 ≤ x10_43
                 ·
                  rw [if_pos c71] at H
                  have c71b0 := decide_eq_true c71
                  clear c71
                  replace H := Option.bind_eq_some_iff.mp H
                  obtain ⟨t147, A730, H⟩ := H
                  (try dsimp only at H)
                  have A73 := za A730
                  clear A730
                  by_cases c74 : t147 = true
                  ·
                   subst c74
                   rw [if_pos rfl] at H
                   exact absurd H (by simp)
                  ·
                   replace c74 := Bool.eq_false_iff.mpr c74
                   subst c74
                   rw [if_neg (show ¬ (false = true) by decide)] at H
                   by_cases c76 : (bt a0 x10_43) = 95
                   ·
                    rw [if_pos c76] at H
                    exact absurd H (by simp)
                   ·
                    rw [if_neg c76] at H
                    have c76b0 := beq_eq_false_iff_ne.mpr c76
                    have c76b1 := bne_iff_ne.mpr c76
                    by_cases c77 : 0 ≤ x6_1
                    ·
                     rw [if_pos c77] at H
                     have c77b0 := eq_true c77
                     have c77b1 := decide_eq_true c77
                     clear c77
                     by_cases c78 : x6_1 ≤ x10_43
                     ·
                      rw [if_pos c78] at H
                      have c78b0 := eq_true c78
                      have c78b1 := decide_eq_true c78
                      clear c78
                      by_cases c79 : x10_43 ≤ (a0.size : Int)
                      ·
                       rw [if_pos c79] at H
                       have c79b0 := eq_true c79
                       have c79b1 := decide_eq_true c79
                       clear c79
                       by_cases c80 : x5_1.length < 4398046511104
                       ·
                        rw [if_pos c80] at H
                        have LMc80 := za c80
                        clear c80
                        obtain ⟨y148, hy148⟩ : ∃ y_ : List (S110), y_ = (x5_1 ++ [(⟨2, a0.extract (x6_1 : Int).toNat (x10_43 : Int).toNat, x6_1⟩ : S110)]) := ⟨_, rfl⟩
                        replace H : (ra_Lex.l0 kj43 a0 y148 x10_43) = some (r1, r2, r3) := by first | (rw [hy148]; with_reducible exact H) | (have H2_ := (Option.bind_some _ _).symm.trans H; rw [hy148]; with_reducible exact H2_) | (have H2_ := (Option.bind_some _ _).symm.trans H; with_reducible exact H2_) | with_reducible exact H | (rw [hy148]; exact H) | exact H
                        have Ny148 := za hy148
                        clear hy148
                        as_aux_lemma =>
                         have H' := za H
                         clear H
                         have p72 : 0 ≤ (x10_43 : Int) := of_decide_eq_true zq9
                         have q72 : x10_43 < (a0.size : Int) := of_decide_eq_true zq9
                         have hx72 := bt_at a0 x10_43
                         replace p72 := eq_true p72
                         replace q72 := eq_true q72
                         go_wp2_with (first | ((with_reducible refine gate_callee (f := 41) rfl ?_); (with_reducible refine gate_dst (N := 157) rfl ?_); (refine gate_guard (by rfl) ?_; dsimp only); refine goesL_ (some 157) rfl rfl Try.func41 zq13 rfl #[.int .u8 (bt a0 x10_43)] rfl zq1 ?_; (with_reducible refine (ra_letter.calls (bt a0 x10_43) false _ A73.out).mono ?_); rintro e w' ⟨rfl, ⟨nd, rfl⟩⟩; refine ⟨_, rfl, ?_⟩; have p75 : 0 ≤ (x10_43 : Int) := of_decide_eq_true zq9; have q75 : x10_43 < (a0.size : Int) := of_decide_eq_true zq9; have hx75 := bt_at a0 x10_43; replace p75 := eq_true p75; replace q75 := eq_true q75) | ((with_reducible refine gate_builtin (b := .append) (xs := #[.tmp 167, .tmp 174]) rfl ?_); (try (refine gate_guard (by rfl) ?_; dsimp only)); at_builtin; refine Kd.R_append k110 (w0 := w) w.heap.size rfl (.tmp 167) (.tmp 174) 78 110 (.agg #[(.int .i64 0), (.string ⟨#[]⟩), (.int .i64 0)]) 32 rfl Try.underlying78 info110 rfl (by decide) (by omega) u5 x5_1 (⟨2, a0.extract (x6_1 : Int).toNat (x10_43 : Int).toNat, x6_1⟩ : S110) [.int .i64 2, .string (a0.extract (x6_1 : Int).toNat (x10_43 : Int).toNat), .int .i64 x6_1] (fun _ => True) (fun _ => False) rfl rfl ?aP (fun _ hk => hk.elim) ?aF ?aO ?aB ?aS ?aL ?_; (case aP => exact k110_mkM _ _ _ (⟨2, a0.extract (x6_1 : Int).toNat (x10_43 : Int).toNat, x6_1⟩ : S110)); (case aB => exact zq3); (case aF => exact (fun _ _ => trivial)); (case aO => exact (zr HO_5.out)); (case aS => exact (below_size zq3)); (case aL => have := LMc80.out; omega); intro v149 w81 ho hb hg hat; rw [← Ny148.out] at ho; replace HB := za (hb); have HO150 := za (ho); clear HO_5; clear ho hb hg hat))
                         go_roundg kj43
                         case measure => have := HK1.out; have := HJ5.out; have := HJ43.out; omega
                         case rel => exact ⟨(y148), (x10_43), zq26, H', ⟨by have := HK1.out; have := HJ5.out; have := HJ43.out; omega⟩, ⟨by (with_reducible repeat (first | apply Kd.R_alloc | apply Kd.R_drewN | apply Kd.R_drew)); exact HO150.out⟩, ⟨zq3⟩⟩
                       ·
                        rw [if_neg c80] at H
                        exact absurd H (by simp)
                      ·
                       rw [if_neg c79] at H
                       exact absurd H (by simp)
                     ·
                      rw [if_neg c78] at H
                      exact absurd H (by simp)
                    ·
                     rw [if_neg c77] at H
                     exact absurd H (by simp)
                 ·
                  rw [if_neg c71] at H
                  exact absurd H (by simp)
                ·
                 rw [if_neg c70] at H
                 have c70b0 := decide_eq_false c70
                 clear c70
                 by_cases c82 : 0 ≤ x6_1
                 ·
                  rw [if_pos c82] at H
                  have c82b0 := eq_true c82
                  have c82b1 := decide_eq_true c82
                  clear c82
                  by_cases c83 : x6_1 ≤ x10_43
                  ·
                   rw [if_pos c83] at H
                   have c83b0 := eq_true c83
                   have c83b1 := decide_eq_true c83
                   clear c83
                   by_cases c84 : x10_43 ≤ (a0.size : Int)
                   ·
                    rw [if_pos c84] at H
                    have c84b0 := eq_true c84
                    have c84b1 := decide_eq_true c84
                    clear c84
                    by_cases c85 : x5_1.length < 4398046511104
                    ·
                     rw [if_pos c85] at H
                     have LMc85 := za c85
                     clear c85
                     obtain ⟨y151, hy151⟩ : ∃ y_ : List (S110), y_ = (x5_1 ++ [(⟨2, a0.extract (x6_1 : Int).toNat (x10_43 : Int).toNat, x6_1⟩ : S110)]) := ⟨_, rfl⟩
                     replace H : (ra_Lex.l0 kj43 a0 y151 x10_43) = some (r1, r2, r3) := by first | (rw [hy151]; with_reducible exact H) | (have H2_ := (Option.bind_some _ _).symm.trans H; rw [hy151]; with_reducible exact H2_) | (have H2_ := (Option.bind_some _ _).symm.trans H; with_reducible exact H2_) | with_reducible exact H | (rw [hy151]; exact H) | exact H
                     have Ny151 := za hy151
                     clear hy151
                     as_aux_lemma =>
                      have H' := za H
                      clear H
                      go_wp2_with (first | ((with_reducible refine gate_builtin (b := .append) (xs := #[.tmp 167, .tmp 174]) rfl ?_); (try (refine gate_guard (by rfl) ?_; dsimp only)); at_builtin; refine Kd.R_append k110 (w0 := w) w.heap.size rfl (.tmp 167) (.tmp 174) 78 110 (.agg #[(.int .i64 0), (.string ⟨#[]⟩), (.int .i64 0)]) 32 rfl Try.underlying78 info110 rfl (by decide) (by omega) u5 x5_1 (⟨2, a0.extract (x6_1 : Int).toNat (x10_43 : Int).toNat, x6_1⟩ : S110) [.int .i64 2, .string (a0.extract (x6_1 : Int).toNat (x10_43 : Int).toNat), .int .i64 x6_1] (fun _ => True) (fun _ => False) rfl rfl ?aP (fun _ hk => hk.elim) ?aF ?aO ?aB ?aS ?aL ?_; (case aP => exact k110_mkM _ _ _ (⟨2, a0.extract (x6_1 : Int).toNat (x10_43 : Int).toNat, x6_1⟩ : S110)); (case aB => exact zq3); (case aF => exact (fun _ _ => trivial)); (case aO => exact (zr HO_5.out)); (case aS => exact (below_size zq3)); (case aL => have := LMc85.out; omega); intro v152 w86 ho hb hg hat; rw [← Ny151.out] at ho; replace HB := za (hb); have HO153 := za (ho); clear HO_5; clear ho hb hg hat))
                      go_roundg kj43
                      case measure => have := HK1.out; have := HJ5.out; have := HJ43.out; omega
                      case rel => exact ⟨(y151), (x10_43), zq26, H', ⟨by have := HK1.out; have := HJ5.out; have := HJ43.out; omega⟩, ⟨by (with_reducible repeat (first | apply Kd.R_alloc | apply Kd.R_drewN | apply Kd.R_drew)); exact HO153.out⟩, ⟨zq3⟩⟩
                    ·
                     rw [if_neg c85] at H
                     exact absurd H (by simp)
                   ·
                    rw [if_neg c84] at H
                    exact absurd H (by simp)
                  ·
                   rw [if_neg c83] at H
                   exact absurd H (by simp)
                 ·
                  rw [if_neg c82] at H
                  exact absurd H (by simp)
           ·
            replace c43 := Bool.eq_false_iff.mpr c43
            subst c43
            rw [if_neg (show ¬ (false = true) by decide)] at H
            replace H := Option.bind_eq_some_iff.mp H
            obtain ⟨t154, A870, H⟩ := H
            (try dsimp only at H)
            have A87 := za A870
            clear A870
            by_cases c88 : t154.toList = ([] : List UInt8)
            ·
             rw [if_pos c88] at H
             exact absurd H (by simp)
            ·
             rw [if_neg c88] at H
             have c88b0 := beq_eq_false_iff_ne.mpr c88
             have c88b1 := bne_iff_ne.mpr c88
             by_cases c89 : x5_1.length < 4398046511104
             ·
              rw [if_pos c89] at H
              have LMc89 := za c89
              clear c89
              obtain ⟨y155, hy155⟩ : ∃ y_ : List (S110), y_ = (x5_1 ++ [(⟨4, t154, x6_1⟩ : S110)]) := ⟨_, rfl⟩
              replace H : (ra_Lex.l0 kj5 a0 y155 (wrap64 (x6_1 + (t154.size : Int)))) = some (r1, r2, r3) := by first | (rw [hy155]; with_reducible exact H) | (have H2_ := (Option.bind_some _ _).symm.trans H; rw [hy155]; with_reducible exact H2_) | (have H2_ := (Option.bind_some _ _).symm.trans H; with_reducible exact H2_) | with_reducible exact H | (rw [hy155]; exact H) | exact H
              have Ny155 := za hy155
              clear hy155
              as_aux_lemma =>
               have H' := za H
               clear H
               go_wp2_with (first | ((with_reducible refine gate_callee (f := 41) rfl ?_); refine goesL_ (some 72) rfl rfl Try.func41 zq13 rfl #[.int .u8 (bt a0 x6_1)] rfl zq1 ?_; (with_reducible refine (ra_letter.calls (bt a0 x6_1) false _ A12.out).mono ?_); rintro e w' ⟨rfl, ⟨nd, rfl⟩⟩; refine ⟨_, rfl, ?_⟩) | ((with_reducible refine gate_callee (f := 42) rfl ?_); refine goesL_ (some 121) rfl rfl Try.func42 zq13 rfl #[.int .u8 (bt a0 x6_1)] rfl zq1 ?_; (with_reducible refine (ra_digit.calls (bt a0 x6_1) false _ A42.out).mono ?_); rintro e w' ⟨rfl, ⟨nd, rfl⟩⟩; refine ⟨_, rfl, ?_⟩) | ((with_reducible refine gate_callee (f := 44) rfl ?_); refine goesL_ (some 24) rfl rfl Try.func44 zq13 rfl #[.string a0, .int .i64 x6_1] rfl zq1 ?_; (with_reducible refine (ra_sign.calls kj5 a0 x6_1 t154 _ A87.out).mono ?_); rintro e w' ⟨rfl, ⟨nd, rfl⟩⟩; refine ⟨_, rfl, ?_⟩) | ((with_reducible refine gate_builtin (b := .append) (xs := #[.tmp 28, .tmp 32]) rfl ?_); (try (refine gate_guard (by rfl) ?_; dsimp only)); at_builtin; refine Kd.R_append k110 (w0 := w) w.heap.size rfl (.tmp 28) (.tmp 32) 78 110 (.agg #[(.int .i64 0), (.string ⟨#[]⟩), (.int .i64 0)]) 32 rfl Try.underlying78 info110 rfl (by decide) (by omega) u5 x5_1 (⟨4, t154, x6_1⟩ : S110) [.int .i64 4, .string t154, .int .i64 x6_1] (fun _ => True) (fun _ => False) rfl rfl ?aP (fun _ hk => hk.elim) ?aF ?aO ?aB ?aS ?aL ?_; (case aP => exact k110_mkM _ _ _ (⟨4, t154, x6_1⟩ : S110)); (case aB => exact zq3); (case aF => exact (fun _ _ => trivial)); (case aO => exact (zr HO_5.out)); (case aS => exact (below_size zq3)); (case aL => have := LMc89.out; omega); intro v156 w90 ho hb hg hat; rw [← Ny155.out] at ho; replace HB := za (hb); have HO157 := za (ho); clear HO_5; clear ho hb hg hat))
               go_roundg kj5
               case measure => have := HK1.out; have := HJ5.out; omega
               case rel => exact ⟨(y155), (wrap64 (x6_1 + (t154.size : Int))), zq26, H', ⟨by have := HK1.out; have := HJ5.out; omega⟩, ⟨by (with_reducible repeat (first | apply Kd.R_alloc | apply Kd.R_drewN | apply Kd.R_drew)); exact HO157.out⟩, ⟨zq3⟩⟩
             ·
              rw [if_neg c89] at H
              exact absurd H (by simp)
     ·
      rw [if_neg c4] at H
      exact absurd H (by simp)
    ·
     rw [if_neg c3] at H
     have c3b0 := decide_eq_false c3
     clear c3
     by_cases c91 : x5_1.length < 4398046511104
     ·
      rw [if_pos c91] at H
      have LMc91 := za c91
      clear c91
      obtain ⟨y125, hy125⟩ : ∃ y_ : List (S110), y_ = (x5_1 ++ [(⟨0, (⟨#[]⟩ : ByteArray), (a0.size : Int)⟩ : S110)]) := ⟨_, rfl⟩
      replace H : (some (y125, 0, 0)) = some (r1, r2, r3) := by first | (rw [hy125]; with_reducible exact H) | (have H2_ := (Option.bind_some _ _).symm.trans H; rw [hy125]; with_reducible exact H2_) | (have H2_ := (Option.bind_some _ _).symm.trans H; with_reducible exact H2_) | with_reducible exact H | (rw [hy125]; exact H) | exact H
      have Ny125 := za hy125
      clear hy125
      as_aux_lemma =>
       simp only [Option.some.injEq, Prod.mk.injEq] at H
       obtain ⟨rfl, rfl, rfl⟩ := H
       go_wp2_with (first | ((with_reducible refine gate_builtin (b := .append) (xs := #[.tmp 177, .tmp 181]) rfl ?_); (try (refine gate_guard (by rfl) ?_; dsimp only)); at_builtin; refine Kd.R_append k110 (w0 := w) w.heap.size rfl (.tmp 177) (.tmp 181) 78 110 (.agg #[(.int .i64 0), (.string ⟨#[]⟩), (.int .i64 0)]) 32 rfl Try.underlying78 info110 rfl (by decide) (by omega) u5 x5_1 (⟨0, (⟨#[]⟩ : ByteArray), (a0.size : Int)⟩ : S110) [.int .i64 0, .string (⟨#[]⟩ : ByteArray), .int .i64 (a0.size : Int)] (fun _ => True) (fun _ => False) rfl rfl ?aP (fun _ hk => hk.elim) ?aF ?aO ?aB ?aS ?aL ?_; (case aP => exact k110_mkM _ _ _ (⟨0, (⟨#[]⟩ : ByteArray), (a0.size : Int)⟩ : S110)); (case aB => exact zq3); (case aF => exact (fun _ _ => trivial)); (case aO => exact (zr HO_5.out)); (case aS => exact (below_size zq3)); (case aL => have := LMc91.out; omega); intro v126 w92 ho hb hg hat; rw [← Ny125.out] at ho; replace HB := za (hb); have HO127 := za (ho); clear HO_5; clear ho hb hg hat))
       go_ret3
       exact ⟨_, zq19, by (with_reducible repeat (first | apply Kd.R_alloc | apply Kd.R_drewN | apply Kd.R_drew)); exact HO127.out, zq3⟩
     ·
      rw [if_neg c91] at H
      exact absurd H (by simp)
end Go.Proofs.Ytcjnhnnfoadklaa.QRunCalls
