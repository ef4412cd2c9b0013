import Derived.Test.YtcmpmlklednhbaaZEJx1
import Derived.Test.YtcmpmlklednhbaaZEJx2
namespace Go.Proofs.Ytcmpmlklednhbaa.QEvalJoins
open Go.RowKit Go.Proofs.YtcmpmlklednhbaaW.PrintWords Go.Proofs.YtcmpmlklednhbaaW.PrintLast Go.Proofs.YtcmpmlklednhbaaW.PrintMore
set_option maxHeartbeats 8000000
set_option maxRecDepth 100000
attribute [local go_sem] max2_int min2_int max_two min_two max_three min_three max_four min_four
set_option linter.unusedVariables false
set_option linter.unusedSimpArgs false
mutual
def ra_Lex.l0 : Nat → ByteArray → List (S69) → Int → Option ((List (S69)) × Int × Int)
 | 0, _, _, _ => none
 | k + 1, x0, x5, x6 => if x6 < (x0.size : Int) then (if 0 ≤ x6 then (if (bt x0 x6) = 32 then (ra_Lex.j1 k x0 x5 x6 (bt x0 x6) true) else (if (bt x0 x6) = 9 then (ra_Lex.j1 k x0 x5 x6 (bt x0 x6) true) else (if (bt x0 x6) = 10 then (ra_Lex.j1 k x0 x5 x6 (bt x0 x6) true) else (ra_Lex.j1 k x0 x5 x6 (bt x0 x6) ((bt x0 x6) == 13))))) else (none)) else (if x5.length < 4398046511104 then (some ((x5 ++ [(⟨0, (⟨#[]⟩ : ByteArray), (x0.size : Int)⟩ : S69)]), 0, 0)) else (none))
def ra_Lex.j1 : Nat → ByteArray → List (S69) → Int → Int → Bool → Option ((List (S69)) × Int × Int)
 | 0, _, _, _, _, _ => none
 | k + 1, x0, x5, x6, x7, x38 => if x38 = true then (ra_Lex.l0 k x0 x5 (wrap64 (x6 + 1))) else (if x7 = 35 then (ra_Lex.l1 k x0 x5 x6) else ((ra_letter.f x7).bind fun t104 => (if t104 = true then (ra_Lex.l2 k x0 x5 x6 x6) else ((ra_digit.f x7).bind fun t114 => (if t114 = true then (ra_Lex.l3 k x0 x5 x6 x7 x6) else ((ra_sign.f k x0 x6).bind fun t130 => (if t130.toList = ([] : List UInt8) then (some (([] : List (S69)), 10, x6)) else (if x5.length < 4398046511104 then (ra_Lex.l0 k x0 (x5 ++ [(⟨4, t130, x6⟩ : S69)]) (wrap64 (x6 + (t130.size : Int)))) else (none)))))))))
def ra_Lex.l1 : Nat → ByteArray → List (S69) → Int → Option ((List (S69)) × Int × Int)
 | 0, _, _, _ => none
 | k + 1, x0, x5, x6 => if x6 < (x0.size : Int) then (if 0 ≤ x6 then (if (bt x0 x6) = 10 then (ra_Lex.l0 k x0 x5 x6) else (ra_Lex.l1 k x0 x5 (wrap64 (x6 + 1)))) else (none)) else (ra_Lex.l0 k x0 x5 x6)
def ra_Lex.j4 : Nat → ByteArray → List (S69) → Int → Int → Option ((List (S69)) × Int × Int)
 | 0, _, _, _, _ => none
 | k + 1, x0, x5, x6, x8 => if 0 ≤ x6 then (if x6 ≤ x8 then (if x8 ≤ (x0.size : Int) then ((ra_Key.f (x0.extract (x6 : Int).toNat (x8 : Int).toNat)).bind fun t107 => (if t107 = true then (if (wrap64 (x8 - x6)) > 20 then (some (([] : List (S69)), 9, x6)) else (if x5.length < 4398046511104 then (ra_Lex.l0 k x0 (x5 ++ [(⟨3, x0.extract (x6 : Int).toNat (x8 : Int).toNat, x6⟩ : S69)]) x8) else (none))) else (if (wrap64 (x8 - x6)) > 20 then (some (([] : List (S69)), 9, x6)) else (if x5.length < 4398046511104 then (ra_Lex.l0 k x0 (x5 ++ [(⟨1, x0.extract (x6 : Int).toNat (x8 : Int).toNat, x6⟩ : S69)]) x8) else (none))))) else (none)) else (none)) else (none)
def ra_Lex.l2 : Nat → ByteArray → List (S69) → Int → Int → Option ((List (S69)) × Int × Int)
 | 0, _, _, _, _ => none
 | k + 1, x0, x5, x6, x8 => if x8 < (x0.size : Int) then (if 0 ≤ x8 then ((ra_letter.f (bt x0 x8)).bind fun t105 => (if t105 = true then (ra_Lex.l2 k x0 x5 x6 (wrap64 (x8 + 1))) else ((ra_digit.f (bt x0 x8)).bind fun t106 => (if t106 = true then (ra_Lex.l2 k x0 x5 x6 (wrap64 (x8 + 1))) else (if (bt x0 x8) = 95 then (ra_Lex.l2 k x0 x5 x6 (wrap64 (x8 + 1))) else (ra_Lex.j4 k x0 x5 x6 x8)))))) else (none)) else (ra_Lex.j4 k x0 x5 x6 x8)
def ra_Lex.j6 : Nat → ByteArray → List (S69) → Int → Int → Int → Option ((List (S69)) × Int × Int)
 | 0, _, _, _, _, _ => none
 | k + 1, x0, x5, x6, x7, x10 => if (wrap64 (x10 - x6)) > 9 then (some (([] : List (S69)), 9, x6)) else (if (wrap64 (x10 - x6)) > 1 then (if x7 = 48 then (some (([] : List (S69)), 10, x6)) else (if x10 < (x0.size : Int) then (if 0 ≤ x10 then ((ra_letter.f (bt x0 x10)).bind fun t116 => (if t116 = true then (some (([] : List (S69)), 10, x6)) else (if (bt x0 x10) = 95 then (some (([] : List (S69)), 10, x6)) else (if 0 ≤ x6 then (if x6 ≤ x10 then (if x10 ≤ (x0.size : Int) then (if x5.length < 4398046511104 then (ra_Lex.l0 k x0 (x5 ++ [(⟨2, x0.extract (x6 : Int).toNat (x10 : Int).toNat, x6⟩ : S69)]) x10) else (none)) else (none)) else (none)) else (none))))) else (none)) else (if 0 ≤ x6 then (if x6 ≤ x10 then (if x10 ≤ (x0.size : Int) then (if x5.length < 4398046511104 then (ra_Lex.l0 k x0 (x5 ++ [(⟨2, x0.extract (x6 : Int).toNat (x10 : Int).toNat, x6⟩ : S69)]) x10) else (none)) else (none)) else (none)) else (none)))) else (if x10 < (x0.size : Int) then (if 0 ≤ x10 then ((ra_letter.f (bt x0 x10)).bind fun t123 => (if t123 = true then (some (([] : List (S69)), 10, x6)) else (if (bt x0 x10) = 95 then (some (([] : List (S69)), 10, x6)) else (if 0 ≤ x6 then (if x6 ≤ x10 then (if x10 ≤ (x0.size : Int) then (if x5.length < 4398046511104 then (ra_Lex.l0 k x0 (x5 ++ [(⟨2, x0.extract (x6 : Int).toNat (x10 : Int).toNat, x6⟩ : S69)]) x10) else (none)) else (none)) else (none)) else (none))))) else (none)) else (if 0 ≤ x6 then (if x6 ≤ x10 then (if x10 ≤ (x0.size : Int) then (if x5.length < 4398046511104 then (ra_Lex.l0 k x0 (x5 ++ [(⟨2, x0.extract (x6 : Int).toNat (x10 : Int).toNat, x6⟩ : S69)]) x10) else (none)) else (none)) else (none)) else (none))))
def ra_Lex.l3 : Nat → ByteArray → List (S69) → Int → Int → Int → Option ((List (S69)) × Int × Int)
 | 0, _, _, _, _, _ => none
 | k + 1, x0, x5, x6, x7, x10 => if x10 < (x0.size : Int) then (if 0 ≤ x10 then ((ra_digit.f (bt x0 x10)).bind fun t115 => (if t115 = true then (ra_Lex.l3 k x0 x5 x6 x7 (wrap64 (x10 + 1))) else (ra_Lex.j6 k x0 x5 x6 x7 x10))) else (none)) else (ra_Lex.j6 k x0 x5 x6 x7 x10)
end
def ra_Lex.f (k : Nat) (a0 : ByteArray) : Option ((List (S69)) × Int × Int) := if (a0.size : Int) > 8192 then (some (([] : List (S69)), 9, 8192)) else (ra_Lex.l0 k a0 ([] : List (S69)) 0)
theorem ra_Lex.mono_l : ∀ k, (∀ y0 y1 y2, LeO (ra_Lex.l0 k y0 y1 y2) (ra_Lex.l0 (k + 1) y0 y1 y2)) ∧ (∀ y0 y1 y2 y3 y4, LeO (ra_Lex.j1 k y0 y1 y2 y3 y4) (ra_Lex.j1 (k + 1) y0 y1 y2 y3 y4)) ∧ (∀ y0 y1 y2, LeO (ra_Lex.l1 k y0 y1 y2) (ra_Lex.l1 (k + 1) y0 y1 y2)) ∧ (∀ y0 y1 y2 y3, LeO (ra_Lex.j4 k y0 y1 y2 y3) (ra_Lex.j4 (k + 1) y0 y1 y2 y3)) ∧ (∀ y0 y1 y2 y3, LeO (ra_Lex.l2 k y0 y1 y2 y3) (ra_Lex.l2 (k + 1) y0 y1 y2 y3)) ∧ (∀ y0 y1 y2 y3 y4, LeO (ra_Lex.j6 k y0 y1 y2 y3 y4) (ra_Lex.j6 (k + 1) y0 y1 y2 y3 y4)) ∧ (∀ y0 y1 y2 y3 y4, LeO (ra_Lex.l3 k y0 y1 y2 y3 y4) (ra_Lex.l3 (k + 1) y0 y1 y2 y3 y4))
 | 0 => ⟨fun _ _ _ r h => by simp [ra_Lex.l0] at h, fun _ _ _ _ _ r h => by simp [ra_Lex.j1] at h, fun _ _ _ r h => by simp [ra_Lex.l1] at h, fun _ _ _ _ r h => by simp [ra_Lex.j4] at h, fun _ _ _ _ r h => by simp [ra_Lex.l2] at h, fun _ _ _ _ _ r h => by simp [ra_Lex.j6] at h, fun _ _ _ _ _ r h => by simp [ra_Lex.l3] at h⟩
 | k + 1 => by
  obtain ⟨ih0, ih1, ih2, ih3, ih4, ih5, ih6⟩ := ra_Lex.mono_l k
  refine ⟨?_, ?_, ?_, ?_, ?_, ?_, ?_⟩
  ·
   intro y0 y1 y2
   unfold ra_Lex.l0
   repeat' with_reducible first | apply ih0 | apply ih1 | apply ih2 | apply ih3 | apply ih4 | apply ih5 | apply ih6 | apply ra_sign.mono | exact LeO.refl _ | exact LeO.none _ | refine LeO.ite ?_ ?_ | refine LeO.bind ?_ (fun _ => ?_)
  ·
   intro y0 y1 y2 y3 y4
   unfold ra_Lex.j1
   repeat' with_reducible first | apply ih0 | apply ih1 | apply ih2 | apply ih3 | apply ih4 | apply ih5 | apply ih6 | apply ra_sign.mono | exact LeO.refl _ | exact LeO.none _ | refine LeO.ite ?_ ?_ | refine LeO.bind ?_ (fun _ => ?_)
  ·
   intro y0 y1 y2
   unfold ra_Lex.l1
   repeat' with_reducible first | apply ih0 | apply ih1 | apply ih2 | apply ih3 | apply ih4 | apply ih5 | apply ih6 | apply ra_sign.mono | exact LeO.refl _ | exact LeO.none _ | refine LeO.ite ?_ ?_ | refine LeO.bind ?_ (fun _ => ?_)
  ·
   intro y0 y1 y2 y3
   unfold ra_Lex.j4
   repeat' with_reducible first | apply ih0 | apply ih1 | apply ih2 | apply ih3 | apply ih4 | apply ih5 | apply ih6 | apply ra_sign.mono | exact LeO.refl _ | exact LeO.none _ | refine LeO.ite ?_ ?_ | refine LeO.bind ?_ (fun _ => ?_)
  ·
   intro y0 y1 y2 y3
   unfold ra_Lex.l2
   repeat' with_reducible first | apply ih0 | apply ih1 | apply ih2 | apply ih3 | apply ih4 | apply ih5 | apply ih6 | apply ra_sign.mono | exact LeO.refl _ | exact LeO.none _ | refine LeO.ite ?_ ?_ | refine LeO.bind ?_ (fun _ => ?_)
  ·
   intro y0 y1 y2 y3 y4
   unfold ra_Lex.j6
   repeat' with_reducible first | apply ih0 | apply ih1 | apply ih2 | apply ih3 | apply ih4 | apply ih5 | apply ih6 | apply ra_sign.mono | exact LeO.refl _ | exact LeO.none _ | refine LeO.ite ?_ ?_ | refine LeO.bind ?_ (fun _ => ?_)
  ·
   intro y0 y1 y2 y3 y4
   unfold ra_Lex.l3
   repeat' with_reducible first | apply ih0 | apply ih1 | apply ih2 | apply ih3 | apply ih4 | apply ih5 | apply ih6 | apply ra_sign.mono | exact LeO.refl _ | exact LeO.none _ | refine LeO.ite ?_ ?_ | refine LeO.bind ?_ (fun _ => ?_)
theorem ra_Lex.mono : ∀ a0 k, LeO (ra_Lex.f k a0) (ra_Lex.f (k + 1) a0) := by
 intro a0 k
 obtain ⟨ih0, ih1, ih2, ih3, ih4, ih5, ih6⟩ := ra_Lex.mono_l k
 unfold ra_Lex.f
 repeat' with_reducible first | apply ih0 | apply ih1 | apply ih2 | apply ih3 | apply ih4 | apply ih5 | apply ih6 | apply ra_sign.mono | exact LeO.refl _ | exact LeO.none _ | refine LeO.ite ?_ ?_ | refine LeO.bind ?_ (fun _ => ?_)
theorem ra_Lex.calls (k : Nat) (a0 : ByteArray) (r1 : List (S69)) (r2 : Int) (r3 : Int) (w : World) (h : ra_Lex.f k a0 = some (r1, r2, r3)) :
  Calls Try.prog 13 #[.string a0] w fun e w' => ∃ v0_ : Value, e = .returned (.tuple #[v0_, .int .i64 r2, .int .i64 r3]) ∧ Kd.R k69 69 w' w.heap.size (fun _ => True) v0_ r1 ∧ Below w.heap.size w w' := by
 have hu69 := Try.underlying69
 have HB := za (Below.refl w.heap.size w)
 have H : (if (a0.size : Int) > 8192 then (some (([] : List (S69)), 9, 8192)) else (ra_Lex.l0 k a0 ([] : List (S69)) 0)) = some (r1, r2, r3) := h
 clear h
 by_cases c2 : (a0.size : Int) > 8192
 ·
  rw [if_pos c2] at H
  have c2b0 : decide (8192 < (a0.size : Int)) = true := decide_eq_true c2
  have c2b1 : decide (8192 < a0.size) = true := decide_eq_true (by omega)
  clear c2
  as_aux_lemma =>
   simp only [Option.some.injEq, Prod.mk.injEq] at H
   obtain ⟨rfl, rfl, rfl⟩ := H
   go_enter Try.func13, Try.ntmps13
   go_wp2
   go_ret3
   exact ⟨_, zq16, zq22, zq4⟩
 ·
  rw [if_neg c2] at H
  have c2b0 : decide (8192 < (a0.size : Int)) = false := decide_eq_false c2
  have c2b1 : decide (8192 < a0.size) = false := decide_eq_false (by omega)
  clear c2
  have H' := za H
  clear H
  go_enter Try.func13, Try.ntmps13
  go_wp2
  go_loopg [5, 6] k (fun kq v5 v6 w' => ∃ (x5_1 : List (S69)) (x6_1 : Int), v6 = .int .i64 x6_1 ∧ Aside0 (ra_Lex.l0 kq a0 x5_1 x6_1 = some (r1, r2, r3)) ∧ Aside0 (kq ≤ k) ∧ Aside0 (Kd.R k69 69 w' w.heap.size (fun _ => True) v5 x5_1) ∧ Aside0 (Below w.heap.size w w'))
  case atStart => exact ⟨(([] : List (S69))), (0), zq29, H', ⟨Nat.le_refl _⟩, ⟨zq22⟩, ⟨zq4⟩⟩
  case round =>
   clear H'
   obtain ⟨x5_1, x6_1, rfl, HA, HK1, HO_5, HB⟩ := hrel
   cases gk with
   | zero => exact absurd HA.out (by simp [ra_Lex.l0])
   | succ k1 =>
    have H := HA.out
    clear HA
    simp only [ra_Lex.l0] at H
    by_cases c3 : x6_1 < (a0.size : Int)
    ·
     rw [if_pos c3] at H
     have c3b0 := decide_eq_true c3
     clear c3
     by_cases c4 : 0 ≤ x6_1
     ·
      rw [if_pos c4] at H
      have c4b0 := decide_eq_true c4
      clear c4
      have HC6 := za H
      clear H
      have p5 : 0 ≤ (x6_1 : Int) := of_decide_eq_true zq11
      have q5 : x6_1 < (a0.size : Int) := of_decide_eq_true zq11
      have hx5 := bt_at a0 x6_1
      replace p5 := eq_true p5
      replace q5 := eq_true q5
      go_upto_region 12 with (fail)
      go_cut [38] (fun v38 wc => ∃ (kq : Nat) (x38_5 : Bool), v38 = .bool x38_5 ∧ Aside0 (ra_Lex.j1 kq a0 x5_1 x6_1 (bt a0 x6_1) x38_5 = some (r1, r2, r3)) ∧ Aside0 (kq ≤ k1) ∧ Aside0 (Kd.R k69 69 wc w.heap.size (fun _ => True) u5 x5_1) ∧ Aside0 (Below w.heap.size w wc))
      case first =>
       have H := HC6.out
       clear HC6
       by_cases c7 : (bt a0 x6_1) = 32
       ·
        rw [if_pos c7] at H
        have c7b0 := beq_iff_eq.mpr c7
        have c7b1 := bne_eq_false_iff_eq.mpr c7
        clear c7
        (first | rw [c7b0] | (simp only [i64_w, i32_w]; rw [c7b0]) | skip)
        as_aux_lemma =>
         have H' := za H
         clear H
         go_wp2
         go_meet
         case rel => exact ⟨_, (true), zq29, H', ⟨by have := HK1.out; first | omega | exact Nat.le_refl _⟩, ⟨zq35⟩, ⟨zq4⟩⟩
       ·
        rw [if_neg c7] at H
        have c7b0 := beq_eq_false_iff_ne.mpr c7
        have c7b1 := bne_iff_ne.mpr c7
        (first | rw [c7b0] | (simp only [i64_w, i32_w]; rw [c7b0]) | skip)
        by_cases c8 : (bt a0 x6_1) = 9
        ·
         rw [if_pos c8] at H
         have c8b0 := beq_iff_eq.mpr c8
         have c8b1 := bne_eq_false_iff_eq.mpr c8
         clear c8
         as_aux_lemma =>
          have H' := za H
          clear H
          go_wp2
          go_meet
          case rel => exact ⟨_, (true), zq29, H', ⟨by have := HK1.out; first | omega | exact Nat.le_refl _⟩, ⟨zq35⟩, ⟨zq4⟩⟩
        ·
         rw [if_neg c8] at H
         have c8b0 := beq_eq_false_iff_ne.mpr c8
         have c8b1 := bne_iff_ne.mpr c8
         by_cases c9 : (bt a0 x6_1) = 10
         ·
          rw [if_pos c9] at H
          have c9b0 := beq_iff_eq.mpr c9
          have c9b1 := bne_eq_false_iff_eq.mpr c9
          clear c9
          as_aux_lemma =>
           have H' := za H
           clear H
           go_wp2
           go_meet
           case rel => exact ⟨_, (true), zq29, H', ⟨by have := HK1.out; first | omega | exact Nat.le_refl _⟩, ⟨zq35⟩, ⟨zq4⟩⟩
         ·
          rw [if_neg c9] at H
          have c9b0 := beq_eq_false_iff_ne.mpr c9
          have c9b1 := bne_iff_ne.mpr c9
          as_aux_lemma =>
           have H' := za H
           clear H
           go_wp2
           go_meet
           case rel => exact ⟨_, (((bt a0 x6_1) == 13)), zq29, H', ⟨by have := HK1.out; first | omega | exact Nat.le_refl _⟩, ⟨zq35⟩, ⟨zq4⟩⟩
      case rest =>
       clear HC6
       obtain ⟨kq, x38_5, rfl, HA, HJ5, HO_5, HB⟩ := hcut
       cases kq with
       | zero => exact absurd HA.out (by simp [ra_Lex.j1])
       | succ kj5 =>
        have H := HA.out
        clear HA
        simp only [ra_Lex.j1] at H
        by_cases c10 : x38_5 = true
        ·
         subst c10
         rw [if_pos rfl] at H
         as_aux_lemma =>
          have H' := za H
          clear H
          go_wp2
          go_roundg kj5
          case measure => have := HK1.out; have := HJ5.out; omega
          case rel => exact ⟨(x5_1), (wrap64 (x6_1 + 1)), zq29, H', ⟨by have := HK1.out; have := HJ5.out; omega⟩, ⟨zq35⟩, ⟨zq4⟩⟩
        ·
         replace c10 := Bool.eq_false_iff.mpr c10
         subst c10
         rw [if_neg (show ¬ (false = true) by decide)] at H
         by_cases c11 : (bt a0 x6_1) = 35
         ·
          rw [if_pos c11] at H
          have c11b0 := beq_iff_eq.mpr c11
          have c11b1 := bne_eq_false_iff_eq.mpr c11
          clear c11
          have H' := za H
          clear H
          go_wp2
          go_loopg [6] kj5 (fun kq v6 w' => ∃ (x6_3 : Int), v6 = .int .i64 x6_3 ∧ Aside0 (ra_Lex.l1 kq a0 x5_1 x6_3 = some (r1, r2, r3)) ∧ Aside0 (kq ≤ kj5) ∧ Aside0 (Kd.R k69 69 w' w.heap.size (fun _ => True) u5 x5_1) ∧ Aside0 (Below w.heap.size w w'))
          case atStart => exact ⟨(x6_1), zq29, H', ⟨Nat.le_refl _⟩, ⟨zq35⟩, ⟨zq4⟩⟩
          case round =>
           clear H'
           obtain ⟨x6_3, rfl, HA, HK3, HO_5, HB⟩ := hrel
           cases gk with
           | zero => exact absurd HA.out (by simp [ra_Lex.l1])
           | succ k3 =>
            have H := HA.out
            clear HA
            simp only [ra_Lex.l1] at H
            by_cases c12 : x6_3 < (a0.size : Int)
            ·
             rw [if_pos c12] at H
             have c12b0 := decide_eq_true c12
             clear c12
             by_cases c13 : 0 ≤ x6_3
             ·
              rw [if_pos c13] at H
              have c13b0 := decide_eq_true c13
              clear c13
              by_cases c15 : (bt a0 x6_3) = 10
              ·
               rw [if_pos c15] at H
               have c15b0 := beq_iff_eq.mpr c15
               have c15b1 := bne_eq_false_iff_eq.mpr c15
               clear c15
               as_aux_lemma =>
                have H' := za H
                clear H
                have p14 : 0 ≤ (x6_3 : Int) := of_decide_eq_true zq11
                have q14 : x6_3 < (a0.size : Int) := of_decide_eq_true zq11
                have hx14 := bt_at a0 x6_3
                replace p14 := eq_true p14
                replace q14 := eq_true q14
                go_wp2
                go_roundg k3
                case measure => have := HK1.out; have := HJ5.out; have := HK3.out; omega
                case rel => exact ⟨(x5_1), (x6_3), zq29, H', ⟨by have := HK1.out; have := HJ5.out; have := HK3.out; omega⟩, ⟨zq35⟩, ⟨zq4⟩⟩
              ·
               rw [if_neg c15] at H
               have c15b0 := beq_eq_false_iff_ne.mpr c15
               have c15b1 := bne_iff_ne.mpr c15
               as_aux_lemma =>
                have H' := za H
                clear H
                have p14 : 0 ≤ (x6_3 : Int) := of_decide_eq_true zq11
                have q14 : x6_3 < (a0.size : Int) := of_decide_eq_true zq11
                have hx14 := bt_at a0 x6_3
                replace p14 := eq_true p14
                replace q14 := eq_true q14
                go_wp2
                go_roundg k3
                case measure => have := HK1.out; have := HJ5.out; have := HK3.out; omega
                case rel => exact ⟨(wrap64 (x6_3 + 1)), zq29, H', ⟨by have := HK1.out; have := HJ5.out; have := HK3.out; omega⟩, ⟨zq35⟩, ⟨zq4⟩⟩
             ·
              rw [if_neg c13] at H
              exact absurd H (by simp)
            ·
             rw [if_neg c12] at H
             have c12b0 := decide_eq_false c12
             clear c12
             as_aux_lemma =>
              have H' := za H
              clear H
              go_wp2
              go_roundg k3
              case measure => have := HK1.out; have := HJ5.out; have := HK3.out; omega
              case rel => exact ⟨(x5_1), (x6_3), zq29, H', ⟨by have := HK1.out; have := HJ5.out; have := HK3.out; omega⟩, ⟨zq35⟩, ⟨zq4⟩⟩
         ·
          rw [if_neg c11] at H
          have c11b0 := beq_eq_false_iff_ne.mpr c11
          have c11b1 := bne_iff_ne.mpr c11
          replace H := Option.bind_eq_some_iff.mp H
          obtain ⟨t104, A160, H⟩ := H
          (try dsimp only at H)
          have A16 := za A160
          clear A160
          by_cases c17 : t104 = true
          ·
           subst c17
           rw [if_pos rfl] at H
           have HC18 := za H
           clear H
           go_upto_block 5 with (first | ((with_reducible refine gate_callee (f := 17) rfl ?_); refine goesL_ (some 72) rfl rfl Try.func17 zq18 rfl #[.int .u8 (bt a0 x6_1)] rfl zq1 ?_; (with_reducible refine (ra_letter.calls (bt a0 x6_1) true _ A16.out).mono ?_); rintro e w' ⟨rfl, ⟨nd, rfl⟩⟩; refine ⟨_, rfl, ?_⟩))
           (try simp only [Act.put, List.setIfInBounds_toArray, List.set_cons_zero, List.set_cons_succ])
           go_cut [8] (fun v8 wc => ∃ (kq : Nat) (x8_17 : Int), v8 = .int .i64 x8_17 ∧ Aside0 (ra_Lex.j4 kq a0 x5_1 x6_1 x8_17 = some (r1, r2, r3)) ∧ Aside0 (kq ≤ kj5) ∧ Aside0 (Kd.R k69 69 wc w.heap.size (fun _ => True) u5 x5_1) ∧ Aside0 (Below w.heap.size w wc))
           case first =>
            have H := HC18.out
            clear HC18
            have H' := za H
            clear H
            go_wp2
            go_loopg [8] kj5 (fun kq v8 w' => ∃ (x8_3 : Int), v8 = .int .i64 x8_3 ∧ Aside0 (ra_Lex.l2 kq a0 x5_1 x6_1 x8_3 = some (r1, r2, r3)) ∧ Aside0 (kq ≤ kj5) ∧ Aside0 (Kd.R k69 69 w' w.heap.size (fun _ => True) u5 x5_1) ∧ Aside0 (Below w.heap.size w w'))
            case atStart => exact ⟨(x6_1), zq29, H', ⟨Nat.le_refl _⟩, ⟨zq35⟩, ⟨zq4⟩⟩
            case round =>
             clear H'
             obtain ⟨x8_3, rfl, HA, HK3, HO_5, HB⟩ := hrel
             cases gk with
             | zero => exact absurd HA.out (by simp [ra_Lex.l2])
             | succ k3 =>
              have H := HA.out
              clear HA
              simp only [ra_Lex.l2] at H
              by_cases c19 : x8_3 < (a0.size : Int)
              ·
               rw [if_pos c19] at H
               have c19b0 := decide_eq_true c19
               clear c19
               (first | rw [c19b0] | (simp only [i64_w, i32_w]; rw [c19b0]) | skip)
               by_cases c20 : 0 ≤ x8_3
               ·
                rw [if_pos c20] at H
                have c20b0 := decide_eq_true c20
                clear c20
                replace H := Option.bind_eq_some_iff.mp H
                obtain ⟨t105, A220, H⟩ := H
                (try dsimp only at H)
                have A22 := za A220
                clear A220
                by_cases c23 : t105 = true
                ·
                 subst c23
                 rw [if_pos rfl] at H
                 as_aux_lemma =>
                  have H' := za H
                  clear H
                  have p21 : 0 ≤ (x8_3 : Int) := of_decide_eq_true zq11
                  have q21 : x8_3 < (a0.size : Int) := of_decide_eq_true zq11
                  have hx21 := bt_at a0 x8_3
                  replace p21 := eq_true p21
                  replace q21 := eq_true q21
                  go_wp2_with (first | ((with_reducible refine gate_callee (f := 17) rfl ?_); (with_reducible refine gate_dst (N := 82) rfl ?_); (refine gate_guard (by rfl) ?_; dsimp only); refine goesL_ (some 82) rfl rfl Try.func17 zq18 rfl #[.int .u8 (bt a0 x8_3)] rfl zq1 ?_; (with_reducible refine (ra_letter.calls (bt a0 x8_3) true _ A22.out).mono ?_); rintro e w' ⟨rfl, ⟨nd, rfl⟩⟩; refine ⟨_, rfl, ?_⟩))
                  go_roundg k3
                  case measure => have := HK1.out; have := HJ5.out; have := HK3.out; omega
                  case rel => exact ⟨(wrap64 (x8_3 + 1)), zq29, H', ⟨by have := HK1.out; have := HJ5.out; have := HK3.out; omega⟩, ⟨zq35⟩, ⟨zq4⟩⟩
                ·
                 replace c23 := Bool.eq_false_iff.mpr c23
                 subst c23
                 rw [if_neg (show ¬ (false = true) by decide)] at H
                 replace H := Option.bind_eq_some_iff.mp H
                 obtain ⟨t106, A250, H⟩ := H
                 (try dsimp only at H)
                 have A25 := za A250
                 clear A250
                 by_cases c26 : t106 = true
                 ·
                  subst c26
                  rw [if_pos rfl] at H
                  as_aux_lemma =>
                   have H' := za H
                   clear H
                   have p21 : 0 ≤ (x8_3 : Int) := of_decide_eq_true zq11
                   have q21 : x8_3 < (a0.size : Int) := of_decide_eq_true zq11
                   have hx21 := bt_at a0 x8_3
                   replace p21 := eq_true p21
                   replace q21 := eq_true q21
                   go_wp2_with (first | ((with_reducible refine gate_callee (f := 17) rfl ?_); (with_reducible refine gate_dst (N := 82) rfl ?_); (refine gate_guard (by rfl) ?_; dsimp only); refine goesL_ (some 82) rfl rfl Try.func17 zq18 rfl #[.int .u8 (bt a0 x8_3)] rfl zq1 ?_; (with_reducible refine (ra_letter.calls (bt a0 x8_3) false _ A22.out).mono ?_); rintro e w' ⟨rfl, ⟨nd, rfl⟩⟩; refine ⟨_, rfl, ?_⟩; have p24 : 0 ≤ (x8_3 : Int) := of_decide_eq_true zq11; have q24 : x8_3 < (a0.size : Int) := of_decide_eq_true zq11; have hx24 := bt_at a0 x8_3; replace p24 := eq_true p24; replace q24 := eq_true q24) | ((with_reducible refine gate_callee (f := 18) rfl ?_); (with_reducible refine gate_dst (N := 87) rfl ?_); (refine gate_guard (by rfl) ?_; dsimp only); refine goesL_ (some 87) rfl rfl Try.func18 zq18 rfl #[.int .u8 (bt a0 x8_3)] rfl zq1 ?_; (with_reducible refine (ra_digit.calls (bt a0 x8_3) true _ A25.out).mono ?_); rintro e w' ⟨rfl, ⟨nd, rfl⟩⟩; refine ⟨_, rfl, ?_⟩))
                   go_roundg k3
                   case measure => have := HK1.out; have := HJ5.out; have := HK3.out; omega
                   case rel => exact ⟨(wrap64 (x8_3 + 1)), zq29, H', ⟨by have := HK1.out; have := HJ5.out; have := HK3.out; omega⟩, ⟨zq35⟩, ⟨zq4⟩⟩
                 ·
                  replace c26 := Bool.eq_false_iff.mpr c26
                  subst c26
                  rw [if_neg (show ¬ (false = true) by decide)] at H
                  by_cases c28 : (bt a0 x8_3) = 95
                  ·
                   rw [if_pos c28] at H
                   have c28b0 := beq_iff_eq.mpr c28
                   have c28b1 := bne_eq_false_iff_eq.mpr c28
                   clear c28
                   as_aux_lemma =>
                    have H' := za H
                    clear H
                    have p21 : 0 ≤ (x8_3 : Int) := of_decide_eq_true zq11
                    have q21 : x8_3 < (a0.size : Int) := of_decide_eq_true zq11
                    have hx21 := bt_at a0 x8_3
                    replace p21 := eq_true p21
                    replace q21 := eq_true q21
                    go_wp2_with (first | ((with_reducible refine gate_callee (f := 17) rfl ?_); (with_reducible refine gate_dst (N := 82) rfl ?_); (refine gate_guard (by rfl) ?_; dsimp only); refine goesL_ (some 82) rfl rfl Try.func17 zq18 rfl #[.int .u8 (bt a0 x8_3)] rfl zq1 ?_; (with_reducible refine (ra_letter.calls (bt a0 x8_3) false _ A22.out).mono ?_); rintro e w' ⟨rfl, ⟨nd, rfl⟩⟩; refine ⟨_, rfl, ?_⟩; have p24 : 0 ≤ (x8_3 : Int) := of_decide_eq_true zq11; have q24 : x8_3 < (a0.size : Int) := of_decide_eq_true zq11; have hx24 := bt_at a0 x8_3; replace p24 := eq_true p24; replace q24 := eq_true q24) | ((with_reducible refine gate_callee (f := 18) rfl ?_); (with_reducible refine gate_dst (N := 87) rfl ?_); (refine gate_guard (by rfl) ?_; dsimp only); refine goesL_ (some 87) rfl rfl Try.func18 zq18 rfl #[.int .u8 (bt a0 x8_3)] rfl zq1 ?_; (with_reducible refine (ra_digit.calls (bt a0 x8_3) false _ A25.out).mono ?_); rintro e w' ⟨rfl, ⟨nd, rfl⟩⟩; refine ⟨_, rfl, ?_⟩; have p27 : 0 ≤ (x8_3 : Int) := of_decide_eq_true zq11; have q27 : x8_3 < (a0.size : Int) := of_decide_eq_true zq11; have hx27 := bt_at a0 x8_3; replace p27 := eq_true p27; replace q27 := eq_true q27))
                    go_roundg k3
                    case measure => have := HK1.out; have := HJ5.out; have := HK3.out; omega
                    case rel => exact ⟨(wrap64 (x8_3 + 1)), zq29, H', ⟨by have := HK1.out; have := HJ5.out; have := HK3.out; omega⟩, ⟨zq35⟩, ⟨zq4⟩⟩
                  ·
                   rw [if_neg c28] at H
                   have c28b0 := beq_eq_false_iff_ne.mpr c28
                   have c28b1 := bne_iff_ne.mpr c28
                   as_aux_lemma =>
                    have H' := za H
                    clear H
                    have p21 : 0 ≤ (x8_3 : Int) := of_decide_eq_true zq11
                    have q21 : x8_3 < (a0.size : Int) := of_decide_eq_true zq11
                    have hx21 := bt_at a0 x8_3
                    replace p21 := eq_true p21
                    replace q21 := eq_true q21
                    go_wp2_with (first | ((with_reducible refine gate_callee (f := 17) rfl ?_); (with_reducible refine gate_dst (N := 82) rfl ?_); (refine gate_guard (by rfl) ?_; dsimp only); refine goesL_ (some 82) rfl rfl Try.func17 zq18 rfl #[.int .u8 (bt a0 x8_3)] rfl zq1 ?_; (with_reducible refine (ra_letter.calls (bt a0 x8_3) false _ A22.out).mono ?_); rintro e w' ⟨rfl, ⟨nd, rfl⟩⟩; refine ⟨_, rfl, ?_⟩; have p24 : 0 ≤ (x8_3 : Int) := of_decide_eq_true zq11; have q24 : x8_3 < (a0.size : Int) := of_decide_eq_true zq11; have hx24 := bt_at a0 x8_3; replace p24 := eq_true p24; replace q24 := eq_true q24) | ((with_reducible refine gate_callee (f := 18) rfl ?_); (with_reducible refine gate_dst (N := 87) rfl ?_); (refine gate_guard (by rfl) ?_; dsimp only); refine goesL_ (some 87) rfl rfl Try.func18 zq18 rfl #[.int .u8 (bt a0 x8_3)] rfl zq1 ?_; (with_reducible refine (ra_digit.calls (bt a0 x8_3) false _ A25.out).mono ?_); rintro e w' ⟨rfl, ⟨nd, rfl⟩⟩; refine ⟨_, rfl, ?_⟩; have p27 : 0 ≤ (x8_3 : Int) := of_decide_eq_true zq11; have q27 : x8_3 < (a0.size : Int) := of_decide_eq_true zq11; have hx27 := bt_at a0 x8_3; replace p27 := eq_true p27; replace q27 := eq_true q27))
                    go_meet
                    case rel => exact ⟨_, (x8_3), zq29, H', ⟨by have := HK1.out; have := HJ5.out; have := HK3.out; first | omega | exact Nat.le_refl _⟩, ⟨zq35⟩, ⟨zq4⟩⟩
               ·
                rw [if_neg c20] at H
                exact absurd H (by simp)
              ·
               rw [if_neg c19] at H
               have c19b0 := decide_eq_false c19
               clear c19
               (first | rw [c19b0] | (simp only [i64_w, i32_w]; rw [c19b0]) | skip)
               as_aux_lemma =>
                have H' := za H
                clear H
                go_wp2
                go_meet
                case rel => exact ⟨_, (x8_3), zq29, H', ⟨by have := HK1.out; have := HJ5.out; have := HK3.out; first | omega | exact Nat.le_refl _⟩, ⟨zq35⟩, ⟨zq4⟩⟩
           case rest =>
            clear HC18
            obtain ⟨kq, x8_17, rfl, HA, HJ17, HO_5, HB⟩ := hcut
            cases kq with
            | zero => exact absurd HA.out (by simp [ra_Lex.j4])
            | succ kj17 =>
             have H := HA.out
             clear HA
             simp only [ra_Lex.j4] at H
             by_cases c29 : 0 ≤ x6_1
             ·
              rw [if_pos c29] at H
              have c29b0 := eq_true c29
              have c29b1 := decide_eq_true c29
              clear c29
              by_cases c30 : x6_1 ≤ x8_17
              ·
               rw [if_pos c30] at H
               have c30b0 := eq_true c30
               have c30b1 := decide_eq_true c30
               clear c30
               by_cases c31 : x8_17 ≤ (a0.size : Int)
               ·
                rw [if_pos c31] at H
                have c31b0 := eq_true c31
                have c31b1 := decide_eq_true c31
                clear c31
                replace H := Option.bind_eq_some_iff.mp H
                obtain ⟨t107, A320, H⟩ := H
                (try dsimp only at H)
                have A32 := za A320
                clear A320
                by_cases c33 : t107 = true
                ·
                 subst c33
                 rw [if_pos rfl] at H
                 by_cases c34 : (wrap64 (x8_17 - x6_1)) > 20
                 ·
                  rw [if_pos c34] at H
                  have c34b0 : decide (20 < (wrap64 (x8_17 - x6_1))) = true := decide_eq_true c34
                  clear c34
                  as_aux_lemma =>
                   simp only [Option.some.injEq, Prod.mk.injEq] at H
                   obtain ⟨rfl, rfl, rfl⟩ := H
                   go_wp2_with (first | ((with_reducible refine gate_callee (f := 19) rfl ?_); refine goesL_ (some 102) rfl rfl Try.func19 zq18 rfl #[.string (a0.extract (x6_1 : Int).toNat (x8_17 : Int).toNat)] rfl zq1 ?_; (with_reducible refine (ra_Key.calls (a0.extract (x6_1 : Int).toNat (x8_17 : Int).toNat) true _ A32.out).mono ?_); rintro e w' ⟨rfl, ⟨nd, rfl⟩⟩; refine ⟨_, rfl, ?_⟩))
                   go_ret3
                   exact ⟨_, zq16, zq22, zq4⟩
                 ·
                  rw [if_neg c34] at H
                  have c34b0 : decide (20 < (wrap64 (x8_17 - x6_1))) = false := decide_eq_false c34
                  clear c34
                  have c35b0 := eq_true (of_decide_eq_true zq11 : 0 ≤ x6_1)
                  have c36b0 := eq_true (of_decide_eq_true zq11 : x6_1 ≤ x8_17)
                  have c37b0 := eq_true (of_decide_eq_true zq11 : x8_17 ≤ (a0.size : Int))
                  by_cases c38 : x5_1.length < 4398046511104
                  ·
                   rw [if_pos c38] at H
                   have LMc38 := za c38
                   clear c38
                   obtain ⟨y108, hy108⟩ : ∃ y_ : List (S69), y_ = (x5_1 ++ [(⟨3, a0.extract (x6_1 : Int).toNat (x8_17 : Int).toNat, x6_1⟩ : S69)]) := ⟨_, rfl⟩
                   replace H : (ra_Lex.l0 kj17 a0 y108 x8_17) = some (r1, r2, r3) := by first | (rw [hy108]; with_reducible exact H) | (have H2_ := (Option.bind_some _ _).symm.trans H; rw [hy108]; with_reducible exact H2_) | (have H2_ := (Option.bind_some _ _).symm.trans H; with_reducible exact H2_) | with_reducible exact H | (rw [hy108]; exact H) | exact H
                   have Ny108 := za hy108
                   clear hy108
                   as_aux_lemma =>
                    have H' := za H
                    clear H
                    go_wp2_with (first | ((with_reducible refine gate_callee (f := 19) rfl ?_); refine goesL_ (some 102) rfl rfl Try.func19 zq18 rfl #[.string (a0.extract (x6_1 : Int).toNat (x8_17 : Int).toNat)] rfl zq1 ?_; (with_reducible refine (ra_Key.calls (a0.extract (x6_1 : Int).toNat (x8_17 : Int).toNat) true _ A32.out).mono ?_); rintro e w' ⟨rfl, ⟨nd, rfl⟩⟩; refine ⟨_, rfl, ?_⟩) | ((with_reducible refine gate_builtin (b := .append) (xs := #[.tmp 108, .tmp 116]) rfl ?_); (try (refine gate_guard (by rfl) ?_; dsimp only)); at_builtin; refine Kd.R_append k69 (w0 := w) w.heap.size rfl (.tmp 108) (.tmp 116) 52 69 (.agg #[(.int .i64 0), (.string ⟨#[]⟩), (.int .i64 0)]) 32 rfl Try.underlying52 info69 rfl (by decide) (by omega) u5 x5_1 (⟨3, a0.extract (x6_1 : Int).toNat (x8_17 : Int).toNat, x6_1⟩ : S69) [.int .i64 3, .string (a0.extract (x6_1 : Int).toNat (x8_17 : Int).toNat), .int .i64 x6_1] (fun _ => True) (fun _ => False) rfl rfl ?aP (fun _ hk => hk.elim) ?aF ?aO ?aB ?aS ?aL ?_; (case aP => exact k69_mkM _ _ _ (⟨3, a0.extract (x6_1 : Int).toNat (x8_17 : Int).toNat, x6_1⟩ : S69)); (case aB => exact zq4); (case aF => exact (fun _ _ => trivial)); (case aO => exact (zr HO_5.out)); (case aS => exact (below_size zq4)); (case aL => have := LMc38.out; omega); intro v109 w39 ho hb hg hat; rw [← Ny108.out] at ho; replace HB := za (hb); have HO110 := za (ho); clear HO_5; clear ho hb hg hat))
                    go_roundg kj17
                    case measure => have := HK1.out; have := HJ5.out; have := HJ17.out; omega
                    case rel => exact ⟨(y108), (x8_17), zq29, H', ⟨by have := HK1.out; have := HJ5.out; have := HJ17.out; omega⟩, ⟨by (with_reducible repeat (first | apply Kd.R_alloc | apply Kd.R_drewN | apply Kd.R_drew)); exact HO110.out⟩, ⟨zq4⟩⟩
                  ·
                   rw [if_neg c38] at H
                   exact absurd H (by simp)
                ·
                 replace c33 := Bool.eq_false_iff.mpr c33
                 subst c33
                 rw [if_neg (show ¬ (false = true) by decide)] at H
                 by_cases c40 : (wrap64 (x8_17 - x6_1)) > 20
                 ·
                  rw [if_pos c40] at H
                  have c40b0 : decide (20 < (wrap64 (x8_17 - x6_1))) = true := decide_eq_true c40
                  clear c40
                  as_aux_lemma =>
                   simp only [Option.some.injEq, Prod.mk.injEq] at H
                   obtain ⟨rfl, rfl, rfl⟩ := H
                   go_wp2_with (first | ((with_reducible refine gate_callee (f := 19) rfl ?_); refine goesL_ (some 102) rfl rfl Try.func19 zq18 rfl #[.string (a0.extract (x6_1 : Int).toNat (x8_17 : Int).toNat)] rfl zq1 ?_; (with_reducible refine (ra_Key.calls (a0.extract (x6_1 : Int).toNat (x8_17 : Int).toNat) false _ A32.out).mono ?_); rintro e w' ⟨rfl, ⟨nd, rfl⟩⟩; refine ⟨_, rfl, ?_⟩))
                   go_ret3
                   exact ⟨_, zq16, zq22, zq4⟩
                 ·
                  rw [if_neg c40] at H
                  have c40b0 : decide (20 < (wrap64 (x8_17 - x6_1))) = false := decide_eq_false c40
                  clear c40
                  have c41b0 := eq_true (of_decide_eq_true zq11 : 0 ≤ x6_1)
                  have c42b0 := eq_true (of_decide_eq_true zq11 : x6_1 ≤ x8_17)
                  have c43b0 := eq_true (of_decide_eq_true zq11 : x8_17 ≤ (a0.size : Int))
                  by_cases c44 : x5_1.length < 4398046511104
                  ·
                   rw [if_pos c44] at H
                   have LMc44 := za c44
                   clear c44
                   obtain ⟨y111, hy111⟩ : ∃ y_ : List (S69), y_ = (x5_1 ++ [(⟨1, a0.extract (x6_1 : Int).toNat (x8_17 : Int).toNat, x6_1⟩ : S69)]) := ⟨_, rfl⟩
                   replace H : (ra_Lex.l0 kj17 a0 y111 x8_17) = some (r1, r2, r3) := by first | (rw [hy111]; with_reducible exact H) | (have H2_ := (Option.bind_some _ _).symm.trans H; rw [hy111]; with_reducible exact H2_) | (have H2_ := (Option.bind_some _ _).symm.trans H; with_reducible exact H2_) | with_reducible exact H | (rw [hy111]; exact H) | exact H
                   have Ny111 := za hy111
                   clear hy111
                   as_aux_lemma =>
                    have H' := za H
                    clear H
                    go_wp2_with (first | ((with_reducible refine gate_callee (f := 19) rfl ?_); refine goesL_ (some 102) rfl rfl Try.func19 zq18 rfl #[.string (a0.extract (x6_1 : Int).toNat (x8_17 : Int).toNat)] rfl zq1 ?_; (with_reducible refine (ra_Key.calls (a0.extract (x6_1 : Int).toNat (x8_17 : Int).toNat) false _ A32.out).mono ?_); rintro e w' ⟨rfl, ⟨nd, rfl⟩⟩; refine ⟨_, rfl, ?_⟩) | ((with_reducible refine gate_builtin (b := .append) (xs := #[.tmp 108, .tmp 116]) rfl ?_); (try (refine gate_guard (by rfl) ?_; dsimp only)); at_builtin; refine Kd.R_append k69 (w0 := w) w.heap.size rfl (.tmp 108) (.tmp 116) 52 69 (.agg #[(.int .i64 0), (.string ⟨#[]⟩), (.int .i64 0)]) 32 rfl Try.underlying52 info69 rfl (by decide) (by omega) u5 x5_1 (⟨1, a0.extract (x6_1 : Int).toNat (x8_17 : Int).toNat, x6_1⟩ : S69) [.int .i64 1, .string (a0.extract (x6_1 : Int).toNat (x8_17 : Int).toNat), .int .i64 x6_1] (fun _ => True) (fun _ => False) rfl rfl ?aP (fun _ hk => hk.elim) ?aF ?aO ?aB ?aS ?aL ?_; (case aP => exact k69_mkM _ _ _ (⟨1, a0.extract (x6_1 : Int).toNat (x8_17 : Int).toNat, x6_1⟩ : S69)); (case aB => exact zq4); (case aF => exact (fun _ _ => trivial)); (case aO => exact (zr HO_5.out)); (case aS => exact (below_size zq4)); (case aL => have := LMc44.out; omega); intro v112 w45 ho hb hg hat; rw [← Ny111.out] at ho; replace HB := za (hb); have HO113 := za (ho); clear HO_5; clear ho hb hg hat))
                    go_roundg kj17
                    case measure => have := HK1.out; have := HJ5.out; have := HJ17.out; omega
                    case rel => exact ⟨(y111), (x8_17), zq29, H', ⟨by have := HK1.out; have := HJ5.out; have := HJ17.out; omega⟩, ⟨by (with_reducible repeat (first | apply Kd.R_alloc | apply Kd.R_drewN | apply Kd.R_drew)); exact HO113.out⟩, ⟨zq4⟩⟩
                  ·
                   rw [if_neg c44] at H
                   exact absurd H (by simp)
               ·
                rw [if_neg c31] at H
                exact absurd H (by simp)
              ·
               rw [if_neg c30] at H
               exact absurd H (by simp)
             ·
              rw [if_neg c29] at H
              exact absurd H (by simp)
          ·
           replace c17 := Bool.eq_false_iff.mpr c17
           subst c17
           rw [if_neg (show ¬ (false = true) by decide)] at H
           replace H := Option.bind_eq_some_iff.mp H
           obtain ⟨t114, A460, H⟩ := H
           (try dsimp only at H)
           have A46 := za A460
           clear A460
           by_cases c47 : t114 = true
           ·
            subst c47
            rw [if_pos rfl] at H
            have HC48 := za H
            clear H
            go_upto_block 7 with (first | ((with_reducible refine gate_callee (f := 17) rfl ?_); refine goesL_ (some 72) rfl rfl Try.func17 zq18 rfl #[.int .u8 (bt a0 x6_1)] rfl zq1 ?_; (with_reducible refine (ra_letter.calls (bt a0 x6_1) false _ A16.out).mono ?_); rintro e w' ⟨rfl, ⟨nd, rfl⟩⟩; refine ⟨_, rfl, ?_⟩) | ((with_reducible refine gate_callee (f := 18) rfl ?_); refine goesL_ (some 121) rfl rfl Try.func18 zq18 rfl #[.int .u8 (bt a0 x6_1)] rfl zq1 ?_; (with_reducible refine (ra_digit.calls (bt a0 x6_1) true _ A46.out).mono ?_); rintro e w' ⟨rfl, ⟨nd, rfl⟩⟩; refine ⟨_, rfl, ?_⟩))
            (try simp only [Act.put, List.setIfInBounds_toArray, List.set_cons_zero, List.set_cons_succ])
            go_cut [10] (fun v10 wc => ∃ (kq : Nat) (x10_47 : Int), v10 = .int .i64 x10_47 ∧ Aside0 (ra_Lex.j6 kq a0 x5_1 x6_1 (bt a0 x6_1) x10_47 = some (r1, r2, r3)) ∧ Aside0 (kq ≤ kj5) ∧ Aside0 (Kd.R k69 69 wc w.heap.size (fun _ => True) u5 x5_1) ∧ Aside0 (Below w.heap.size w wc))
            case first =>
             have H := HC48.out
             clear HC48
             have H' := za H
             clear H
             go_wp2
             go_loopg [10] kj5 (fun kq v10 w' => ∃ (x10_3 : Int), v10 = .int .i64 x10_3 ∧ Aside0 (ra_Lex.l3 kq a0 x5_1 x6_1 (bt a0 x6_1) x10_3 = some (r1, r2, r3)) ∧ Aside0 (kq ≤ kj5) ∧ Aside0 (Kd.R k69 69 w' w.heap.size (fun _ => True) u5 x5_1) ∧ Aside0 (Below w.heap.size w w'))
             case atStart => exact ⟨(x6_1), zq29, H', ⟨Nat.le_refl _⟩, ⟨zq35⟩, ⟨zq4⟩⟩
             case round =>
              clear H'
              obtain ⟨x10_3, rfl, HA, HK3, HO_5, HB⟩ := hrel
              cases gk with
              | zero => exact absurd HA.out (by simp [ra_Lex.l3])
              | succ k3 =>
               have H := HA.out
               clear HA
               simp only [ra_Lex.l3] at H
               by_cases c49 : x10_3 < (a0.size : Int)
               ·
                rw [if_pos c49] at H
                have c49b0 := decide_eq_true c49
                clear c49
                (first | rw [c49b0] | (simp only [i64_w, i32_w]; rw [c49b0]) | skip)
                by_cases c50 : 0 ≤ x10_3
                ·
                 rw [if_pos c50] at H
                 have c50b0 := decide_eq_true c50
                 clear c50
                 replace H := Option.bind_eq_some_iff.mp H
                 obtain ⟨t115, A520, H⟩ := H
                 (try dsimp only at H)
                 have A52 := za A520
                 clear A520
                 by_cases c53 : t115 = true
                 ·
                  subst c53
                  rw [if_pos rfl] at H
                  as_aux_lemma =>
                   have H' := za H
                   clear H
                   have p51 : 0 ≤ (x10_3 : Int) := of_decide_eq_true zq11
                   have q51 : x10_3 < (a0.size : Int) := of_decide_eq_true zq11
                   have hx51 := bt_at a0 x10_3
                   replace p51 := eq_true p51
                   replace q51 := eq_true q51
                   go_wp2_with (first | ((with_reducible refine gate_callee (f := 18) rfl ?_); (with_reducible refine gate_dst (N := 131) rfl ?_); (refine gate_guard (by rfl) ?_; dsimp only); refine goesL_ (some 131) rfl rfl Try.func18 zq18 rfl #[.int .u8 (bt a0 x10_3)] rfl zq1 ?_; (with_reducible refine (ra_digit.calls (bt a0 x10_3) true _ A52.out).mono ?_); rintro e w' ⟨rfl, ⟨nd, rfl⟩⟩; refine ⟨_, rfl, ?_⟩))
                   go_roundg k3
                   case measure => have := HK1.out; have := HJ5.out; have := HK3.out; omega
                   case rel => exact ⟨(wrap64 (x10_3 + 1)), zq29, H', ⟨by have := HK1.out; have := HJ5.out; have := HK3.out; omega⟩, ⟨zq35⟩, ⟨zq4⟩⟩
                 ·
                  replace c53 := Bool.eq_false_iff.mpr c53
                  subst c53
                  rw [if_neg (show ¬ (false = true) by decide)] at H
                  as_aux_lemma =>
                   have H' := za H
                   clear H
                   have p51 : 0 ≤ (x10_3 : Int) := of_decide_eq_true zq11
                   have q51 : x10_3 < (a0.size : Int) := of_decide_eq_true zq11
                   have hx51 := bt_at a0 x10_3
                   replace p51 := eq_true p51
                   replace q51 := eq_true q51
                   go_wp2_with (first | ((with_reducible refine gate_callee (f := 18) rfl ?_); (with_reducible refine gate_dst (N := 131) rfl ?_); (refine gate_guard (by rfl) ?_; dsimp only); refine goesL_ (some 131) rfl rfl Try.func18 zq18 rfl #[.int .u8 (bt a0 x10_3)] rfl zq1 ?_; (with_reducible refine (ra_digit.calls (bt a0 x10_3) false _ A52.out).mono ?_); rintro e w' ⟨rfl, ⟨nd, rfl⟩⟩; refine ⟨_, rfl, ?_⟩))
                   go_meet
                   case rel => exact ⟨_, (x10_3), zq29, H', ⟨by have := HK1.out; have := HJ5.out; have := HK3.out; first | omega | exact Nat.le_refl _⟩, ⟨zq35⟩, ⟨zq4⟩⟩
                ·
                 rw [if_neg c50] at H
                 exact absurd H (by simp)
               ·
                rw [if_neg c49] at H
                have c49b0 := decide_eq_false c49
                clear c49
                (first | rw [c49b0] | (simp only [i64_w, i32_w]; rw [c49b0]) | skip)
                as_aux_lemma =>
                 have H' := za H
                 clear H
                 go_wp2
                 go_meet
                 case rel => exact ⟨_, (x10_3), zq29, H', ⟨by have := HK1.out; have := HJ5.out; have := HK3.out; first | omega | exact Nat.le_refl _⟩, ⟨zq35⟩, ⟨zq4⟩⟩
            case rest =>
             clear HC48
             obtain ⟨kq, x10_47, rfl, HA, HJ47, HO_5, HB⟩ := hcut
             cases kq with
             | zero => exact absurd HA.out (by simp [ra_Lex.j6])
             | succ kj47 =>
              have H := HA.out
              clear HA
              simp only [ra_Lex.j6] at H
              by_cases c54 : (wrap64 (x10_47 - x6_1)) > 9
              ·
               rw [if_pos c54] at H
               have c54b0 : decide (9 < (wrap64 (x10_47 - x6_1))) = true := decide_eq_true c54
               clear c54
               as_aux_lemma =>
                simp only [Option.some.injEq, Prod.mk.injEq] at H
                obtain ⟨rfl, rfl, rfl⟩ := H
                go_wp2
                go_ret3
                exact ⟨_, zq16, zq22, zq4⟩
              ·
               rw [if_neg c54] at H
               have c54b0 : decide (9 < (wrap64 (x10_47 - x6_1))) = false := decide_eq_false c54
               clear c54
               by_cases c55 : (wrap64 (x10_47 - x6_1)) > 1
               ·
                rw [if_pos c55] at H
                have c55b0 : decide (1 < (wrap64 (x10_47 - x6_1))) = true := decide_eq_true c55
                clear c55
                by_cases c56 : (bt a0 x6_1) = 48
                ·
                 rw [if_pos c56] at H
                 have c56b0 := beq_iff_eq.mpr c56
                 have c56b1 := bne_eq_false_iff_eq.mpr c56
                 clear c56
                 as_aux_lemma =>
                  simp only [Option.some.injEq, Prod.mk.injEq] at H
                  obtain ⟨rfl, rfl, rfl⟩ := H
                  go_wp2
                  go_ret3
                  exact ⟨_, zq16, zq22, zq4⟩
                ·
                 rw [if_neg c56] at H
                 have c56b0 := beq_eq_false_iff_ne.mpr c56
                 have c56b1 := bne_iff_ne.mpr c56
                 by_cases c57 : x10_47 < (a0.size : Int)
                 ·
                  rw [if_pos c57] at H
                  have c57b0 := decide_eq_true c57
                  clear c57
                  by_cases c58 : 0 ≤ x10_47
                  ·
                   rw [if_pos c58] at H
                   have c58b0 := decide_eq_true c58
                   clear c58
                   replace H := Option.bind_eq_some_iff.mp H
                   obtain ⟨t116, A600, H⟩ := H
                   (try dsimp only at H)
                   have A60 := za A600
                   clear A600
                   by_cases c61 : t116 = true
                   ·
                    subst c61
                    rw [if_pos rfl] at H
                    as_aux_lemma =>
                     simp only [Option.some.injEq, Prod.mk.injEq] at H
                     obtain ⟨rfl, rfl, rfl⟩ := H
                     have p59 : 0 ≤ (x10_47 : Int) := of_decide_eq_true zq11
                     have q59 : x10_47 < (a0.size : Int) := of_decide_eq_true zq11
                     have hx59 := bt_at a0 x10_47
                     replace p59 := eq_true p59
                     replace q59 := eq_true q59
                     go_wp2_with (first | ((with_reducible refine gate_callee (f := 17) rfl ?_); (with_reducible refine gate_dst (N := 157) rfl ?_); (refine gate_guard (by rfl) ?_; dsimp only); refine goesL_ (some 157) rfl rfl Try.func17 zq18 rfl #[.int .u8 (bt a0 x10_47)] rfl zq1 ?_; (with_reducible refine (ra_letter.calls (bt a0 x10_47) true _ A60.out).mono ?_); rintro e w' ⟨rfl, ⟨nd, rfl⟩⟩; refine ⟨_, rfl, ?_⟩))
                     go_ret3
                     exact ⟨_, zq16, zq22, zq4⟩
                   ·
                    replace c61 := Bool.eq_false_iff.mpr c61
                    subst c61
                    rw [if_neg (show ¬ (false = true) by decide)] at H
                    by_cases c63 : (bt a0 x10_47) = 95
                    ·
                     rw [if_pos c63] at H
                     have c63b0 := beq_iff_eq.mpr c63
                     have c63b1 := bne_eq_false_iff_eq.mpr c63
                     clear c63
                     as_aux_lemma =>
                      simp only [Option.some.injEq, Prod.mk.injEq] at H
                      obtain ⟨rfl, rfl, rfl⟩ := H
                      have p59 : 0 ≤ (x10_47 : Int) := of_decide_eq_true zq11
                      have q59 : x10_47 < (a0.size : Int) := of_decide_eq_true zq11
                      have hx59 := bt_at a0 x10_47
                      replace p59 := eq_true p59
                      replace q59 := eq_true q59
                      go_wp2_with (first | ((with_reducible refine gate_callee (f := 17) rfl ?_); (with_reducible refine gate_dst (N := 157) rfl ?_); (refine gate_guard (by rfl) ?_; dsimp only); refine goesL_ (some 157) rfl rfl Try.func17 zq18 rfl #[.int .u8 (bt a0 x10_47)] rfl zq1 ?_; (with_reducible refine (ra_letter.calls (bt a0 x10_47) false _ A60.out).mono ?_); rintro e w' ⟨rfl, ⟨nd, rfl⟩⟩; refine ⟨_, rfl, ?_⟩; have p62 : 0 ≤ (x10_47 : Int) := of_decide_eq_true zq11; have q62 : x10_47 < (a0.size : Int) := of_decide_eq_true zq11; have hx62 := bt_at a0 x10_47; replace p62 := eq_true p62; replace q62 := eq_true q62))
                      go_ret3
                      exact ⟨_, zq16, zq22, zq4⟩
                    ·
                     rw [if_neg c63] at H
                     have c63b0 := beq_eq_false_iff_ne.mpr c63
                     have c63b1 := bne_iff_ne.mpr c63
                     by_cases c64 : 0 ≤ x6_1
                     ·
                      rw [if_pos c64] at H
                      have c64b0 := eq_true c64
                      have c64b1 := decide_eq_true c64
                      clear c64
                      by_cases c65 : x6_1 ≤ x10_47
                      ·
                       rw [if_pos c65] at H
                       have c65b0 := eq_true c65
                       have c65b1 := decide_eq_true c65
                       clear c65
                       by_cases c66 : x10_47 ≤ (a0.size : Int)
                       ·
                        rw [if_pos c66] at H
                        have c66b0 := eq_true c66
                        have c66b1 := decide_eq_true c66
                        clear c66
                        by_cases c67 : x5_1.length < 4398046511104
                        ·
                         rw [if_pos c67] at H
                         have LMc67 := za c67
                         clear c67
                         obtain ⟨y117, hy117⟩ : ∃ y_ : List (S69), y_ = (x5_1 ++ [(⟨2, a0.extract (x6_1 : Int).toNat (x10_47 : Int).toNat, x6_1⟩ : S69)]) := ⟨_, rfl⟩
                         replace H : (ra_Lex.l0 kj47 a0 y117 x10_47) = some (r1, r2, r3) := by first | (rw [hy117]; with_reducible exact H) | (have H2_ := (Option.bind_some _ _).symm.trans H; rw [hy117]; with_reducible exact H2_) | (have H2_ := (Option.bind_some _ _).symm.trans H; with_reducible exact H2_) | with_reducible exact H | (rw [hy117]; exact H) | exact H
                         have Ny117 := za hy117
                         clear hy117
                         as_aux_lemma =>
                          have H' := za H
                          clear H
                          have p59 : 0 ≤ (x10_47 : Int) := of_decide_eq_true zq11
                          have q59 : x10_47 < (a0.size : Int) := of_decide_eq_true zq11
                          have hx59 := bt_at a0 x10_47
                          replace p59 := eq_true p59
                          replace q59 := eq_true q59
                          go_wp2_with (first | ((with_reducible refine gate_callee (f := 17) rfl ?_); (with_reducible refine gate_dst (N := 157) rfl ?_); (refine gate_guard (by rfl) ?_; dsimp only); refine goesL_ (some 157) rfl rfl Try.func17 zq18 rfl #[.int .u8 (bt a0 x10_47)] rfl zq1 ?_; (with_reducible refine (ra_letter.calls (bt a0 x10_47) false _ A60.out).mono ?_); rintro e w' ⟨rfl, ⟨nd, rfl⟩⟩; refine ⟨_, rfl, ?_⟩; have p62 : 0 ≤ (x10_47 : Int) := of_decide_eq_true zq11; have q62 : x10_47 < (a0.size : Int) := of_decide_eq_true zq11; have hx62 := bt_at a0 x10_47; replace p62 := eq_true p62; replace q62 := eq_true q62) | ((with_reducible refine gate_builtin (b := .append) (xs := #[.tmp 167, .tmp 174]) rfl ?_); (try (refine gate_guard (by rfl) ?_; dsimp only)); at_builtin; refine Kd.R_append k69 (w0 := w) w.heap.size rfl (.tmp 167) (.tmp 174) 52 69 (.agg #[(.int .i64 0), (.string ⟨#[]⟩), (.int .i64 0)]) 32 rfl Try.underlying52 info69 rfl (by decide) (by omega) u5 x5_1 (⟨2, a0.extract (x6_1 : Int).toNat (x10_47 : Int).toNat, x6_1⟩ : S69) [.int .i64 2, .string (a0.extract (x6_1 : Int).toNat (x10_47 : Int).toNat), .int .i64 x6_1] (fun _ => True) (fun _ => False) rfl rfl ?aP (fun _ hk => hk.elim) ?aF ?aO ?aB ?aS ?aL ?_; (case aP => exact k69_mkM _ _ _ (⟨2, a0.extract (x6_1 : Int).toNat (x10_47 : Int).toNat, x6_1⟩ : S69)); (case aB => exact zq4); (case aF => exact (fun _ _ => trivial)); (case aO => exact (zr HO_5.out)); (case aS => exact (below_size zq4)); (case aL => have := LMc67.out; omega); intro v118 w68 ho hb hg hat; rw [← Ny117.out] at ho; replace HB := za (hb); have HO119 := za (ho); clear HO_5; clear ho hb hg hat))
                          go_roundg kj47
                          case measure => have := HK1.out; have := HJ5.out; have := HJ47.out; omega
                          case rel => exact ⟨(y117), (x10_47), zq29, H', ⟨by have := HK1.out; have := HJ5.out; have := HJ47.out; omega⟩, ⟨by (with_reducible repeat (first | apply Kd.R_alloc | apply Kd.R_drewN | apply Kd.R_drew)); exact HO119.out⟩, ⟨zq4⟩⟩
                        ·
                         rw [if_neg c67] at H
                         exact absurd H (by simp)
                       ·
                        rw [if_neg c66] at H
                        exact absurd H (by simp)
                      ·
                       rw [if_neg c65] at H
                       exact absurd H (by simp)
                     ·
                      rw [if_neg c64] at H
                      exact absurd H (by simp)
                  ·
                   rw [if_neg c58] at H
                   exact absurd H (by simp)
                 ·
                  rw [if_neg c57] at H
                  have c57b0 := decide_eq_false c57
                  clear c57
                  by_cases c69 : 0 ≤ x6_1
                  ·
                   rw [if_pos c69] at H
                   have c69b0 := eq_true c69
                   have c69b1 := decide_eq_true c69
                   clear c69
                   by_cases c70 : x6_1 ≤ x10_47
                   ·
                    rw [if_pos c70] at H
                    have c70b0 := eq_true c70
                    have c70b1 := decide_eq_true c70
                    clear c70
                    by_cases c71 : x10_47 ≤ (a0.size : Int)
                    ·
                     rw [if_pos c71] at H
                     have c71b0 := eq_true c71
                     have c71b1 := decide_eq_true c71
                     clear c71
                     by_cases c72 : x5_1.length < 4398046511104
                     ·
                      rw [if_pos c72] at H
                      have LMc72 := za c72
                      clear c72
                      obtain ⟨y120, hy120⟩ : ∃ y_ : List (S69), y_ = (x5_1 ++ [(⟨2, a0.extract (x6_1 : Int).toNat (x10_47 : Int).toNat, x6_1⟩ : S69)]) := ⟨_, rfl⟩
                      replace H : (ra_Lex.l0 kj47 a0 y120 x10_47) = some (r1, r2, r3) := by first | (rw [hy120]; with_reducible exact H) | (have H2_ := (Option.bind_some _ _).symm.trans H; rw [hy120]; with_reducible exact H2_) | (have H2_ := (Option.bind_some _ _).symm.trans H; with_reducible exact H2_) | with_reducible exact H | (rw [hy120]; exact H) | exact H
                      have Ny120 := za hy120
                      clear hy120
                      as_aux_lemma =>
                       have H' := za H
                       clear H
                       go_wp2_with (first | ((with_reducible refine gate_builtin (b := .append) (xs := #[.tmp 167, .tmp 174]) rfl ?_); (try (refine gate_guard (by rfl) ?_; dsimp only)); at_builtin; refine Kd.R_append k69 (w0 := w) w.heap.size rfl (.tmp 167) (.tmp 174) 52 69 (.agg #[(.int .i64 0), (.string ⟨#[]⟩), (.int .i64 0)]) 32 rfl Try.underlying52 info69 rfl (by decide) (by omega) u5 x5_1 (⟨2, a0.extract (x6_1 : Int).toNat (x10_47 : Int).toNat, x6_1⟩ : S69) [.int .i64 2, .string (a0.extract (x6_1 : Int).toNat (x10_47 : Int).toNat), .int .i64 x6_1] (fun _ => True) (fun _ => False) rfl rfl ?aP (fun _ hk => hk.elim) ?aF ?aO ?aB ?aS ?aL ?_; (case aP => exact k69_mkM _ _ _ (⟨2, a0.extract (x6_1 : Int).toNat (x10_47 : Int).toNat, x6_1⟩ : S69)); (case aB => exact zq4); (case aF => exact (fun _ _ => trivial)); (case aO => exact (zr HO_5.out)); (case aS => exact (below_size zq4)); (case aL => have := LMc72.out; omega); intro v121 w73 ho hb hg hat; rw [← Ny120.out] at ho; replace HB := za (hb); have HO122 := za (ho); clear HO_5; clear ho hb hg hat))
                       go_roundg kj47
                       case measure => have := HK1.out; have := HJ5.out; have := HJ47.out; omega
                       case rel => exact ⟨(y120), (x10_47), zq29, H', ⟨by have := HK1.out; have := HJ5.out; have := HJ47.out; omega⟩, ⟨by (with_reducible repeat (first | apply Kd.R_alloc | apply Kd.R_drewN | apply Kd.R_drew)); exact HO122.out⟩, ⟨zq4⟩⟩
                     ·
                      rw [if_neg c72] at H
                      exact absurd H (by simp)
                    ·
                     rw [if_neg c71] at H
                     exact absurd H (by simp)
                   ·
                    rw [if_neg c70] at H
                    exact absurd H (by simp)
                  ·
                   rw [if_neg c69] at H
                   exact absurd H (by simp)
               ·
                rw [if_neg c55] at H
                have c55b0 : decide (1 < (wrap64 (x10_47 - x6_1))) = false := decide_eq_false c55
                clear c55
                by_cases c74 : x10_47 < (a0.size : Int)
                ·
                 rw [if_pos c74] at H
                 have c74b0 := decide_eq_true c74
                 clear c74
                 by_cases c75 : 0 ≤ x10_47
                 ·
                  rw [if_pos c75] at H
                  have c75b0 := decide_eq_true c75
                  clear c75
                  replace H := Option.bind_eq_some_iff.mp H
                  obtain ⟨t123, A770, H⟩ := H
                  (try dsimp only at H)
                  have A77 := za A770
                  clear A770
                  by_cases c78 : t123 = true
                  ·
                   subst c78
                   rw [if_pos rfl] at H
                   as_aux_lemma =>
                    simp only [Option.some.injEq, Prod.mk.injEq] at H
                    obtain ⟨rfl, rfl, rfl⟩ := H
                    have p76 : 0 ≤ (x10_47 : Int) := of_decide_eq_true zq11
                    have q76 : x10_47 < (a0.size : Int) := of_decide_eq_true zq11
                    have hx76 := bt_at a0 x10_47
                    replace p76 := eq_true p76
                    replace q76 := eq_true q76
                    go_wp2_with (first | ((with_reducible refine gate_callee (f := 17) rfl ?_); (with_reducible refine gate_dst (N := 157) rfl ?_); (refine gate_guard (by rfl) ?_; dsimp only); refine goesL_ (some 157) rfl rfl Try.func17 zq18 rfl #[.int .u8 (bt a0 x10_47)] rfl zq1 ?_; (with_reducible refine (ra_letter.calls (bt a0 x10_47) true _ A77.out).mono ?_); rintro e w' ⟨rfl, ⟨nd, rfl⟩⟩; refine ⟨_, rfl, ?_⟩))
                    go_ret3
                    exact ⟨_, zq16, zq22, zq4⟩
                  ·
                   replace c78 := Bool.eq_false_iff.mpr c78
                   subst c78
                   rw [if_neg (show ¬ (false = true) by decide)] at H
                   by_cases c80 : (bt a0 x10_47) = 95
                   ·
                    rw [if_pos c80] at H
                    have c80b0 := beq_iff_eq.mpr c80
                    have c80b1 := bne_eq_false_iff_eq.mpr c80
                    clear c80
                    as_aux_lemma =>
                     simp only [Option.some.injEq, Prod.mk.injEq] at H
                     obtain ⟨rfl, rfl, rfl⟩ := H
                     have p76 : 0 ≤ (x10_47 : Int) := of_decide_eq_true zq11
                     have q76 : x10_47 < (a0.size : Int) := of_decide_eq_true zq11
                     have hx76 := bt_at a0 x10_47
                     replace p76 := eq_true p76
                     replace q76 := eq_true q76
                     go_wp2_with (first | ((with_reducible refine gate_callee (f := 17) rfl ?_); (with_reducible refine gate_dst (N := 157) rfl ?_); (refine gate_guard (by rfl) ?_; dsimp only); refine goesL_ (some 157) rfl rfl Try.func17 zq18 rfl #[.int .u8 (bt a0 x10_47)] rfl zq1 ?_; (with_reducible refine (ra_letter.calls (bt a0 x10_47) false _ A77.out).mono ?_); rintro e w' ⟨rfl, ⟨nd, rfl⟩⟩; refine ⟨_, rfl, ?_⟩; have p79 : 0 ≤ (x10_47 : Int) := of_decide_eq_true zq11; have q79 : x10_47 < (a0.size : Int) := of_decide_eq_true zq11; have hx79 := bt_at a0 x10_47; replace p79 := eq_true p79; replace q79 := eq_true q79))
                     go_ret3
                     exact ⟨_, zq16, zq22, zq4⟩
                   ·
                    rw [if_neg c80] at H
                    have c80b0 := beq_eq_false_iff_ne.mpr c80
                    have c80b1 := bne_iff_ne.mpr c80
                    by_cases c81 : 0 ≤ x6_1
                    ·
                     rw [if_pos c81] at H
                     have c81b0 := eq_true c81
                     have c81b1 := decide_eq_true c81
                     clear c81
                     by_cases c82 : x6_1 ≤ x10_47
                     ·
                      rw [if_pos c82] at H
                      have c82b0 := eq_true c82
                      have c82b1 := decide_eq_true c82
                      clear c82
                      by_cases c83 : x10_47 ≤ (a0.size : Int)
                      ·
                       rw [if_pos c83] at H
                       have c83b0 := eq_true c83
                       have c83b1 := decide_eq_true c83
                       clear c83
                       by_cases c84 : x5_1.length < 4398046511104
                       ·
                        rw [if_pos c84] at H
                        have LMc84 := za c84
                        clear c84
                        obtain ⟨y124, hy124⟩ : ∃ y_ : List (S69), y_ = (x5_1 ++ [(⟨2, a0.extract (x6_1 : Int).toNat (x10_47 : Int).toNat, x6_1⟩ : S69)]) := ⟨_, rfl⟩
                        replace H : (ra_Lex.l0 kj47 a0 y124 x10_47) = some (r1, r2, r3) := by first | (rw [hy124]; with_reducible exact H) | (have H2_ := (Option.bind_some _ _).symm.trans H; rw [hy124]; with_reducible exact H2_) | (have H2_ := (Option.bind_some _ _).symm.trans H; with_reducible exact H2_) | with_reducible exact H | (rw [hy124]; exact H) | exact H
                        have Ny124 := za hy124
                        clear hy124
                        as_aux_lemma =>
                         have H' := za H
                         clear H
                         have p76 : 0 ≤ (x10_47 : Int) := of_decide_eq_true zq11
                         have q76 : x10_47 < (a0.size : Int) := of_decide_eq_true zq11
                         have hx76 := bt_at a0 x10_47
                         replace p76 := eq_true p76
                         replace q76 := eq_true q76
                         go_wp2_with (first | ((with_reducible refine gate_callee (f := 17) rfl ?_); (with_reducible refine gate_dst (N := 157) rfl ?_); (refine gate_guard (by rfl) ?_; dsimp only); refine goesL_ (some 157) rfl rfl Try.func17 zq18 rfl #[.int .u8 (bt a0 x10_47)] rfl zq1 ?_; (with_reducible refine (ra_letter.calls (bt a0 x10_47) false _ A77.out).mono ?_); rintro e w' ⟨rfl, ⟨nd, rfl⟩⟩; refine ⟨_, rfl, ?_⟩; have p79 : 0 ≤ (x10_47 : Int) := of_decide_eq_true zq11; have q79 : x10_47 < (a0.size : Int) := of_decide_eq_true zq11; have hx79 := bt_at a0 x10_47; replace p79 := eq_true p79; replace q79 := eq_true q79) | ((with_reducible refine gate_builtin (b := .append) (xs := #[.tmp 167, .tmp 174]) rfl ?_); (try (refine gate_guard (by rfl) ?_; dsimp only)); at_builtin; refine Kd.R_append k69 (w0 := w) w.heap.size rfl (.tmp 167) (.tmp 174) 52 69 (.agg #[(.int .i64 0), (.string ⟨#[]⟩), (.int .i64 0)]) 32 rfl Try.underlying52 info69 rfl (by decide) (by omega) u5 x5_1 (⟨2, a0.extract (x6_1 : Int).toNat (x10_47 : Int).toNat, x6_1⟩ : S69) [.int .i64 2, .string (a0.extract (x6_1 : Int).toNat (x10_47 : Int).toNat), .int .i64 x6_1] (fun _ => True) (fun _ => False) rfl rfl ?aP (fun _ hk => hk.elim) ?aF ?aO ?aB ?aS ?aL ?_; (case aP => exact k69_mkM _ _ _ (⟨2, a0.extract (x6_1 : Int).toNat (x10_47 : Int).toNat, x6_1⟩ : S69)); (case aB => exact zq4); (case aF => exact (fun _ _ => trivial)); (case aO => exact (zr HO_5.out)); (case aS => exact (below_size zq4)); (case aL => have := LMc84.out; omega); intro v125 w85 ho hb hg hat; rw [← Ny124.out] at ho; replace HB := za (hb); have HO126 := za (ho); clear HO_5; clear ho hb hg hat))
                         go_roundg kj47
                         case measure => have := HK1.out; have := HJ5.out; have := HJ47.out; omega
                         case rel => exact ⟨(y124), (x10_47), zq29, H', ⟨by have := HK1.out; have := HJ5.out; have := HJ47.out; omega⟩, ⟨by (with_reducible repeat (first | apply Kd.R_alloc | apply Kd.R_drewN | apply Kd.R_drew)); exact HO126.out⟩, ⟨zq4⟩⟩
                       ·
                        rw [if_neg c84] at H
                        exact absurd H (by simp)
                      ·
                       rw [if_neg c83] at H
                       exact absurd H (by simp)
                     ·
                      rw [if_neg c82] at H
                      exact absurd H (by simp)
                    ·
                     rw [if_neg c81] at H
                     exact absurd H (by simp)
                 ·
                  rw [if_neg c75] at H
                  exact absurd H (by simp)
                ·
                 rw [if_neg c74] at H
                 have c74b0 := decide_eq_false c74
                 clear c74
                 by_cases c86 : 0 ≤ x6_1
                 ·
                  rw [if_pos c86] at H
                  have c86b0 := eq_true c86
                  have c86b1 := decide_eq_true c86
                  clear c86
                  by_cases c87 : x6_1 ≤ x10_47
                  ·
                   rw [if_pos c87] at H
                   have c87b0 := eq_true c87
                   have c87b1 := decide_eq_true c87
                   clear c87
                   by_cases c88 : x10_47 ≤ (a0.size : Int)
                   ·
                    rw [if_pos c88] at H
                    have c88b0 := eq_true c88
                    have c88b1 := decide_eq_true c88
                    clear c88
                    by_cases c89 : x5_1.length < 4398046511104
                    ·
                     rw [if_pos c89] at H
                     have LMc89 := za c89
                     clear c89
                     obtain ⟨y127, hy127⟩ : ∃ y_ : List (S69), y_ = (x5_1 ++ [(⟨2, a0.extract (x6_1 : Int).toNat (x10_47 : Int).toNat, x6_1⟩ : S69)]) := ⟨_, rfl⟩
                     replace H : (ra_Lex.l0 kj47 a0 y127 x10_47) = some (r1, r2, r3) := by first | (rw [hy127]; with_reducible exact H) | (have H2_ := (Option.bind_some _ _).symm.trans H; rw [hy127]; with_reducible exact H2_) | (have H2_ := (Option.bind_some _ _).symm.trans H; with_reducible exact H2_) | with_reducible exact H | (rw [hy127]; exact H) | exact H
                     have Ny127 := za hy127
                     clear hy127
                     as_aux_lemma =>
                      have H' := za H
                      clear H
                      go_wp2_with (first | ((with_reducible refine gate_builtin (b := .append) (xs := #[.tmp 167, .tmp 174]) rfl ?_); (try (refine gate_guard (by rfl) ?_; dsimp only)); at_builtin; refine Kd.R_append k69 (w0 := w) w.heap.size rfl (.tmp 167) (.tmp 174) 52 69 (.agg #[(.int .i64 0), (.string ⟨#[]⟩), (.int .i64 0)]) 32 rfl Try.underlying52 info69 rfl (by decide) (by omega) u5 x5_1 (⟨2, a0.extract (x6_1 : Int).toNat (x10_47 : Int).toNat, x6_1⟩ : S69) [.int .i64 2, .string (a0.extract (x6_1 : Int).toNat (x10_47 : Int).toNat), .int .i64 x6_1] (fun _ => True) (fun _ => False) rfl rfl ?aP (fun _ hk => hk.elim) ?aF ?aO ?aB ?aS ?aL ?_; (case aP => exact k69_mkM _ _ _ (⟨2, a0.extract (x6_1 : Int).toNat (x10_47 : Int).toNat, x6_1⟩ : S69)); (case aB => exact zq4); (case aF => exact (fun _ _ => trivial)); (case aO => exact (zr HO_5.out)); (case aS => exact (below_size zq4)); (case aL => have := LMc89.out; omega); intro v128 w90 ho hb hg hat; rw [← Ny127.out] at ho; replace HB := za (hb); have HO129 := za (ho); clear HO_5; clear ho hb hg hat))
                      go_roundg kj47
                      case measure => have := HK1.out; have := HJ5.out; have := HJ47.out; omega
                      case rel => exact ⟨(y127), (x10_47), zq29, H', ⟨by have := HK1.out; have := HJ5.out; have := HJ47.out; omega⟩, ⟨by (with_reducible repeat (first | apply Kd.R_alloc | apply Kd.R_drewN | apply Kd.R_drew)); exact HO129.out⟩, ⟨zq4⟩⟩
                    ·
                     rw [if_neg c89] at H
                     exact absurd H (by simp)
                   ·
                    rw [if_neg c88] at H
                    exact absurd H (by simp)
                  ·
                   rw [if_neg c87] at H
                   exact absurd H (by simp)
                 ·
                  rw [if_neg c86] at H
                  exact absurd H (by simp)
           ·
            replace c47 := Bool.eq_false_iff.mpr c47
            subst c47
            rw [if_neg (show ¬ (false = true) by decide)] at H
            replace H := Option.bind_eq_some_iff.mp H
            obtain ⟨t130, A910, H⟩ := H
            (try dsimp only at H)
            have A91 := za A910
            clear A910
            by_cases c92 : t130.toList = ([] : List UInt8)
            ·
             rw [if_pos c92] at H
             have c92b0 := beq_iff_eq.mpr c92
             have c92b1 := bne_eq_false_iff_eq.mpr c92
             clear c92
             as_aux_lemma =>
              simp only [Option.some.injEq, Prod.mk.injEq] at H
              obtain ⟨rfl, rfl, rfl⟩ := H
              go_wp2_with (first | ((with_reducible refine gate_callee (f := 17) rfl ?_); refine goesL_ (some 72) rfl rfl Try.func17 zq18 rfl #[.int .u8 (bt a0 x6_1)] rfl zq1 ?_; (with_reducible refine (ra_letter.calls (bt a0 x6_1) false _ A16.out).mono ?_); rintro e w' ⟨rfl, ⟨nd, rfl⟩⟩; refine ⟨_, rfl, ?_⟩) | ((with_reducible refine gate_callee (f := 18) rfl ?_); refine goesL_ (some 121) rfl rfl Try.func18 zq18 rfl #[.int .u8 (bt a0 x6_1)] rfl zq1 ?_; (with_reducible refine (ra_digit.calls (bt a0 x6_1) false _ A46.out).mono ?_); rintro e w' ⟨rfl, ⟨nd, rfl⟩⟩; refine ⟨_, rfl, ?_⟩) | ((with_reducible refine gate_callee (f := 20) rfl ?_); refine goesL_ (some 24) rfl rfl Try.func20 zq18 rfl #[.string a0, .int .i64 x6_1] rfl zq1 ?_; (with_reducible refine (ra_sign.calls kj5 a0 x6_1 t130 _ A91.out).mono ?_); rintro e w' ⟨rfl, ⟨nd, rfl⟩⟩; refine ⟨_, rfl, ?_⟩))
              go_ret3
              exact ⟨_, zq16, zq22, zq4⟩
            ·
             rw [if_neg c92] at H
             have c92b0 := beq_eq_false_iff_ne.mpr c92
             have c92b1 := bne_iff_ne.mpr c92
             by_cases c93 : x5_1.length < 4398046511104
             ·
              rw [if_pos c93] at H
              have LMc93 := za c93
              clear c93
              obtain ⟨y131, hy131⟩ : ∃ y_ : List (S69), y_ = (x5_1 ++ [(⟨4, t130, x6_1⟩ : S69)]) := ⟨_, rfl⟩
              replace H : (ra_Lex.l0 kj5 a0 y131 (wrap64 (x6_1 + (t130.size : Int)))) = some (r1, r2, r3) := by first | (rw [hy131]; with_reducible exact H) | (have H2_ := (Option.bind_some _ _).symm.trans H; rw [hy131]; with_reducible exact H2_) | (have H2_ := (Option.bind_some _ _).symm.trans H; with_reducible exact H2_) | with_reducible exact H | (rw [hy131]; exact H) | exact H
              have Ny131 := za hy131
              clear hy131
              as_aux_lemma =>
               have H' := za H
               clear H
               go_wp2_with (first | ((with_reducible refine gate_callee (f := 17) rfl ?_); refine goesL_ (some 72) rfl rfl Try.func17 zq18 rfl #[.int .u8 (bt a0 x6_1)] rfl zq1 ?_; (with_reducible refine (ra_letter.calls (bt a0 x6_1) false _ A16.out).mono ?_); rintro e w' ⟨rfl, ⟨nd, rfl⟩⟩; refine ⟨_, rfl, ?_⟩) | ((with_reducible refine gate_callee (f := 18) rfl ?_); refine goesL_ (some 121) rfl rfl Try.func18 zq18 rfl #[.int .u8 (bt a0 x6_1)] rfl zq1 ?_; (with_reducible refine (ra_digit.calls (bt a0 x6_1) false _ A46.out).mono ?_); rintro e w' ⟨rfl, ⟨nd, rfl⟩⟩; refine ⟨_, rfl, ?_⟩) | ((with_reducible refine gate_callee (f := 20) rfl ?_); refine goesL_ (some 24) rfl rfl Try.func20 zq18 rfl #[.string a0, .int .i64 x6_1] rfl zq1 ?_; (with_reducible refine (ra_sign.calls kj5 a0 x6_1 t130 _ A91.out).mono ?_); rintro e w' ⟨rfl, ⟨nd, rfl⟩⟩; refine ⟨_, rfl, ?_⟩) | ((with_reducible refine gate_builtin (b := .append) (xs := #[.tmp 28, .tmp 32]) rfl ?_); (try (refine gate_guard (by rfl) ?_; dsimp only)); at_builtin; refine Kd.R_append k69 (w0 := w) w.heap.size rfl (.tmp 28) (.tmp 32) 52 69 (.agg #[(.int .i64 0), (.string ⟨#[]⟩), (.int .i64 0)]) 32 rfl Try.underlying52 info69 rfl (by decide) (by omega) u5 x5_1 (⟨4, t130, x6_1⟩ : S69) [.int .i64 4, .string t130, .int .i64 x6_1] (fun _ => True) (fun _ => False) rfl rfl ?aP (fun _ hk => hk.elim) ?aF ?aO ?aB ?aS ?aL ?_; (case aP => exact k69_mkM _ _ _ (⟨4, t130, x6_1⟩ : S69)); (case aB => exact zq4); (case aF => exact (fun _ _ => trivial)); (case aO => exact (zr HO_5.out)); (case aS => exact (below_size zq4)); (case aL => have := LMc93.out; omega); intro v132 w94 ho hb hg hat; rw [← Ny131.out] at ho; replace HB := za (hb); have HO133 := za (ho); clear HO_5; clear ho hb hg hat))
               go_roundg kj5
               case measure => have := HK1.out; have := HJ5.out; omega
               case rel => exact ⟨(y131), (wrap64 (x6_1 + (t130.size : Int))), zq29, H', ⟨by have := HK1.out; have := HJ5.out; omega⟩, ⟨by (with_reducible repeat (first | apply Kd.R_alloc | apply Kd.R_drewN | apply Kd.R_drew)); exact HO133.out⟩, ⟨zq4⟩⟩
             ·
              rw [if_neg c93] at H
              exact absurd H (by simp)
     ·
      rw [if_neg c4] at H
      exact absurd H (by simp)
    ·
     rw [if_neg c3] at H
     have c3b0 := decide_eq_false c3
     clear c3
     by_cases c95 : x5_1.length < 4398046511104
     ·
      rw [if_pos c95] at H
      have LMc95 := za c95
      clear c95
      obtain ⟨y101, hy101⟩ : ∃ y_ : List (S69), y_ = (x5_1 ++ [(⟨0, (⟨#[]⟩ : ByteArray), (a0.size : Int)⟩ : S69)]) := ⟨_, rfl⟩
      replace H : (some (y101, 0, 0)) = some (r1, r2, r3) := by first | (rw [hy101]; with_reducible exact H) | (have H2_ := (Option.bind_some _ _).symm.trans H; rw [hy101]; with_reducible exact H2_) | (have H2_ := (Option.bind_some _ _).symm.trans H; with_reducible exact H2_) | with_reducible exact H | (rw [hy101]; exact H) | exact H
      have Ny101 := za hy101
      clear hy101
      as_aux_lemma =>
       simp only [Option.some.injEq, Prod.mk.injEq] at H
       obtain ⟨rfl, rfl, rfl⟩ := H
       go_wp2_with (first | ((with_reducible refine gate_builtin (b := .append) (xs := #[.tmp 177, .tmp 181]) rfl ?_); (try (refine gate_guard (by rfl) ?_; dsimp only)); at_builtin; refine Kd.R_append k69 (w0 := w) w.heap.size rfl (.tmp 177) (.tmp 181) 52 69 (.agg #[(.int .i64 0), (.string ⟨#[]⟩), (.int .i64 0)]) 32 rfl Try.underlying52 info69 rfl (by decide) (by omega) u5 x5_1 (⟨0, (⟨#[]⟩ : ByteArray), (a0.size : Int)⟩ : S69) [.int .i64 0, .string (⟨#[]⟩ : ByteArray), .int .i64 (a0.size : Int)] (fun _ => True) (fun _ => False) rfl rfl ?aP (fun _ hk => hk.elim) ?aF ?aO ?aB ?aS ?aL ?_; (case aP => exact k69_mkM _ _ _ (⟨0, (⟨#[]⟩ : ByteArray), (a0.size : Int)⟩ : S69)); (case aB => exact zq4); (case aF => exact (fun _ _ => trivial)); (case aO => exact (zr HO_5.out)); (case aS => exact (below_size zq4)); (case aL => have := LMc95.out; omega); intro v102 w96 ho hb hg hat; rw [← Ny101.out] at ho; replace HB := za (hb); have HO103 := za (ho); clear HO_5; clear ho hb hg hat))
       go_ret3
       exact ⟨_, zq16, by (with_reducible repeat (first | apply Kd.R_alloc | apply Kd.R_drewN | apply Kd.R_drew)); exact HO103.out, zq4⟩
     ·
      rw [if_neg c95] at H
      exact absurd H (by simp)
end Go.Proofs.Ytcmpmlklednhbaa.QEvalJoins
