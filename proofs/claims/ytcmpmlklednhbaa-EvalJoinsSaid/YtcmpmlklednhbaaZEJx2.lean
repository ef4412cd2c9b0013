import Derived.Test.YtcmpmlklednhbaaZEJx0
namespace Go.Proofs.Ytcmpmlklednhbaa.QEvalJoins
open Go.RowKit Go.Proofs.YtcmpmlklednhbaaW.PrintWords Go.Proofs.YtcmpmlklednhbaaW.PrintLast Go.Proofs.YtcmpmlklednhbaaW.PrintMore
set_option maxHeartbeats 8000000
set_option maxRecDepth 100000
attribute [local go_sem] max2_int min2_int max_two min_two max_three min_three max_four min_four
set_option linter.unusedVariables false
set_option linter.unusedSimpArgs false
def ra_sign.j0 : Nat → ByteArray → Int → Option (ByteArray)
 | 0, _, _ => none
 | k + 1, x0, x1 => if 0 ≤ x1 then (if x1 < (x0.size : Int) then (if (bt x0 x1) = 40 then (if x1 ≤ (wrap64 (x1 + 1)) then (if (wrap64 (x1 + 1)) ≤ (x0.size : Int) then (some (x0.extract (x1 : Int).toNat ((wrap64 (x1 + 1)) : Int).toNat)) else (none)) else (none)) else (if (bt x0 x1) = 41 then (if x1 ≤ (wrap64 (x1 + 1)) then (if (wrap64 (x1 + 1)) ≤ (x0.size : Int) then (some (x0.extract (x1 : Int).toNat ((wrap64 (x1 + 1)) : Int).toNat)) else (none)) else (none)) else (if (bt x0 x1) = 123 then (if x1 ≤ (wrap64 (x1 + 1)) then (if (wrap64 (x1 + 1)) ≤ (x0.size : Int) then (some (x0.extract (x1 : Int).toNat ((wrap64 (x1 + 1)) : Int).toNat)) else (none)) else (none)) else (if (bt x0 x1) = 125 then (if x1 ≤ (wrap64 (x1 + 1)) then (if (wrap64 (x1 + 1)) ≤ (x0.size : Int) then (some (x0.extract (x1 : Int).toNat ((wrap64 (x1 + 1)) : Int).toNat)) else (none)) else (none)) else (if (bt x0 x1) = 44 then (if x1 ≤ (wrap64 (x1 + 1)) then (if (wrap64 (x1 + 1)) ≤ (x0.size : Int) then (some (x0.extract (x1 : Int).toNat ((wrap64 (x1 + 1)) : Int).toNat)) else (none)) else (none)) else (if (bt x0 x1) = 59 then (if x1 ≤ (wrap64 (x1 + 1)) then (if (wrap64 (x1 + 1)) ≤ (x0.size : Int) then (some (x0.extract (x1 : Int).toNat ((wrap64 (x1 + 1)) : Int).toNat)) else (none)) else (none)) else (if (bt x0 x1) = 58 then (if x1 ≤ (wrap64 (x1 + 1)) then (if (wrap64 (x1 + 1)) ≤ (x0.size : Int) then (some (x0.extract (x1 : Int).toNat ((wrap64 (x1 + 1)) : Int).toNat)) else (none)) else (none)) else (if (bt x0 x1) = 46 then (if x1 ≤ (wrap64 (x1 + 1)) then (if (wrap64 (x1 + 1)) ≤ (x0.size : Int) then (some (x0.extract (x1 : Int).toNat ((wrap64 (x1 + 1)) : Int).toNat)) else (none)) else (none)) else (if (bt x0 x1) = 61 then (if x1 ≤ (wrap64 (x1 + 1)) then (if (wrap64 (x1 + 1)) ≤ (x0.size : Int) then (some (x0.extract (x1 : Int).toNat ((wrap64 (x1 + 1)) : Int).toNat)) else (none)) else (none)) else (if (bt x0 x1) = 60 then (if x1 ≤ (wrap64 (x1 + 1)) then (if (wrap64 (x1 + 1)) ≤ (x0.size : Int) then (some (x0.extract (x1 : Int).toNat ((wrap64 (x1 + 1)) : Int).toNat)) else (none)) else (none)) else (if (bt x0 x1) = 43 then (if x1 ≤ (wrap64 (x1 + 1)) then (if (wrap64 (x1 + 1)) ≤ (x0.size : Int) then (some (x0.extract (x1 : Int).toNat ((wrap64 (x1 + 1)) : Int).toNat)) else (none)) else (none)) else (if (bt x0 x1) = 45 then (if x1 ≤ (wrap64 (x1 + 1)) then (if (wrap64 (x1 + 1)) ≤ (x0.size : Int) then (some (x0.extract (x1 : Int).toNat ((wrap64 (x1 + 1)) : Int).toNat)) else (none)) else (none)) else (if (bt x0 x1) = 42 then (if x1 ≤ (wrap64 (x1 + 1)) then (if (wrap64 (x1 + 1)) ≤ (x0.size : Int) then (some (x0.extract (x1 : Int).toNat ((wrap64 (x1 + 1)) : Int).toNat)) else (none)) else (none)) else (if (bt x0 x1) = 47 then (if x1 ≤ (wrap64 (x1 + 1)) then (if (wrap64 (x1 + 1)) ≤ (x0.size : Int) then (some (x0.extract (x1 : Int).toNat ((wrap64 (x1 + 1)) : Int).toNat)) else (none)) else (none)) else (if (bt x0 x1) = 37 then (if x1 ≤ (wrap64 (x1 + 1)) then (if (wrap64 (x1 + 1)) ≤ (x0.size : Int) then (some (x0.extract (x1 : Int).toNat ((wrap64 (x1 + 1)) : Int).toNat)) else (none)) else (none)) else (if (bt x0 x1) = 33 then (if x1 ≤ (wrap64 (x1 + 1)) then (if (wrap64 (x1 + 1)) ≤ (x0.size : Int) then (some (x0.extract (x1 : Int).toNat ((wrap64 (x1 + 1)) : Int).toNat)) else (none)) else (none)) else (some (⟨#[]⟩ : ByteArray)))))))))))))))))) else (none)) else (none)
def ra_sign.f (k : Nat) (a0 : ByteArray) (a1 : Int) : Option (ByteArray) := if (wrap64 (a1 + 1)) < (a0.size : Int) then (if 0 ≤ a1 then (if a1 ≤ (wrap64 (a1 + 2)) then (if (wrap64 (a1 + 2)) ≤ (a0.size : Int) then (if (a0.extract (a1 : Int).toNat ((wrap64 (a1 + 2)) : Int).toNat).toList = ([61, 61] : List UInt8) then (some (a0.extract (a1 : Int).toNat ((wrap64 (a1 + 2)) : Int).toNat)) else (if (a0.extract (a1 : Int).toNat ((wrap64 (a1 + 2)) : Int).toNat).toList = ([60, 61] : List UInt8) then (some (a0.extract (a1 : Int).toNat ((wrap64 (a1 + 2)) : Int).toNat)) else (if (a0.extract (a1 : Int).toNat ((wrap64 (a1 + 2)) : Int).toNat).toList = ([45, 62] : List UInt8) then (some (a0.extract (a1 : Int).toNat ((wrap64 (a1 + 2)) : Int).toNat)) else (ra_sign.j0 k a0 a1)))) else (none)) else (none)) else (none)) else (ra_sign.j0 k a0 a1)
theorem ra_sign.mono_l : ∀ k, (∀ y0 y1, LeO (ra_sign.j0 k y0 y1) (ra_sign.j0 (k + 1) y0 y1))
 | 0 => fun _ _ r h => by simp [ra_sign.j0] at h
 | k + 1 => by
  have ih0 := ra_sign.mono_l k
  ·
   intro y0 y1
   unfold ra_sign.j0
   repeat' with_reducible first | apply ih0 | exact LeO.refl _ | exact LeO.none _ | refine LeO.ite ?_ ?_ | refine LeO.bind ?_ (fun _ => ?_)
theorem ra_sign.mono : ∀ a0 a1 k, LeO (ra_sign.f k a0 a1) (ra_sign.f (k + 1) a0 a1) := by
 intro a0 a1 k
 have ih0 := ra_sign.mono_l k
 unfold ra_sign.f
 repeat' with_reducible first | apply ih0 | exact LeO.refl _ | exact LeO.none _ | refine LeO.ite ?_ ?_ | refine LeO.bind ?_ (fun _ => ?_)
theorem ra_sign.calls (k : Nat) (a0 : ByteArray) (a1 : Int) (r : ByteArray) (w : World) (h : ra_sign.f k a0 a1 = some r) :
  Calls Try.prog 20 #[.string a0, .int .i64 a1] w fun e w' => e = .returned (.string r) ∧ Drawn0 w w' := by
 have H : (if (wrap64 (a1 + 1)) < (a0.size : Int) then (if 0 ≤ a1 then (if a1 ≤ (wrap64 (a1 + 2)) then (if (wrap64 (a1 + 2)) ≤ (a0.size : Int) then (if (a0.extract (a1 : Int).toNat ((wrap64 (a1 + 2)) : Int).toNat).toList = ([61, 61] : List UInt8) then (some (a0.extract (a1 : Int).toNat ((wrap64 (a1 + 2)) : Int).toNat)) else (if (a0.extract (a1 : Int).toNat ((wrap64 (a1 + 2)) : Int).toNat).toList = ([60, 61] : List UInt8) then (some (a0.extract (a1 : Int).toNat ((wrap64 (a1 + 2)) : Int).toNat)) else (if (a0.extract (a1 : Int).toNat ((wrap64 (a1 + 2)) : Int).toNat).toList = ([45, 62] : List UInt8) then (some (a0.extract (a1 : Int).toNat ((wrap64 (a1 + 2)) : Int).toNat)) else (ra_sign.j0 k a0 a1)))) else (none)) else (none)) else (none)) else (ra_sign.j0 k a0 a1)) = some r := h
 clear h
 have HC3 := za H
 clear H
 go_enter Try.func20, Try.ntmps20
 go_upto_if 9 with (fail)
 go_cut [] (fun wc => ∃ (kq : Nat), Aside0 (ra_sign.j0 kq a0 a1 = some r) ∧ Aside0 (kq ≤ k) ∧ Drawn0 w wc)
 case first =>
  have H := HC3.out
  clear HC3
  by_cases c4 : (wrap64 (a1 + 1)) < (a0.size : Int)
  ·
   rw [if_pos c4] at H
   have c4b0 := decide_eq_true c4
   clear c4
   (first | rw [c4b0] | (simp only [i64_w, i32_w]; rw [c4b0]) | skip)
   by_cases c5 : 0 ≤ a1
   ·
    rw [if_pos c5] at H
    have c5b0 := eq_true c5
    have c5b1 := decide_eq_true c5
    clear c5
    by_cases c6 : a1 ≤ (wrap64 (a1 + 2))
    ·
     rw [if_pos c6] at H
     have c6b0 := eq_true c6
     have c6b1 := decide_eq_true c6
     by_cases c7 : (wrap64 (a1 + 2)) ≤ (a0.size : Int)
     ·
      rw [if_pos c7] at H
      have c7b0 := eq_true c7
      have c7b1 := decide_eq_true c7
      by_cases c8 : (a0.extract (a1 : Int).toNat ((wrap64 (a1 + 2)) : Int).toNat).toList = ([61, 61] : List UInt8)
      ·
       rw [if_pos c8] at H
       have c8b0 := beq_iff_eq.mpr c8
       have c8b1 := bne_eq_false_iff_eq.mpr c8
       clear c8
       have c9b0 := eq_true (of_decide_eq_true zq11 : 0 ≤ a1)
       have c10b0 := eq_true (of_decide_eq_true zq11 : a1 ≤ (wrap64 (a1 + 2)))
       have c11b0 := eq_true (of_decide_eq_true zq11 : (wrap64 (a1 + 2)) ≤ (a0.size : Int))
       obtain rfl := Option.some.inj H
       go_wp2
       go_ret
       exact ⟨zq31, zq28⟩
      ·
       rw [if_neg c8] at H
       have c8b0 := beq_eq_false_iff_ne.mpr c8
       have c8b1 := bne_iff_ne.mpr c8
       by_cases c12 : (a0.extract (a1 : Int).toNat ((wrap64 (a1 + 2)) : Int).toNat).toList = ([60, 61] : List UInt8)
       ·
        rw [if_pos c12] at H
        have c12b0 := beq_iff_eq.mpr c12
        have c12b1 := bne_eq_false_iff_eq.mpr c12
        clear c12
        have c13b0 := eq_true (of_decide_eq_true zq11 : 0 ≤ a1)
        have c14b0 := eq_true (of_decide_eq_true zq11 : a1 ≤ (wrap64 (a1 + 2)))
        have c15b0 := eq_true (of_decide_eq_true zq11 : (wrap64 (a1 + 2)) ≤ (a0.size : Int))
        obtain rfl := Option.some.inj H
        go_wp2
        go_ret
        exact ⟨zq31, zq28⟩
       ·
        rw [if_neg c12] at H
        have c12b0 := beq_eq_false_iff_ne.mpr c12
        have c12b1 := bne_iff_ne.mpr c12
        by_cases c16 : (a0.extract (a1 : Int).toNat ((wrap64 (a1 + 2)) : Int).toNat).toList = ([45, 62] : List UInt8)
        ·
         rw [if_pos c16] at H
         have c16b0 := beq_iff_eq.mpr c16
         have c16b1 := bne_eq_false_iff_eq.mpr c16
         clear c16
         have c17b0 := eq_true (of_decide_eq_true zq11 : 0 ≤ a1)
         have c18b0 := eq_true (of_decide_eq_true zq11 : a1 ≤ (wrap64 (a1 + 2)))
         have c19b0 := eq_true (of_decide_eq_true zq11 : (wrap64 (a1 + 2)) ≤ (a0.size : Int))
         obtain rfl := Option.some.inj H
         go_wp2
         go_ret
         exact ⟨zq31, zq28⟩
        ·
         rw [if_neg c16] at H
         have c16b0 := beq_eq_false_iff_ne.mpr c16
         have c16b1 := bne_iff_ne.mpr c16
         have H' := za H
         clear H
         go_wp2
         go_meet
         case rel => exact ⟨_, H', ⟨zq78⟩, zq28⟩
     ·
      rw [if_neg c7] at H
      exact absurd H (by simp)
    ·
     rw [if_neg c6] at H
     exact absurd H (by simp)
   ·
    rw [if_neg c5] at H
    exact absurd H (by simp)
  ·
   rw [if_neg c4] at H
   have c4b0 := decide_eq_false c4
   clear c4
   (first | rw [c4b0] | (simp only [i64_w, i32_w]; rw [c4b0]) | skip)
   have H' := za H
   clear H
   go_wp2
   go_meet
   case rel => exact ⟨_, H', ⟨zq78⟩, zq28⟩
 case rest =>
  clear HC3
  obtain ⟨kq, HA, HJ2, ⟨mc2, rfl⟩⟩ := hcut
  cases kq with
  | zero => exact absurd HA.out (by simp [ra_sign.j0])
  | succ kj2 =>
   have H := HA.out
   clear HA
   simp only [ra_sign.j0] at H
   by_cases c20 : 0 ≤ a1
   ·
    rw [if_pos c20] at H
    have c20b0 := decide_eq_true c20
    clear c20
    by_cases c21 : a1 < (a0.size : Int)
    ·
     rw [if_pos c21] at H
     have c21b0 := decide_eq_true c21
     clear c21
     by_cases c23 : (bt a0 a1) = 40
     ·
      rw [if_pos c23] at H
      have c23b0 := beq_iff_eq.mpr c23
      have c23b1 := bne_eq_false_iff_eq.mpr c23
      clear c23
      have c24b0 := eq_true (of_decide_eq_true zq11 : 0 ≤ a1)
      by_cases c25 : a1 ≤ (wrap64 (a1 + 1))
      ·
       rw [if_pos c25] at H
       have c25b0 := eq_true c25
       have c25b1 := decide_eq_true c25
       by_cases c26 : (wrap64 (a1 + 1)) ≤ (a0.size : Int)
       ·
        rw [if_pos c26] at H
        have c26b0 := eq_true c26
        have c26b1 := decide_eq_true c26
        obtain rfl := Option.some.inj H
        have p22 : 0 ≤ (a1 : Int) := of_decide_eq_true zq11
        have q22 : a1 < (a0.size : Int) := of_decide_eq_true zq11
        have hx22 := bt_at a0 a1
        replace p22 := eq_true p22
        replace q22 := eq_true q22
        go_wp2
        go_ret
        exact ⟨zq31, zq28⟩
       ·
        rw [if_neg c26] at H
        exact absurd H (by simp)
      ·
       rw [if_neg c25] at H
       exact absurd H (by simp)
     ·
      rw [if_neg c23] at H
      have c23b0 := beq_eq_false_iff_ne.mpr c23
      have c23b1 := bne_iff_ne.mpr c23
      by_cases c27 : (bt a0 a1) = 41
      ·
       rw [if_pos c27] at H
       have c27b0 := beq_iff_eq.mpr c27
       have c27b1 := bne_eq_false_iff_eq.mpr c27
       clear c27
       have c28b0 := eq_true (of_decide_eq_true zq11 : 0 ≤ a1)
       by_cases c29 : a1 ≤ (wrap64 (a1 + 1))
       ·
        rw [if_pos c29] at H
        have c29b0 := eq_true c29
        have c29b1 := decide_eq_true c29
        by_cases c30 : (wrap64 (a1 + 1)) ≤ (a0.size : Int)
        ·
         rw [if_pos c30] at H
         have c30b0 := eq_true c30
         have c30b1 := decide_eq_true c30
         obtain rfl := Option.some.inj H
         have p22 : 0 ≤ (a1 : Int) := of_decide_eq_true zq11
         have q22 : a1 < (a0.size : Int) := of_decide_eq_true zq11
         have hx22 := bt_at a0 a1
         replace p22 := eq_true p22
         replace q22 := eq_true q22
         go_wp2
         go_ret
         exact ⟨zq31, zq28⟩
        ·
         rw [if_neg c30] at H
         exact absurd H (by simp)
       ·
        rw [if_neg c29] at H
        exact absurd H (by simp)
      ·
       rw [if_neg c27] at H
       have c27b0 := beq_eq_false_iff_ne.mpr c27
       have c27b1 := bne_iff_ne.mpr c27
       by_cases c31 : (bt a0 a1) = 123
       ·
        rw [if_pos c31] at H
        have c31b0 := beq_iff_eq.mpr c31
        have c31b1 := bne_eq_false_iff_eq.mpr c31
        clear c31
        have c32b0 := eq_true (of_decide_eq_true zq11 : 0 ≤ a1)
        by_cases c33 : a1 ≤ (wrap64 (a1 + 1))
        ·
         rw [if_pos c33] at H
         have c33b0 := eq_true c33
         have c33b1 := decide_eq_true c33
         by_cases c34 : (wrap64 (a1 + 1)) ≤ (a0.size : Int)
         ·
          rw [if_pos c34] at H
          have c34b0 := eq_true c34
          have c34b1 := decide_eq_true c34
          obtain rfl := Option.some.inj H
          have p22 : 0 ≤ (a1 : Int) := of_decide_eq_true zq11
          have q22 : a1 < (a0.size : Int) := of_decide_eq_true zq11
          have hx22 := bt_at a0 a1
          replace p22 := eq_true p22
          replace q22 := eq_true q22
          go_wp2
          go_ret
          exact ⟨zq31, zq28⟩
         ·
          rw [if_neg c34] at H
          exact absurd H (by simp)
        ·
         rw [if_neg c33] at H
         exact absurd H (by simp)
       ·
        rw [if_neg c31] at H
        have c31b0 := beq_eq_false_iff_ne.mpr c31
        have c31b1 := bne_iff_ne.mpr c31
        by_cases c35 : (bt a0 a1) = 125
        ·
         rw [if_pos c35] at H
         have c35b0 := beq_iff_eq.mpr c35
         have c35b1 := bne_eq_false_iff_eq.mpr c35
         clear c35
         have c36b0 := eq_true (of_decide_eq_true zq11 : 0 ≤ a1)
         by_cases c37 : a1 ≤ (wrap64 (a1 + 1))
         ·
          rw [if_pos c37] at H
          have c37b0 := eq_true c37
          have c37b1 := decide_eq_true c37
          by_cases c38 : (wrap64 (a1 + 1)) ≤ (a0.size : Int)
          ·
           rw [if_pos c38] at H
           have c38b0 := eq_true c38
           have c38b1 := decide_eq_true c38
           obtain rfl := Option.some.inj H
           have p22 : 0 ≤ (a1 : Int) := of_decide_eq_true zq11
           have q22 : a1 < (a0.size : Int) := of_decide_eq_true zq11
           have hx22 := bt_at a0 a1
           replace p22 := eq_true p22
           replace q22 := eq_true q22
           go_wp2
           go_ret
           exact ⟨zq31, zq28⟩
          ·
           rw [if_neg c38] at H
           exact absurd H (by simp)
         ·
          rw [if_neg c37] at H
          exact absurd H (by simp)
        ·
         rw [if_neg c35] at H
         have c35b0 := beq_eq_false_iff_ne.mpr c35
         have c35b1 := bne_iff_ne.mpr c35
         by_cases c39 : (bt a0 a1) = 44
         ·
          rw [if_pos c39] at H
          have c39b0 := beq_iff_eq.mpr c39
          have c39b1 := bne_eq_false_iff_eq.mpr c39
          clear c39
          have c40b0 := eq_true (of_decide_eq_true zq11 : 0 ≤ a1)
          by_cases c41 : a1 ≤ (wrap64 (a1 + 1))
          ·
           rw [if_pos c41] at H
           have c41b0 := eq_true c41
           have c41b1 := decide_eq_true c41
           by_cases c42 : (wrap64 (a1 + 1)) ≤ (a0.size : Int)
           ·
            rw [if_pos c42] at H
            have c42b0 := eq_true c42
            have c42b1 := decide_eq_true c42
            obtain rfl := Option.some.inj H
            have p22 : 0 ≤ (a1 : Int) := of_decide_eq_true zq11
            have q22 : a1 < (a0.size : Int) := of_decide_eq_true zq11
            have hx22 := bt_at a0 a1
            replace p22 := eq_true p22
            replace q22 := eq_true q22
            go_wp2
            go_ret
            exact ⟨zq31, zq28⟩
           ·
            rw [if_neg c42] at H
            exact absurd H (by simp)
          ·
           rw [if_neg c41] at H
           exact absurd H (by simp)
         ·
          rw [if_neg c39] at H
          have c39b0 := beq_eq_false_iff_ne.mpr c39
          have c39b1 := bne_iff_ne.mpr c39
          by_cases c43 : (bt a0 a1) = 59
          ·
           rw [if_pos c43] at H
           have c43b0 := beq_iff_eq.mpr c43
           have c43b1 := bne_eq_false_iff_eq.mpr c43
           clear c43
           have c44b0 := eq_true (of_decide_eq_true zq11 : 0 ≤ a1)
           by_cases c45 : a1 ≤ (wrap64 (a1 + 1))
           ·
            rw [if_pos c45] at H
            have c45b0 := eq_true c45
            have c45b1 := decide_eq_true c45
            by_cases c46 : (wrap64 (a1 + 1)) ≤ (a0.size : Int)
            ·
             rw [if_pos c46] at H
             have c46b0 := eq_true c46
             have c46b1 := decide_eq_true c46
             obtain rfl := Option.some.inj H
             have p22 : 0 ≤ (a1 : Int) := of_decide_eq_true zq11
             have q22 : a1 < (a0.size : Int) := of_decide_eq_true zq11
             have hx22 := bt_at a0 a1
             replace p22 := eq_true p22
             replace q22 := eq_true q22
             go_wp2
             go_ret
             exact ⟨zq31, zq28⟩
            ·
             rw [if_neg c46] at H
             exact absurd H (by simp)
           ·
            rw [if_neg c45] at H
            exact absurd H (by simp)
          ·
           rw [if_neg c43] at H
           have c43b0 := beq_eq_false_iff_ne.mpr c43
           have c43b1 := bne_iff_ne.mpr c43
           by_cases c47 : (bt a0 a1) = 58
           ·
            rw [if_pos c47] at H
            have c47b0 := beq_iff_eq.mpr c47
            have c47b1 := bne_eq_false_iff_eq.mpr c47
            clear c47
            have c48b0 := eq_true (of_decide_eq_true zq11 : 0 ≤ a1)
            by_cases c49 : a1 ≤ (wrap64 (a1 + 1))
            ·
             rw [if_pos c49] at H
             have c49b0 := eq_true c49
             have c49b1 := decide_eq_true c49
             by_cases c50 : (wrap64 (a1 + 1)) ≤ (a0.size : Int)
             ·
              rw [if_pos c50] at H
              have c50b0 := eq_true c50
              have c50b1 := decide_eq_true c50
              obtain rfl := Option.some.inj H
              have p22 : 0 ≤ (a1 : Int) := of_decide_eq_true zq11
              have q22 : a1 < (a0.size : Int) := of_decide_eq_true zq11
              have hx22 := bt_at a0 a1
              replace p22 := eq_true p22
              replace q22 := eq_true q22
              go_wp2
              go_ret
              exact ⟨zq31, zq28⟩
             ·
              rw [if_neg c50] at H
              exact absurd H (by simp)
            ·
             rw [if_neg c49] at H
             exact absurd H (by simp)
           ·
            rw [if_neg c47] at H
            have c47b0 := beq_eq_false_iff_ne.mpr c47
            have c47b1 := bne_iff_ne.mpr c47
            by_cases c51 : (bt a0 a1) = 46
            ·
             rw [if_pos c51] at H
             have c51b0 := beq_iff_eq.mpr c51
             have c51b1 := bne_eq_false_iff_eq.mpr c51
             clear c51
             have c52b0 := eq_true (of_decide_eq_true zq11 : 0 ≤ a1)
             by_cases c53 : a1 ≤ (wrap64 (a1 + 1))
             ·
              rw [if_pos c53] at H
              have c53b0 := eq_true c53
              have c53b1 := decide_eq_true c53
              by_cases c54 : (wrap64 (a1 + 1)) ≤ (a0.size : Int)
              ·
               rw [if_pos c54] at H
               have c54b0 := eq_true c54
               have c54b1 := decide_eq_true c54
               obtain rfl := Option.some.inj H
               have p22 : 0 ≤ (a1 : Int) := of_decide_eq_true zq11
               have q22 : a1 < (a0.size : Int) := of_decide_eq_true zq11
               have hx22 := bt_at a0 a1
               replace p22 := eq_true p22
               replace q22 := eq_true q22
               go_wp2
               go_ret
               exact ⟨zq31, zq28⟩
              ·
               rw [if_neg c54] at H
               exact absurd H (by simp)
             ·
              rw [if_neg c53] at H
              exact absurd H (by simp)
            ·
             rw [if_neg c51] at H
             have c51b0 := beq_eq_false_iff_ne.mpr c51
             have c51b1 := bne_iff_ne.mpr c51
             by_cases c55 : (bt a0 a1) = 61
             ·
              rw [if_pos c55] at H
              have c55b0 := beq_iff_eq.mpr c55
              have c55b1 := bne_eq_false_iff_eq.mpr c55
              clear c55
              have c56b0 := eq_true (of_decide_eq_true zq11 : 0 ≤ a1)
              by_cases c57 : a1 ≤ (wrap64 (a1 + 1))
              ·
               rw [if_pos c57] at H
               have c57b0 := eq_true c57
               have c57b1 := decide_eq_true c57
               by_cases c58 : (wrap64 (a1 + 1)) ≤ (a0.size : Int)
               ·
                rw [if_pos c58] at H
                have c58b0 := eq_true c58
                have c58b1 := decide_eq_true c58
                obtain rfl := Option.some.inj H
                have p22 : 0 ≤ (a1 : Int) := of_decide_eq_true zq11
                have q22 : a1 < (a0.size : Int) := of_decide_eq_true zq11
                have hx22 := bt_at a0 a1
                replace p22 := eq_true p22
                replace q22 := eq_true q22
                go_wp2
                go_ret
                exact ⟨zq31, zq28⟩
               ·
                rw [if_neg c58] at H
                exact absurd H (by simp)
              ·
               rw [if_neg c57] at H
               exact absurd H (by simp)
             ·
              rw [if_neg c55] at H
              have c55b0 := beq_eq_false_iff_ne.mpr c55
              have c55b1 := bne_iff_ne.mpr c55
              by_cases c59 : (bt a0 a1) = 60
              ·
               rw [if_pos c59] at H
               have c59b0 := beq_iff_eq.mpr c59
               have c59b1 := bne_eq_false_iff_eq.mpr c59
               clear c59
               have c60b0 := eq_true (of_decide_eq_true zq11 : 0 ≤ a1)
               by_cases c61 : a1 ≤ (wrap64 (a1 + 1))
               ·
                rw [if_pos c61] at H
                have c61b0 := eq_true c61
                have c61b1 := decide_eq_true c61
                by_cases c62 : (wrap64 (a1 + 1)) ≤ (a0.size : Int)
                ·
                 rw [if_pos c62] at H
                 have c62b0 := eq_true c62
                 have c62b1 := decide_eq_true c62
                 obtain rfl := Option.some.inj H
                 have p22 : 0 ≤ (a1 : Int) := of_decide_eq_true zq11
                 have q22 : a1 < (a0.size : Int) := of_decide_eq_true zq11
                 have hx22 := bt_at a0 a1
                 replace p22 := eq_true p22
                 replace q22 := eq_true q22
                 go_wp2
                 go_ret
                 exact ⟨zq31, zq28⟩
                ·
                 rw [if_neg c62] at H
                 exact absurd H (by simp)
               ·
                rw [if_neg c61] at H
                exact absurd H (by simp)
              ·
               rw [if_neg c59] at H
               have c59b0 := beq_eq_false_iff_ne.mpr c59
               have c59b1 := bne_iff_ne.mpr c59
               by_cases c63 : (bt a0 a1) = 43
               ·
                rw [if_pos c63] at H
                have c63b0 := beq_iff_eq.mpr c63
                have c63b1 := bne_eq_false_iff_eq.mpr c63
                clear c63
                have c64b0 := eq_true (of_decide_eq_true zq11 : 0 ≤ a1)
                by_cases c65 : a1 ≤ (wrap64 (a1 + 1))
                ·
                 rw [if_pos c65] at H
                 have c65b0 := eq_true c65
                 have c65b1 := decide_eq_true c65
                 by_cases c66 : (wrap64 (a1 + 1)) ≤ (a0.size : Int)
                 ·
                  rw [if_pos c66] at H
                  have c66b0 := eq_true c66
                  have c66b1 := decide_eq_true c66
                  obtain rfl := Option.some.inj H
                  have p22 : 0 ≤ (a1 : Int) := of_decide_eq_true zq11
                  have q22 : a1 < (a0.size : Int) := of_decide_eq_true zq11
                  have hx22 := bt_at a0 a1
                  replace p22 := eq_true p22
                  replace q22 := eq_true q22
                  go_wp2
                  go_ret
                  exact ⟨zq31, zq28⟩
                 ·
                  rw [if_neg c66] at H
                  exact absurd H (by simp)
                ·
                 rw [if_neg c65] at H
                 exact absurd H (by simp)
               ·
                rw [if_neg c63] at H
                have c63b0 := beq_eq_false_iff_ne.mpr c63
                have c63b1 := bne_iff_ne.mpr c63
                by_cases c67 : (bt a0 a1) = 45
                ·
                 rw [if_pos c67] at H
                 have c67b0 := beq_iff_eq.mpr c67
                 have c67b1 := bne_eq_false_iff_eq.mpr c67
                 clear c67
                 have c68b0 := eq_true (of_decide_eq_true zq11 : 0 ≤ a1)
                 by_cases c69 : a1 ≤ (wrap64 (a1 + 1))
                 ·
                  rw [if_pos c69] at H
                  have c69b0 := eq_true c69
                  have c69b1 := decide_eq_true c69
                  by_cases c70 : (wrap64 (a1 + 1)) ≤ (a0.size : Int)
                  ·
                   rw [if_pos c70] at H
                   have c70b0 := eq_true c70
                   have c70b1 := decide_eq_true c70
                   obtain rfl := Option.some.inj H
                   have p22 : 0 ≤ (a1 : Int) := of_decide_eq_true zq11
                   have q22 : a1 < (a0.size : Int) := of_decide_eq_true zq11
                   have hx22 := bt_at a0 a1
                   replace p22 := eq_true p22
                   replace q22 := eq_true q22
                   go_wp2
                   go_ret
                   exact ⟨zq31, zq28⟩
                  ·
                   rw [if_neg c70] at H
                   exact absurd H (by simp)
                 ·
                  rw [if_neg c69] at H
                  exact absurd H (by simp)
                ·
                 rw [if_neg c67] at H
                 have c67b0 := beq_eq_false_iff_ne.mpr c67
                 have c67b1 := bne_iff_ne.mpr c67
                 by_cases c71 : (bt a0 a1) = 42
                 ·
                  rw [if_pos c71] at H
                  have c71b0 := beq_iff_eq.mpr c71
                  have c71b1 := bne_eq_false_iff_eq.mpr c71
                  clear c71
                  have c72b0 := eq_true (of_decide_eq_true zq11 : 0 ≤ a1)
                  by_cases c73 : a1 ≤ (wrap64 (a1 + 1))
                  ·
                   rw [if_pos c73] at H
                   have c73b0 := eq_true c73
                   have c73b1 := decide_eq_true c73
                   by_cases c74 : (wrap64 (a1 + 1)) ≤ (a0.size : Int)
                   ·
                    rw [if_pos c74] at H
                    have c74b0 := eq_true c74
                    have c74b1 := decide_eq_true c74
                    obtain rfl := Option.some.inj H
                    have p22 : 0 ≤ (a1 : Int) := of_decide_eq_true zq11
                    have q22 : a1 < (a0.size : Int) := of_decide_eq_true zq11
                    have hx22 := bt_at a0 a1
                    replace p22 := eq_true p22
                    replace q22 := eq_true q22
                    go_wp2
                    go_ret
                    exact ⟨zq31, zq28⟩
                   ·
                    rw [if_neg c74] at H
                    exact absurd H (by simp)
                  ·
                   rw [if_neg c73] at H
                   exact absurd H (by simp)
                 ·
                  rw [if_neg c71] at H
                  have c71b0 := beq_eq_false_iff_ne.mpr c71
                  have c71b1 := bne_iff_ne.mpr c71
                  by_cases c75 : (bt a0 a1) = 47
                  ·
                   rw [if_pos c75] at H
                   have c75b0 := beq_iff_eq.mpr c75
                   have c75b1 := bne_eq_false_iff_eq.mpr c75
                   clear c75
                   have c76b0 := eq_true (of_decide_eq_true zq11 : 0 ≤ a1)
                   by_cases c77 : a1 ≤ (wrap64 (a1 + 1))
                   ·
                    rw [if_pos c77] at H
                    have c77b0 := eq_true c77
                    have c77b1 := decide_eq_true c77
                    by_cases c78 : (wrap64 (a1 + 1)) ≤ (a0.size : Int)
                    ·
                     rw [if_pos c78] at H
                     have c78b0 := eq_true c78
                     have c78b1 := decide_eq_true c78
                     obtain rfl := Option.some.inj H
                     have p22 : 0 ≤ (a1 : Int) := of_decide_eq_true zq11
                     have q22 : a1 < (a0.size : Int) := of_decide_eq_true zq11
                     have hx22 := bt_at a0 a1
                     replace p22 := eq_true p22
                     replace q22 := eq_true q22
                     go_wp2
                     go_ret
                     exact ⟨zq31, zq28⟩
                    ·
                     rw [if_neg c78] at H
                     exact absurd H (by simp)
                   ·
                    rw [if_neg c77] at H
                    exact absurd H (by simp)
                  ·
                   rw [if_neg c75] at H
                   have c75b0 := beq_eq_false_iff_ne.mpr c75
                   have c75b1 := bne_iff_ne.mpr c75
                   by_cases c79 : (bt a0 a1) = 37
                   ·
                    rw [if_pos c79] at H
                    have c79b0 := beq_iff_eq.mpr c79
                    have c79b1 := bne_eq_false_iff_eq.mpr c79
                    clear c79
                    have c80b0 := eq_true (of_decide_eq_true zq11 : 0 ≤ a1)
                    by_cases c81 : a1 ≤ (wrap64 (a1 + 1))
                    ·
                     rw [if_pos c81] at H
                     have c81b0 := eq_true c81
                     have c81b1 := decide_eq_true c81
                     by_cases c82 : (wrap64 (a1 + 1)) ≤ (a0.size : Int)
                     ·
                      rw [if_pos c82] at H
                      have c82b0 := eq_true c82
                      have c82b1 := decide_eq_true c82
                      obtain rfl := Option.some.inj H
                      have p22 : 0 ≤ (a1 : Int) := of_decide_eq_true zq11
                      have q22 : a1 < (a0.size : Int) := of_decide_eq_true zq11
                      have hx22 := bt_at a0 a1
                      replace p22 := eq_true p22
                      replace q22 := eq_true q22
                      go_wp2
                      go_ret
                      exact ⟨zq31, zq28⟩
                     ·
                      rw [if_neg c82] at H
                      exact absurd H (by simp)
                    ·
                     rw [if_neg c81] at H
                     exact absurd H (by simp)
                   ·
                    rw [if_neg c79] at H
                    have c79b0 := beq_eq_false_iff_ne.mpr c79
                    have c79b1 := bne_iff_ne.mpr c79
                    by_cases c83 : (bt a0 a1) = 33
                    ·
                     rw [if_pos c83] at H
                     have c83b0 := beq_iff_eq.mpr c83
                     have c83b1 := bne_eq_false_iff_eq.mpr c83
                     clear c83
                     have c84b0 := eq_true (of_decide_eq_true zq11 : 0 ≤ a1)
                     by_cases c85 : a1 ≤ (wrap64 (a1 + 1))
                     ·
                      rw [if_pos c85] at H
                      have c85b0 := eq_true c85
                      have c85b1 := decide_eq_true c85
                      by_cases c86 : (wrap64 (a1 + 1)) ≤ (a0.size : Int)
                      ·
                       rw [if_pos c86] at H
                       have c86b0 := eq_true c86
                       have c86b1 := decide_eq_true c86
                       obtain rfl := Option.some.inj H
                       have p22 : 0 ≤ (a1 : Int) := of_decide_eq_true zq11
                       have q22 : a1 < (a0.size : Int) := of_decide_eq_true zq11
                       have hx22 := bt_at a0 a1
                       replace p22 := eq_true p22
                       replace q22 := eq_true q22
                       go_wp2
                       go_ret
                       exact ⟨zq31, zq28⟩
                      ·
                       rw [if_neg c86] at H
                       exact absurd H (by simp)
                     ·
                      rw [if_neg c85] at H
                      exact absurd H (by simp)
                    ·
                     rw [if_neg c83] at H
                     have c83b0 := beq_eq_false_iff_ne.mpr c83
                     have c83b1 := bne_iff_ne.mpr c83
                     obtain rfl := Option.some.inj H
                     have p22 : 0 ≤ (a1 : Int) := of_decide_eq_true zq11
                     have q22 : a1 < (a0.size : Int) := of_decide_eq_true zq11
                     have hx22 := bt_at a0 a1
                     replace p22 := eq_true p22
                     replace q22 := eq_true q22
                     go_wp2
                     go_ret
                     exact ⟨zq31, zq28⟩
    ·
     rw [if_neg c21] at H
     exact absurd H (by simp)
   ·
    rw [if_neg c20] at H
    exact absurd H (by simp)
end Go.Proofs.Ytcmpmlklednhbaa.QEvalJoins
