import Derived.Test.YtcjnhnnfoadklaaZRBx0
namespace Go.Proofs.Ytcjnhnnfoadklaa.QRunBranches
open Go.RowKit Go.Proofs.YtcjnhnnfoadklaaW.PrintWords Go.Proofs.YtcjnhnnfoadklaaW.PrintLast Go.Proofs.YtcjnhnnfoadklaaW.PrintMore
attribute [local go_sem] max2_int min2_int max_two min_two max_three min_three max_four min_four
set_option linter.unusedVariables false
set_option linter.unusedSimpArgs false
def ra_letter.f (a0 : Int) : Option (Bool) := if a0 ≥ 97 then (some (decide (a0 ≤ 122))) else (some false)
set_option maxHeartbeats 8000000 in
set_option maxRecDepth 100000 in
theorem ra_letter.calls (a0 : Int) (r : Bool) (w : World) (h : ra_letter.f a0 = some r) :
  Calls Try.prog 41 #[.int .u8 a0] w fun e w' => e = .returned (.bool r) ∧ Drawn0 w w' := by
 have H : (if a0 ≥ 97 then (some (decide (a0 ≤ 122))) else (some false)) = some r := h
 clear h
 by_cases c2 : a0 ≥ 97
 ·
  rw [if_pos c2] at H
  have c2b0 : decide (97 ≤ a0) = true := decide_eq_true c2
  clear c2
  obtain rfl := Option.some.inj H
  go_enter Try.func41, Try.ntmps41
  go_wp2
  go_ret
  exact ⟨zq34, zq25⟩
 ·
  rw [if_neg c2] at H
  have c2b0 : decide (97 ≤ a0) = false := decide_eq_false c2
  clear c2
  obtain rfl := Option.some.inj H
  go_enter Try.func41, Try.ntmps41
  go_wp2
  go_ret
  exact ⟨zq34, zq25⟩
def ra_digit.f (a0 : Int) : Option (Bool) := if a0 ≥ 48 then (some (decide (a0 ≤ 57))) else (some false)
set_option maxHeartbeats 8000000 in
set_option maxRecDepth 100000 in
theorem ra_digit.calls (a0 : Int) (r : Bool) (w : World) (h : ra_digit.f a0 = some r) :
  Calls Try.prog 42 #[.int .u8 a0] w fun e w' => e = .returned (.bool r) ∧ Drawn0 w w' := by
 have H : (if a0 ≥ 48 then (some (decide (a0 ≤ 57))) else (some false)) = some r := h
 clear h
 by_cases c2 : a0 ≥ 48
 ·
  rw [if_pos c2] at H
  have c2b0 : decide (48 ≤ a0) = true := decide_eq_true c2
  clear c2
  obtain rfl := Option.some.inj H
  go_enter Try.func42, Try.ntmps42
  go_wp2
  go_ret
  exact ⟨zq34, zq25⟩
 ·
  rw [if_neg c2] at H
  have c2b0 : decide (48 ≤ a0) = false := decide_eq_false c2
  clear c2
  obtain rfl := Option.some.inj H
  go_enter Try.func42, Try.ntmps42
  go_wp2
  go_ret
  exact ⟨zq34, zq25⟩
def ra_Key.f (a0 : ByteArray) : Option (Bool) := if a0.toList = ([109, 111, 100, 117, 108, 101] : List UInt8) then (some true) else (if a0.toList = ([105, 109, 112, 111, 114, 116] : List UInt8) then (some true) else (if a0.toList = ([118, 97, 114] : List UInt8) then (some true) else (if a0.toList = ([112, 114, 111, 99] : List UInt8) then (some true) else (if a0.toList = ([112, 99] : List UInt8) then (some true) else (if a0.toList = ([117, 115, 101, 115] : List UInt8) then (some true) else (if a0.toList = ([108, 101, 116] : List UInt8) then (some true) else (if a0.toList = ([99, 97, 108, 108] : List UInt8) then (some true) else (if a0.toList = ([105, 102] : List UInt8) then (some true) else (if a0.toList = ([101, 108, 115, 101] : List UInt8) then (some true) else (if a0.toList = ([119, 104, 105, 108, 101] : List UInt8) then (some true) else (if a0.toList = ([101, 109, 105, 116] : List UInt8) then (some true) else (if a0.toList = ([114, 101, 115, 117, 108, 116] : List UInt8) then (some true) else (if a0.toList = ([115, 107, 105, 112] : List UInt8) then (some true) else (if a0.toList = ([108, 97, 98, 101, 108, 115] : List UInt8) then (some true) else (some false)))))))))))))))
set_option maxHeartbeats 8000000 in
set_option maxRecDepth 100000 in
theorem ra_Key.calls (a0 : ByteArray) (r : Bool) (w : World) (h : ra_Key.f a0 = some r) :
  Calls Try.prog 43 #[.string a0] w fun e w' => e = .returned (.bool r) ∧ Drawn0 w w' := by
 have H : (if a0.toList = ([109, 111, 100, 117, 108, 101] : List UInt8) then (some true) else (if a0.toList = ([105, 109, 112, 111, 114, 116] : List UInt8) then (some true) else (if a0.toList = ([118, 97, 114] : List UInt8) then (some true) else (if a0.toList = ([112, 114, 111, 99] : List UInt8) then (some true) else (if a0.toList = ([112, 99] : List UInt8) then (some true) else (if a0.toList = ([117, 115, 101, 115] : List UInt8) then (some true) else (if a0.toList = ([108, 101, 116] : List UInt8) then (some true) else (if a0.toList = ([99, 97, 108, 108] : List UInt8) then (some true) else (if a0.toList = ([105, 102] : List UInt8) then (some true) else (if a0.toList = ([101, 108, 115, 101] : List UInt8) then (some true) else (if a0.toList = ([119, 104, 105, 108, 101] : List UInt8) then (some true) else (if a0.toList = ([101, 109, 105, 116] : List UInt8) then (some true) else (if a0.toList = ([114, 101, 115, 117, 108, 116] : List UInt8) then (some true) else (if a0.toList = ([115, 107, 105, 112] : List UInt8) then (some true) else (if a0.toList = ([108, 97, 98, 101, 108, 115] : List UInt8) then (some true) else (some false)))))))))))))))) = some r := h
 clear h
 by_cases c2 : a0.toList = ([109, 111, 100, 117, 108, 101] : List UInt8)
 ·
  rw [if_pos c2] at H
  have c2b0 := beq_iff_eq.mpr c2
  have c2b1 := bne_eq_false_iff_eq.mpr c2
  clear c2
  obtain rfl := Option.some.inj H
  go_enter Try.func43, Try.ntmps43
  go_wp2
  go_ret
  exact ⟨zq34, zq25⟩
 ·
  rw [if_neg c2] at H
  have c2b0 := beq_eq_false_iff_ne.mpr c2
  have c2b1 := bne_iff_ne.mpr c2
  by_cases c3 : a0.toList = ([105, 109, 112, 111, 114, 116] : List UInt8)
  ·
   rw [if_pos c3] at H
   have c3b0 := beq_iff_eq.mpr c3
   have c3b1 := bne_eq_false_iff_eq.mpr c3
   clear c3
   obtain rfl := Option.some.inj H
   go_enter Try.func43, Try.ntmps43
   go_wp2
   go_ret
   exact ⟨zq34, zq25⟩
  ·
   rw [if_neg c3] at H
   have c3b0 := beq_eq_false_iff_ne.mpr c3
   have c3b1 := bne_iff_ne.mpr c3
   by_cases c4 : a0.toList = ([118, 97, 114] : List UInt8)
   ·
    rw [if_pos c4] at H
    have c4b0 := beq_iff_eq.mpr c4
    have c4b1 := bne_eq_false_iff_eq.mpr c4
    clear c4
    obtain rfl := Option.some.inj H
    go_enter Try.func43, Try.ntmps43
    go_wp2
    go_ret
    exact ⟨zq34, zq25⟩
   ·
    rw [if_neg c4] at H
    have c4b0 := beq_eq_false_iff_ne.mpr c4
    have c4b1 := bne_iff_ne.mpr c4
    by_cases c5 : a0.toList = ([112, 114, 111, 99] : List UInt8)
    ·
     rw [if_pos c5] at H
     have c5b0 := beq_iff_eq.mpr c5
     have c5b1 := bne_eq_false_iff_eq.mpr c5
     clear c5
     obtain rfl := Option.some.inj H
     go_enter Try.func43, Try.ntmps43
     go_wp2
     go_ret
     exact ⟨zq34, zq25⟩
    ·
     rw [if_neg c5] at H
     have c5b0 := beq_eq_false_iff_ne.mpr c5
     have c5b1 := bne_iff_ne.mpr c5
     by_cases c6 : a0.toList = ([112, 99] : List UInt8)
     ·
      rw [if_pos c6] at H
      have c6b0 := beq_iff_eq.mpr c6
      have c6b1 := bne_eq_false_iff_eq.mpr c6
      clear c6
      obtain rfl := Option.some.inj H
      go_enter Try.func43, Try.ntmps43
      go_wp2
      go_ret
      exact ⟨zq34, zq25⟩
     ·
      rw [if_neg c6] at H
      have c6b0 := beq_eq_false_iff_ne.mpr c6
      have c6b1 := bne_iff_ne.mpr c6
      by_cases c7 : a0.toList = ([117, 115, 101, 115] : List UInt8)
      ·
       rw [if_pos c7] at H
       have c7b0 := beq_iff_eq.mpr c7
       have c7b1 := bne_eq_false_iff_eq.mpr c7
       clear c7
       obtain rfl := Option.some.inj H
       go_enter Try.func43, Try.ntmps43
       go_wp2
       go_ret
       exact ⟨zq34, zq25⟩
      ·
       rw [if_neg c7] at H
       have c7b0 := beq_eq_false_iff_ne.mpr c7
       have c7b1 := bne_iff_ne.mpr c7
       by_cases c8 : a0.toList = ([108, 101, 116] : List UInt8)
       ·
        rw [if_pos c8] at H
        have c8b0 := beq_iff_eq.mpr c8
        have c8b1 := bne_eq_false_iff_eq.mpr c8
        clear c8
        obtain rfl := Option.some.inj H
        go_enter Try.func43, Try.ntmps43
        go_wp2
        go_ret
        exact ⟨zq34, zq25⟩
       ·
        rw [if_neg c8] at H
        have c8b0 := beq_eq_false_iff_ne.mpr c8
        have c8b1 := bne_iff_ne.mpr c8
        by_cases c9 : a0.toList = ([99, 97, 108, 108] : List UInt8)
        ·
         rw [if_pos c9] at H
         have c9b0 := beq_iff_eq.mpr c9
         have c9b1 := bne_eq_false_iff_eq.mpr c9
         clear c9
         obtain rfl := Option.some.inj H
         go_enter Try.func43, Try.ntmps43
         go_wp2
         go_ret
         exact ⟨zq34, zq25⟩
        ·
         rw [if_neg c9] at H
         have c9b0 := beq_eq_false_iff_ne.mpr c9
         have c9b1 := bne_iff_ne.mpr c9
         by_cases c10 : a0.toList = ([105, 102] : List UInt8)
         ·
          rw [if_pos c10] at H
          have c10b0 := beq_iff_eq.mpr c10
          have c10b1 := bne_eq_false_iff_eq.mpr c10
          clear c10
          obtain rfl := Option.some.inj H
          go_enter Try.func43, Try.ntmps43
          go_wp2
          go_ret
          exact ⟨zq34, zq25⟩
         ·
          rw [if_neg c10] at H
          have c10b0 := beq_eq_false_iff_ne.mpr c10
          have c10b1 := bne_iff_ne.mpr c10
          by_cases c11 : a0.toList = ([101, 108, 115, 101] : List UInt8)
          ·
           rw [if_pos c11] at H
           have c11b0 := beq_iff_eq.mpr c11
           have c11b1 := bne_eq_false_iff_eq.mpr c11
           clear c11
           obtain rfl := Option.some.inj H
           go_enter Try.func43, Try.ntmps43
           go_wp2
           go_ret
           exact ⟨zq34, zq25⟩
          ·
           rw [if_neg c11] at H
           have c11b0 := beq_eq_false_iff_ne.mpr c11
           have c11b1 := bne_iff_ne.mpr c11
           by_cases c12 : a0.toList = ([119, 104, 105, 108, 101] : List UInt8)
           ·
            rw [if_pos c12] at H
            have c12b0 := beq_iff_eq.mpr c12
            have c12b1 := bne_eq_false_iff_eq.mpr c12
            clear c12
            obtain rfl := Option.some.inj H
            go_enter Try.func43, Try.ntmps43
            go_wp2
            go_ret
            exact ⟨zq34, zq25⟩
           ·
            rw [if_neg c12] at H
            have c12b0 := beq_eq_false_iff_ne.mpr c12
            have c12b1 := bne_iff_ne.mpr c12
            by_cases c13 : a0.toList = ([101, 109, 105, 116] : List UInt8)
            ·
             rw [if_pos c13] at H
             have c13b0 := beq_iff_eq.mpr c13
             have c13b1 := bne_eq_false_iff_eq.mpr c13
             clear c13
             obtain rfl := Option.some.inj H
             go_enter Try.func43, Try.ntmps43
             go_wp2
             go_ret
             exact ⟨zq34, zq25⟩
            ·
             rw [if_neg c13] at H
             have c13b0 := beq_eq_false_iff_ne.mpr c13
             have c13b1 := bne_iff_ne.mpr c13
             by_cases c14 : a0.toList = ([114, 101, 115, 117, 108, 116] : List UInt8)
             ·
              rw [if_pos c14] at H
              have c14b0 := beq_iff_eq.mpr c14
              have c14b1 := bne_eq_false_iff_eq.mpr c14
              clear c14
              obtain rfl := Option.some.inj H
              go_enter Try.func43, Try.ntmps43
              go_wp2
              go_ret
              exact ⟨zq34, zq25⟩
             ·
              rw [if_neg c14] at H
              have c14b0 := beq_eq_false_iff_ne.mpr c14
              have c14b1 := bne_iff_ne.mpr c14
              by_cases c15 : a0.toList = ([115, 107, 105, 112] : List UInt8)
              ·
               rw [if_pos c15] at H
               have c15b0 := beq_iff_eq.mpr c15
               have c15b1 := bne_eq_false_iff_eq.mpr c15
               clear c15
               obtain rfl := Option.some.inj H
               go_enter Try.func43, Try.ntmps43
               go_wp2
               go_ret
               exact ⟨zq34, zq25⟩
              ·
               rw [if_neg c15] at H
               have c15b0 := beq_eq_false_iff_ne.mpr c15
               have c15b1 := bne_iff_ne.mpr c15
               by_cases c16 : a0.toList = ([108, 97, 98, 101, 108, 115] : List UInt8)
               ·
                rw [if_pos c16] at H
                have c16b0 := beq_iff_eq.mpr c16
                have c16b1 := bne_eq_false_iff_eq.mpr c16
                clear c16
                obtain rfl := Option.some.inj H
                go_enter Try.func43, Try.ntmps43
                go_wp2
                go_ret
                exact ⟨zq34, zq25⟩
               ·
                rw [if_neg c16] at H
                have c16b0 := beq_eq_false_iff_ne.mpr c16
                have c16b1 := bne_iff_ne.mpr c16
                obtain rfl := Option.some.inj H
                go_enter Try.func43, Try.ntmps43
                go_wp2
                go_ret
                exact ⟨zq34, zq25⟩
def ra_sign.j0 : Nat → ByteArray → Int → Option (ByteArray)
 | 0, _, _ => none
 | k + 1, x0, x1 => if 0 ≤ x1 then (if x1 < (x0.size : Int) then (if (bt x0 x1) = 40 then (if x1 ≤ (wrap64 (x1 + 1)) then (if (wrap64 (x1 + 1)) ≤ (x0.size : Int) then (some (x0.extract (x1 : Int).toNat ((wrap64 (x1 + 1)) : Int).toNat)) else (none)) else (none)) else (if (bt x0 x1) = 41 then (if x1 ≤ (wrap64 (x1 + 1)) then (if (wrap64 (x1 + 1)) ≤ (x0.size : Int) then (some (x0.extract (x1 : Int).toNat ((wrap64 (x1 + 1)) : Int).toNat)) else (none)) else (none)) else (if (bt x0 x1) = 123 then (if x1 ≤ (wrap64 (x1 + 1)) then (if (wrap64 (x1 + 1)) ≤ (x0.size : Int) then (some (x0.extract (x1 : Int).toNat ((wrap64 (x1 + 1)) : Int).toNat)) else (none)) else (none)) else (if (bt x0 x1) = 125 then (if x1 ≤ (wrap64 (x1 + 1)) then (if (wrap64 (x1 + 1)) ≤ (x0.size : Int) then (some (x0.extract (x1 : Int).toNat ((wrap64 (x1 + 1)) : Int).toNat)) else (none)) else (none)) else (if (bt x0 x1) = 44 then (if x1 ≤ (wrap64 (x1 + 1)) then (if (wrap64 (x1 + 1)) ≤ (x0.size : Int) then (some (x0.extract (x1 : Int).toNat ((wrap64 (x1 + 1)) : Int).toNat)) else (none)) else (none)) else (if (bt x0 x1) = 59 then (if x1 ≤ (wrap64 (x1 + 1)) then (if (wrap64 (x1 + 1)) ≤ (x0.size : Int) then (some (x0.extract (x1 : Int).toNat ((wrap64 (x1 + 1)) : Int).toNat)) else (none)) else (none)) else (if (bt x0 x1) = 58 then (if x1 ≤ (wrap64 (x1 + 1)) then (if (wrap64 (x1 + 1)) ≤ (x0.size : Int) then (some (x0.extract (x1 : Int).toNat ((wrap64 (x1 + 1)) : Int).toNat)) else (none)) else (none)) else (if (bt x0 x1) = 46 then (none) else (if (bt x0 x1) = 61 then (if x1 ≤ (wrap64 (x1 + 1)) then (if (wrap64 (x1 + 1)) ≤ (x0.size : Int) then (some (x0.extract (x1 : Int).toNat ((wrap64 (x1 + 1)) : Int).toNat)) else (none)) else (none)) else (if (bt x0 x1) = 60 then (none) else (if (bt x0 x1) = 43 then (if x1 ≤ (wrap64 (x1 + 1)) then (if (wrap64 (x1 + 1)) ≤ (x0.size : Int) then (some (x0.extract (x1 : Int).toNat ((wrap64 (x1 + 1)) : Int).toNat)) else (none)) else (none)) else (if (bt x0 x1) = 45 then (if x1 ≤ (wrap64 (x1 + 1)) then (if (wrap64 (x1 + 1)) ≤ (x0.size : Int) then (some (x0.extract (x1 : Int).toNat ((wrap64 (x1 + 1)) : Int).toNat)) else (none)) else (none)) else (if (bt x0 x1) = 42 then (none) else (if (bt x0 x1) = 47 then (none) else (if (bt x0 x1) = 37 then (none) else (if (bt x0 x1) = 33 then (if x1 ≤ (wrap64 (x1 + 1)) then (if (wrap64 (x1 + 1)) ≤ (x0.size : Int) then (some (x0.extract (x1 : Int).toNat ((wrap64 (x1 + 1)) : Int).toNat)) else (none)) else (none)) else (some (⟨#[]⟩ : ByteArray)))))))))))))))))) else (none)) else (none)
def ra_sign.f (k : Nat) (a0 : ByteArray) (a1 : Int) : Option (ByteArray) := if (wrap64 (a1 + 1)) < (a0.size : Int) then (if 0 ≤ a1 then (if a1 ≤ (wrap64 (a1 + 2)) then (if (wrap64 (a1 + 2)) ≤ (a0.size : Int) then (if (a0.extract (a1 : Int).toNat ((wrap64 (a1 + 2)) : Int).toNat).toList = ([61, 61] : List UInt8) then (none) else (if (a0.extract (a1 : Int).toNat ((wrap64 (a1 + 2)) : Int).toNat).toList = ([60, 61] : List UInt8) then (none) else (if (a0.extract (a1 : Int).toNat ((wrap64 (a1 + 2)) : Int).toNat).toList = ([45, 62] : List UInt8) then (some (a0.extract (a1 : Int).toNat ((wrap64 (a1 + 2)) : Int).toNat)) else (ra_sign.j0 k a0 a1)))) else (none)) else (none)) else (none)) else (ra_sign.j0 k a0 a1)
theorem ra_sign.mono_l : ∀ k, (∀ y0 y1, LeO (ra_sign.j0 k y0 y1) (ra_sign.j0 (k + 1) y0 y1))
 | 0 => fun _ _ r h => by simp [ra_sign.j0] at h
 | k + 1 => by
  have ih0 := ra_sign.mono_l k
  ·
   intro y0 y1
   unfold ra_sign.j0
   repeat' with_reducible first | apply ih0 | exact LeO.refl _ | exact LeO.none _ | refine LeO.ite ?_ ?_ | refine LeO.bind ?_ (fun _ => ?_)
theorem ra_sign.mono : ∀ a0 a1 k, LeO (ra_sign.f k a0 a1) (ra_sign.f (k + 1) a0 a1) := by
 intro a0 a1 k
 have ih0 := ra_sign.mono_l k
 unfold ra_sign.f
 repeat' with_reducible first | apply ih0 | exact LeO.refl _ | exact LeO.none _ | refine LeO.ite ?_ ?_ | refine LeO.bind ?_ (fun _ => ?_)
set_option maxHeartbeats 8000000 in
set_option maxRecDepth 100000 in
theorem ra_sign.calls (k : Nat) (a0 : ByteArray) (a1 : Int) (r : ByteArray) (w : World) (h : ra_sign.f k a0 a1 = some r) :
  Calls Try.prog 44 #[.string a0, .int .i64 a1] w fun e w' => e = .returned (.string r) ∧ Drawn0 w w' := by
 have H : (if (wrap64 (a1 + 1)) < (a0.size : Int) then (if 0 ≤ a1 then (if a1 ≤ (wrap64 (a1 + 2)) then (if (wrap64 (a1 + 2)) ≤ (a0.size : Int) then (if (a0.extract (a1 : Int).toNat ((wrap64 (a1 + 2)) : Int).toNat).toList = ([61, 61] : List UInt8) then (none) else (if (a0.extract (a1 : Int).toNat ((wrap64 (a1 + 2)) : Int).toNat).toList = ([60, 61] : List UInt8) then (none) else (if (a0.extract (a1 : Int).toNat ((wrap64 (a1 + 2)) : Int).toNat).toList = ([45, 62] : List UInt8) then (some (a0.extract (a1 : Int).toNat ((wrap64 (a1 + 2)) : Int).toNat)) else (ra_sign.j0 k a0 a1)))) else (none)) else (none)) else (none)) else (ra_sign.j0 k a0 a1)) = some r := h
 clear h
 have HC3 := za H
 clear H
 go_enter Try.func44, Try.ntmps44
 go_upto_if 9 with (fail)
 go_cut [] (fun wc => ∃ (kq : Nat), Aside0 (ra_sign.j0 kq a0 a1 = some r) ∧ Aside0 (kq ≤ k) ∧ Drawn0 w wc)
 case first =>
  have H := HC3.out
  clear HC3
  by_cases c4 : (wrap64 (a1 + 1)) < (a0.size : Int)
  ·
   rw [if_pos c4] at H
   have c4b0 := decide_eq_true c4
   clear c4
   (first | rw [c4b0] | (simp only [i64_w, i32_w]; rw [c4b0]) | skip)
   by_cases c5 : 0 ≤ a1
   ·
    rw [if_pos c5] at H
    have c5b0 := eq_true c5
    have c5b1 := decide_eq_true c5
    clear c5
    by_cases c6 : a1 ≤ (wrap64 (a1 + 2))
    ·
     rw [if_pos c6] at H
     have c6b0 := eq_true c6
     have c6b1 := decide_eq_true c6
     by_cases c7 : (wrap64 (a1 + 2)) ≤ (a0.size : Int)
     ·
      rw [if_pos c7] at H
      have c7b0 := eq_true c7
      have c7b1 := decide_eq_true c7
      by_cases c8 : (a0.extract (a1 : Int).toNat ((wrap64 (a1 + 2)) : Int).toNat).toList = ([61, 61] : List UInt8)
      ·
       rw [if_pos c8] at H
       exact absurd H (by simp)
      ·
       rw [if_neg c8] at H
       have c8b0 := beq_eq_false_iff_ne.mpr c8
       have c8b1 := bne_iff_ne.mpr c8
       by_cases c9 : (a0.extract (a1 : Int).toNat ((wrap64 (a1 + 2)) : Int).toNat).toList = ([60, 61] : List UInt8)
       ·
        rw [if_pos c9] at H
        exact absurd H (by simp)
       ·
        rw [if_neg c9] at H
        have c9b0 := beq_eq_false_iff_ne.mpr c9
        have c9b1 := bne_iff_ne.mpr c9
        by_cases c10 : (a0.extract (a1 : Int).toNat ((wrap64 (a1 + 2)) : Int).toNat).toList = ([45, 62] : List UInt8)
        ·
         rw [if_pos c10] at H
         have c10b0 := beq_iff_eq.mpr c10
         have c10b1 := bne_eq_false_iff_eq.mpr c10
         clear c10
         have c11b0 := eq_true (of_decide_eq_true zq10 : 0 ≤ a1)
         have c12b0 := eq_true (of_decide_eq_true zq10 : a1 ≤ (wrap64 (a1 + 2)))
         have c13b0 := eq_true (of_decide_eq_true zq10 : (wrap64 (a1 + 2)) ≤ (a0.size : Int))
         obtain rfl := Option.some.inj H
         go_wp2
         go_ret
         exact ⟨zq34, zq25⟩
        ·
         rw [if_neg c10] at H
         have c10b0 := beq_eq_false_iff_ne.mpr c10
         have c10b1 := bne_iff_ne.mpr c10
         have H' := za H
         clear H
         go_wp2
         go_meet
         case rel => exact ⟨_, H', ⟨zq119⟩, zq25⟩
     ·
      rw [if_neg c7] at H
      exact absurd H (by simp)
    ·
     rw [if_neg c6] at H
     exact absurd H (by simp)
   ·
    rw [if_neg c5] at H
    exact absurd H (by simp)
  ·
   rw [if_neg c4] at H
   have c4b0 := decide_eq_false c4
   clear c4
   (first | rw [c4b0] | (simp only [i64_w, i32_w]; rw [c4b0]) | skip)
   have H' := za H
   clear H
   go_wp2
   go_meet
   case rel => exact ⟨_, H', ⟨zq119⟩, zq25⟩
 case rest =>
  clear HC3
  obtain ⟨kq, HA, HJ2, ⟨mc2, rfl⟩⟩ := hcut
  cases kq with
  | zero => exact absurd HA.out (by simp [ra_sign.j0])
  | succ kj2 =>
   have H := HA.out
   clear HA
   simp only [ra_sign.j0] at H
   by_cases c14 : 0 ≤ a1
   ·
    rw [if_pos c14] at H
    have c14b0 := decide_eq_true c14
    clear c14
    by_cases c15 : a1 < (a0.size : Int)
    ·
     rw [if_pos c15] at H
     have c15b0 := decide_eq_true c15
     clear c15
     by_cases c17 : (bt a0 a1) = 40
     ·
      rw [if_pos c17] at H
      have c17b0 := beq_iff_eq.mpr c17
      have c17b1 := bne_eq_false_iff_eq.mpr c17
      clear c17
      have c18b0 := eq_true (of_decide_eq_true zq10 : 0 ≤ a1)
      by_cases c19 : a1 ≤ (wrap64 (a1 + 1))
      ·
       rw [if_pos c19] at H
       have c19b0 := eq_true c19
       have c19b1 := decide_eq_true c19
       by_cases c20 : (wrap64 (a1 + 1)) ≤ (a0.size : Int)
       ·
        rw [if_pos c20] at H
        have c20b0 := eq_true c20
        have c20b1 := decide_eq_true c20
        obtain rfl := Option.some.inj H
        have p16 : 0 ≤ (a1 : Int) := of_decide_eq_true zq10
        have q16 : a1 < (a0.size : Int) := of_decide_eq_true zq10
        have hx16 := bt_at a0 a1
        replace p16 := eq_true p16
        replace q16 := eq_true q16
        go_wp2
        go_ret
        exact ⟨zq34, zq25⟩
       ·
        rw [if_neg c20] at H
        exact absurd H (by simp)
      ·
       rw [if_neg c19] at H
       exact absurd H (by simp)
     ·
      rw [if_neg c17] at H
      have c17b0 := beq_eq_false_iff_ne.mpr c17
      have c17b1 := bne_iff_ne.mpr c17
      by_cases c21 : (bt a0 a1) = 41
      ·
       rw [if_pos c21] at H
       have c21b0 := beq_iff_eq.mpr c21
       have c21b1 := bne_eq_false_iff_eq.mpr c21
       clear c21
       have c22b0 := eq_true (of_decide_eq_true zq10 : 0 ≤ a1)
       by_cases c23 : a1 ≤ (wrap64 (a1 + 1))
       ·
        rw [if_pos c23] at H
        have c23b0 := eq_true c23
        have c23b1 := decide_eq_true c23
        by_cases c24 : (wrap64 (a1 + 1)) ≤ (a0.size : Int)
        ·
         rw [if_pos c24] at H
         have c24b0 := eq_true c24
         have c24b1 := decide_eq_true c24
         obtain rfl := Option.some.inj H
         have p16 : 0 ≤ (a1 : Int) := of_decide_eq_true zq10
         have q16 : a1 < (a0.size : Int) := of_decide_eq_true zq10
         have hx16 := bt_at a0 a1
         replace p16 := eq_true p16
         replace q16 := eq_true q16
         go_wp2
         go_ret
         exact ⟨zq34, zq25⟩
        ·
         rw [if_neg c24] at H
         exact absurd H (by simp)
       ·
        rw [if_neg c23] at H
        exact absurd H (by simp)
      ·
       rw [if_neg c21] at H
       have c21b0 := beq_eq_false_iff_ne.mpr c21
       have c21b1 := bne_iff_ne.mpr c21
       by_cases c25 : (bt a0 a1) = 123
       ·
        rw [if_pos c25] at H
        have c25b0 := beq_iff_eq.mpr c25
        have c25b1 := bne_eq_false_iff_eq.mpr c25
        clear c25
        have c26b0 := eq_true (of_decide_eq_true zq10 : 0 ≤ a1)
        by_cases c27 : a1 ≤ (wrap64 (a1 + 1))
        ·
         rw [if_pos c27] at H
         have c27b0 := eq_true c27
         have c27b1 := decide_eq_true c27
         by_cases c28 : (wrap64 (a1 + 1)) ≤ (a0.size : Int)
         ·
          rw [if_pos c28] at H
          have c28b0 := eq_true c28
          have c28b1 := decide_eq_true c28
          obtain rfl := Option.some.inj H
          have p16 : 0 ≤ (a1 : Int) := of_decide_eq_true zq10
          have q16 : a1 < (a0.size : Int) := of_decide_eq_true zq10
          have hx16 := bt_at a0 a1
          replace p16 := eq_true p16
          replace q16 := eq_true q16
          go_wp2
          go_ret
          exact ⟨zq34, zq25⟩
         ·
          rw [if_neg c28] at H
          exact absurd H (by simp)
        ·
         rw [if_neg c27] at H
         exact absurd H (by simp)
       ·
        rw [if_neg c25] at H
        have c25b0 := beq_eq_false_iff_ne.mpr c25
        have c25b1 := bne_iff_ne.mpr c25
        by_cases c29 : (bt a0 a1) = 125
        ·
         rw [if_pos c29] at H
         have c29b0 := beq_iff_eq.mpr c29
         have c29b1 := bne_eq_false_iff_eq.mpr c29
         clear c29
         have c30b0 := eq_true (of_decide_eq_true zq10 : 0 ≤ a1)
         by_cases c31 : a1 ≤ (wrap64 (a1 + 1))
         ·
          rw [if_pos c31] at H
          have c31b0 := eq_true c31
          have c31b1 := decide_eq_true c31
          by_cases c32 : (wrap64 (a1 + 1)) ≤ (a0.size : Int)
          ·
           rw [if_pos c32] at H
           have c32b0 := eq_true c32
           have c32b1 := decide_eq_true c32
           obtain rfl := Option.some.inj H
           have p16 : 0 ≤ (a1 : Int) := of_decide_eq_true zq10
           have q16 : a1 < (a0.size : Int) := of_decide_eq_true zq10
           have hx16 := bt_at a0 a1
           replace p16 := eq_true p16
           replace q16 := eq_true q16
           go_wp2
           go_ret
           exact ⟨zq34, zq25⟩
          ·
           rw [if_neg c32] at H
           exact absurd H (by simp)
         ·
          rw [if_neg c31] at H
          exact absurd H (by simp)
        ·
         rw [if_neg c29] at H
         have c29b0 := beq_eq_false_iff_ne.mpr c29
         have c29b1 := bne_iff_ne.mpr c29
         by_cases c33 : (bt a0 a1) = 44
         ·
          rw [if_pos c33] at H
          have c33b0 := beq_iff_eq.mpr c33
          have c33b1 := bne_eq_false_iff_eq.mpr c33
          clear c33
          have c34b0 := eq_true (of_decide_eq_true zq10 : 0 ≤ a1)
          by_cases c35 : a1 ≤ (wrap64 (a1 + 1))
          ·
           rw [if_pos c35] at H
           have c35b0 := eq_true c35
           have c35b1 := decide_eq_true c35
           by_cases c36 : (wrap64 (a1 + 1)) ≤ (a0.size : Int)
           ·
            rw [if_pos c36] at H
            have c36b0 := eq_true c36
            have c36b1 := decide_eq_true c36
            obtain rfl := Option.some.inj H
            have p16 : 0 ≤ (a1 : Int) := of_decide_eq_true zq10
            have q16 : a1 < (a0.size : Int) := of_decide_eq_true zq10
            have hx16 := bt_at a0 a1
            replace p16 := eq_true p16
            replace q16 := eq_true q16
            go_wp2
            go_ret
            exact ⟨zq34, zq25⟩
           ·
            rw [if_neg c36] at H
            exact absurd H (by simp)
          ·
           rw [if_neg c35] at H
           exact absurd H (by simp)
         ·
          rw [if_neg c33] at H
          have c33b0 := beq_eq_false_iff_ne.mpr c33
          have c33b1 := bne_iff_ne.mpr c33
          by_cases c37 : (bt a0 a1) = 59
          ·
           rw [if_pos c37] at H
           have c37b0 := beq_iff_eq.mpr c37
           have c37b1 := bne_eq_false_iff_eq.mpr c37
           clear c37
           have c38b0 := eq_true (of_decide_eq_true zq10 : 0 ≤ a1)
           by_cases c39 : a1 ≤ (wrap64 (a1 + 1))
           ·
            rw [if_pos c39] at H
            have c39b0 := eq_true c39
            have c39b1 := decide_eq_true c39
            by_cases c40 : (wrap64 (a1 + 1)) ≤ (a0.size : Int)
            ·
             rw [if_pos c40] at H
             have c40b0 := eq_true c40
             have c40b1 := decide_eq_true c40
             obtain rfl := Option.some.inj H
             have p16 : 0 ≤ (a1 : Int) := of_decide_eq_true zq10
             have q16 : a1 < (a0.size : Int) := of_decide_eq_true zq10
             have hx16 := bt_at a0 a1
             replace p16 := eq_true p16
             replace q16 := eq_true q16
             go_wp2
             go_ret
             exact ⟨zq34, zq25⟩
            ·
             rw [if_neg c40] at H
             exact absurd H (by simp)
           ·
            rw [if_neg c39] at H
            exact absurd H (by simp)
          ·
           rw [if_neg c37] at H
           have c37b0 := beq_eq_false_iff_ne.mpr c37
           have c37b1 := bne_iff_ne.mpr c37
           by_cases c41 : (bt a0 a1) = 58
           ·
            rw [if_pos c41] at H
            have c41b0 := beq_iff_eq.mpr c41
            have c41b1 := bne_eq_false_iff_eq.mpr c41
            clear c41
            have c42b0 := eq_true (of_decide_eq_true zq10 : 0 ≤ a1)
            by_cases c43 : a1 ≤ (wrap64 (a1 + 1))
            ·
             rw [if_pos c43] at H
             have c43b0 := eq_true c43
             have c43b1 := decide_eq_true c43
             by_cases c44 : (wrap64 (a1 + 1)) ≤ (a0.size : Int)
             ·
              rw [if_pos c44] at H
              have c44b0 := eq_true c44
              have c44b1 := decide_eq_true c44
              obtain rfl := Option.some.inj H
              have p16 : 0 ≤ (a1 : Int) := of_decide_eq_true zq10
              have q16 : a1 < (a0.size : Int) := of_decide_eq_true zq10
              have hx16 := bt_at a0 a1
              replace p16 := eq_true p16
              replace q16 := eq_true q16
              go_wp2
              go_ret
              exact ⟨zq34, zq25⟩
             ·
              rw [if_neg c44] at H
              exact absurd H (by simp)
            ·
             rw [if_neg c43] at H
             exact absurd H (by simp)
           ·
            rw [if_neg c41] at H
            have c41b0 := beq_eq_false_iff_ne.mpr c41
            have c41b1 := bne_iff_ne.mpr c41
            by_cases c45 : (bt a0 a1) = 46
            ·
             rw [if_pos c45] at H
             exact absurd H (by simp)
            ·
             rw [if_neg c45] at H
             have c45b0 := beq_eq_false_iff_ne.mpr c45
             have c45b1 := bne_iff_ne.mpr c45
             by_cases c46 : (bt a0 a1) = 61
             ·
              rw [if_pos c46] at H
              have c46b0 := beq_iff_eq.mpr c46
              have c46b1 := bne_eq_false_iff_eq.mpr c46
              clear c46
              have c47b0 := eq_true (of_decide_eq_true zq10 : 0 ≤ a1)
              by_cases c48 : a1 ≤ (wrap64 (a1 + 1))
              ·
               rw [if_pos c48] at H
               have c48b0 := eq_true c48
               have c48b1 := decide_eq_true c48
               by_cases c49 : (wrap64 (a1 + 1)) ≤ (a0.size : Int)
               ·
                rw [if_pos c49] at H
                have c49b0 := eq_true c49
                have c49b1 := decide_eq_true c49
                obtain rfl := Option.some.inj H
                have p16 : 0 ≤ (a1 : Int) := of_decide_eq_true zq10
                have q16 : a1 < (a0.size : Int) := of_decide_eq_true zq10
                have hx16 := bt_at a0 a1
                replace p16 := eq_true p16
                replace q16 := eq_true q16
                go_wp2
                go_ret
                exact ⟨zq34, zq25⟩
               ·
                rw [if_neg c49] at H
                exact absurd H (by simp)
              ·
               rw [if_neg c48] at H
               exact absurd H (by simp)
             ·
              rw [if_neg c46] at H
              have c46b0 := beq_eq_false_iff_ne.mpr c46
              have c46b1 := bne_iff_ne.mpr c46
              by_cases c50 : (bt a0 a1) = 60
              ·
               rw [if_pos c50] at H
               exact absurd H (by simp)
              ·
               rw [if_neg c50] at H
               have c50b0 := beq_eq_false_iff_ne.mpr c50
               have c50b1 := bne_iff_ne.mpr c50
               by_cases c51 : (bt a0 a1) = 43
               ·
                rw [if_pos c51] at H
                have c51b0 := beq_iff_eq.mpr c51
                have c51b1 := bne_eq_false_iff_eq.mpr c51
                clear c51
                have c52b0 := eq_true (of_decide_eq_true zq10 : 0 ≤ a1)
                by_cases c53 : a1 ≤ (wrap64 (a1 + 1))
                ·
                 rw [if_pos c53] at H
                 have c53b0 := eq_true c53
                 have c53b1 := decide_eq_true c53
                 by_cases c54 : (wrap64 (a1 + 1)) ≤ (a0.size : Int)
                 ·
                  rw [if_pos c54] at H
                  have c54b0 := eq_true c54
                  have c54b1 := decide_eq_true c54
                  obtain rfl := Option.some.inj H
                  have p16 : 0 ≤ (a1 : Int) := of_decide_eq_true zq10
                  have q16 : a1 < (a0.size : Int) := of_decide_eq_true zq10
                  have hx16 := bt_at a0 a1
                  replace p16 := eq_true p16
                  replace q16 := eq_true q16
                  go_wp2
                  go_ret
                  exact ⟨zq34, zq25⟩
                 ·
                  rw [if_neg c54] at H
                  exact absurd H (by simp)
                ·
                 rw [if_neg c53] at H
                 exact absurd H (by simp)
               ·
                rw [if_neg c51] at H
                have c51b0 := beq_eq_false_iff_ne.mpr c51
                have c51b1 := bne_iff_ne.mpr c51
                by_cases c55 : (bt a0 a1) = 45
                ·
                 rw [if_pos c55] at H
                 have c55b0 := beq_iff_eq.mpr c55
                 have c55b1 := bne_eq_false_iff_eq.mpr c55
                 clear c55
                 have c56b0 := eq_true (of_decide_eq_true zq10 : 0 ≤ a1)
                 by_cases c57 : a1 ≤ (wrap64 (a1 + 1))
                 ·
                  rw [if_pos c57] at H
                  have c57b0 := eq_true c57
                  have c57b1 := decide_eq_true c57
                  by_cases c58 : (wrap64 (a1 + 1)) ≤ (a0.size : Int)
                  ·
                   rw [if_pos c58] at H
                   have c58b0 := eq_true c58
                   have c58b1 := decide_eq_true c58
                   obtain rfl := Option.some.inj H
                   have p16 : 0 ≤ (a1 : Int) := of_decide_eq_true zq10
                   have q16 : a1 < (a0.size : Int) := of_decide_eq_true zq10
                   have hx16 := bt_at a0 a1
                   replace p16 := eq_true p16
                   replace q16 := eq_true q16
                   go_wp2
                   go_ret
                   exact ⟨zq34, zq25⟩
                  ·
                   rw [if_neg c58] at H
                   exact absurd H (by simp)
                 ·
                  rw [if_neg c57] at H
                  exact absurd H (by simp)
                ·
                 rw [if_neg c55] at H
                 have c55b0 := beq_eq_false_iff_ne.mpr c55
                 have c55b1 := bne_iff_ne.mpr c55
                 by_cases c59 : (bt a0 a1) = 42
                 ·
                  rw [if_pos c59] at H
                  exact absurd H (by simp)
                 ·
                  rw [if_neg c59] at H
                  have c59b0 := beq_eq_false_iff_ne.mpr c59
                  have c59b1 := bne_iff_ne.mpr c59
                  by_cases c60 : (bt a0 a1) = 47
                  ·
                   rw [if_pos c60] at H
                   exact absurd H (by simp)
                  ·
                   rw [if_neg c60] at H
                   have c60b0 := beq_eq_false_iff_ne.mpr c60
                   have c60b1 := bne_iff_ne.mpr c60
                   by_cases c61 : (bt a0 a1) = 37
                   ·
                    rw [if_pos c61] at H
                    exact absurd H (by simp)
                   ·
                    rw [if_neg c61] at H
                    have c61b0 := beq_eq_false_iff_ne.mpr c61
                    have c61b1 := bne_iff_ne.mpr c61
                    by_cases c62 : (bt a0 a1) = 33
                    ·
                     rw [if_pos c62] at H
                     have c62b0 := beq_iff_eq.mpr c62
                     have c62b1 := bne_eq_false_iff_eq.mpr c62
                     clear c62
                     have c63b0 := eq_true (of_decide_eq_true zq10 : 0 ≤ a1)
                     by_cases c64 : a1 ≤ (wrap64 (a1 + 1))
                     ·
                      rw [if_pos c64] at H
                      have c64b0 := eq_true c64
                      have c64b1 := decide_eq_true c64
                      by_cases c65 : (wrap64 (a1 + 1)) ≤ (a0.size : Int)
                      ·
                       rw [if_pos c65] at H
                       have c65b0 := eq_true c65
                       have c65b1 := decide_eq_true c65
                       obtain rfl := Option.some.inj H
                       have p16 : 0 ≤ (a1 : Int) := of_decide_eq_true zq10
                       have q16 : a1 < (a0.size : Int) := of_decide_eq_true zq10
                       have hx16 := bt_at a0 a1
                       replace p16 := eq_true p16
                       replace q16 := eq_true q16
                       go_wp2
                       go_ret
                       exact ⟨zq34, zq25⟩
                      ·
                       rw [if_neg c65] at H
                       exact absurd H (by simp)
                     ·
                      rw [if_neg c64] at H
                      exact absurd H (by simp)
                    ·
                     rw [if_neg c62] at H
                     have c62b0 := beq_eq_false_iff_ne.mpr c62
                     have c62b1 := bne_iff_ne.mpr c62
                     obtain rfl := Option.some.inj H
                     have p16 : 0 ≤ (a1 : Int) := of_decide_eq_true zq10
                     have q16 : a1 < (a0.size : Int) := of_decide_eq_true zq10
                     have hx16 := bt_at a0 a1
                     replace p16 := eq_true p16
                     replace q16 := eq_true q16
                     go_wp2
                     go_ret
                     exact ⟨zq34, zq25⟩
    ·
     rw [if_neg c15] at H
     exact absurd H (by simp)
   ·
    rw [if_neg c14] at H
    exact absurd H (by simp)
end Go.Proofs.Ytcjnhnnfoadklaa.QRunBranches
