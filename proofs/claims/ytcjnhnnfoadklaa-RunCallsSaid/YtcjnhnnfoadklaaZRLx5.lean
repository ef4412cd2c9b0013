import Derived.Test.YtcjnhnnfoadklaaZRLx0
namespace Go.Proofs.Ytcjnhnnfoadklaa.QRunCalls
open Go.RowKit Go.Proofs.YtcjnhnnfoadklaaW.PrintWords Go.Proofs.YtcjnhnnfoadklaaW.PrintLast Go.Proofs.YtcjnhnnfoadklaaW.PrintMore
attribute [local go_sem] max2_int min2_int max_two min_two max_three min_three max_four min_four
set_option linter.unusedVariables false
set_option linter.unusedSimpArgs false
def ra_letter.f (a0 : Int) : Option (Bool) := if a0 ≥ 97 then (some (decide (a0 ≤ 122))) else (some false)
set_option maxHeartbeats 8000000 in
set_option maxRecDepth 100000 in
theorem ra_letter.calls (a0 : Int) (r : Bool) (w : World) (h : ra_letter.f a0 = some r) :
  Calls Try.prog 41 #[.int .u8 a0] w fun e w' => e = .returned (.bool r) ∧ Drawn0 w w' := by
 have H : (if a0 ≥ 97 then (some (decide (a0 ≤ 122))) else (some false)) = some r := h
 clear h
 by_cases c2 : a0 ≥ 97
 ·
  rw [if_pos c2] at H
  have c2b0 : decide (97 ≤ a0) = true := decide_eq_true c2
  clear c2
  obtain rfl := Option.some.inj H
  go_enter Try.func41, Try.ntmps41
  go_wp2
  go_ret
  exact ⟨zq32, zq28⟩
 ·
  rw [if_neg c2] at H
  have c2b0 : decide (97 ≤ a0) = false := decide_eq_false c2
  clear c2
  obtain rfl := Option.some.inj H
  go_enter Try.func41, Try.ntmps41
  go_wp2
  go_ret
  exact ⟨zq32, zq28⟩
def ra_digit.f (a0 : Int) : Option (Bool) := if a0 ≥ 48 then (some (decide (a0 ≤ 57))) else (some false)
set_option maxHeartbeats 8000000 in
set_option maxRecDepth 100000 in
theorem ra_digit.calls (a0 : Int) (r : Bool) (w : World) (h : ra_digit.f a0 = some r) :
  Calls Try.prog 42 #[.int .u8 a0] w fun e w' => e = .returned (.bool r) ∧ Drawn0 w w' := by
 have H : (if a0 ≥ 48 then (some (decide (a0 ≤ 57))) else (some false)) = some r := h
 clear h
 by_cases c2 : a0 ≥ 48
 ·
  rw [if_pos c2] at H
  have c2b0 : decide (48 ≤ a0) = true := decide_eq_true c2
  clear c2
  obtain rfl := Option.some.inj H
  go_enter Try.func42, Try.ntmps42
  go_wp2
  go_ret
  exact ⟨zq32, zq28⟩
 ·
  rw [if_neg c2] at H
  have c2b0 : decide (48 ≤ a0) = false := decide_eq_false c2
  clear c2
  obtain rfl := Option.some.inj H
  go_enter Try.func42, Try.ntmps42
  go_wp2
  go_ret
  exact ⟨zq32, zq28⟩
def ra_Key.f (a0 : ByteArray) : Option (Bool) := if a0.toList = ([109, 111, 100, 117, 108, 101] : List UInt8) then (some true) else (if a0.toList = ([105, 109, 112, 111, 114, 116] : List UInt8) then (some true) else (if a0.toList = ([118, 97, 114] : List UInt8) then (some true) else (if a0.toList = ([112, 114, 111, 99] : List UInt8) then (some true) else (if a0.toList = ([112, 99] : List UInt8) then (some true) else (if a0.toList = ([117, 115, 101, 115] : List UInt8) then (some true) else (if a0.toList = ([108, 101, 116] : List UInt8) then (some true) else (if a0.toList = ([99, 97, 108, 108] : List UInt8) then (some true) else (if a0.toList = ([105, 102] : List UInt8) then (some true) else (if a0.toList = ([101, 108, 115, 101] : List UInt8) then (some true) else (if a0.toList = ([119, 104, 105, 108, 101] : List UInt8) then (some true) else (if a0.toList = ([101, 109, 105, 116] : List UInt8) then (some true) else (if a0.toList = ([114, 101, 115, 117, 108, 116] : List UInt8) then (some true) else (if a0.toList = ([115, 107, 105, 112] : List UInt8) then (some true) else (if a0.toList = ([108, 97, 98, 101, 108, 115] : List UInt8) then (some true) else (some false)))))))))))))))
set_option maxHeartbeats 8000000 in
set_option maxRecDepth 100000 in
theorem ra_Key.calls (a0 : ByteArray) (r : Bool) (w : World) (h : ra_Key.f a0 = some r) :
  Calls Try.prog 43 #[.string a0] w fun e w' => e = .returned (.bool r) ∧ Drawn0 w w' := by
 have H : (if a0.toList = ([109, 111, 100, 117, 108, 101] : List UInt8) then (some true) else (if a0.toList = ([105, 109, 112, 111, 114, 116] : List UInt8) then (some true) else (if a0.toList = ([118, 97, 114] : List UInt8) then (some true) else (if a0.toList = ([112, 114, 111, 99] : List UInt8) then (some true) else (if a0.toList = ([112, 99] : List UInt8) then (some true) else (if a0.toList = ([117, 115, 101, 115] : List UInt8) then (some true) else (if a0.toList = ([108, 101, 116] : List UInt8) then (some true) else (if a0.toList = ([99, 97, 108, 108] : List UInt8) then (some true) else (if a0.toList = ([105, 102] : List UInt8) then (some true) else (if a0.toList = ([101, 108, 115, 101] : List UInt8) then (some true) else (if a0.toList = ([119, 104, 105, 108, 101] : List UInt8) then (some true) else (if a0.toList = ([101, 109, 105, 116] : List UInt8) then (some true) else (if a0.toList = ([114, 101, 115, 117, 108, 116] : List UInt8) then (some true) else (if a0.toList = ([115, 107, 105, 112] : List UInt8) then (some true) else (if a0.toList = ([108, 97, 98, 101, 108, 115] : List UInt8) then (some true) else (some false)))))))))))))))) = some r := h
 clear h
 by_cases c2 : a0.toList = ([109, 111, 100, 117, 108, 101] : List UInt8)
 ·
  rw [if_pos c2] at H
  have c2b0 := beq_iff_eq.mpr c2
  have c2b1 := bne_eq_false_iff_eq.mpr c2
  clear c2
  obtain rfl := Option.some.inj H
  go_enter Try.func43, Try.ntmps43
  go_wp2
  go_ret
  exact ⟨zq32, zq28⟩
 ·
  rw [if_neg c2] at H
  have c2b0 := beq_eq_false_iff_ne.mpr c2
  have c2b1 := bne_iff_ne.mpr c2
  by_cases c3 : a0.toList = ([105, 109, 112, 111, 114, 116] : List UInt8)
  ·
   rw [if_pos c3] at H
   have c3b0 := beq_iff_eq.mpr c3
   have c3b1 := bne_eq_false_iff_eq.mpr c3
   clear c3
   obtain rfl := Option.some.inj H
   go_enter Try.func43, Try.ntmps43
   go_wp2
   go_ret
   exact ⟨zq32, zq28⟩
  ·
   rw [if_neg c3] at H
   have c3b0 := beq_eq_false_iff_ne.mpr c3
   have c3b1 := bne_iff_ne.mpr c3
   by_cases c4 : a0.toList = ([118, 97, 114] : List UInt8)
   ·
    rw [if_pos c4] at H
    have c4b0 := beq_iff_eq.mpr c4
    have c4b1 := bne_eq_false_iff_eq.mpr c4
    clear c4
    obtain rfl := Option.some.inj H
    go_enter Try.func43, Try.ntmps43
    go_wp2
    go_ret
    exact ⟨zq32, zq28⟩
   ·
    rw [if_neg c4] at H
    have c4b0 := beq_eq_false_iff_ne.mpr c4
    have c4b1 := bne_iff_ne.mpr c4
    by_cases c5 : a0.toList = ([112, 114, 111, 99] : List UInt8)
    ·
     rw [if_pos c5] at H
     have c5b0 := beq_iff_eq.mpr c5
     have c5b1 := bne_eq_false_iff_eq.mpr c5
     clear c5
     obtain rfl := Option.some.inj H
     go_enter Try.func43, Try.ntmps43
     go_wp2
     go_ret
     exact ⟨zq32, zq28⟩
    ·
     rw [if_neg c5] at H
     have c5b0 := beq_eq_false_iff_ne.mpr c5
     have c5b1 := bne_iff_ne.mpr c5
     by_cases c6 : a0.toList = ([112, 99] : List UInt8)
     ·
      rw [if_pos c6] at H
      have c6b0 := beq_iff_eq.mpr c6
      have c6b1 := bne_eq_false_iff_eq.mpr c6
      clear c6
      obtain rfl := Option.some.inj H
      go_enter Try.func43, Try.ntmps43
      go_wp2
      go_ret
      exact ⟨zq32, zq28⟩
     ·
      rw [if_neg c6] at H
      have c6b0 := beq_eq_false_iff_ne.mpr c6
      have c6b1 := bne_iff_ne.mpr c6
      by_cases c7 : a0.toList = ([117, 115, 101, 115] : List UInt8)
      ·
       rw [if_pos c7] at H
       have c7b0 := beq_iff_eq.mpr c7
       have c7b1 := bne_eq_false_iff_eq.mpr c7
       clear c7
       obtain rfl := Option.some.inj H
       go_enter Try.func43, Try.ntmps43
       go_wp2
       go_ret
       exact ⟨zq32, zq28⟩
      ·
       rw [if_neg c7] at H
       have c7b0 := beq_eq_false_iff_ne.mpr c7
       have c7b1 := bne_iff_ne.mpr c7
       by_cases c8 : a0.toList = ([108, 101, 116] : List UInt8)
       ·
        rw [if_pos c8] at H
        have c8b0 := beq_iff_eq.mpr c8
        have c8b1 := bne_eq_false_iff_eq.mpr c8
        clear c8
        obtain rfl := Option.some.inj H
        go_enter Try.func43, Try.ntmps43
        go_wp2
        go_ret
        exact ⟨zq32, zq28⟩
       ·
        rw [if_neg c8] at H
        have c8b0 := beq_eq_false_iff_ne.mpr c8
        have c8b1 := bne_iff_ne.mpr c8
        by_cases c9 : a0.toList = ([99, 97, 108, 108] : List UInt8)
        ·
         rw [if_pos c9] at H
         have c9b0 := beq_iff_eq.mpr c9
         have c9b1 := bne_eq_false_iff_eq.mpr c9
         clear c9
         obtain rfl := Option.some.inj H
         go_enter Try.func43, Try.ntmps43
         go_wp2
         go_ret
         exact ⟨zq32, zq28⟩
        ·
         rw [if_neg c9] at H
         have c9b0 := beq_eq_false_iff_ne.mpr c9
         have c9b1 := bne_iff_ne.mpr c9
         by_cases c10 : a0.toList = ([105, 102] : List UInt8)
         ·
          rw [if_pos c10] at H
          have c10b0 := beq_iff_eq.mpr c10
          have c10b1 := bne_eq_false_iff_eq.mpr c10
          clear c10
          obtain rfl := Option.some.inj H
          go_enter Try.func43, Try.ntmps43
          go_wp2
          go_ret
          exact ⟨zq32, zq28⟩
         ·
          rw [if_neg c10] at H
          have c10b0 := beq_eq_false_iff_ne.mpr c10
          have c10b1 := bne_iff_ne.mpr c10
          by_cases c11 : a0.toList = ([101, 108, 115, 101] : List UInt8)
          ·
           rw [if_pos c11] at H
           have c11b0 := beq_iff_eq.mpr c11
           have c11b1 := bne_eq_false_iff_eq.mpr c11
           clear c11
           obtain rfl := Option.some.inj H
           go_enter Try.func43, Try.ntmps43
           go_wp2
           go_ret
           exact ⟨zq32, zq28⟩
          ·
           rw [if_neg c11] at H
           have c11b0 := beq_eq_false_iff_ne.mpr c11
           have c11b1 := bne_iff_ne.mpr c11
           by_cases c12 : a0.toList = ([119, 104, 105, 108, 101] : List UInt8)
           ·
            rw [if_pos c12] at H
            have c12b0 := beq_iff_eq.mpr c12
            have c12b1 := bne_eq_false_iff_eq.mpr c12
            clear c12
            obtain rfl := Option.some.inj H
            go_enter Try.func43, Try.ntmps43
            go_wp2
            go_ret
            exact ⟨zq32, zq28⟩
           ·
            rw [if_neg c12] at H
            have c12b0 := beq_eq_false_iff_ne.mpr c12
            have c12b1 := bne_iff_ne.mpr c12
            by_cases c13 : a0.toList = ([101, 109, 105, 116] : List UInt8)
            ·
             rw [if_pos c13] at H
             have c13b0 := beq_iff_eq.mpr c13
             have c13b1 := bne_eq_false_iff_eq.mpr c13
             clear c13
             obtain rfl := Option.some.inj H
             go_enter Try.func43, Try.ntmps43
             go_wp2
             go_ret
             exact ⟨zq32, zq28⟩
            ·
             rw [if_neg c13] at H
             have c13b0 := beq_eq_false_iff_ne.mpr c13
             have c13b1 := bne_iff_ne.mpr c13
             by_cases c14 : a0.toList = ([114, 101, 115, 117, 108, 116] : List UInt8)
             ·
              rw [if_pos c14] at H
              have c14b0 := beq_iff_eq.mpr c14
              have c14b1 := bne_eq_false_iff_eq.mpr c14
              clear c14
              obtain rfl := Option.some.inj H
              go_enter Try.func43, Try.ntmps43
              go_wp2
              go_ret
              exact ⟨zq32, zq28⟩
             ·
              rw [if_neg c14] at H
              have c14b0 := beq_eq_false_iff_ne.mpr c14
              have c14b1 := bne_iff_ne.mpr c14
              by_cases c15 : a0.toList = ([115, 107, 105, 112] : List UInt8)
              ·
               rw [if_pos c15] at H
               have c15b0 := beq_iff_eq.mpr c15
               have c15b1 := bne_eq_false_iff_eq.mpr c15
               clear c15
               obtain rfl := Option.some.inj H
               go_enter Try.func43, Try.ntmps43
               go_wp2
               go_ret
               exact ⟨zq32, zq28⟩
              ·
               rw [if_neg c15] at H
               have c15b0 := beq_eq_false_iff_ne.mpr c15
               have c15b1 := bne_iff_ne.mpr c15
               by_cases c16 : a0.toList = ([108, 97, 98, 101, 108, 115] : List UInt8)
               ·
                rw [if_pos c16] at H
                have c16b0 := beq_iff_eq.mpr c16
                have c16b1 := bne_eq_false_iff_eq.mpr c16
                clear c16
                obtain rfl := Option.some.inj H
                go_enter Try.func43, Try.ntmps43
                go_wp2
                go_ret
                exact ⟨zq32, zq28⟩
               ·
                rw [if_neg c16] at H
                have c16b0 := beq_eq_false_iff_ne.mpr c16
                have c16b1 := bne_iff_ne.mpr c16
                obtain rfl := Option.some.inj H
                go_enter Try.func43, Try.ntmps43
                go_wp2
                go_ret
                exact ⟨zq32, zq28⟩
def ra_sign.j0 : Nat → ByteArray → Int → Option (ByteArray)
 | 0, _, _ => none
 | k + 1, x0, x1 => if 0 ≤ x1 then (if x1 < (x0.size : Int) then (if (bt x0 x1) = 40 then (if x1 ≤ (wrap64 (x1 + 1)) then (if (wrap64 (x1 + 1)) ≤ (x0.size : Int) then (some (x0.extract (x1 : Int).toNat ((wrap64 (x1 + 1)) : Int).toNat)) else (none)) else (none)) else (if (bt x0 x1) = 41 then (if x1 ≤ (wrap64 (x1 + 1)) then (if (wrap64 (x1 + 1)) ≤ (x0.size : Int) then (some (x0.extract (x1 : Int).toNat ((wrap64 (x1 + 1)) : Int).toNat)) else (none)) else (none)) else (if (bt x0 x1) = 123 then (if x1 ≤ (wrap64 (x1 + 1)) then (if (wrap64 (x1 + 1)) ≤ (x0.size : Int) then (some (x0.extract (x1 : Int).toNat ((wrap64 (x1 + 1)) : Int).toNat)) else (none)) else (none)) else (if (bt x0 x1) = 125 then (if x1 ≤ (wrap64 (x1 + 1)) then (if (wrap64 (x1 + 1)) ≤ (x0.size : Int) then (some (x0.extract (x1 : Int).toNat ((wrap64 (x1 + 1)) : Int).toNat)) else (none)) else (none)) else (if (bt x0 x1) = 44 then (if x1 ≤ (wrap64 (x1 + 1)) then (if (wrap64 (x1 + 1)) ≤ (x0.size : Int) then (some (x0.extract (x1 : Int).toNat ((wrap64 (x1 + 1)) : Int).toNat)) else (none)) else (none)) else (if (bt x0 x1) = 59 then (if x1 ≤ (wrap64 (x1 + 1)) then (if (wrap64 (x1 + 1)) ≤ (x0.size : Int) then (some (x0.extract (x1 : Int).toNat ((wrap64 (x1 + 1)) : Int).toNat)) else (none)) else (none)) else (if (bt x0 x1) = 58 then (if x1 ≤ (wrap64 (x1 + 1)) then (if (wrap64 (x1 + 1)) ≤ (x0.size : Int) then (some (x0.extract (x1 : Int).toNat ((wrap64 (x1 + 1)) : Int).toNat)) else (none)) else (none)) else (if (bt x0 x1) = 46 then (if x1 ≤ (wrap64 (x1 + 1)) then (if (wrap64 (x1 + 1)) ≤ (x0.size : Int) then (some (x0.extract (x1 : Int).toNat ((wrap64 (x1 + 1)) : Int).toNat)) else (none)) else (none)) else (if (bt x0 x1) = 61 then (if x1 ≤ (wrap64 (x1 + 1)) then (if (wrap64 (x1 + 1)) ≤ (x0.size : Int) then (some (x0.extract (x1 : Int).toNat ((wrap64 (x1 + 1)) : Int).toNat)) else (none)) else (none)) else (if (bt x0 x1) = 60 then (none) else (if (bt x0 x1) = 43 then (if x1 ≤ (wrap64 (x1 + 1)) then (if (wrap64 (x1 + 1)) ≤ (x0.size : Int) then (some (x0.extract (x1 : Int).toNat ((wrap64 (x1 + 1)) : Int).toNat)) else (none)) else (none)) else (if (bt x0 x1) = 45 then (if x1 ≤ (wrap64 (x1 + 1)) then (if (wrap64 (x1 + 1)) ≤ (x0.size : Int) then (some (x0.extract (x1 : Int).toNat ((wrap64 (x1 + 1)) : Int).toNat)) else (none)) else (none)) else (if (bt x0 x1) = 42 then (if x1 ≤ (wrap64 (x1 + 1)) then (if (wrap64 (x1 + 1)) ≤ (x0.size : Int) then (some (x0.extract (x1 : Int).toNat ((wrap64 (x1 + 1)) : Int).toNat)) else (none)) else (none)) else (if (bt x0 x1) = 47 then (none) else (if (bt x0 x1) = 37 then (none) else (if (bt x0 x1) = 33 then (if x1 ≤ (wrap64 (x1 + 1)) then (if (wrap64 (x1 + 1)) ≤ (x0.size : Int) then (some (x0.extract (x1 : Int).toNat ((wrap64 (x1 + 1)) : Int).toNat)) else (none)) else (none)) else (some (⟨#[]⟩ : ByteArray)))))))))))))))))) else (none)) else (none)
def ra_sign.f (k : Nat) (a0 : ByteArray) (a1 : Int) : Option (ByteArray) := if (wrap64 (a1 + 1)) < (a0.size : Int) then (if 0 ≤ a1 then (if a1 ≤ (wrap64 (a1 + 2)) then (if (wrap64 (a1 + 2)) ≤ (a0.size : Int) then (if (a0.extract (a1 : Int).toNat ((wrap64 (a1 + 2)) : Int).toNat).toList = ([61, 61] : List UInt8) then (some (a0.extract (a1 : Int).toNat ((wrap64 (a1 + 2)) : Int).toNat)) else (if (a0.extract (a1 : Int).toNat ((wrap64 (a1 + 2)) : Int).toNat).toList = ([60, 61] : List UInt8) then (none) else (if (a0.extract (a1 : Int).toNat ((wrap64 (a1 + 2)) : Int).toNat).toList = ([45, 62] : List UInt8) then (some (a0.extract (a1 : Int).toNat ((wrap64 (a1 + 2)) : Int).toNat)) else (ra_sign.j0 k a0 a1)))) else (none)) else (none)) else (none)) else (ra_sign.j0 k a0 a1)
theorem ra_sign.mono_l : ∀ k, (∀ y0 y1, LeO (ra_sign.j0 k y0 y1) (ra_sign.j0 (k + 1) y0 y1))
 | 0 => fun _ _ r h => by simp [ra_sign.j0] at h
 | k + 1 => by
  have ih0 := ra_sign.mono_l k
  ·
   intro y0 y1
   unfold ra_sign.j0
   repeat' with_reducible first | apply ih0 | exact LeO.refl _ | exact LeO.none _ | refine LeO.ite ?_ ?_ | refine LeO.bind ?_ (fun _ => ?_)
theorem ra_sign.mono : ∀ a0 a1 k, LeO (ra_sign.f k a0 a1) (ra_sign.f (k + 1) a0 a1) := by
 intro a0 a1 k
 have ih0 := ra_sign.mono_l k
 unfold ra_sign.f
 repeat' with_reducible first | apply ih0 | exact LeO.refl _ | exact LeO.none _ | refine LeO.ite ?_ ?_ | refine LeO.bind ?_ (fun _ => ?_)
set_option maxHeartbeats 8000000 in
set_option maxRecDepth 100000 in
theorem ra_sign.calls (k : Nat) (a0 : ByteArray) (a1 : Int) (r : ByteArray) (w : World) (h : ra_sign.f k a0 a1 = some r) :
  Calls Try.prog 44 #[.string a0, .int .i64 a1] w fun e w' => e = .returned (.string r) ∧ Drawn0 w w' := by
 have H : (if (wrap64 (a1 + 1)) < (a0.size : Int) then (if 0 ≤ a1 then (if a1 ≤ (wrap64 (a1 + 2)) then (if (wrap64 (a1 + 2)) ≤ (a0.size : Int) then (if (a0.extract (a1 : Int).toNat ((wrap64 (a1 + 2)) : Int).toNat).toList = ([61, 61] : List UInt8) then (some (a0.extract (a1 : Int).toNat ((wrap64 (a1 + 2)) : Int).toNat)) else (if (a0.extract (a1 : Int).toNat ((wrap64 (a1 + 2)) : Int).toNat).toList = ([60, 61] : List UInt8) then (none) else (if (a0.extract (a1 : Int).toNat ((wrap64 (a1 + 2)) : Int).toNat).toList = ([45, 62] : List UInt8) then (some (a0.extract (a1 : Int).toNat ((wrap64 (a1 + 2)) : Int).toNat)) else (ra_sign.j0 k a0 a1)))) else (none)) else (none)) else (none)) else (ra_sign.j0 k a0 a1)) = some r := h
 clear h
 have HC3 := za H
 clear H
 go_enter Try.func44, Try.ntmps44
 go_upto_if 9 with (fail)
 go_cut [] (fun wc => ∃ (kq : Nat), Aside0 (ra_sign.j0 kq a0 a1 = some r) ∧ Aside0 (kq ≤ k) ∧ Drawn0 w wc)
 case first =>
  have H := HC3.out
  clear HC3
  by_cases c4 : (wrap64 (a1 + 1)) < (a0.size : Int)
  ·
   rw [if_pos c4] at H
   have c4b0 := decide_eq_true c4
   clear c4
   (first | rw [c4b0] | (simp only [i64_w, i32_w]; rw [c4b0]) | skip)
   by_cases c5 : 0 ≤ a1
   ·
    rw [if_pos c5] at H
    have c5b0 := eq_true c5
    have c5b1 := decide_eq_true c5
    clear c5
    by_cases c6 : a1 ≤ (wrap64 (a1 + 2))
    ·
     rw [if_pos c6] at H
     have c6b0 := eq_true c6
     have c6b1 := decide_eq_true c6
     by_cases c7 : (wrap64 (a1 + 2)) ≤ (a0.size : Int)
     ·
      rw [if_pos c7] at H
      have c7b0 := eq_true c7
      have c7b1 := decide_eq_true c7
      by_cases c8 : (a0.extract (a1 : Int).toNat ((wrap64 (a1 + 2)) : Int).toNat).toList = ([61, 61] : List UInt8)
      ·
       rw [if_pos c8] at H
       have c8b0 := beq_iff_eq.mpr c8
       have c8b1 := bne_eq_false_iff_eq.mpr c8
       clear c8
       have c9b0 := eq_true (of_decide_eq_true zq9 : 0 ≤ a1)
       have c10b0 := eq_true (of_decide_eq_true zq9 : a1 ≤ (wrap64 (a1 + 2)))
       have c11b0 := eq_true (of_decide_eq_true zq9 : (wrap64 (a1 + 2)) ≤ (a0.size : Int))
       obtain rfl := Option.some.inj H
       go_wp2
       go_ret
       exact ⟨zq32, zq28⟩
      ·
       rw [if_neg c8] at H
       have c8b0 := beq_eq_false_iff_ne.mpr c8
       have c8b1 := bne_iff_ne.mpr c8
       by_cases c12 : (a0.extract (a1 : Int).toNat ((wrap64 (a1 + 2)) : Int).toNat).toList = ([60, 61] : List UInt8)
       ·
        rw [if_pos c12] at H
        exact absurd H (by simp)
       ·
        rw [if_neg c12] at H
        have c12b0 := beq_eq_false_iff_ne.mpr c12
        have c12b1 := bne_iff_ne.mpr c12
        by_cases c13 : (a0.extract (a1 : Int).toNat ((wrap64 (a1 + 2)) : Int).toNat).toList = ([45, 62] : List UInt8)
        ·
         rw [if_pos c13] at H
         have c13b0 := beq_iff_eq.mpr c13
         have c13b1 := bne_eq_false_iff_eq.mpr c13
         clear c13
         have c14b0 := eq_true (of_decide_eq_true zq9 : 0 ≤ a1)
         have c15b0 := eq_true (of_decide_eq_true zq9 : a1 ≤ (wrap64 (a1 + 2)))
         have c16b0 := eq_true (of_decide_eq_true zq9 : (wrap64 (a1 + 2)) ≤ (a0.size : Int))
         obtain rfl := Option.some.inj H
         go_wp2
         go_ret
         exact ⟨zq32, zq28⟩
        ·
         rw [if_neg c13] at H
         have c13b0 := beq_eq_false_iff_ne.mpr c13
         have c13b1 := bne_iff_ne.mpr c13
         have H' := za H
         clear H
         go_wp2
         go_meet
         case rel => exact ⟨_, H', ⟨zq88⟩, zq28⟩
     ·
      rw [if_neg c7] at H
      exact absurd H (by simp)
    ·
     rw [if_neg c6] at H
     exact absurd H (by simp)
   ·
    rw [if_neg c5] at H
    exact absurd H (by simp)
  ·
   rw [if_neg c4] at H
   have c4b0 := decide_eq_false c4
   clear c4
   (first | rw [c4b0] | (simp only [i64_w, i32_w]; rw [c4b0]) | skip)
   have H' := za H
   clear H
   go_wp2
   go_meet
   case rel => exact ⟨_, H', ⟨zq88⟩, zq28⟩
 case rest =>
  clear HC3
  obtain ⟨kq, HA, HJ2, ⟨mc2, rfl⟩⟩ := hcut
  cases kq with
  | zero => exact absurd HA.out (by simp [ra_sign.j0])
  | succ kj2 =>
   have H := HA.out
   clear HA
   simp only [ra_sign.j0] at H
   by_cases c17 : 0 ≤ a1
   ·
    rw [if_pos c17] at H
    have c17b0 := decide_eq_true c17
    clear c17
    by_cases c18 : a1 < (a0.size : Int)
    ·
     rw [if_pos c18] at H
     have c18b0 := decide_eq_true c18
     clear c18
     by_cases c20 : (bt a0 a1) = 40
     ·
      rw [if_pos c20] at H
      have c20b0 := beq_iff_eq.mpr c20
      have c20b1 := bne_eq_false_iff_eq.mpr c20
      clear c20
      have c21b0 := eq_true (of_decide_eq_true zq9 : 0 ≤ a1)
      by_cases c22 : a1 ≤ (wrap64 (a1 + 1))
      ·
       rw [if_pos c22] at H
       have c22b0 := eq_true c22
       have c22b1 := decide_eq_true c22
       by_cases c23 : (wrap64 (a1 + 1)) ≤ (a0.size : Int)
       ·
        rw [if_pos c23] at H
        have c23b0 := eq_true c23
        have c23b1 := decide_eq_true c23
        obtain rfl := Option.some.inj H
        have p19 : 0 ≤ (a1 : Int) := of_decide_eq_true zq9
        have q19 : a1 < (a0.size : Int) := of_decide_eq_true zq9
        have hx19 := bt_at a0 a1
        replace p19 := eq_true p19
        replace q19 := eq_true q19
        go_wp2
        go_ret
        exact ⟨zq32, zq28⟩
       ·
        rw [if_neg c23] at H
        exact absurd H (by simp)
      ·
       rw [if_neg c22] at H
       exact absurd H (by simp)
     ·
      rw [if_neg c20] at H
      have c20b0 := beq_eq_false_iff_ne.mpr c20
      have c20b1 := bne_iff_ne.mpr c20
      by_cases c24 : (bt a0 a1) = 41
      ·
       rw [if_pos c24] at H
       have c24b0 := beq_iff_eq.mpr c24
       have c24b1 := bne_eq_false_iff_eq.mpr c24
       clear c24
       have c25b0 := eq_true (of_decide_eq_true zq9 : 0 ≤ a1)
       by_cases c26 : a1 ≤ (wrap64 (a1 + 1))
       ·
        rw [if_pos c26] at H
        have c26b0 := eq_true c26
        have c26b1 := decide_eq_true c26
        by_cases c27 : (wrap64 (a1 + 1)) ≤ (a0.size : Int)
        ·
         rw [if_pos c27] at H
         have c27b0 := eq_true c27
         have c27b1 := decide_eq_true c27
         obtain rfl := Option.some.inj H
         have p19 : 0 ≤ (a1 : Int) := of_decide_eq_true zq9
         have q19 : a1 < (a0.size : Int) := of_decide_eq_true zq9
         have hx19 := bt_at a0 a1
         replace p19 := eq_true p19
         replace q19 := eq_true q19
         go_wp2
         go_ret
         exact ⟨zq32, zq28⟩
        ·
         rw [if_neg c27] at H
         exact absurd H (by simp)
       ·
        rw [if_neg c26] at H
        exact absurd H (by simp)
      ·
       rw [if_neg c24] at H
       have c24b0 := beq_eq_false_iff_ne.mpr c24
       have c24b1 := bne_iff_ne.mpr c24
       by_cases c28 : (bt a0 a1) = 123
       ·
        rw [if_pos c28] at H
        have c28b0 := beq_iff_eq.mpr c28
        have c28b1 := bne_eq_false_iff_eq.mpr c28
        clear c28
        have c29b0 := eq_true (of_decide_eq_true zq9 : 0 ≤ a1)
        by_cases c30 : a1 ≤ (wrap64 (a1 + 1))
        ·
         rw [if_pos c30] at H
         have c30b0 := eq_true c30
         have c30b1 := decide_eq_true c30
         by_cases c31 : (wrap64 (a1 + 1)) ≤ (a0.size : Int)
         ·
          rw [if_pos c31] at H
          have c31b0 := eq_true c31
          have c31b1 := decide_eq_true c31
          obtain rfl := Option.some.inj H
          have p19 : 0 ≤ (a1 : Int) := of_decide_eq_true zq9
          have q19 : a1 < (a0.size : Int) := of_decide_eq_true zq9
          have hx19 := bt_at a0 a1
          replace p19 := eq_true p19
          replace q19 := eq_true q19
          go_wp2
          go_ret
          exact ⟨zq32, zq28⟩
         ·
          rw [if_neg c31] at H
          exact absurd H (by simp)
        ·
         rw [if_neg c30] at H
         exact absurd H (by simp)
       ·
        rw [if_neg c28] at H
        have c28b0 := beq_eq_false_iff_ne.mpr c28
        have c28b1 := bne_iff_ne.mpr c28
        by_cases c32 : (bt a0 a1) = 125
        ·
         rw [if_pos c32] at H
         have c32b0 := beq_iff_eq.mpr c32
         have c32b1 := bne_eq_false_iff_eq.mpr c32
         clear c32
         have c33b0 := eq_true (of_decide_eq_true zq9 : 0 ≤ a1)
         by_cases c34 : a1 ≤ (wrap64 (a1 + 1))
         ·
          rw [if_pos c34] at H
          have c34b0 := eq_true c34
          have c34b1 := decide_eq_true c34
          by_cases c35 : (wrap64 (a1 + 1)) ≤ (a0.size : Int)
          ·
           rw [if_pos c35] at H
           have c35b0 := eq_true c35
           have c35b1 := decide_eq_true c35
           obtain rfl := Option.some.inj H
           have p19 : 0 ≤ (a1 : Int) := of_decide_eq_true zq9
           have q19 : a1 < (a0.size : Int) := of_decide_eq_true zq9
           have hx19 := bt_at a0 a1
           replace p19 := eq_true p19
           replace q19 := eq_true q19
           go_wp2
           go_ret
           exact ⟨zq32, zq28⟩
          ·
           rw [if_neg c35] at H
           exact absurd H (by simp)
         ·
          rw [if_neg c34] at H
          exact absurd H (by simp)
        ·
         rw [if_neg c32] at H
         have c32b0 := beq_eq_false_iff_ne.mpr c32
         have c32b1 := bne_iff_ne.mpr c32
         by_cases c36 : (bt a0 a1) = 44
         ·
          rw [if_pos c36] at H
          have c36b0 := beq_iff_eq.mpr c36
          have c36b1 := bne_eq_false_iff_eq.mpr c36
          clear c36
          have c37b0 := eq_true (of_decide_eq_true zq9 : 0 ≤ a1)
          by_cases c38 : a1 ≤ (wrap64 (a1 + 1))
          ·
           rw [if_pos c38] at H
           have c38b0 := eq_true c38
           have c38b1 := decide_eq_true c38
           by_cases c39 : (wrap64 (a1 + 1)) ≤ (a0.size : Int)
           ·
            rw [if_pos c39] at H
            have c39b0 := eq_true c39
            have c39b1 := decide_eq_true c39
            obtain rfl := Option.some.inj H
            have p19 : 0 ≤ (a1 : Int) := of_decide_eq_true zq9
            have q19 : a1 < (a0.size : Int) := of_decide_eq_true zq9
            have hx19 := bt_at a0 a1
            replace p19 := eq_true p19
            replace q19 := eq_true q19
            go_wp2
            go_ret
            exact ⟨zq32, zq28⟩
           ·
            rw [if_neg c39] at H
            exact absurd H (by simp)
          ·
           rw [if_neg c38] at H
           exact absurd H (by simp)
         ·
          rw [if_neg c36] at H
          have c36b0 := beq_eq_false_iff_ne.mpr c36
          have c36b1 := bne_iff_ne.mpr c36
          by_cases c40 : (bt a0 a1) = 59
          ·
           rw [if_pos c40] at H
           have c40b0 := beq_iff_eq.mpr c40
           have c40b1 := bne_eq_false_iff_eq.mpr c40
           clear c40
           have c41b0 := eq_true (of_decide_eq_true zq9 : 0 ≤ a1)
           by_cases c42 : a1 ≤ (wrap64 (a1 + 1))
           ·
            rw [if_pos c42] at H
            have c42b0 := eq_true c42
            have c42b1 := decide_eq_true c42
            by_cases c43 : (wrap64 (a1 + 1)) ≤ (a0.size : Int)
            ·
             rw [if_pos c43] at H
             have c43b0 := eq_true c43
             have c43b1 := decide_eq_true c43
             obtain rfl := Option.some.inj H
             have p19 : 0 ≤ (a1 : Int) := of_decide_eq_true zq9
             have q19 : a1 < (a0.size : Int) := of_decide_eq_true zq9
             have hx19 := bt_at a0 a1
             replace p19 := eq_true p19
             replace q19 := eq_true q19
             go_wp2
             go_ret
             exact ⟨zq32, zq28⟩
            ·
             rw [if_neg c43] at H
             exact absurd H (by simp)
           ·
            rw [if_neg c42] at H
            exact absurd H (by simp)
          ·
           rw [if_neg c40] at H
           have c40b0 := beq_eq_false_iff_ne.mpr c40
           have c40b1 := bne_iff_ne.mpr c40
           by_cases c44 : (bt a0 a1) = 58
           ·
            rw [if_pos c44] at H
            have c44b0 := beq_iff_eq.mpr c44
            have c44b1 := bne_eq_false_iff_eq.mpr c44
            clear c44
            have c45b0 := eq_true (of_decide_eq_true zq9 : 0 ≤ a1)
            by_cases c46 : a1 ≤ (wrap64 (a1 + 1))
            ·
             rw [if_pos c46] at H
             have c46b0 := eq_true c46
             have c46b1 := decide_eq_true c46
             by_cases c47 : (wrap64 (a1 + 1)) ≤ (a0.size : Int)
             ·
              rw [if_pos c47] at H
              have c47b0 := eq_true c47
              have c47b1 := decide_eq_true c47
              obtain rfl := Option.some.inj H
              have p19 : 0 ≤ (a1 : Int) := of_decide_eq_true zq9
              have q19 : a1 < (a0.size : Int) := of_decide_eq_true zq9
              have hx19 := bt_at a0 a1
              replace p19 := eq_true p19
              replace q19 := eq_true q19
              go_wp2
              go_ret
              exact ⟨zq32, zq28⟩
             ·
              rw [if_neg c47] at H
              exact absurd H (by simp)
            ·
             rw [if_neg c46] at H
             exact absurd H (by simp)
           ·
            rw [if_neg c44] at H
            have c44b0 := beq_eq_false_iff_ne.mpr c44
            have c44b1 := bne_iff_ne.mpr c44
            by_cases c48 : (bt a0 a1) = 46
            ·
             rw [if_pos c48] at H
             have c48b0 := beq_iff_eq.mpr c48
             have c48b1 := bne_eq_false_iff_eq.mpr c48
             clear c48
             have c49b0 := eq_true (of_decide_eq_true zq9 : 0 ≤ a1)
             by_cases c50 : a1 ≤ (wrap64 (a1 + 1))
             ·
              rw [if_pos c50] at H
              have c50b0 := eq_true c50
              have c50b1 := decide_eq_true c50
              by_cases c51 : (wrap64 (a1 + 1)) ≤ (a0.size : Int)
              ·
               rw [if_pos c51] at H
               have c51b0 := eq_true c51
               have c51b1 := decide_eq_true c51
               obtain rfl := Option.some.inj H
               have p19 : 0 ≤ (a1 : Int) := of_decide_eq_true zq9
               have q19 : a1 < (a0.size : Int) := of_decide_eq_true zq9
               have hx19 := bt_at a0 a1
               replace p19 := eq_true p19
               replace q19 := eq_true q19
               go_wp2
               go_ret
               exact ⟨zq32, zq28⟩
              ·
               rw [if_neg c51] at H
               exact absurd H (by simp)
             ·
              rw [if_neg c50] at H
              exact absurd H (by simp)
            ·
             rw [if_neg c48] at H
             have c48b0 := beq_eq_false_iff_ne.mpr c48
             have c48b1 := bne_iff_ne.mpr c48
             by_cases c52 : (bt a0 a1) = 61
             ·
              rw [if_pos c52] at H
              have c52b0 := beq_iff_eq.mpr c52
              have c52b1 := bne_eq_false_iff_eq.mpr c52
              clear c52
              have c53b0 := eq_true (of_decide_eq_true zq9 : 0 ≤ a1)
              by_cases c54 : a1 ≤ (wrap64 (a1 + 1))
              ·
               rw [if_pos c54] at H
               have c54b0 := eq_true c54
               have c54b1 := decide_eq_true c54
               by_cases c55 : (wrap64 (a1 + 1)) ≤ (a0.size : Int)
               ·
                rw [if_pos c55] at H
                have c55b0 := eq_true c55
                have c55b1 := decide_eq_true c55
                obtain rfl := Option.some.inj H
                have p19 : 0 ≤ (a1 : Int) := of_decide_eq_true zq9
                have q19 : a1 < (a0.size : Int) := of_decide_eq_true zq9
                have hx19 := bt_at a0 a1
                replace p19 := eq_true p19
                replace q19 := eq_true q19
                go_wp2
                go_ret
                exact ⟨zq32, zq28⟩
               ·
                rw [if_neg c55] at H
                exact absurd H (by simp)
              ·
               rw [if_neg c54] at H
               exact absurd H (by simp)
             ·
              rw [if_neg c52] at H
              have c52b0 := beq_eq_false_iff_ne.mpr c52
              have c52b1 := bne_iff_ne.mpr c52
              by_cases c56 : (bt a0 a1) = 60
              ·
               rw [if_pos c56] at H
               exact absurd H (by simp)
              ·
               rw [if_neg c56] at H
               have c56b0 := beq_eq_false_iff_ne.mpr c56
               have c56b1 := bne_iff_ne.mpr c56
               by_cases c57 : (bt a0 a1) = 43
               ·
                rw [if_pos c57] at H
                have c57b0 := beq_iff_eq.mpr c57
                have c57b1 := bne_eq_false_iff_eq.mpr c57
                clear c57
                have c58b0 := eq_true (of_decide_eq_true zq9 : 0 ≤ a1)
                by_cases c59 : a1 ≤ (wrap64 (a1 + 1))
                ·
                 rw [if_pos c59] at H
                 have c59b0 := eq_true c59
                 have c59b1 := decide_eq_true c59
                 by_cases c60 : (wrap64 (a1 + 1)) ≤ (a0.size : Int)
                 ·
                  rw [if_pos c60] at H
                  have c60b0 := eq_true c60
                  have c60b1 := decide_eq_true c60
                  obtain rfl := Option.some.inj H
                  have p19 : 0 ≤ (a1 : Int) := of_decide_eq_true zq9
                  have q19 : a1 < (a0.size : Int) := of_decide_eq_true zq9
                  have hx19 := bt_at a0 a1
                  replace p19 := eq_true p19
                  replace q19 := eq_true q19
                  go_wp2
                  go_ret
                  exact ⟨zq32, zq28⟩
                 ·
                  rw [if_neg c60] at H
                  exact absurd H (by simp)
                ·
                 rw [if_neg c59] at H
                 exact absurd H (by simp)
               ·
                rw [if_neg c57] at H
                have c57b0 := beq_eq_false_iff_ne.mpr c57
                have c57b1 := bne_iff_ne.mpr c57
                by_cases c61 : (bt a0 a1) = 45
                ·
                 rw [if_pos c61] at H
                 have c61b0 := beq_iff_eq.mpr c61
                 have c61b1 := bne_eq_false_iff_eq.mpr c61
                 clear c61
                 have c62b0 := eq_true (of_decide_eq_true zq9 : 0 ≤ a1)
                 by_cases c63 : a1 ≤ (wrap64 (a1 + 1))
                 ·
                  rw [if_pos c63] at H
                  have c63b0 := eq_true c63
                  have c63b1 := decide_eq_true c63
                  by_cases c64 : (wrap64 (a1 + 1)) ≤ (a0.size : Int)
                  ·
                   rw [if_pos c64] at H
                   have c64b0 := eq_true c64
                   have c64b1 := decide_eq_true c64
                   obtain rfl := Option.some.inj H
                   have p19 : 0 ≤ (a1 : Int) := of_decide_eq_true zq9
                   have q19 : a1 < (a0.size : Int) := of_decide_eq_true zq9
                   have hx19 := bt_at a0 a1
                   replace p19 := eq_true p19
                   replace q19 := eq_true q19
                   go_wp2
                   go_ret
                   exact ⟨zq32, zq28⟩
                  ·
                   rw [if_neg c64] at H
                   exact absurd H (by simp)
                 ·
                  rw [if_neg c63] at H
                  exact absurd H (by simp)
                ·
                 rw [if_neg c61] at H
                 have c61b0 := beq_eq_false_iff_ne.mpr c61
                 have c61b1 := bne_iff_ne.mpr c61
                 by_cases c65 : (bt a0 a1) = 42
                 ·
                  rw [if_pos c65] at H
                  have c65b0 := beq_iff_eq.mpr c65
                  have c65b1 := bne_eq_false_iff_eq.mpr c65
                  clear c65
                  have c66b0 := eq_true (of_decide_eq_true zq9 : 0 ≤ a1)
                  by_cases c67 : a1 ≤ (wrap64 (a1 + 1))
                  ·
                   rw [if_pos c67] at H
                   have c67b0 := eq_true c67
                   have c67b1 := decide_eq_true c67
                   by_cases c68 : (wrap64 (a1 + 1)) ≤ (a0.size : Int)
                   ·
                    rw [if_pos c68] at H
                    have c68b0 := eq_true c68
                    have c68b1 := decide_eq_true c68
                    obtain rfl := Option.some.inj H
                    have p19 : 0 ≤ (a1 : Int) := of_decide_eq_true zq9
                    have q19 : a1 < (a0.size : Int) := of_decide_eq_true zq9
                    have hx19 := bt_at a0 a1
                    replace p19 := eq_true p19
                    replace q19 := eq_true q19
                    go_wp2
                    go_ret
                    exact ⟨zq32, zq28⟩
                   ·
                    rw [if_neg c68] at H
                    exact absurd H (by simp)
                  ·
                   rw [if_neg c67] at H
                   exact absurd H (by simp)
                 ·
                  rw [if_neg c65] at H
                  have c65b0 := beq_eq_false_iff_ne.mpr c65
                  have c65b1 := bne_iff_ne.mpr c65
                  by_cases c69 : (bt a0 a1) = 47
                  ·
                   rw [if_pos c69] at H
                   exact absurd H (by simp)
                  ·
                   rw [if_neg c69] at H
                   have c69b0 := beq_eq_false_iff_ne.mpr c69
                   have c69b1 := bne_iff_ne.mpr c69
                   by_cases c70 : (bt a0 a1) = 37
                   ·
                    rw [if_pos c70] at H
                    exact absurd H (by simp)
                   ·
                    rw [if_neg c70] at H
                    have c70b0 := beq_eq_false_iff_ne.mpr c70
                    have c70b1 := bne_iff_ne.mpr c70
                    by_cases c71 : (bt a0 a1) = 33
                    ·
                     rw [if_pos c71] at H
                     have c71b0 := beq_iff_eq.mpr c71
                     have c71b1 := bne_eq_false_iff_eq.mpr c71
                     clear c71
                     have c72b0 := eq_true (of_decide_eq_true zq9 : 0 ≤ a1)
                     by_cases c73 : a1 ≤ (wrap64 (a1 + 1))
                     ·
                      rw [if_pos c73] at H
                      have c73b0 := eq_true c73
                      have c73b1 := decide_eq_true c73
                      by_cases c74 : (wrap64 (a1 + 1)) ≤ (a0.size : Int)
                      ·
                       rw [if_pos c74] at H
                       have c74b0 := eq_true c74
                       have c74b1 := decide_eq_true c74
                       obtain rfl := Option.some.inj H
                       have p19 : 0 ≤ (a1 : Int) := of_decide_eq_true zq9
                       have q19 : a1 < (a0.size : Int) := of_decide_eq_true zq9
                       have hx19 := bt_at a0 a1
                       replace p19 := eq_true p19
                       replace q19 := eq_true q19
                       go_wp2
                       go_ret
                       exact ⟨zq32, zq28⟩
                      ·
                       rw [if_neg c74] at H
                       exact absurd H (by simp)
                     ·
                      rw [if_neg c73] at H
                      exact absurd H (by simp)
                    ·
                     rw [if_neg c71] at H
                     have c71b0 := beq_eq_false_iff_ne.mpr c71
                     have c71b1 := bne_iff_ne.mpr c71
                     obtain rfl := Option.some.inj H
                     have p19 : 0 ≤ (a1 : Int) := of_decide_eq_true zq9
                     have q19 : a1 < (a0.size : Int) := of_decide_eq_true zq9
                     have hx19 := bt_at a0 a1
                     replace p19 := eq_true p19
                     replace q19 := eq_true q19
                     go_wp2
                     go_ret
                     exact ⟨zq32, zq28⟩
    ·
     rw [if_neg c18] at H
     exact absurd H (by simp)
   ·
    rw [if_neg c17] at H
    exact absurd H (by simp)
end Go.Proofs.Ytcjnhnnfoadklaa.QRunCalls
