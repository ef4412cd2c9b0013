-- Written by wip/myprint.py of this session's repo, out of the translation. Lean checks it.
import Derived.Test.YtlleenoigcjemaaQLexLongx0
import Derived.Test.YtlleenoigcjemaaQLexLongx1
import Derived.Test.YtlleenoigcjemaaQLexLongx2
namespace Go.Proofs.Ytlleenoigcjemaa.QLexLong
open Go.RowKit Go.Proofs.YtlleenoigcjemaaW.PrintWords Go.Proofs.YtlleenoigcjemaaW.PrintLast Go.Proofs.YtlleenoigcjemaaW.PrintMore
attribute [local go_sem] max2_int min2_int max_two min_two max_three min_three max_four min_four   -- for this text's walks alone
set_option linter.unusedVariables false
set_option linter.unusedSimpArgs false

/-! ### aquiferlaw11_LexLong: function 10 -/
mutual
def aquiferlaw11_LexLong.l0 : Nat → Int → Int → Int → ByteArray → ByteArray → Int → Option (Bool)
  | 0, _, _, _, _, _, _ => none
  | k + 1, x0, x1, x5, x6, x7, x8 => if x8 < x5 then (if x6.size + 1 ≤ 9223372036854775807 then (if x7.size + 1 ≤ 9223372036854775807 then (aquiferlaw11_LexLong.l0 k x0 x1 x5 (x6 ++ (⟨#[121]⟩ : ByteArray)) (x7 ++ (⟨#[55]⟩ : ByteArray)) (wrap64 (x8 + 1))) else (none)) else (none)) else (if 2 + x6.size ≤ 9223372036854775807 then (if ((⟨#[61, 32]⟩ : ByteArray) ++ x6).size + 1 ≤ 9223372036854775807 then ((lex_Lex.f k (((⟨#[61, 32]⟩ : ByteArray) ++ x6) ++ (⟨#[32]⟩ : ByteArray))).bind fun bt130 => (if 2 + x7.size ≤ 9223372036854775807 then (if ((⟨#[61, 32]⟩ : ByteArray) ++ x7).size + 1 ≤ 9223372036854775807 then ((lex_Lex.f k (((⟨#[61, 32]⟩ : ByteArray) ++ x7) ++ (⟨#[32]⟩ : ByteArray))).bind fun bt135 => (if 8193 ≤ 281474976710656 then (aquiferlaw11_LexLong.l1 k x0 x1 x5 bt130.2.1 bt130.2.2 bt135.2.1 bt135.2.2 (List.replicate 8193 0) 0) else (none))) else (none)) else (none))) else (none)) else (none))
def aquiferlaw11_LexLong.l1 : Nat → Int → Int → Int → Int → Int → Int → Int → List Int → Int → Option (Bool)
  | 0, _, _, _, _, _, _, _, _, _ => none
  | k + 1, x0, x1, x5, x10, x11, x13, x14, x15, x16 => if x16 < (x15.length : Int) then (if 0 ≤ x16 then (aquiferlaw11_LexLong.l1 k x0 x1 x5 x10 x11 x13 x14 (x15.set (x16 : Int).toNat 32) (wrap64 (x16 + 1))) else (none)) else (if 0 ≤ (wrap64 (x0)) then (if (wrap64 (x0)) < (x15.length : Int) then ((lex_Lex.f k (strOfNums (x15.set ((wrap64 (x0)) : Int).toNat x1))).bind fun bt145 => ((aquiferlaw1_Num.f bt145.2.1).bind fun t150 => (if t150 = 9 then (aquiferlaw11_LexLong.j2 k x5 x10 x11 x13 x14 (bt145.2.2 != 8192)) else (aquiferlaw11_LexLong.j2 k x5 x10 x11 x13 x14 true)))) else (none)) else (none))
def aquiferlaw11_LexLong.j2 : Nat → Int → Int → Int → Int → Int → Bool → Option (Bool)
  | 0, _, _, _, _, _, _ => none
  | k + 1, x5, x10, x11, x13, x14, x79 => if x79 = true then (some false) else (if x5 ≤ 20 then ((aquiferlaw1_Num.f x10).bind fun t151 => (if t151 = 0 then (if x5 ≤ 9 then ((aquiferlaw1_Num.f x13).bind fun t152 => (if t152 = 0 then ((aquiferlaw11_awake.f k).bind fun t153 => (some t153)) else (if x5 > 9 then ((aquiferlaw1_Num.f x13).bind fun t154 => (if t154 = 9 then (if x14 = 2 then ((aquiferlaw11_awake.f k).bind fun t155 => (some t155)) else (some false)) else (some false))) else (some false)))) else (if x5 > 9 then ((aquiferlaw1_Num.f x13).bind fun t156 => (if t156 = 9 then (if x14 = 2 then ((aquiferlaw11_awake.f k).bind fun t157 => (some t157)) else (some false)) else (some false))) else (some false))) else (if x5 > 20 then ((aquiferlaw1_Num.f x10).bind fun t158 => (if t158 = 9 then (if x5 ≤ 9 then ((aquiferlaw1_Num.f x13).bind fun t159 => (if t159 = 0 then (if x11 = 2 then ((aquiferlaw11_awake.f k).bind fun t160 => (some t160)) else (some false)) else (if x5 > 9 then ((aquiferlaw1_Num.f x13).bind fun t161 => (if t161 = 9 then (if x11 = 2 then (if x14 = 2 then ((aquiferlaw11_awake.f k).bind fun t162 => (some t162)) else (some false)) else (some false)) else (if x11 = 2 then (some false) else (some false)))) else (if x11 = 2 then (some false) else (some false))))) else (if x5 > 9 then ((aquiferlaw1_Num.f x13).bind fun t163 => (if t163 = 9 then (if x11 = 2 then (if x14 = 2 then ((aquiferlaw11_awake.f k).bind fun t164 => (some t164)) else (some false)) else (some false)) else (if x11 = 2 then (some false) else (some false)))) else (if x11 = 2 then (some false) else (some false)))) else (if x5 ≤ 9 then ((aquiferlaw1_Num.f x13).bind fun t165 => (if t165 = 0 then (some false) else (if x5 > 9 then ((aquiferlaw1_Num.f x13).bind fun t166 => (if t166 = 9 then (some false) else (some false))) else (some false)))) else (if x5 > 9 then ((aquiferlaw1_Num.f x13).bind fun t167 => (if t167 = 9 then (some false) else (some false))) else (some false))))) else (if x5 ≤ 9 then ((aquiferlaw1_Num.f x13).bind fun t168 => (if t168 = 0 then (some false) else (if x5 > 9 then ((aquiferlaw1_Num.f x13).bind fun t169 => (if t169 = 9 then (some false) else (some false))) else (some false)))) else (if x5 > 9 then ((aquiferlaw1_Num.f x13).bind fun t170 => (if t170 = 9 then (some false) else (some false))) else (some false)))))) else (if x5 > 20 then ((aquiferlaw1_Num.f x10).bind fun t171 => (if t171 = 9 then (if x5 ≤ 9 then ((aquiferlaw1_Num.f x13).bind fun t172 => (if t172 = 0 then (if x11 = 2 then ((aquiferlaw11_awake.f k).bind fun t173 => (some t173)) else (some false)) else (if x5 > 9 then ((aquiferlaw1_Num.f x13).bind fun t174 => (if t174 = 9 then (if x11 = 2 then (if x14 = 2 then ((aquiferlaw11_awake.f k).bind fun t175 => (some t175)) else (some false)) else (some false)) else (if x11 = 2 then (some false) else (some false)))) else (if x11 = 2 then (some false) else (some false))))) else (if x5 > 9 then ((aquiferlaw1_Num.f x13).bind fun t176 => (if t176 = 9 then (if x11 = 2 then (if x14 = 2 then ((aquiferlaw11_awake.f k).bind fun t177 => (some t177)) else (some false)) else (some false)) else (if x11 = 2 then (some false) else (some false)))) else (if x11 = 2 then (some false) else (some false)))) else (if x5 ≤ 9 then ((aquiferlaw1_Num.f x13).bind fun t178 => (if t178 = 0 then (some false) else (if x5 > 9 then ((aquiferlaw1_Num.f x13).bind fun t179 => (if t179 = 9 then (some false) else (some false))) else (some false)))) else (if x5 > 9 then ((aquiferlaw1_Num.f x13).bind fun t180 => (if t180 = 9 then (some false) else (some false))) else (some false))))) else (if x5 ≤ 9 then ((aquiferlaw1_Num.f x13).bind fun t181 => (if t181 = 0 then (some false) else (if x5 > 9 then ((aquiferlaw1_Num.f x13).bind fun t182 => (if t182 = 9 then (some false) else (some false))) else (some false)))) else (if x5 > 9 then ((aquiferlaw1_Num.f x13).bind fun t183 => (if t183 = 9 then (some false) else (some false))) else (some false)))))
end
def aquiferlaw11_LexLong.f (k : Nat) (a0 : Int) (a1 : Int) : Option (Bool) := aquiferlaw11_LexLong.l0 k a0 a1 (wrap64 (1 + (Int.tmod (wrap64 (a0)) 30))) (⟨#[]⟩ : ByteArray) (⟨#[]⟩ : ByteArray) 0
theorem aquiferlaw11_LexLong.mono_l : ∀ k, (∀ y0 y1 y2 y3 y4 y5, LeO (aquiferlaw11_LexLong.l0 k y0 y1 y2 y3 y4 y5) (aquiferlaw11_LexLong.l0 (k + 1) y0 y1 y2 y3 y4 y5)) ∧ (∀ y0 y1 y2 y3 y4 y5 y6 y7 y8, LeO (aquiferlaw11_LexLong.l1 k y0 y1 y2 y3 y4 y5 y6 y7 y8) (aquiferlaw11_LexLong.l1 (k + 1) y0 y1 y2 y3 y4 y5 y6 y7 y8)) ∧ (∀ y0 y1 y2 y3 y4 y5, LeO (aquiferlaw11_LexLong.j2 k y0 y1 y2 y3 y4 y5) (aquiferlaw11_LexLong.j2 (k + 1) y0 y1 y2 y3 y4 y5))
  | 0 => ⟨fun _ _ _ _ _ _ r h => by simp [aquiferlaw11_LexLong.l0] at h, fun _ _ _ _ _ _ _ _ _ r h => by simp [aquiferlaw11_LexLong.l1] at h, fun _ _ _ _ _ _ r h => by simp [aquiferlaw11_LexLong.j2] at h⟩
  | k + 1 => by
    obtain ⟨ih0, ih1, ih2⟩ := aquiferlaw11_LexLong.mono_l k
    refine ⟨?_, ?_, ?_⟩
    · intro y0 y1 y2 y3 y4 y5
      unfold aquiferlaw11_LexLong.l0
      repeat' first
      | (with_reducible exact ih0 _ _ _ _ _ _)
      | (with_reducible exact ih1 _ _ _ _ _ _ _ _ _)
      | (with_reducible exact ih2 _ _ _ _ _ _)
      | (with_reducible exact aquiferlaw11_awake.mono _)
      | (with_reducible exact lex_Lex.mono _ _)
      | (with_reducible exact LeO.refl _)
      | (with_reducible exact LeO.none _)
      | (with_reducible refine LeO.ite ?_ ?_)
      | (with_reducible refine LeO.bind ?_ (fun _ => ?_))
      | exact ih0 _ _ _ _ _ _
      | exact ih1 _ _ _ _ _ _ _ _ _
      | exact ih2 _ _ _ _ _ _
      | exact aquiferlaw11_awake.mono _
      | exact lex_Lex.mono _ _
      | exact LeO.none _
      | refine LeO.ite ?_ ?_
      | refine LeO.bind ?_ (fun _ => ?_)
    · intro y0 y1 y2 y3 y4 y5 y6 y7 y8
      unfold aquiferlaw11_LexLong.l1
      repeat' first
      | (with_reducible exact ih0 _ _ _ _ _ _)
      | (with_reducible exact ih1 _ _ _ _ _ _ _ _ _)
      | (with_reducible exact ih2 _ _ _ _ _ _)
      | (with_reducible exact aquiferlaw11_awake.mono _)
      | (with_reducible exact lex_Lex.mono _ _)
      | (with_reducible exact LeO.refl _)
      | (with_reducible exact LeO.none _)
      | (with_reducible refine LeO.ite ?_ ?_)
      | (with_reducible refine LeO.bind ?_ (fun _ => ?_))
      | exact ih0 _ _ _ _ _ _
      | exact ih1 _ _ _ _ _ _ _ _ _
      | exact ih2 _ _ _ _ _ _
      | exact aquiferlaw11_awake.mono _
      | exact lex_Lex.mono _ _
      | exact LeO.none _
      | refine LeO.ite ?_ ?_
      | refine LeO.bind ?_ (fun _ => ?_)
    · intro y0 y1 y2 y3 y4 y5
      unfold aquiferlaw11_LexLong.j2
      repeat' first
      | (with_reducible exact ih0 _ _ _ _ _ _)
      | (with_reducible exact ih1 _ _ _ _ _ _ _ _ _)
      | (with_reducible exact ih2 _ _ _ _ _ _)
      | (with_reducible exact aquiferlaw11_awake.mono _)
      | (with_reducible exact lex_Lex.mono _ _)
      | (with_reducible exact LeO.refl _)
      | (with_reducible exact LeO.none _)
      | (with_reducible refine LeO.ite ?_ ?_)
      | (with_reducible refine LeO.bind ?_ (fun _ => ?_))
      | exact ih0 _ _ _ _ _ _
      | exact ih1 _ _ _ _ _ _ _ _ _
      | exact ih2 _ _ _ _ _ _
      | exact aquiferlaw11_awake.mono _
      | exact lex_Lex.mono _ _
      | exact LeO.none _
      | refine LeO.ite ?_ ?_
      | refine LeO.bind ?_ (fun _ => ?_)
theorem aquiferlaw11_LexLong.mono : ∀ a0 a1 k, LeO (aquiferlaw11_LexLong.f k a0 a1) (aquiferlaw11_LexLong.f (k + 1) a0 a1) := by
  intro a0 a1 k
  obtain ⟨ih0, ih1, ih2⟩ := aquiferlaw11_LexLong.mono_l k
  unfold aquiferlaw11_LexLong.f
  repeat' first
      | (with_reducible exact ih0 _ _ _ _ _ _)
      | (with_reducible exact ih1 _ _ _ _ _ _ _ _ _)
      | (with_reducible exact ih2 _ _ _ _ _ _)
      | (with_reducible exact aquiferlaw11_awake.mono _)
      | (with_reducible exact lex_Lex.mono _ _)
      | (with_reducible exact LeO.refl _)
      | (with_reducible exact LeO.none _)
      | (with_reducible refine LeO.ite ?_ ?_)
      | (with_reducible refine LeO.bind ?_ (fun _ => ?_))
      | exact ih0 _ _ _ _ _ _
      | exact ih1 _ _ _ _ _ _ _ _ _
      | exact ih2 _ _ _ _ _ _
      | exact aquiferlaw11_awake.mono _
      | exact lex_Lex.mono _ _
      | exact LeO.none _
      | refine LeO.ite ?_ ?_
      | refine LeO.bind ?_ (fun _ => ?_)
set_option maxHeartbeats 8000000 in
set_option maxRecDepth 100000 in
theorem aquiferlaw11_LexLong.calls (k : Nat) (a0 : Int) (a1 : Int) (r : Bool) (w : World) (HLT_ : Aside0 (r = true)) (h : aquiferlaw11_LexLong.f k a0 a1 = some r) :
    Calls Try.prog 10 #[.int .u8 a0, .int .u8 a1] w fun e w' => e = .returned (.bool r) ∧ Below w.heap.size w w' := by
  have HB := Aside0.mk (Below.refl w.heap.size w)
  have H : (aquiferlaw11_LexLong.l0 k a0 a1 (wrap64 (1 + (Int.tmod (wrap64 (a0)) 30))) (⟨#[]⟩ : ByteArray) (⟨#[]⟩ : ByteArray) 0) = some r := h
  clear h
  have H' := Aside0.mk H
  clear H
  go_enter Try.func10, Try.ntmps10
  go_wp2
  go_loopg [6, 7, 8] k (fun kq v6 v7 v8 w' => ∃ (x6_1 : ByteArray) (x7_1 : ByteArray) (x8_1 : Int), v6 = .string x6_1 ∧ v7 = .string x7_1 ∧ v8 = .int .i64 x8_1 ∧ Aside0 (aquiferlaw11_LexLong.l0 kq a0 a1 (wrap64 (1 + (Int.tmod (wrap64 (a0)) 30))) x6_1 x7_1 x8_1 = some r) ∧ Aside0 (kq ≤ k) ∧ Aside0 (Below w.heap.size w w'))
  case atStart => exact ⟨((⟨#[]⟩ : ByteArray)), ((⟨#[]⟩ : ByteArray)), (0), (by first | rfl | (simp; done) | (simp [*]; done)), (by first | rfl | (simp; done) | (simp [*]; done)), (by first | rfl | (simp; done) | (simp [*]; done)), H', ⟨Nat.le_refl _⟩, ⟨by repeat (first | (with_reducible first | exact HB.out | apply below_alloc | apply pw_below_drewN | apply below_drew1) | exact HB.out)⟩⟩
  case round =>
    clear H'
    try clear c1
    try clear p2
    obtain ⟨x6_1, x7_1, x8_1, rfl, rfl, rfl, HA, HK1, HB⟩ := hrel
    cases gk with
    | zero => exact absurd HA.out (by simp [aquiferlaw11_LexLong.l0])
    | succ k1 =>
      have H := HA.out
      clear HA
      simp only [aquiferlaw11_LexLong.l0] at H
      by_cases c3 : x8_1 < (wrap64 (1 + (Int.tmod (wrap64 (a0)) 30)))
      · rw [if_pos c3] at H
        have c3b0 : decide (x8_1 < (wrap64 (1 + (Int.tmod (wrap64 (a0)) 30)))) = true := decide_eq_true c3
        clear c3
        by_cases c4 : x6_1.size + 1 ≤ 9223372036854775807
        · rw [if_pos c4] at H
          have c4b0 := eq_true c4
          have c4b1 : decide (x6_1.size + 1 ≤ 9223372036854775807) = true := decide_eq_true c4
          try have c4b2 : (9223372036854775807 < x6_1.size + 1) = False := eq_false (Nat.not_lt.2 c4)
          by_cases c5 : x7_1.size + 1 ≤ 9223372036854775807
          · rw [if_pos c5] at H
            have c5b0 := eq_true c5
            have c5b1 : decide (x7_1.size + 1 ≤ 9223372036854775807) = true := decide_eq_true c5
            try have c5b2 : (9223372036854775807 < x7_1.size + 1) = False := eq_false (Nat.not_lt.2 c5)
            have H' := Aside0.mk H
            clear H
            go_wp2
            go_roundg k1
            case measure => have := HK1.out; omega
            case rel => exact ⟨(x6_1 ++ (⟨#[121]⟩ : ByteArray)), (x7_1 ++ (⟨#[55]⟩ : ByteArray)), (wrap64 (x8_1 + 1)), (by first | rfl | (simp; done) | (simp [*]; done)), (by first | rfl | (simp; done) | (simp [*]; done)), (by first | rfl | (simp; done) | (simp [*]; done)), H', ⟨by have := HK1.out; omega⟩, ⟨by repeat (first | (with_reducible first | exact HB.out | apply below_alloc | apply pw_below_drewN | apply below_drew1) | exact HB.out)⟩⟩
          · rw [if_neg c5] at H
            exact absurd H (by simp)
        · rw [if_neg c4] at H
          exact absurd H (by simp)
      · rw [if_neg c3] at H
        have c3b0 : decide (x8_1 < (wrap64 (1 + (Int.tmod (wrap64 (a0)) 30)))) = false := decide_eq_false c3
        clear c3
        by_cases c6 : 2 + x6_1.size ≤ 9223372036854775807
        · rw [if_pos c6] at H
          have c6b0 := eq_true c6
          have c6b1 : decide (2 + x6_1.size ≤ 9223372036854775807) = true := decide_eq_true c6
          try have c6b2 : (9223372036854775807 < 2 + x6_1.size) = False := eq_false (Nat.not_lt.2 c6)
          by_cases c7 : ((⟨#[61, 32]⟩ : ByteArray) ++ x6_1).size + 1 ≤ 9223372036854775807
          · rw [if_pos c7] at H
            have c7b0 := eq_true c7
            have c7b1 : decide (((⟨#[61, 32]⟩ : ByteArray) ++ x6_1).size + 1 ≤ 9223372036854775807) = true := decide_eq_true c7
            try have c7b2 : (9223372036854775807 < ((⟨#[61, 32]⟩ : ByteArray) ++ x6_1).size + 1) = False := eq_false (Nat.not_lt.2 c7)
            have c7b3 : (9223372036854775807 < 2 + x6_1.size + 1) = False := by have h_ := c7b2; simp only [ByteArray.size_append] at h_; exact h_
            replace H := Option.bind_eq_some_iff.mp H
            obtain ⟨⟨t130, t131, t132⟩, A80, H⟩ := H
            replace H : (if 2 + x7_1.size ≤ 9223372036854775807 then (if ((⟨#[61, 32]⟩ : ByteArray) ++ x7_1).size + 1 ≤ 9223372036854775807 then ((lex_Lex.f k1 (((⟨#[61, 32]⟩ : ByteArray) ++ x7_1) ++ (⟨#[32]⟩ : ByteArray))).bind fun bt135 => (if 8193 ≤ 281474976710656 then (aquiferlaw11_LexLong.l1 k1 a0 a1 (wrap64 (1 + (Int.tmod (wrap64 (a0)) 30))) t131 t132 bt135.2.1 bt135.2.2 (List.replicate 8193 0) 0) else (none))) else (none)) else (none)) = some r := H
            have A8 := Aside0.mk A80
            clear A80
            by_cases c9 : 2 + x7_1.size ≤ 9223372036854775807
            · rw [if_pos c9] at H
              have c9b0 := eq_true c9
              have c9b1 : decide (2 + x7_1.size ≤ 9223372036854775807) = true := decide_eq_true c9
              try have c9b2 : (9223372036854775807 < 2 + x7_1.size) = False := eq_false (Nat.not_lt.2 c9)
              by_cases c10 : ((⟨#[61, 32]⟩ : ByteArray) ++ x7_1).size + 1 ≤ 9223372036854775807
              · rw [if_pos c10] at H
                have c10b0 := eq_true c10
                have c10b1 : decide (((⟨#[61, 32]⟩ : ByteArray) ++ x7_1).size + 1 ≤ 9223372036854775807) = true := decide_eq_true c10
                try have c10b2 : (9223372036854775807 < ((⟨#[61, 32]⟩ : ByteArray) ++ x7_1).size + 1) = False := eq_false (Nat.not_lt.2 c10)
                have c10b3 : (9223372036854775807 < 2 + x7_1.size + 1) = False := by have h_ := c10b2; simp only [ByteArray.size_append] at h_; exact h_
                replace H := Option.bind_eq_some_iff.mp H
                obtain ⟨⟨t135, t136, t137⟩, A110, H⟩ := H
                replace H : (if 8193 ≤ 281474976710656 then (aquiferlaw11_LexLong.l1 k1 a0 a1 (wrap64 (1 + (Int.tmod (wrap64 (a0)) 30))) t131 t132 t136 t137 (List.replicate 8193 0) 0) else (none)) = some r := H
                have A11 := Aside0.mk A110
                clear A110
                by_cases c12 : 8193 ≤ 281474976710656
                · rw [if_pos c12] at H
                  have c12b0 := eq_true c12
                  have c12b1 : decide (8193 ≤ 281474976710656) = true := decide_eq_true c12
                  clear c12
                  obtain ⟨y140, hy140⟩ : ∃ y_ : List Int, y_ = (List.replicate 8193 0) := ⟨_, rfl⟩
                  replace H : (aquiferlaw11_LexLong.l1 k1 a0 a1 (wrap64 (1 + (Int.tmod (wrap64 (a0)) 30))) t131 t132 t136 t137 y140 0) = some r := by first | (rw [hy140]; with_reducible exact H) | (have H2_ := (Option.bind_some _ _).symm.trans H; rw [hy140]; with_reducible exact H2_) | (have H2_ := (Option.bind_some _ _).symm.trans H; with_reducible exact H2_) | with_reducible exact H | (rw [hy140]; exact H) | exact H
                  have Ny140 := Aside0.mk hy140
                  clear hy140
                  have H' := Aside0.mk H
                  clear H
                  go_wp2_with (first | ((with_reducible refine gate_callee (f := 21) rfl ?_); refine goesL_ (some 39) rfl rfl Try.func21 (by kernel_rfl) rfl #[.string (((⟨#[61, 32]⟩ : ByteArray) ++ x6_1) ++ (⟨#[32]⟩ : ByteArray))] rfl (by (try simp only [List.map_toArray, List.map_cons, List.map_nil]); first | done | rfl | (simp only [List.length_drop, List.length_take]; rfl)) ?_; (with_reducible refine (lex_Lex.calls k1 (((⟨#[61, 32]⟩ : ByteArray) ++ x6_1) ++ (⟨#[32]⟩ : ByteArray)) t130 t131 t132 _ A8.out).mono ?_); rintro e w13 ⟨v133, rfl, ho0, hb⟩; refine ⟨_, rfl, ?_⟩; have n0_ := Aside0.mk (Kd.R_lower ho0 (below_size (by repeat (first | (with_reducible first | exact HB.out | apply below_alloc | apply pw_below_drewN | apply below_drew1) | exact HB.out)))); have n1_ := Aside0.mk (below_step (by repeat (first | (with_reducible first | exact HB.out | apply below_alloc | apply pw_below_drewN | apply below_drew1) | exact HB.out)) hb); clear HB; have HO134 := n0_; have HB := n1_; clear n0_ n1_; (try clear hb); (try clear hb2); (try clear hk); (try clear hi); (try clear ho0)) | ((with_reducible refine gate_callee (f := 21) rfl ?_); refine goesL_ (some 47) rfl rfl Try.func21 (by kernel_rfl) rfl #[.string (((⟨#[61, 32]⟩ : ByteArray) ++ x7_1) ++ (⟨#[32]⟩ : ByteArray))] rfl (by (try simp only [List.map_toArray, List.map_cons, List.map_nil]); first | done | rfl | (simp only [List.length_drop, List.length_take]; rfl)) ?_; (with_reducible refine (lex_Lex.calls k1 (((⟨#[61, 32]⟩ : ByteArray) ++ x7_1) ++ (⟨#[32]⟩ : ByteArray)) t135 t136 t137 _ A11.out).mono ?_); rintro e w14 ⟨v138, rfl, ho0, hb⟩; refine ⟨_, rfl, ?_⟩; have n0_ := Aside0.mk (Kd.R_elder' (by (with_reducible repeat (first | apply Kd.R_alloc | apply Kd.R_drewN | apply Kd.R_drew)); exact HO134.out) (Kd.R_base ho0) hb); have n1_ := Aside0.mk (Kd.R_lower (Kd.R_new' ho0 (Kd.R_lt (by (with_reducible repeat (first | apply Kd.R_alloc | apply Kd.R_drewN | apply Kd.R_drew)); exact HO134.out))) (below_size (by repeat (first | (with_reducible first | exact HB.out | apply below_alloc | apply pw_below_drewN | apply below_drew1) | exact HB.out)))); have n2_ := Aside0.mk (below_step (by repeat (first | (with_reducible first | exact HB.out | apply below_alloc | apply pw_below_drewN | apply below_drew1) | exact HB.out)) hb); clear HO134; clear HB; have HO134 := n0_; have HO139 := n1_; have HB := n2_; clear n0_ n1_ n2_; (try clear hb); (try clear hb2); (try clear hk); (try clear hi); (try clear ho0)) | ((with_reducible refine gate_dst (N := 51) rfl ?_); refine Kd.R_make (Kd.int .u8) _ 5 rfl (N := 51) rfl 22 _ _ rfl 8193 rfl rfl Try.underlying22 (.int .u8 0) 1 info5 rfl (by decide) (by omega) 0 (ok := fun _ => True) (okp := fun _ => True) rfl (fun _ hk => hk) trivial (by omega) (by omega) (Below.refl _ _) (Nat.le_refl _) ?_; intro v141 w15 ho16 hb hg_ hnew_; clear hg_ hnew_; (first | rw [← Ny140.out] at ho16 | (simp only [Int.reduceToNat] at ho16; rw [← Ny140.out] at ho16)); have n0_ := Aside0.mk (Kd.R_below (by (with_reducible repeat (first | apply Kd.R_alloc | apply Kd.R_drewN | apply Kd.R_drew)); exact HO134.out) hb); have n1_ := Aside0.mk (Kd.R_below (by (with_reducible repeat (first | apply Kd.R_alloc | apply Kd.R_drewN | apply Kd.R_drew)); exact HO139.out) hb); have n2_ := Aside0.mk (Kd.R_lower ho16 (below_size (by repeat (first | (with_reducible first | exact HB.out | apply below_alloc | apply pw_below_drewN | apply below_drew1) | exact HB.out)))); have n3_ := Aside0.mk (below_step (by repeat (first | (with_reducible first | exact HB.out | apply below_alloc | apply pw_below_drewN | apply below_drew1) | exact HB.out)) hb); clear HO134; clear HO139; clear HB; have HO134 := n0_; have HO139 := n1_; have HO142 := n2_; have HB := n3_; clear n0_ n1_ n2_ n3_; clear hb ho16))
                  go_loopg [16] k1 (fun kq v16 w' => ∃ (x15_2 : List Int) (x16_2 : Int), v16 = .int .i64 x16_2 ∧ Aside0 (aquiferlaw11_LexLong.l1 kq a0 a1 (wrap64 (1 + (Int.tmod (wrap64 (a0)) 30))) t131 t132 t136 t137 x15_2 x16_2 = some r) ∧ Aside0 (kq ≤ k1) ∧ Aside0 (Kd.R (Kd.int .u8) 5 w' w.heap.size (fun _ => True) v141 x15_2) ∧ Aside0 (Below w.heap.size w w'))
                  case atStart => exact ⟨(y140), (0), (by first | rfl | (simp; done) | (simp [*]; done)), H', ⟨Nat.le_refl _⟩, ⟨by (with_reducible repeat (first | apply Kd.R_alloc | apply Kd.R_drewN | apply Kd.R_drew)); exact HO142.out⟩, ⟨by repeat (first | (with_reducible first | exact HB.out | apply below_alloc | apply pw_below_drewN | apply below_drew1) | exact HB.out)⟩⟩
                  case round =>
                    clear H'
                    try clear c1
                    try clear c2
                    try clear p2
                    try clear c3
                    try clear c3b0
                    try clear c4
                    try clear c4b0
                    try clear c4b1
                    try clear c4b2
                    try clear c5
                    try clear c5b0
                    try clear c5b1
                    try clear c5b2
                    try clear c6
                    try clear c6b0
                    try clear c6b1
                    try clear c6b2
                    try clear p6
                    try clear c7
                    try clear c7b0
                    try clear c7b1
                    try clear c7b2
                    try clear c9
                    try clear c9b0
                    try clear c9b1
                    try clear c9b2
                    try clear c10
                    try clear c10b0
                    try clear c10b1
                    try clear c10b2
                    try clear c12
                    try clear c12b0
                    try clear c12b1
                    try clear p2
                    obtain ⟨x15_2, x16_2, rfl, HA, HK2, HO_15, HB⟩ := hrel
                    cases gk with
                    | zero => exact absurd HA.out (by simp [aquiferlaw11_LexLong.l1])
                    | succ k2 =>
                      have H := HA.out
                      clear HA
                      simp only [aquiferlaw11_LexLong.l1] at H
                      by_cases c17 : x16_2 < (x15_2.length : Int)
                      · rw [if_pos c17] at H
                        have c17b0 : decide (x16_2 < (x15_2.length : Int)) = true := decide_eq_true c17
                        clear c17
                        by_cases c18 : 0 ≤ x16_2
                        · rw [if_pos c18] at H
                          have c18b0 : decide (0 ≤ x16_2) = true := decide_eq_true c18
                          clear c18
                          obtain ⟨y143, hy143⟩ : ∃ y_ : List Int, y_ = (x15_2.set (x16_2 : Int).toNat 32) := ⟨_, rfl⟩
                          replace H : (aquiferlaw11_LexLong.l1 k2 a0 a1 (wrap64 (1 + (Int.tmod (wrap64 (a0)) 30))) t131 t132 t136 t137 y143 (wrap64 (x16_2 + 1))) = some r := by first | (rw [hy143]; with_reducible exact H) | (have H2_ := (Option.bind_some _ _).symm.trans H; rw [hy143]; with_reducible exact H2_) | (have H2_ := (Option.bind_some _ _).symm.trans H; with_reducible exact H2_) | with_reducible exact H | (rw [hy143]; exact H) | exact H
                          have Ny143 := Aside0.mk hy143
                          clear hy143
                          have H' := Aside0.mk H
                          clear H
                          obtain ⟨Ao20, co20, eo20⟩ := Kd.R_slice HO_15.out
                          subst eo20
                          have p19 : 0 ≤ (x16_2 : Int) := of_decide_eq_true (by first | (with_reducible assumption) | assumption)
                          have q19 : (x16_2 : Int) < ((x15_2.length : Int) : Int) := of_decide_eq_true (by first | (with_reducible assumption) | assumption)
                          obtain ⟨go19, co19, eo19, gb19, gl19, cl19, HG19⟩ := Kd.R_form HO_15.out (by omega)
                          (first | cases eo19 | (injection eo19 with ea_ en_ ec_; (first | subst ea_ | (injection ea_ with ea_; subst ea_)); subst ec_; clear en_))
                          have GB19 := Aside0.mk gb19
                          have GG19 := Aside0.mk HG19
                          clear gb19 gl19 HG19
                          obtain ⟨hx19_0, hf19_0⟩ := Kd.R_celln 0 HO_15.out (x16_2 : Int) p19 q19
                          replace p19 := eq_true p19
                          replace q19 := eq_true q19
                          have HP21 := Kd.R_putg HO_15.out (x16_2 : Int) 32
                          go_wp2_with (first | ((with_reducible refine gate_store (t := 5) (p := 60) rfl ?_); refine store_event (t := 5) (p := 60) (v := ?vo_w22) (w1 := (wr.setCell ⟨go19, (x16_2 : Int).toNat, none⟩ (.int .u8 32))) ?hg ?ho ?hn ?hr ?_; (case ho => rfl); (case hg => rfl); (case hn => rfl); (case hr => first | (go_simp; done) | (go_simp; rfl)); intro w22 hw; have hg : wr.grownBy w22 (some go19) := (by rw [hw]; exact HP21.2); have hp_ : Kd.R (Kd.int .u8) 5 w22 w.heap.size (fun _ => True) (.slice (some ⟨go19, 0, none⟩) x15_2.length co20) y143 := (by rw [hw, Ny143.out]; exact HP21.1); clear HP21; have n0_ := Aside0.mk (hp_); have n1_ := Aside0.mk ((by rw [hw]; exact below_set (HB.out) GB19.out : Below w.heap.size w w22)); clear HO_15; clear HB; have HO_15 := n0_; have HB := n1_; clear n0_ n1_; clear hg hw hp_))
                          go_roundg k2
                          case measure => have := HK1.out; have := HK2.out; omega
                          case rel => exact ⟨(y143), (wrap64 (x16_2 + 1)), (by first | rfl | (simp; done) | (simp [*]; done)), H', ⟨by have := HK1.out; have := HK2.out; omega⟩, ⟨by (with_reducible repeat (first | apply Kd.R_alloc | apply Kd.R_drewN | apply Kd.R_drew)); exact HO_15.out⟩, ⟨by repeat (first | (with_reducible first | exact HB.out | apply below_alloc | apply pw_below_drewN | apply below_drew1) | exact HB.out)⟩⟩
                        · rw [if_neg c18] at H
                          exact absurd H (by simp)
                      · rw [if_neg c17] at H
                        have c17b0 : decide (x16_2 < (x15_2.length : Int)) = false := decide_eq_false c17
                        clear c17
                        obtain ⟨ji23, hji23⟩ : ∃ j_ : Int, (wrap64 (a0)) = j_ := ⟨_, rfl⟩
                        replace H : (if 0 ≤ (ji23) then (if (ji23) < (x15_2.length : Int) then ((lex_Lex.f k2 (strOfNums (x15_2.set ((ji23) : Int).toNat a1))).bind fun bt145 => ((aquiferlaw1_Num.f bt145.2.1).bind fun t150 => (if t150 = 9 then (aquiferlaw11_LexLong.j2 k2 (wrap64 (1 + (Int.tmod (ji23) 30))) t131 t132 t136 t137 (bt145.2.2 != 8192)) else (aquiferlaw11_LexLong.j2 k2 (wrap64 (1 + (Int.tmod (ji23) 30))) t131 t132 t136 t137 true)))) else (none)) else (none)) = some r := by first | (rw [hji23] at H; exact H) | (simp only [hji23] at H ⊢; exact H)
                        (try rw [hji23] at c3b0)
                        have hji23w : (IntKind.i64.wrap (a0)) = ji23 := (i64_w _).trans hji23
                        by_cases c24 : 0 ≤ (ji23)
                        · rw [if_pos c24] at H
                          have c24b0 : decide (0 ≤ (ji23)) = true := decide_eq_true c24
                          clear c24
                          by_cases c25 : (ji23) < (x15_2.length : Int)
                          · rw [if_pos c25] at H
                            have c25b0 : decide ((ji23) < (x15_2.length : Int)) = true := decide_eq_true c25
                            clear c25
                            obtain ⟨y144, hy144⟩ : ∃ y_ : List Int, y_ = (x15_2.set ((ji23) : Int).toNat a1) := ⟨_, rfl⟩
                            replace H : ((lex_Lex.f k2 (strOfNums y144)).bind fun bt145 => ((aquiferlaw1_Num.f bt145.2.1).bind fun t150 => (if t150 = 9 then (aquiferlaw11_LexLong.j2 k2 (wrap64 (1 + (Int.tmod (ji23) 30))) t131 t132 t136 t137 (bt145.2.2 != 8192)) else (aquiferlaw11_LexLong.j2 k2 (wrap64 (1 + (Int.tmod (ji23) 30))) t131 t132 t136 t137 true)))) = some r := by first | (rw [hy144]; with_reducible exact H) | (have H2_ := (Option.bind_some _ _).symm.trans H; rw [hy144]; with_reducible exact H2_) | (have H2_ := (Option.bind_some _ _).symm.trans H; with_reducible exact H2_) | with_reducible exact H | (rw [hy144]; exact H) | exact H
                            have Ny144 := Aside0.mk hy144
                            clear hy144
                            replace H := Option.bind_eq_some_iff.mp H
                            obtain ⟨⟨t145, t146, t147⟩, A270, H⟩ := H
                            replace H : ((aquiferlaw1_Num.f t146).bind fun t150 => (if t150 = 9 then (aquiferlaw11_LexLong.j2 k2 (wrap64 (1 + (Int.tmod (ji23) 30))) t131 t132 t136 t137 (t147 != 8192)) else (aquiferlaw11_LexLong.j2 k2 (wrap64 (1 + (Int.tmod (ji23) 30))) t131 t132 t136 t137 true))) = some r := H
                            have A27 := Aside0.mk A270
                            clear A270
                            have HC28 := Aside0.mk H
                            clear H
                            obtain ⟨Ao29, co29, eo29⟩ := Kd.R_slice HO_15.out
                            subst eo29
                            have p26 : 0 ≤ ((ji23) : Int) := of_decide_eq_true (by first | (with_reducible assumption) | assumption)
                            have q26 : ((ji23) : Int) < ((x15_2.length : Int) : Int) := of_decide_eq_true (by first | (with_reducible assumption) | assumption)
                            obtain ⟨go26, co26, eo26, gb26, gl26, cl26, HG26⟩ := Kd.R_form HO_15.out (by omega)
                            (first | cases eo26 | (injection eo26 with ea_ en_ ec_; (first | subst ea_ | (injection ea_ with ea_; subst ea_)); subst ec_; clear en_))
                            have GB26 := Aside0.mk gb26
                            have GG26 := Aside0.mk HG26
                            clear gb26 gl26 HG26
                            obtain ⟨hx26_0, hf26_0⟩ := Kd.R_celln 0 HO_15.out ((ji23) : Int) p26 q26
                            replace p26 := eq_true p26
                            replace q26 := eq_true q26
                            have HP30 := Kd.R_putg HO_15.out ((ji23) : Int) a1
                            go_upto_region 17 with (first | ((with_reducible refine gate_store (t := 5) (p := 65) rfl ?_); refine store_event (t := 5) (p := 65) (v := ?vo_w31) (w1 := (wr.setCell ⟨go26, ((ji23) : Int).toNat, none⟩ (.int .u8 a1))) ?hg ?ho ?hn ?hr ?_; (case ho => rfl); (case hg => rfl); (case hn => rfl); (case hr => first | (go_simp; done) | (go_simp; rfl)); intro w31 hw; have hg : wr.grownBy w31 (some go26) := (by rw [hw]; exact HP30.2); have hp_ : Kd.R (Kd.int .u8) 5 w31 w.heap.size (fun _ => True) (.slice (some ⟨go26, 0, none⟩) x15_2.length co29) y144 := (by rw [hw, Ny144.out]; exact HP30.1); clear HP30; have n0_ := Aside0.mk (hp_); have n1_ := Aside0.mk ((by rw [hw]; exact below_set (HB.out) GB26.out : Below w.heap.size w w31)); clear HO_15; clear HB; have HO_15 := n0_; have HB := n1_; clear n0_ n1_; clear hg hw hp_; have hcv32 := own_string (P := Try.prog) Try.underlying22 Try.underlying5 Try.underlying9 (Kd.own_of_R HO_15.out); have hcw32 := fun (nq_ : Nat) => own_string (P := Try.prog) Try.underlying22 Try.underlying5 Try.underlying9 (Kd.own_of_R (Kd.R_drewN HO_15.out nq_))) | ((with_reducible refine gate_callee (f := 21) rfl ?_); refine goesL_ (some 69) rfl rfl Try.func21 (by kernel_rfl) rfl #[.string (strOfNums y144)] rfl (by (try simp only [List.map_toArray, List.map_cons, List.map_nil]); first | done | rfl | (simp only [List.length_drop, List.length_take]; rfl)) ?_; (with_reducible refine (lex_Lex.calls k2 (strOfNums y144) t145 t146 t147 _ A27.out).mono ?_); rintro e w33 ⟨v148, rfl, ho0, hb⟩; refine ⟨_, rfl, ?_⟩; have n0_ := Aside0.mk (Kd.R_below (by (with_reducible repeat (first | apply Kd.R_alloc | apply Kd.R_drewN | apply Kd.R_drew)); exact HO_15.out) hb); have n1_ := Aside0.mk (Kd.R_lower ho0 (below_size (by repeat (first | (with_reducible first | exact HB.out | apply below_alloc | apply pw_below_drewN | apply below_drew1) | exact HB.out)))); have n2_ := Aside0.mk (below_step (by repeat (first | (with_reducible first | exact HB.out | apply below_alloc | apply pw_below_drewN | apply below_drew1) | exact HB.out)) hb); clear HO_15; clear HB; have HO_15 := n0_; have HO149 := n1_; have HB := n2_; clear n0_ n1_ n2_; (try clear hb); (try clear hb2); (try clear hk); (try clear hi); (try clear ho0)))
                            (try simp only [Act.put, List.setIfInBounds_toArray, List.set_cons_zero, List.set_cons_succ])
                            go_cut [79] (fun v79 wc => ∃ (kq : Nat) (x79_27 : Bool), v79 = .bool x79_27 ∧ Aside0 (aquiferlaw11_LexLong.j2 kq (wrap64 (1 + (Int.tmod (ji23) 30))) t131 t132 t136 t137 x79_27 = some r) ∧ Aside0 (kq ≤ k2) ∧ Aside0 (Below w.heap.size w wc))
                            case first =>
                              have H := HC28.out
                              clear HC28
                              replace H := Option.bind_eq_some_iff.mp H
                              obtain ⟨t150, A340, H⟩ := H
                              replace H : (if t150 = 9 then (aquiferlaw11_LexLong.j2 k2 (wrap64 (1 + (Int.tmod (ji23) 30))) t131 t132 t136 t137 (t147 != 8192)) else (aquiferlaw11_LexLong.j2 k2 (wrap64 (1 + (Int.tmod (ji23) 30))) t131 t132 t136 t137 true)) = some r := H
                              have A34 := Aside0.mk A340
                              clear A340
                              by_cases c35 : t150 = 9
                              · rw [if_pos c35] at H
                                have c35b0 : (t150 == 9) = true := beq_iff_eq.mpr c35
                                have c35b1 : (t150 != 9) = false := bne_eq_false_iff_eq.mpr c35
                                clear c35
                                (first | rw [c35b0] | (simp only [i64_w, i32_w]; rw [c35b0]) | skip)
                                have H' := Aside0.mk H
                                clear H
                                go_wp2_with (first | ((with_reducible refine gate_callee (f := 17) rfl ?_); refine goesL_ (some 74) rfl rfl Try.func17 (by kernel_rfl) rfl #[.int .i64 t146] rfl (by (try simp only [List.map_toArray, List.map_cons, List.map_nil]); first | done | rfl | (simp only [List.length_drop, List.length_take]; rfl)) ?_; (with_reducible refine (aquiferlaw1_Num.calls t146 t150 _ A34.out).mono ?_); rintro e w' ⟨rfl, ⟨nd, rfl⟩⟩; refine ⟨_, rfl, ?_⟩))
                                go_meet
                                case rel => exact ⟨_, ((t147 != 8192)), (by first | rfl | (simp; done) | (simp [*]; done)), H', ⟨by have := HK1.out; have := HK2.out; first | omega | exact Nat.le_refl _⟩, ⟨by repeat (first | (with_reducible first | exact HB.out | apply below_alloc | apply pw_below_drewN | apply below_drew1) | exact HB.out)⟩⟩
                              · rw [if_neg c35] at H
                                have c35b0 : (t150 == 9) = false := beq_eq_false_iff_ne.mpr c35
                                have c35b1 : (t150 != 9) = true := bne_iff_ne.mpr c35
                                (first | rw [c35b0] | (simp only [i64_w, i32_w]; rw [c35b0]) | skip)
                                have H' := Aside0.mk H
                                clear H
                                go_wp2_with (first | ((with_reducible refine gate_callee (f := 17) rfl ?_); refine goesL_ (some 74) rfl rfl Try.func17 (by kernel_rfl) rfl #[.int .i64 t146] rfl (by (try simp only [List.map_toArray, List.map_cons, List.map_nil]); first | done | rfl | (simp only [List.length_drop, List.length_take]; rfl)) ?_; (with_reducible refine (aquiferlaw1_Num.calls t146 t150 _ A34.out).mono ?_); rintro e w' ⟨rfl, ⟨nd, rfl⟩⟩; refine ⟨_, rfl, ?_⟩))
                                go_meet
                                case rel => exact ⟨_, (true), (by first | rfl | (simp; done) | (simp [*]; done)), H', ⟨by have := HK1.out; have := HK2.out; first | omega | exact Nat.le_refl _⟩, ⟨by repeat (first | (with_reducible first | exact HB.out | apply below_alloc | apply pw_below_drewN | apply below_drew1) | exact HB.out)⟩⟩
                            case rest =>
                              clear HC28
                              try clear c1
                              try clear p1
                              try clear q1
                              try clear hx1
                              try clear c2
                              try clear p2
                              try clear q2
                              try clear hx2
                              try clear hf2
                              try clear c3
                              try clear c3b0
                              try clear hcv3
                              try clear c4
                              try clear c4b0
                              try clear c4b1
                              try clear c4b2
                              try clear c5
                              try clear c5b0
                              try clear c5b1
                              try clear c5b2
                              try clear c6
                              try clear c6b0
                              try clear c6b1
                              try clear c6b2
                              try clear p6
                              try clear c7
                              try clear c7b0
                              try clear c7b1
                              try clear c7b2
                              try clear c9
                              try clear c9b0
                              try clear c9b1
                              try clear c9b2
                              try clear c10
                              try clear c10b0
                              try clear c10b1
                              try clear c10b2
                              try clear c12
                              try clear c12b0
                              try clear c12b1
                              try clear c17
                              try clear c17b0
                              try clear c18
                              try clear c18b0
                              try clear p19
                              try clear q19
                              try clear hx19
                              try clear hf19
                              try clear c21
                              try clear c24
                              try clear c24b0
                              try clear c25
                              try clear c25b0
                              try clear p26
                              try clear q26
                              try clear hx26
                              try clear hf26
                              try clear hcv32
                              try clear c35
                              try clear c35b0
                              try clear c35b1
                              try clear hx19_0
                              try clear hx26_0
                              try clear p19
                              try clear p2
                              try clear p26
                              try clear p6
                              try clear q19
                              try clear q26
                              obtain ⟨kq, x79_27, rfl, HA, HJ27, HB⟩ := hcut
                              cases kq with
                              | zero => exact absurd HA.out (by simp [aquiferlaw11_LexLong.j2])
                              | succ kj27 =>
                                have H := HA.out
                                clear HA
                                simp only [aquiferlaw11_LexLong.j2] at H
                                by_cases c36 : x79_27 = true
                                · subst c36
                                  have H1 : (some false) = some r := by rw [if_pos rfl] at H; exact H
                                  clear H
                                  have H := H1
                                  clear H1
                                  exact absurd (HLT_.out.symm.trans (Option.some.inj H).symm) (by decide)
                                · replace c36 := Bool.eq_false_iff.mpr c36
                                  subst c36
                                  have H1 : (if (wrap64 (1 + (Int.tmod (ji23) 30))) ≤ 20 then ((aquiferlaw1_Num.f t131).bind fun t151 => (if t151 = 0 then (if (wrap64 (1 + (Int.tmod (ji23) 30))) ≤ 9 then ((aquiferlaw1_Num.f t136).bind fun t152 => (if t152 = 0 then ((aquiferlaw11_awake.f kj27).bind fun t153 => (some t153)) else (if (wrap64 (1 + (Int.tmod (ji23) 30))) > 9 then ((aquiferlaw1_Num.f t136).bind fun t154 => (if t154 = 9 then (if t137 = 2 then ((aquiferlaw11_awake.f kj27).bind fun t155 => (some t155)) else (some false)) else (some false))) else (some false)))) else (if (wrap64 (1 + (Int.tmod (ji23) 30))) > 9 then ((aquiferlaw1_Num.f t136).bind fun t156 => (if t156 = 9 then (if t137 = 2 then ((aquiferlaw11_awake.f kj27).bind fun t157 => (some t157)) else (some false)) else (some false))) else (some false))) else (if (wrap64 (1 + (Int.tmod (ji23) 30))) > 20 then ((aquiferlaw1_Num.f t131).bind fun t158 => (if t158 = 9 then (if (wrap64 (1 + (Int.tmod (ji23) 30))) ≤ 9 then ((aquiferlaw1_Num.f t136).bind fun t159 => (if t159 = 0 then (if t132 = 2 then ((aquiferlaw11_awake.f kj27).bind fun t160 => (some t160)) else (some false)) else (if (wrap64 (1 + (Int.tmod (ji23) 30))) > 9 then ((aquiferlaw1_Num.f t136).bind fun t161 => (if t161 = 9 then (if t132 = 2 then (if t137 = 2 then ((aquiferlaw11_awake.f kj27).bind fun t162 => (some t162)) else (some false)) else (some false)) else (if t132 = 2 then (some false) else (some false)))) else (if t132 = 2 then (some false) else (some false))))) else (if (wrap64 (1 + (Int.tmod (ji23) 30))) > 9 then ((aquiferlaw1_Num.f t136).bind fun t163 => (if t163 = 9 then (if t132 = 2 then (if t137 = 2 then ((aquiferlaw11_awake.f kj27).bind fun t164 => (some t164)) else (some false)) else (some false)) else (if t132 = 2 then (some false) else (some false)))) else (if t132 = 2 then (some false) else (some false)))) else (if (wrap64 (1 + (Int.tmod (ji23) 30))) ≤ 9 then ((aquiferlaw1_Num.f t136).bind fun t165 => (if t165 = 0 then (some false) else (if (wrap64 (1 + (Int.tmod (ji23) 30))) > 9 then ((aquiferlaw1_Num.f t136).bind fun t166 => (if t166 = 9 then (some false) else (some false))) else (some false)))) else (if (wrap64 (1 + (Int.tmod (ji23) 30))) > 9 then ((aquiferlaw1_Num.f t136).bind fun t167 => (if t167 = 9 then (some false) else (some false))) else (some false))))) else (if (wrap64 (1 + (Int.tmod (ji23) 30))) ≤ 9 then ((aquiferlaw1_Num.f t136).bind fun t168 => (if t168 = 0 then (some false) else (if (wrap64 (1 + (Int.tmod (ji23) 30))) > 9 then ((aquiferlaw1_Num.f t136).bind fun t169 => (if t169 = 9 then (some false) else (some false))) else (some false)))) else (if (wrap64 (1 + (Int.tmod (ji23) 30))) > 9 then ((aquiferlaw1_Num.f t136).bind fun t170 => (if t170 = 9 then (some false) else (some false))) else (some false)))))) else (if (wrap64 (1 + (Int.tmod (ji23) 30))) > 20 then ((aquiferlaw1_Num.f t131).bind fun t171 => (if t171 = 9 then (if (wrap64 (1 + (Int.tmod (ji23) 30))) ≤ 9 then ((aquiferlaw1_Num.f t136).bind fun t172 => (if t172 = 0 then (if t132 = 2 then ((aquiferlaw11_awake.f kj27).bind fun t173 => (some t173)) else (some false)) else (if (wrap64 (1 + (Int.tmod (ji23) 30))) > 9 then ((aquiferlaw1_Num.f t136).bind fun t174 => (if t174 = 9 then (if t132 = 2 then (if t137 = 2 then ((aquiferlaw11_awake.f kj27).bind fun t175 => (some t175)) else (some false)) else (some false)) else (if t132 = 2 then (some false) else (some false)))) else (if t132 = 2 then (some false) else (some false))))) else (if (wrap64 (1 + (Int.tmod (ji23) 30))) > 9 then ((aquiferlaw1_Num.f t136).bind fun t176 => (if t176 = 9 then (if t132 = 2 then (if t137 = 2 then ((aquiferlaw11_awake.f kj27).bind fun t177 => (some t177)) else (some false)) else (some false)) else (if t132 = 2 then (some false) else (some false)))) else (if t132 = 2 then (some false) else (some false)))) else (if (wrap64 (1 + (Int.tmod (ji23) 30))) ≤ 9 then ((aquiferlaw1_Num.f t136).bind fun t178 => (if t178 = 0 then (some false) else (if (wrap64 (1 + (Int.tmod (ji23) 30))) > 9 then ((aquiferlaw1_Num.f t136).bind fun t179 => (if t179 = 9 then (some false) else (some false))) else (some false)))) else (if (wrap64 (1 + (Int.tmod (ji23) 30))) > 9 then ((aquiferlaw1_Num.f t136).bind fun t180 => (if t180 = 9 then (some false) else (some false))) else (some false))))) else (if (wrap64 (1 + (Int.tmod (ji23) 30))) ≤ 9 then ((aquiferlaw1_Num.f t136).bind fun t181 => (if t181 = 0 then (some false) else (if (wrap64 (1 + (Int.tmod (ji23) 30))) > 9 then ((aquiferlaw1_Num.f t136).bind fun t182 => (if t182 = 9 then (some false) else (some false))) else (some false)))) else (if (wrap64 (1 + (Int.tmod (ji23) 30))) > 9 then ((aquiferlaw1_Num.f t136).bind fun t183 => (if t183 = 9 then (some false) else (some false))) else (some false))))) = some r := by rw [if_neg (show ¬ (false = true) by decide)] at H; exact H
                                  clear H
                                  have H := H1
                                  clear H1
                                  by_cases c37 : (wrap64 (1 + (Int.tmod (ji23) 30))) ≤ 20
                                  · rw [if_pos c37] at H
                                    have c37b0 : decide ((wrap64 (1 + (Int.tmod (ji23) 30))) ≤ 20) = true := decide_eq_true c37
                                    clear c37
                                    replace H := Option.bind_eq_some_iff.mp H
                                    obtain ⟨t151, A380, H⟩ := H
                                    replace H : (if t151 = 0 then (if (wrap64 (1 + (Int.tmod (ji23) 30))) ≤ 9 then ((aquiferlaw1_Num.f t136).bind fun t152 => (if t152 = 0 then ((aquiferlaw11_awake.f kj27).bind fun t153 => (some t153)) else (if (wrap64 (1 + (Int.tmod (ji23) 30))) > 9 then ((aquiferlaw1_Num.f t136).bind fun t154 => (if t154 = 9 then (if t137 = 2 then ((aquiferlaw11_awake.f kj27).bind fun t155 => (some t155)) else (some false)) else (some false))) else (some false)))) else (if (wrap64 (1 + (Int.tmod (ji23) 30))) > 9 then ((aquiferlaw1_Num.f t136).bind fun t156 => (if t156 = 9 then (if t137 = 2 then ((aquiferlaw11_awake.f kj27).bind fun t157 => (some t157)) else (some false)) else (some false))) else (some false))) else (if (wrap64 (1 + (Int.tmod (ji23) 30))) > 20 then ((aquiferlaw1_Num.f t131).bind fun t158 => (if t158 = 9 then (if (wrap64 (1 + (Int.tmod (ji23) 30))) ≤ 9 then ((aquiferlaw1_Num.f t136).bind fun t159 => (if t159 = 0 then (if t132 = 2 then ((aquiferlaw11_awake.f kj27).bind fun t160 => (some t160)) else (some false)) else (if (wrap64 (1 + (Int.tmod (ji23) 30))) > 9 then ((aquiferlaw1_Num.f t136).bind fun t161 => (if t161 = 9 then (if t132 = 2 then (if t137 = 2 then ((aquiferlaw11_awake.f kj27).bind fun t162 => (some t162)) else (some false)) else (some false)) else (if t132 = 2 then (some false) else (some false)))) else (if t132 = 2 then (some false) else (some false))))) else (if (wrap64 (1 + (Int.tmod (ji23) 30))) > 9 then ((aquiferlaw1_Num.f t136).bind fun t163 => (if t163 = 9 then (if t132 = 2 then (if t137 = 2 then ((aquiferlaw11_awake.f kj27).bind fun t164 => (some t164)) else (some false)) else (some false)) else (if t132 = 2 then (some false) else (some false)))) else (if t132 = 2 then (some false) else (some false)))) else (if (wrap64 (1 + (Int.tmod (ji23) 30))) ≤ 9 then ((aquiferlaw1_Num.f t136).bind fun t165 => (if t165 = 0 then (some false) else (if (wrap64 (1 + (Int.tmod (ji23) 30))) > 9 then ((aquiferlaw1_Num.f t136).bind fun t166 => (if t166 = 9 then (some false) else (some false))) else (some false)))) else (if (wrap64 (1 + (Int.tmod (ji23) 30))) > 9 then ((aquiferlaw1_Num.f t136).bind fun t167 => (if t167 = 9 then (some false) else (some false))) else (some false))))) else (if (wrap64 (1 + (Int.tmod (ji23) 30))) ≤ 9 then ((aquiferlaw1_Num.f t136).bind fun t168 => (if t168 = 0 then (some false) else (if (wrap64 (1 + (Int.tmod (ji23) 30))) > 9 then ((aquiferlaw1_Num.f t136).bind fun t169 => (if t169 = 9 then (some false) else (some false))) else (some false)))) else (if (wrap64 (1 + (Int.tmod (ji23) 30))) > 9 then ((aquiferlaw1_Num.f t136).bind fun t170 => (if t170 = 9 then (some false) else (some false))) else (some false))))) = some r := H
                                    have A38 := Aside0.mk A380
                                    clear A380
                                    by_cases c39 : t151 = 0
                                    · rw [if_pos c39] at H
                                      have c39b0 : (t151 == 0) = true := beq_iff_eq.mpr c39
                                      have c39b1 : (t151 != 0) = false := bne_eq_false_iff_eq.mpr c39
                                      clear c39
                                      by_cases c40 : (wrap64 (1 + (Int.tmod (ji23) 30))) ≤ 9
                                      · rw [if_pos c40] at H
                                        have c40b0 : decide ((wrap64 (1 + (Int.tmod (ji23) 30))) ≤ 9) = true := decide_eq_true c40
                                        clear c40
                                        replace H := Option.bind_eq_some_iff.mp H
                                        obtain ⟨t152, A410, H⟩ := H
                                        replace H : (if t152 = 0 then ((aquiferlaw11_awake.f kj27).bind fun t153 => (some t153)) else (if (wrap64 (1 + (Int.tmod (ji23) 30))) > 9 then ((aquiferlaw1_Num.f t136).bind fun t154 => (if t154 = 9 then (if t137 = 2 then ((aquiferlaw11_awake.f kj27).bind fun t155 => (some t155)) else (some false)) else (some false))) else (some false))) = some r := H
                                        have A41 := Aside0.mk A410
                                        clear A410
                                        by_cases c42 : t152 = 0
                                        · rw [if_pos c42] at H
                                          have c42b0 : (t152 == 0) = true := beq_iff_eq.mpr c42
                                          have c42b1 : (t152 != 0) = false := bne_eq_false_iff_eq.mpr c42
                                          clear c42
                                          replace H := Option.bind_eq_some_iff.mp H
                                          obtain ⟨t153, A430, H⟩ := H
                                          replace H : (some t153) = some r := H
                                          have A43 := Aside0.mk A430
                                          clear A430
                                          obtain rfl := Option.some.inj H
                                          go_wp2_with (first | ((with_reducible refine gate_callee (f := 17) rfl ?_); (with_reducible refine gate_dst (N := 84) rfl ?_); (refine gate_guard (by rfl) ?_; dsimp only); refine goesL_ (some 84) rfl rfl Try.func17 (by kernel_rfl) rfl #[.int .i64 t131] rfl (by (try simp only [List.map_toArray, List.map_cons, List.map_nil]); first | done | rfl | (simp only [List.length_drop, List.length_take]; rfl)) ?_; (with_reducible refine (aquiferlaw1_Num.calls t131 t151 _ A38.out).mono ?_); rintro e w' ⟨rfl, ⟨nd, rfl⟩⟩; refine ⟨_, rfl, ?_⟩) | ((with_reducible refine gate_callee (f := 17) rfl ?_); (with_reducible refine gate_dst (N := 104) rfl ?_); (refine gate_guard (by rfl) ?_; dsimp only); refine goesL_ (some 104) rfl rfl Try.func17 (by kernel_rfl) rfl #[.int .i64 t136] rfl (by (try simp only [List.map_toArray, List.map_cons, List.map_nil]); first | done | rfl | (simp only [List.length_drop, List.length_take]; rfl)) ?_; (with_reducible refine (aquiferlaw1_Num.calls t136 t152 _ A41.out).mono ?_); rintro e w' ⟨rfl, ⟨nd, rfl⟩⟩; refine ⟨_, rfl, ?_⟩) | ((with_reducible refine gate_callee (f := 20) rfl ?_); (with_reducible refine gate_dst (N := 125) rfl ?_); (refine gate_guard (by rfl) ?_; dsimp only); refine goesL_ (some 125) rfl rfl Try.func20 (by kernel_rfl) rfl #[] rfl (by (try simp only [List.map_toArray, List.map_cons, List.map_nil]); first | done | rfl | (simp only [List.length_drop, List.length_take]; rfl)) ?_; (with_reducible refine (aquiferlaw11_awake.calls kj27  t153 _ A43.out).mono ?_); rintro e w44 ⟨rfl, hb⟩; refine ⟨_, rfl, ?_⟩; have n0_ := Aside0.mk (below_step (by repeat (first | (with_reducible first | exact HB.out | apply below_alloc | apply pw_below_drewN | apply below_drew1) | exact HB.out)) hb); clear HB; have HB := n0_; clear n0_; (try clear hb); (try clear hb2); (try clear hk); (try clear hi)))
                                          go_ret
                                          exact ⟨by first | rfl | (simp [errW_none, errW_some] <;> rfl) | (simp only [← hji23]; first | rfl | (simp [errW_none, errW_some] <;> rfl)) | (simp [*, errW_none, errW_some] <;> rfl), by repeat (first | (with_reducible first | exact HB.out | apply below_alloc | apply pw_below_drewN | apply below_drew1) | exact HB.out)⟩
                                        · rw [if_neg c42] at H
                                          have c42b0 : (t152 == 0) = false := beq_eq_false_iff_ne.mpr c42
                                          have c42b1 : (t152 != 0) = true := bne_iff_ne.mpr c42
                                          by_cases c45 : (wrap64 (1 + (Int.tmod (ji23) 30))) > 9
                                          · rw [if_pos c45] at H
                                            have c45b0 : decide (9 < (wrap64 (1 + (Int.tmod (ji23) 30)))) = true := decide_eq_true c45
                                            clear c45
                                            replace H := Option.bind_eq_some_iff.mp H
                                            obtain ⟨t154, A460, H⟩ := H
                                            replace H : (if t154 = 9 then (if t137 = 2 then ((aquiferlaw11_awake.f kj27).bind fun t155 => (some t155)) else (some false)) else (some false)) = some r := H
                                            have A46 := Aside0.mk A460
                                            clear A460
                                            by_cases c47 : t154 = 9
                                            · rw [if_pos c47] at H
                                              have c47b0 : (t154 == 9) = true := beq_iff_eq.mpr c47
                                              have c47b1 : (t154 != 9) = false := bne_eq_false_iff_eq.mpr c47
                                              clear c47
                                              by_cases c48 : t137 = 2
                                              · rw [if_pos c48] at H
                                                have c48b0 : (t137 == 2) = true := beq_iff_eq.mpr c48
                                                have c48b1 : (t137 != 2) = false := bne_eq_false_iff_eq.mpr c48
                                                clear c48
                                                replace H := Option.bind_eq_some_iff.mp H
                                                obtain ⟨t155, A490, H⟩ := H
                                                replace H : (some t155) = some r := H
                                                have A49 := Aside0.mk A490
                                                clear A490
                                                obtain rfl := Option.some.inj H
                                                go_wp2_with (first | ((with_reducible refine gate_callee (f := 17) rfl ?_); (with_reducible refine gate_dst (N := 84) rfl ?_); (refine gate_guard (by rfl) ?_; dsimp only); refine goesL_ (some 84) rfl rfl Try.func17 (by kernel_rfl) rfl #[.int .i64 t131] rfl (by (try simp only [List.map_toArray, List.map_cons, List.map_nil]); first | done | rfl | (simp only [List.length_drop, List.length_take]; rfl)) ?_; (with_reducible refine (aquiferlaw1_Num.calls t131 t151 _ A38.out).mono ?_); rintro e w' ⟨rfl, ⟨nd, rfl⟩⟩; refine ⟨_, rfl, ?_⟩) | ((with_reducible refine gate_callee (f := 17) rfl ?_); (with_reducible refine gate_dst (N := 104) rfl ?_); (refine gate_guard (by rfl) ?_; dsimp only); refine goesL_ (some 104) rfl rfl Try.func17 (by kernel_rfl) rfl #[.int .i64 t136] rfl (by (try simp only [List.map_toArray, List.map_cons, List.map_nil]); first | done | rfl | (simp only [List.length_drop, List.length_take]; rfl)) ?_; (with_reducible refine (aquiferlaw1_Num.calls t136 t152 _ A41.out).mono ?_); rintro e w' ⟨rfl, ⟨nd, rfl⟩⟩; refine ⟨_, rfl, ?_⟩) | ((with_reducible refine gate_callee (f := 17) rfl ?_); (with_reducible refine gate_dst (N := 112) rfl ?_); (refine gate_guard (by rfl) ?_; dsimp only); refine goesL_ (some 112) rfl rfl Try.func17 (by kernel_rfl) rfl #[.int .i64 t136] rfl (by (try simp only [List.map_toArray, List.map_cons, List.map_nil]); first | done | rfl | (simp only [List.length_drop, List.length_take]; rfl)) ?_; (with_reducible refine (aquiferlaw1_Num.calls t136 t154 _ A46.out).mono ?_); rintro e w' ⟨rfl, ⟨nd, rfl⟩⟩; refine ⟨_, rfl, ?_⟩) | ((with_reducible refine gate_callee (f := 20) rfl ?_); (with_reducible refine gate_dst (N := 125) rfl ?_); (refine gate_guard (by rfl) ?_; dsimp only); refine goesL_ (some 125) rfl rfl Try.func20 (by kernel_rfl) rfl #[] rfl (by (try simp only [List.map_toArray, List.map_cons, List.map_nil]); first | done | rfl | (simp only [List.length_drop, List.length_take]; rfl)) ?_; (with_reducible refine (aquiferlaw11_awake.calls kj27  t155 _ A49.out).mono ?_); rintro e w50 ⟨rfl, hb⟩; refine ⟨_, rfl, ?_⟩; have n0_ := Aside0.mk (below_step (by repeat (first | (with_reducible first | exact HB.out | apply below_alloc | apply pw_below_drewN | apply below_drew1) | exact HB.out)) hb); clear HB; have HB := n0_; clear n0_; (try clear hb); (try clear hb2); (try clear hk); (try clear hi)))
                                                go_ret
                                                exact ⟨by first | rfl | (simp [errW_none, errW_some] <;> rfl) | (simp only [← hji23]; first | rfl | (simp [errW_none, errW_some] <;> rfl)) | (simp [*, errW_none, errW_some] <;> rfl), by repeat (first | (with_reducible first | exact HB.out | apply below_alloc | apply pw_below_drewN | apply below_drew1) | exact HB.out)⟩
                                              · rw [if_neg c48] at H
                                                have c48b0 : (t137 == 2) = false := beq_eq_false_iff_ne.mpr c48
                                                have c48b1 : (t137 != 2) = true := bne_iff_ne.mpr c48
                                                exact absurd (HLT_.out.symm.trans (Option.some.inj H).symm) (by decide)
                                            · rw [if_neg c47] at H
                                              have c47b0 : (t154 == 9) = false := beq_eq_false_iff_ne.mpr c47
                                              have c47b1 : (t154 != 9) = true := bne_iff_ne.mpr c47
                                              exact absurd (HLT_.out.symm.trans (Option.some.inj H).symm) (by decide)
                                          · rw [if_neg c45] at H
                                            have c45b0 : decide (9 < (wrap64 (1 + (Int.tmod (ji23) 30)))) = false := decide_eq_false c45
                                            clear c45
                                            exact absurd (HLT_.out.symm.trans (Option.some.inj H).symm) (by decide)
                                      · rw [if_neg c40] at H
                                        have c40b0 : decide ((wrap64 (1 + (Int.tmod (ji23) 30))) ≤ 9) = false := decide_eq_false c40
                                        clear c40
                                        by_cases c51 : (wrap64 (1 + (Int.tmod (ji23) 30))) > 9
                                        · rw [if_pos c51] at H
                                          have c51b0 : decide (9 < (wrap64 (1 + (Int.tmod (ji23) 30)))) = true := decide_eq_true c51
                                          clear c51
                                          replace H := Option.bind_eq_some_iff.mp H
                                          obtain ⟨t156, A520, H⟩ := H
                                          replace H : (if t156 = 9 then (if t137 = 2 then ((aquiferlaw11_awake.f kj27).bind fun t157 => (some t157)) else (some false)) else (some false)) = some r := H
                                          have A52 := Aside0.mk A520
                                          clear A520
                                          by_cases c53 : t156 = 9
                                          · rw [if_pos c53] at H
                                            have c53b0 : (t156 == 9) = true := beq_iff_eq.mpr c53
                                            have c53b1 : (t156 != 9) = false := bne_eq_false_iff_eq.mpr c53
                                            clear c53
                                            by_cases c54 : t137 = 2
                                            · rw [if_pos c54] at H
                                              have c54b0 : (t137 == 2) = true := beq_iff_eq.mpr c54
                                              have c54b1 : (t137 != 2) = false := bne_eq_false_iff_eq.mpr c54
                                              clear c54
                                              replace H := Option.bind_eq_some_iff.mp H
                                              obtain ⟨t157, A550, H⟩ := H
                                              replace H : (some t157) = some r := H
                                              have A55 := Aside0.mk A550
                                              clear A550
                                              obtain rfl := Option.some.inj H
                                              go_wp2_with (first | ((with_reducible refine gate_callee (f := 17) rfl ?_); (with_reducible refine gate_dst (N := 84) rfl ?_); (refine gate_guard (by rfl) ?_; dsimp only); refine goesL_ (some 84) rfl rfl Try.func17 (by kernel_rfl) rfl #[.int .i64 t131] rfl (by (try simp only [List.map_toArray, List.map_cons, List.map_nil]); first | done | rfl | (simp only [List.length_drop, List.length_take]; rfl)) ?_; (with_reducible refine (aquiferlaw1_Num.calls t131 t151 _ A38.out).mono ?_); rintro e w' ⟨rfl, ⟨nd, rfl⟩⟩; refine ⟨_, rfl, ?_⟩) | ((with_reducible refine gate_callee (f := 17) rfl ?_); (with_reducible refine gate_dst (N := 112) rfl ?_); (refine gate_guard (by rfl) ?_; dsimp only); refine goesL_ (some 112) rfl rfl Try.func17 (by kernel_rfl) rfl #[.int .i64 t136] rfl (by (try simp only [List.map_toArray, List.map_cons, List.map_nil]); first | done | rfl | (simp only [List.length_drop, List.length_take]; rfl)) ?_; (with_reducible refine (aquiferlaw1_Num.calls t136 t156 _ A52.out).mono ?_); rintro e w' ⟨rfl, ⟨nd, rfl⟩⟩; refine ⟨_, rfl, ?_⟩) | ((with_reducible refine gate_callee (f := 20) rfl ?_); (with_reducible refine gate_dst (N := 125) rfl ?_); (refine gate_guard (by rfl) ?_; dsimp only); refine goesL_ (some 125) rfl rfl Try.func20 (by kernel_rfl) rfl #[] rfl (by (try simp only [List.map_toArray, List.map_cons, List.map_nil]); first | done | rfl | (simp only [List.length_drop, List.length_take]; rfl)) ?_; (with_reducible refine (aquiferlaw11_awake.calls kj27  t157 _ A55.out).mono ?_); rintro e w56 ⟨rfl, hb⟩; refine ⟨_, rfl, ?_⟩; have n0_ := Aside0.mk (below_step (by repeat (first | (with_reducible first | exact HB.out | apply below_alloc | apply pw_below_drewN | apply below_drew1) | exact HB.out)) hb); clear HB; have HB := n0_; clear n0_; (try clear hb); (try clear hb2); (try clear hk); (try clear hi)))
                                              go_ret
                                              exact ⟨by first | rfl | (simp [errW_none, errW_some] <;> rfl) | (simp only [← hji23]; first | rfl | (simp [errW_none, errW_some] <;> rfl)) | (simp [*, errW_none, errW_some] <;> rfl), by repeat (first | (with_reducible first | exact HB.out | apply below_alloc | apply pw_below_drewN | apply below_drew1) | exact HB.out)⟩
                                            · rw [if_neg c54] at H
                                              have c54b0 : (t137 == 2) = false := beq_eq_false_iff_ne.mpr c54
                                              have c54b1 : (t137 != 2) = true := bne_iff_ne.mpr c54
                                              exact absurd (HLT_.out.symm.trans (Option.some.inj H).symm) (by decide)
                                          · rw [if_neg c53] at H
                                            have c53b0 : (t156 == 9) = false := beq_eq_false_iff_ne.mpr c53
                                            have c53b1 : (t156 != 9) = true := bne_iff_ne.mpr c53
                                            exact absurd (HLT_.out.symm.trans (Option.some.inj H).symm) (by decide)
                                        · rw [if_neg c51] at H
                                          have c51b0 : decide (9 < (wrap64 (1 + (Int.tmod (ji23) 30)))) = false := decide_eq_false c51
                                          clear c51
                                          exact absurd (HLT_.out.symm.trans (Option.some.inj H).symm) (by decide)
                                    · rw [if_neg c39] at H
                                      have c39b0 : (t151 == 0) = false := beq_eq_false_iff_ne.mpr c39
                                      have c39b1 : (t151 != 0) = true := bne_iff_ne.mpr c39
                                      by_cases c57 : (wrap64 (1 + (Int.tmod (ji23) 30))) > 20
                                      · rw [if_pos c57] at H
                                        have c57b0 : decide (20 < (wrap64 (1 + (Int.tmod (ji23) 30)))) = true := decide_eq_true c57
                                        clear c57
                                        replace H := Option.bind_eq_some_iff.mp H
                                        obtain ⟨t158, A580, H⟩ := H
                                        replace H : (if t158 = 9 then (if (wrap64 (1 + (Int.tmod (ji23) 30))) ≤ 9 then ((aquiferlaw1_Num.f t136).bind fun t159 => (if t159 = 0 then (if t132 = 2 then ((aquiferlaw11_awake.f kj27).bind fun t160 => (some t160)) else (some false)) else (if (wrap64 (1 + (Int.tmod (ji23) 30))) > 9 then ((aquiferlaw1_Num.f t136).bind fun t161 => (if t161 = 9 then (if t132 = 2 then (if t137 = 2 then ((aquiferlaw11_awake.f kj27).bind fun t162 => (some t162)) else (some false)) else (some false)) else (if t132 = 2 then (some false) else (some false)))) else (if t132 = 2 then (some false) else (some false))))) else (if (wrap64 (1 + (Int.tmod (ji23) 30))) > 9 then ((aquiferlaw1_Num.f t136).bind fun t163 => (if t163 = 9 then (if t132 = 2 then (if t137 = 2 then ((aquiferlaw11_awake.f kj27).bind fun t164 => (some t164)) else (some false)) else (some false)) else (if t132 = 2 then (some false) else (some false)))) else (if t132 = 2 then (some false) else (some false)))) else (if (wrap64 (1 + (Int.tmod (ji23) 30))) ≤ 9 then ((aquiferlaw1_Num.f t136).bind fun t165 => (if t165 = 0 then (some false) else (if (wrap64 (1 + (Int.tmod (ji23) 30))) > 9 then ((aquiferlaw1_Num.f t136).bind fun t166 => (if t166 = 9 then (some false) else (some false))) else (some false)))) else (if (wrap64 (1 + (Int.tmod (ji23) 30))) > 9 then ((aquiferlaw1_Num.f t136).bind fun t167 => (if t167 = 9 then (some false) else (some false))) else (some false)))) = some r := H
                                        have A58 := Aside0.mk A580
                                        clear A580
                                        by_cases c59 : t158 = 9
                                        · rw [if_pos c59] at H
                                          have c59b0 : (t158 == 9) = true := beq_iff_eq.mpr c59
                                          have c59b1 : (t158 != 9) = false := bne_eq_false_iff_eq.mpr c59
                                          clear c59
                                          by_cases c60 : (wrap64 (1 + (Int.tmod (ji23) 30))) ≤ 9
                                          · rw [if_pos c60] at H
                                            have c60b0 : decide ((wrap64 (1 + (Int.tmod (ji23) 30))) ≤ 9) = true := decide_eq_true c60
                                            clear c60
                                            replace H := Option.bind_eq_some_iff.mp H
                                            obtain ⟨t159, A610, H⟩ := H
                                            replace H : (if t159 = 0 then (if t132 = 2 then ((aquiferlaw11_awake.f kj27).bind fun t160 => (some t160)) else (some false)) else (if (wrap64 (1 + (Int.tmod (ji23) 30))) > 9 then ((aquiferlaw1_Num.f t136).bind fun t161 => (if t161 = 9 then (if t132 = 2 then (if t137 = 2 then ((aquiferlaw11_awake.f kj27).bind fun t162 => (some t162)) else (some false)) else (some false)) else (if t132 = 2 then (some false) else (some false)))) else (if t132 = 2 then (some false) else (some false)))) = some r := H
                                            have A61 := Aside0.mk A610
                                            clear A610
                                            by_cases c62 : t159 = 0
                                            · rw [if_pos c62] at H
                                              have c62b0 : (t159 == 0) = true := beq_iff_eq.mpr c62
                                              have c62b1 : (t159 != 0) = false := bne_eq_false_iff_eq.mpr c62
                                              clear c62
                                              by_cases c63 : t132 = 2
                                              · rw [if_pos c63] at H
                                                have c63b0 : (t132 == 2) = true := beq_iff_eq.mpr c63
                                                have c63b1 : (t132 != 2) = false := bne_eq_false_iff_eq.mpr c63
                                                clear c63
                                                replace H := Option.bind_eq_some_iff.mp H
                                                obtain ⟨t160, A640, H⟩ := H
                                                replace H : (some t160) = some r := H
                                                have A64 := Aside0.mk A640
                                                clear A640
                                                obtain rfl := Option.some.inj H
                                                go_wp2_with (first | ((with_reducible refine gate_callee (f := 17) rfl ?_); (with_reducible refine gate_dst (N := 84) rfl ?_); (refine gate_guard (by rfl) ?_; dsimp only); refine goesL_ (some 84) rfl rfl Try.func17 (by kernel_rfl) rfl #[.int .i64 t131] rfl (by (try simp only [List.map_toArray, List.map_cons, List.map_nil]); first | done | rfl | (simp only [List.length_drop, List.length_take]; rfl)) ?_; (with_reducible refine (aquiferlaw1_Num.calls t131 t151 _ A38.out).mono ?_); rintro e w' ⟨rfl, ⟨nd, rfl⟩⟩; refine ⟨_, rfl, ?_⟩) | ((with_reducible refine gate_callee (f := 17) rfl ?_); (with_reducible refine gate_dst (N := 92) rfl ?_); (refine gate_guard (by rfl) ?_; dsimp only); refine goesL_ (some 92) rfl rfl Try.func17 (by kernel_rfl) rfl #[.int .i64 t131] rfl (by (try simp only [List.map_toArray, List.map_cons, List.map_nil]); first | done | rfl | (simp only [List.length_drop, List.length_take]; rfl)) ?_; (with_reducible refine (aquiferlaw1_Num.calls t131 t158 _ A58.out).mono ?_); rintro e w' ⟨rfl, ⟨nd, rfl⟩⟩; refine ⟨_, rfl, ?_⟩) | ((with_reducible refine gate_callee (f := 17) rfl ?_); (with_reducible refine gate_dst (N := 104) rfl ?_); (refine gate_guard (by rfl) ?_; dsimp only); refine goesL_ (some 104) rfl rfl Try.func17 (by kernel_rfl) rfl #[.int .i64 t136] rfl (by (try simp only [List.map_toArray, List.map_cons, List.map_nil]); first | done | rfl | (simp only [List.length_drop, List.length_take]; rfl)) ?_; (with_reducible refine (aquiferlaw1_Num.calls t136 t159 _ A61.out).mono ?_); rintro e w' ⟨rfl, ⟨nd, rfl⟩⟩; refine ⟨_, rfl, ?_⟩) | ((with_reducible refine gate_callee (f := 20) rfl ?_); (with_reducible refine gate_dst (N := 125) rfl ?_); (refine gate_guard (by rfl) ?_; dsimp only); refine goesL_ (some 125) rfl rfl Try.func20 (by kernel_rfl) rfl #[] rfl (by (try simp only [List.map_toArray, List.map_cons, List.map_nil]); first | done | rfl | (simp only [List.length_drop, List.length_take]; rfl)) ?_; (with_reducible refine (aquiferlaw11_awake.calls kj27  t160 _ A64.out).mono ?_); rintro e w65 ⟨rfl, hb⟩; refine ⟨_, rfl, ?_⟩; have n0_ := Aside0.mk (below_step (by repeat (first | (with_reducible first | exact HB.out | apply below_alloc | apply pw_below_drewN | apply below_drew1) | exact HB.out)) hb); clear HB; have HB := n0_; clear n0_; (try clear hb); (try clear hb2); (try clear hk); (try clear hi)))
                                                go_ret
                                                exact ⟨by first | rfl | (simp [errW_none, errW_some] <;> rfl) | (simp only [← hji23]; first | rfl | (simp [errW_none, errW_some] <;> rfl)) | (simp [*, errW_none, errW_some] <;> rfl), by repeat (first | (with_reducible first | exact HB.out | apply below_alloc | apply pw_below_drewN | apply below_drew1) | exact HB.out)⟩
                                              · rw [if_neg c63] at H
                                                have c63b0 : (t132 == 2) = false := beq_eq_false_iff_ne.mpr c63
                                                have c63b1 : (t132 != 2) = true := bne_iff_ne.mpr c63
                                                exact absurd (HLT_.out.symm.trans (Option.some.inj H).symm) (by decide)
                                            · rw [if_neg c62] at H
                                              have c62b0 : (t159 == 0) = false := beq_eq_false_iff_ne.mpr c62
                                              have c62b1 : (t159 != 0) = true := bne_iff_ne.mpr c62
                                              by_cases c66 : (wrap64 (1 + (Int.tmod (ji23) 30))) > 9
                                              · rw [if_pos c66] at H
                                                have c66b0 : decide (9 < (wrap64 (1 + (Int.tmod (ji23) 30)))) = true := decide_eq_true c66
                                                clear c66
                                                replace H := Option.bind_eq_some_iff.mp H
                                                obtain ⟨t161, A670, H⟩ := H
                                                replace H : (if t161 = 9 then (if t132 = 2 then (if t137 = 2 then ((aquiferlaw11_awake.f kj27).bind fun t162 => (some t162)) else (some false)) else (some false)) else (if t132 = 2 then (some false) else (some false))) = some r := H
                                                have A67 := Aside0.mk A670
                                                clear A670
                                                by_cases c68 : t161 = 9
                                                · rw [if_pos c68] at H
                                                  have c68b0 : (t161 == 9) = true := beq_iff_eq.mpr c68
                                                  have c68b1 : (t161 != 9) = false := bne_eq_false_iff_eq.mpr c68
                                                  clear c68
                                                  by_cases c69 : t132 = 2
                                                  · rw [if_pos c69] at H
                                                    have c69b0 : (t132 == 2) = true := beq_iff_eq.mpr c69
                                                    have c69b1 : (t132 != 2) = false := bne_eq_false_iff_eq.mpr c69
                                                    clear c69
                                                    by_cases c70 : t137 = 2
                                                    · rw [if_pos c70] at H
                                                      have c70b0 : (t137 == 2) = true := beq_iff_eq.mpr c70
                                                      have c70b1 : (t137 != 2) = false := bne_eq_false_iff_eq.mpr c70
                                                      clear c70
                                                      replace H := Option.bind_eq_some_iff.mp H
                                                      obtain ⟨t162, A710, H⟩ := H
                                                      replace H : (some t162) = some r := H
                                                      have A71 := Aside0.mk A710
                                                      clear A710
                                                      obtain rfl := Option.some.inj H
                                                      go_wp2_with (first | ((with_reducible refine gate_callee (f := 17) rfl ?_); (with_reducible refine gate_dst (N := 84) rfl ?_); (refine gate_guard (by rfl) ?_; dsimp only); refine goesL_ (some 84) rfl rfl Try.func17 (by kernel_rfl) rfl #[.int .i64 t131] rfl (by (try simp only [List.map_toArray, List.map_cons, List.map_nil]); first | done | rfl | (simp only [List.length_drop, List.length_take]; rfl)) ?_; (with_reducible refine (aquiferlaw1_Num.calls t131 t151 _ A38.out).mono ?_); rintro e w' ⟨rfl, ⟨nd, rfl⟩⟩; refine ⟨_, rfl, ?_⟩) | ((with_reducible refine gate_callee (f := 17) rfl ?_); (with_reducible refine gate_dst (N := 92) rfl ?_); (refine gate_guard (by rfl) ?_; dsimp only); refine goesL_ (some 92) rfl rfl Try.func17 (by kernel_rfl) rfl #[.int .i64 t131] rfl (by (try simp only [List.map_toArray, List.map_cons, List.map_nil]); first | done | rfl | (simp only [List.length_drop, List.length_take]; rfl)) ?_; (with_reducible refine (aquiferlaw1_Num.calls t131 t158 _ A58.out).mono ?_); rintro e w' ⟨rfl, ⟨nd, rfl⟩⟩; refine ⟨_, rfl, ?_⟩) | ((with_reducible refine gate_callee (f := 17) rfl ?_); (with_reducible refine gate_dst (N := 104) rfl ?_); (refine gate_guard (by rfl) ?_; dsimp only); refine goesL_ (some 104) rfl rfl Try.func17 (by kernel_rfl) rfl #[.int .i64 t136] rfl (by (try simp only [List.map_toArray, List.map_cons, List.map_nil]); first | done | rfl | (simp only [List.length_drop, List.length_take]; rfl)) ?_; (with_reducible refine (aquiferlaw1_Num.calls t136 t159 _ A61.out).mono ?_); rintro e w' ⟨rfl, ⟨nd, rfl⟩⟩; refine ⟨_, rfl, ?_⟩) | ((with_reducible refine gate_callee (f := 17) rfl ?_); (with_reducible refine gate_dst (N := 112) rfl ?_); (refine gate_guard (by rfl) ?_; dsimp only); refine goesL_ (some 112) rfl rfl Try.func17 (by kernel_rfl) rfl #[.int .i64 t136] rfl (by (try simp only [List.map_toArray, List.map_cons, List.map_nil]); first | done | rfl | (simp only [List.length_drop, List.length_take]; rfl)) ?_; (with_reducible refine (aquiferlaw1_Num.calls t136 t161 _ A67.out).mono ?_); rintro e w' ⟨rfl, ⟨nd, rfl⟩⟩; refine ⟨_, rfl, ?_⟩) | ((with_reducible refine gate_callee (f := 20) rfl ?_); (with_reducible refine gate_dst (N := 125) rfl ?_); (refine gate_guard (by rfl) ?_; dsimp only); refine goesL_ (some 125) rfl rfl Try.func20 (by kernel_rfl) rfl #[] rfl (by (try simp only [List.map_toArray, List.map_cons, List.map_nil]); first | done | rfl | (simp only [List.length_drop, List.length_take]; rfl)) ?_; (with_reducible refine (aquiferlaw11_awake.calls kj27  t162 _ A71.out).mono ?_); rintro e w72 ⟨rfl, hb⟩; refine ⟨_, rfl, ?_⟩; have n0_ := Aside0.mk (below_step (by repeat (first | (with_reducible first | exact HB.out | apply below_alloc | apply pw_below_drewN | apply below_drew1) | exact HB.out)) hb); clear HB; have HB := n0_; clear n0_; (try clear hb); (try clear hb2); (try clear hk); (try clear hi)))
                                                      go_ret
                                                      exact ⟨by first | rfl | (simp [errW_none, errW_some] <;> rfl) | (simp only [← hji23]; first | rfl | (simp [errW_none, errW_some] <;> rfl)) | (simp [*, errW_none, errW_some] <;> rfl), by repeat (first | (with_reducible first | exact HB.out | apply below_alloc | apply pw_below_drewN | apply below_drew1) | exact HB.out)⟩
                                                    · rw [if_neg c70] at H
                                                      have c70b0 : (t137 == 2) = false := beq_eq_false_iff_ne.mpr c70
                                                      have c70b1 : (t137 != 2) = true := bne_iff_ne.mpr c70
                                                      exact absurd (HLT_.out.symm.trans (Option.some.inj H).symm) (by decide)
                                                  · rw [if_neg c69] at H
                                                    have c69b0 : (t132 == 2) = false := beq_eq_false_iff_ne.mpr c69
                                                    have c69b1 : (t132 != 2) = true := bne_iff_ne.mpr c69
                                                    exact absurd (HLT_.out.symm.trans (Option.some.inj H).symm) (by decide)
                                                · rw [if_neg c68] at H
                                                  have c68b0 : (t161 == 9) = false := beq_eq_false_iff_ne.mpr c68
                                                  have c68b1 : (t161 != 9) = true := bne_iff_ne.mpr c68
                                                  by_cases c73 : t132 = 2
                                                  · rw [if_pos c73] at H
                                                    have c73b0 : (t132 == 2) = true := beq_iff_eq.mpr c73
                                                    have c73b1 : (t132 != 2) = false := bne_eq_false_iff_eq.mpr c73
                                                    clear c73
                                                    exact absurd (HLT_.out.symm.trans (Option.some.inj H).symm) (by decide)
                                                  · rw [if_neg c73] at H
                                                    have c73b0 : (t132 == 2) = false := beq_eq_false_iff_ne.mpr c73
                                                    have c73b1 : (t132 != 2) = true := bne_iff_ne.mpr c73
                                                    exact absurd (HLT_.out.symm.trans (Option.some.inj H).symm) (by decide)
                                              · rw [if_neg c66] at H
                                                have c66b0 : decide (9 < (wrap64 (1 + (Int.tmod (ji23) 30)))) = false := decide_eq_false c66
                                                clear c66
                                                by_cases c74 : t132 = 2
                                                · rw [if_pos c74] at H
                                                  have c74b0 : (t132 == 2) = true := beq_iff_eq.mpr c74
                                                  have c74b1 : (t132 != 2) = false := bne_eq_false_iff_eq.mpr c74
                                                  clear c74
                                                  exact absurd (HLT_.out.symm.trans (Option.some.inj H).symm) (by decide)
                                                · rw [if_neg c74] at H
                                                  have c74b0 : (t132 == 2) = false := beq_eq_false_iff_ne.mpr c74
                                                  have c74b1 : (t132 != 2) = true := bne_iff_ne.mpr c74
                                                  exact absurd (HLT_.out.symm.trans (Option.some.inj H).symm) (by decide)
                                          · rw [if_neg c60] at H
                                            have c60b0 : decide ((wrap64 (1 + (Int.tmod (ji23) 30))) ≤ 9) = false := decide_eq_false c60
                                            clear c60
                                            by_cases c75 : (wrap64 (1 + (Int.tmod (ji23) 30))) > 9
                                            · rw [if_pos c75] at H
                                              have c75b0 : decide (9 < (wrap64 (1 + (Int.tmod (ji23) 30)))) = true := decide_eq_true c75
                                              clear c75
                                              replace H := Option.bind_eq_some_iff.mp H
                                              obtain ⟨t163, A760, H⟩ := H
                                              replace H : (if t163 = 9 then (if t132 = 2 then (if t137 = 2 then ((aquiferlaw11_awake.f kj27).bind fun t164 => (some t164)) else (some false)) else (some false)) else (if t132 = 2 then (some false) else (some false))) = some r := H
                                              have A76 := Aside0.mk A760
                                              clear A760
                                              by_cases c77 : t163 = 9
                                              · rw [if_pos c77] at H
                                                have c77b0 : (t163 == 9) = true := beq_iff_eq.mpr c77
                                                have c77b1 : (t163 != 9) = false := bne_eq_false_iff_eq.mpr c77
                                                clear c77
                                                by_cases c78 : t132 = 2
                                                · rw [if_pos c78] at H
                                                  have c78b0 : (t132 == 2) = true := beq_iff_eq.mpr c78
                                                  have c78b1 : (t132 != 2) = false := bne_eq_false_iff_eq.mpr c78
                                                  clear c78
                                                  by_cases c79 : t137 = 2
                                                  · rw [if_pos c79] at H
                                                    have c79b0 : (t137 == 2) = true := beq_iff_eq.mpr c79
                                                    have c79b1 : (t137 != 2) = false := bne_eq_false_iff_eq.mpr c79
                                                    clear c79
                                                    replace H := Option.bind_eq_some_iff.mp H
                                                    obtain ⟨t164, A800, H⟩ := H
                                                    replace H : (some t164) = some r := H
                                                    have A80 := Aside0.mk A800
                                                    clear A800
                                                    obtain rfl := Option.some.inj H
                                                    go_wp2_with (first | ((with_reducible refine gate_callee (f := 17) rfl ?_); (with_reducible refine gate_dst (N := 84) rfl ?_); (refine gate_guard (by rfl) ?_; dsimp only); refine goesL_ (some 84) rfl rfl Try.func17 (by kernel_rfl) rfl #[.int .i64 t131] rfl (by (try simp only [List.map_toArray, List.map_cons, List.map_nil]); first | done | rfl | (simp only [List.length_drop, List.length_take]; rfl)) ?_; (with_reducible refine (aquiferlaw1_Num.calls t131 t151 _ A38.out).mono ?_); rintro e w' ⟨rfl, ⟨nd, rfl⟩⟩; refine ⟨_, rfl, ?_⟩) | ((with_reducible refine gate_callee (f := 17) rfl ?_); (with_reducible refine gate_dst (N := 92) rfl ?_); (refine gate_guard (by rfl) ?_; dsimp only); refine goesL_ (some 92) rfl rfl Try.func17 (by kernel_rfl) rfl #[.int .i64 t131] rfl (by (try simp only [List.map_toArray, List.map_cons, List.map_nil]); first | done | rfl | (simp only [List.length_drop, List.length_take]; rfl)) ?_; (with_reducible refine (aquiferlaw1_Num.calls t131 t158 _ A58.out).mono ?_); rintro e w' ⟨rfl, ⟨nd, rfl⟩⟩; refine ⟨_, rfl, ?_⟩) | ((with_reducible refine gate_callee (f := 17) rfl ?_); (with_reducible refine gate_dst (N := 112) rfl ?_); (refine gate_guard (by rfl) ?_; dsimp only); refine goesL_ (some 112) rfl rfl Try.func17 (by kernel_rfl) rfl #[.int .i64 t136] rfl (by (try simp only [List.map_toArray, List.map_cons, List.map_nil]); first | done | rfl | (simp only [List.length_drop, List.length_take]; rfl)) ?_; (with_reducible refine (aquiferlaw1_Num.calls t136 t163 _ A76.out).mono ?_); rintro e w' ⟨rfl, ⟨nd, rfl⟩⟩; refine ⟨_, rfl, ?_⟩) | ((with_reducible refine gate_callee (f := 20) rfl ?_); (with_reducible refine gate_dst (N := 125) rfl ?_); (refine gate_guard (by rfl) ?_; dsimp only); refine goesL_ (some 125) rfl rfl Try.func20 (by kernel_rfl) rfl #[] rfl (by (try simp only [List.map_toArray, List.map_cons, List.map_nil]); first | done | rfl | (simp only [List.length_drop, List.length_take]; rfl)) ?_; (with_reducible refine (aquiferlaw11_awake.calls kj27  t164 _ A80.out).mono ?_); rintro e w81 ⟨rfl, hb⟩; refine ⟨_, rfl, ?_⟩; have n0_ := Aside0.mk (below_step (by repeat (first | (with_reducible first | exact HB.out | apply below_alloc | apply pw_below_drewN | apply below_drew1) | exact HB.out)) hb); clear HB; have HB := n0_; clear n0_; (try clear hb); (try clear hb2); (try clear hk); (try clear hi)))
                                                    go_ret
                                                    exact ⟨by first | rfl | (simp [errW_none, errW_some] <;> rfl) | (simp only [← hji23]; first | rfl | (simp [errW_none, errW_some] <;> rfl)) | (simp [*, errW_none, errW_some] <;> rfl), by repeat (first | (with_reducible first | exact HB.out | apply below_alloc | apply pw_below_drewN | apply below_drew1) | exact HB.out)⟩
                                                  · rw [if_neg c79] at H
                                                    have c79b0 : (t137 == 2) = false := beq_eq_false_iff_ne.mpr c79
                                                    have c79b1 : (t137 != 2) = true := bne_iff_ne.mpr c79
                                                    exact absurd (HLT_.out.symm.trans (Option.some.inj H).symm) (by decide)
                                                · rw [if_neg c78] at H
                                                  have c78b0 : (t132 == 2) = false := beq_eq_false_iff_ne.mpr c78
                                                  have c78b1 : (t132 != 2) = true := bne_iff_ne.mpr c78
                                                  exact absurd (HLT_.out.symm.trans (Option.some.inj H).symm) (by decide)
                                              · rw [if_neg c77] at H
                                                have c77b0 : (t163 == 9) = false := beq_eq_false_iff_ne.mpr c77
                                                have c77b1 : (t163 != 9) = true := bne_iff_ne.mpr c77
                                                by_cases c82 : t132 = 2
                                                · rw [if_pos c82] at H
                                                  have c82b0 : (t132 == 2) = true := beq_iff_eq.mpr c82
                                                  have c82b1 : (t132 != 2) = false := bne_eq_false_iff_eq.mpr c82
                                                  clear c82
                                                  exact absurd (HLT_.out.symm.trans (Option.some.inj H).symm) (by decide)
                                                · rw [if_neg c82] at H
                                                  have c82b0 : (t132 == 2) = false := beq_eq_false_iff_ne.mpr c82
                                                  have c82b1 : (t132 != 2) = true := bne_iff_ne.mpr c82
                                                  exact absurd (HLT_.out.symm.trans (Option.some.inj H).symm) (by decide)
                                            · rw [if_neg c75] at H
                                              have c75b0 : decide (9 < (wrap64 (1 + (Int.tmod (ji23) 30)))) = false := decide_eq_false c75
                                              clear c75
                                              by_cases c83 : t132 = 2
                                              · rw [if_pos c83] at H
                                                have c83b0 : (t132 == 2) = true := beq_iff_eq.mpr c83
                                                have c83b1 : (t132 != 2) = false := bne_eq_false_iff_eq.mpr c83
                                                clear c83
                                                exact absurd (HLT_.out.symm.trans (Option.some.inj H).symm) (by decide)
                                              · rw [if_neg c83] at H
                                                have c83b0 : (t132 == 2) = false := beq_eq_false_iff_ne.mpr c83
                                                have c83b1 : (t132 != 2) = true := bne_iff_ne.mpr c83
                                                exact absurd (HLT_.out.symm.trans (Option.some.inj H).symm) (by decide)
                                        · rw [if_neg c59] at H
                                          have c59b0 : (t158 == 9) = false := beq_eq_false_iff_ne.mpr c59
                                          have c59b1 : (t158 != 9) = true := bne_iff_ne.mpr c59
                                          by_cases c84 : (wrap64 (1 + (Int.tmod (ji23) 30))) ≤ 9
                                          · rw [if_pos c84] at H
                                            have c84b0 : decide ((wrap64 (1 + (Int.tmod (ji23) 30))) ≤ 9) = true := decide_eq_true c84
                                            clear c84
                                            replace H := Option.bind_eq_some_iff.mp H
                                            obtain ⟨t165, A850, H⟩ := H
                                            replace H : (if t165 = 0 then (some false) else (if (wrap64 (1 + (Int.tmod (ji23) 30))) > 9 then ((aquiferlaw1_Num.f t136).bind fun t166 => (if t166 = 9 then (some false) else (some false))) else (some false))) = some r := H
                                            have A85 := Aside0.mk A850
                                            clear A850
                                            by_cases c86 : t165 = 0
                                            · rw [if_pos c86] at H
                                              have c86b0 : (t165 == 0) = true := beq_iff_eq.mpr c86
                                              have c86b1 : (t165 != 0) = false := bne_eq_false_iff_eq.mpr c86
                                              clear c86
                                              exact absurd (HLT_.out.symm.trans (Option.some.inj H).symm) (by decide)
                                            · rw [if_neg c86] at H
                                              have c86b0 : (t165 == 0) = false := beq_eq_false_iff_ne.mpr c86
                                              have c86b1 : (t165 != 0) = true := bne_iff_ne.mpr c86
                                              by_cases c87 : (wrap64 (1 + (Int.tmod (ji23) 30))) > 9
                                              · rw [if_pos c87] at H
                                                have c87b0 : decide (9 < (wrap64 (1 + (Int.tmod (ji23) 30)))) = true := decide_eq_true c87
                                                clear c87
                                                replace H := Option.bind_eq_some_iff.mp H
                                                obtain ⟨t166, A880, H⟩ := H
                                                replace H : (if t166 = 9 then (some false) else (some false)) = some r := H
                                                have A88 := Aside0.mk A880
                                                clear A880
                                                by_cases c89 : t166 = 9
                                                · rw [if_pos c89] at H
                                                  have c89b0 : (t166 == 9) = true := beq_iff_eq.mpr c89
                                                  have c89b1 : (t166 != 9) = false := bne_eq_false_iff_eq.mpr c89
                                                  clear c89
                                                  exact absurd (HLT_.out.symm.trans (Option.some.inj H).symm) (by decide)
                                                · rw [if_neg c89] at H
                                                  have c89b0 : (t166 == 9) = false := beq_eq_false_iff_ne.mpr c89
                                                  have c89b1 : (t166 != 9) = true := bne_iff_ne.mpr c89
                                                  exact absurd (HLT_.out.symm.trans (Option.some.inj H).symm) (by decide)
                                              · rw [if_neg c87] at H
                                                have c87b0 : decide (9 < (wrap64 (1 + (Int.tmod (ji23) 30)))) = false := decide_eq_false c87
                                                clear c87
                                                exact absurd (HLT_.out.symm.trans (Option.some.inj H).symm) (by decide)
                                          · rw [if_neg c84] at H
                                            have c84b0 : decide ((wrap64 (1 + (Int.tmod (ji23) 30))) ≤ 9) = false := decide_eq_false c84
                                            clear c84
                                            by_cases c90 : (wrap64 (1 + (Int.tmod (ji23) 30))) > 9
                                            · rw [if_pos c90] at H
                                              have c90b0 : decide (9 < (wrap64 (1 + (Int.tmod (ji23) 30)))) = true := decide_eq_true c90
                                              clear c90
                                              replace H := Option.bind_eq_some_iff.mp H
                                              obtain ⟨t167, A910, H⟩ := H
                                              replace H : (if t167 = 9 then (some false) else (some false)) = some r := H
                                              have A91 := Aside0.mk A910
                                              clear A910
                                              by_cases c92 : t167 = 9
                                              · rw [if_pos c92] at H
                                                have c92b0 : (t167 == 9) = true := beq_iff_eq.mpr c92
                                                have c92b1 : (t167 != 9) = false := bne_eq_false_iff_eq.mpr c92
                                                clear c92
                                                exact absurd (HLT_.out.symm.trans (Option.some.inj H).symm) (by decide)
                                              · rw [if_neg c92] at H
                                                have c92b0 : (t167 == 9) = false := beq_eq_false_iff_ne.mpr c92
                                                have c92b1 : (t167 != 9) = true := bne_iff_ne.mpr c92
                                                exact absurd (HLT_.out.symm.trans (Option.some.inj H).symm) (by decide)
                                            · rw [if_neg c90] at H
                                              have c90b0 : decide (9 < (wrap64 (1 + (Int.tmod (ji23) 30)))) = false := decide_eq_false c90
                                              clear c90
                                              exact absurd (HLT_.out.symm.trans (Option.some.inj H).symm) (by decide)
                                      · rw [if_neg c57] at H
                                        have c57b0 : decide (20 < (wrap64 (1 + (Int.tmod (ji23) 30)))) = false := decide_eq_false c57
                                        clear c57
                                        by_cases c93 : (wrap64 (1 + (Int.tmod (ji23) 30))) ≤ 9
                                        · rw [if_pos c93] at H
                                          have c93b0 : decide ((wrap64 (1 + (Int.tmod (ji23) 30))) ≤ 9) = true := decide_eq_true c93
                                          clear c93
                                          replace H := Option.bind_eq_some_iff.mp H
                                          obtain ⟨t168, A940, H⟩ := H
                                          replace H : (if t168 = 0 then (some false) else (if (wrap64 (1 + (Int.tmod (ji23) 30))) > 9 then ((aquiferlaw1_Num.f t136).bind fun t169 => (if t169 = 9 then (some false) else (some false))) else (some false))) = some r := H
                                          have A94 := Aside0.mk A940
                                          clear A940
                                          by_cases c95 : t168 = 0
                                          · rw [if_pos c95] at H
                                            have c95b0 : (t168 == 0) = true := beq_iff_eq.mpr c95
                                            have c95b1 : (t168 != 0) = false := bne_eq_false_iff_eq.mpr c95
                                            clear c95
                                            exact absurd (HLT_.out.symm.trans (Option.some.inj H).symm) (by decide)
                                          · rw [if_neg c95] at H
                                            have c95b0 : (t168 == 0) = false := beq_eq_false_iff_ne.mpr c95
                                            have c95b1 : (t168 != 0) = true := bne_iff_ne.mpr c95
                                            by_cases c96 : (wrap64 (1 + (Int.tmod (ji23) 30))) > 9
                                            · rw [if_pos c96] at H
                                              have c96b0 : decide (9 < (wrap64 (1 + (Int.tmod (ji23) 30)))) = true := decide_eq_true c96
                                              clear c96
                                              replace H := Option.bind_eq_some_iff.mp H
                                              obtain ⟨t169, A970, H⟩ := H
                                              replace H : (if t169 = 9 then (some false) else (some false)) = some r := H
                                              have A97 := Aside0.mk A970
                                              clear A970
                                              by_cases c98 : t169 = 9
                                              · rw [if_pos c98] at H
                                                have c98b0 : (t169 == 9) = true := beq_iff_eq.mpr c98
                                                have c98b1 : (t169 != 9) = false := bne_eq_false_iff_eq.mpr c98
                                                clear c98
                                                exact absurd (HLT_.out.symm.trans (Option.some.inj H).symm) (by decide)
                                              · rw [if_neg c98] at H
                                                have c98b0 : (t169 == 9) = false := beq_eq_false_iff_ne.mpr c98
                                                have c98b1 : (t169 != 9) = true := bne_iff_ne.mpr c98
                                                exact absurd (HLT_.out.symm.trans (Option.some.inj H).symm) (by decide)
                                            · rw [if_neg c96] at H
                                              have c96b0 : decide (9 < (wrap64 (1 + (Int.tmod (ji23) 30)))) = false := decide_eq_false c96
                                              clear c96
                                              exact absurd (HLT_.out.symm.trans (Option.some.inj H).symm) (by decide)
                                        · rw [if_neg c93] at H
                                          have c93b0 : decide ((wrap64 (1 + (Int.tmod (ji23) 30))) ≤ 9) = false := decide_eq_false c93
                                          clear c93
                                          by_cases c99 : (wrap64 (1 + (Int.tmod (ji23) 30))) > 9
                                          · rw [if_pos c99] at H
                                            have c99b0 : decide (9 < (wrap64 (1 + (Int.tmod (ji23) 30)))) = true := decide_eq_true c99
                                            clear c99
                                            replace H := Option.bind_eq_some_iff.mp H
                                            obtain ⟨t170, A1000, H⟩ := H
                                            replace H : (if t170 = 9 then (some false) else (some false)) = some r := H
                                            have A100 := Aside0.mk A1000
                                            clear A1000
                                            by_cases c101 : t170 = 9
                                            · rw [if_pos c101] at H
                                              have c101b0 : (t170 == 9) = true := beq_iff_eq.mpr c101
                                              have c101b1 : (t170 != 9) = false := bne_eq_false_iff_eq.mpr c101
                                              clear c101
                                              exact absurd (HLT_.out.symm.trans (Option.some.inj H).symm) (by decide)
                                            · rw [if_neg c101] at H
                                              have c101b0 : (t170 == 9) = false := beq_eq_false_iff_ne.mpr c101
                                              have c101b1 : (t170 != 9) = true := bne_iff_ne.mpr c101
                                              exact absurd (HLT_.out.symm.trans (Option.some.inj H).symm) (by decide)
                                          · rw [if_neg c99] at H
                                            have c99b0 : decide (9 < (wrap64 (1 + (Int.tmod (ji23) 30)))) = false := decide_eq_false c99
                                            clear c99
                                            exact absurd (HLT_.out.symm.trans (Option.some.inj H).symm) (by decide)
                                  · rw [if_neg c37] at H
                                    have c37b0 : decide ((wrap64 (1 + (Int.tmod (ji23) 30))) ≤ 20) = false := decide_eq_false c37
                                    clear c37
                                    by_cases c102 : (wrap64 (1 + (Int.tmod (ji23) 30))) > 20
                                    · rw [if_pos c102] at H
                                      have c102b0 : decide (20 < (wrap64 (1 + (Int.tmod (ji23) 30)))) = true := decide_eq_true c102
                                      clear c102
                                      replace H := Option.bind_eq_some_iff.mp H
                                      obtain ⟨t171, A1030, H⟩ := H
                                      replace H : (if t171 = 9 then (if (wrap64 (1 + (Int.tmod (ji23) 30))) ≤ 9 then ((aquiferlaw1_Num.f t136).bind fun t172 => (if t172 = 0 then (if t132 = 2 then ((aquiferlaw11_awake.f kj27).bind fun t173 => (some t173)) else (some false)) else (if (wrap64 (1 + (Int.tmod (ji23) 30))) > 9 then ((aquiferlaw1_Num.f t136).bind fun t174 => (if t174 = 9 then (if t132 = 2 then (if t137 = 2 then ((aquiferlaw11_awake.f kj27).bind fun t175 => (some t175)) else (some false)) else (some false)) else (if t132 = 2 then (some false) else (some false)))) else (if t132 = 2 then (some false) else (some false))))) else (if (wrap64 (1 + (Int.tmod (ji23) 30))) > 9 then ((aquiferlaw1_Num.f t136).bind fun t176 => (if t176 = 9 then (if t132 = 2 then (if t137 = 2 then ((aquiferlaw11_awake.f kj27).bind fun t177 => (some t177)) else (some false)) else (some false)) else (if t132 = 2 then (some false) else (some false)))) else (if t132 = 2 then (some false) else (some false)))) else (if (wrap64 (1 + (Int.tmod (ji23) 30))) ≤ 9 then ((aquiferlaw1_Num.f t136).bind fun t178 => (if t178 = 0 then (some false) else (if (wrap64 (1 + (Int.tmod (ji23) 30))) > 9 then ((aquiferlaw1_Num.f t136).bind fun t179 => (if t179 = 9 then (some false) else (some false))) else (some false)))) else (if (wrap64 (1 + (Int.tmod (ji23) 30))) > 9 then ((aquiferlaw1_Num.f t136).bind fun t180 => (if t180 = 9 then (some false) else (some false))) else (some false)))) = some r := H
                                      have A103 := Aside0.mk A1030
                                      clear A1030
                                      by_cases c104 : t171 = 9
                                      · rw [if_pos c104] at H
                                        have c104b0 : (t171 == 9) = true := beq_iff_eq.mpr c104
                                        have c104b1 : (t171 != 9) = false := bne_eq_false_iff_eq.mpr c104
                                        clear c104
                                        by_cases c105 : (wrap64 (1 + (Int.tmod (ji23) 30))) ≤ 9
                                        · rw [if_pos c105] at H
                                          have c105b0 : decide ((wrap64 (1 + (Int.tmod (ji23) 30))) ≤ 9) = true := decide_eq_true c105
                                          clear c105
                                          replace H := Option.bind_eq_some_iff.mp H
                                          obtain ⟨t172, A1060, H⟩ := H
                                          replace H : (if t172 = 0 then (if t132 = 2 then ((aquiferlaw11_awake.f kj27).bind fun t173 => (some t173)) else (some false)) else (if (wrap64 (1 + (Int.tmod (ji23) 30))) > 9 then ((aquiferlaw1_Num.f t136).bind fun t174 => (if t174 = 9 then (if t132 = 2 then (if t137 = 2 then ((aquiferlaw11_awake.f kj27).bind fun t175 => (some t175)) else (some false)) else (some false)) else (if t132 = 2 then (some false) else (some false)))) else (if t132 = 2 then (some false) else (some false)))) = some r := H
                                          have A106 := Aside0.mk A1060
                                          clear A1060
                                          by_cases c107 : t172 = 0
                                          · rw [if_pos c107] at H
                                            have c107b0 : (t172 == 0) = true := beq_iff_eq.mpr c107
                                            have c107b1 : (t172 != 0) = false := bne_eq_false_iff_eq.mpr c107
                                            clear c107
                                            by_cases c108 : t132 = 2
                                            · rw [if_pos c108] at H
                                              have c108b0 : (t132 == 2) = true := beq_iff_eq.mpr c108
                                              have c108b1 : (t132 != 2) = false := bne_eq_false_iff_eq.mpr c108
                                              clear c108
                                              replace H := Option.bind_eq_some_iff.mp H
                                              obtain ⟨t173, A1090, H⟩ := H
                                              replace H : (some t173) = some r := H
                                              have A109 := Aside0.mk A1090
                                              clear A1090
                                              obtain rfl := Option.some.inj H
                                              go_wp2_with (first | ((with_reducible refine gate_callee (f := 17) rfl ?_); (with_reducible refine gate_dst (N := 92) rfl ?_); (refine gate_guard (by rfl) ?_; dsimp only); refine goesL_ (some 92) rfl rfl Try.func17 (by kernel_rfl) rfl #[.int .i64 t131] rfl (by (try simp only [List.map_toArray, List.map_cons, List.map_nil]); first | done | rfl | (simp only [List.length_drop, List.length_take]; rfl)) ?_; (with_reducible refine (aquiferlaw1_Num.calls t131 t171 _ A103.out).mono ?_); rintro e w' ⟨rfl, ⟨nd, rfl⟩⟩; refine ⟨_, rfl, ?_⟩) | ((with_reducible refine gate_callee (f := 17) rfl ?_); (with_reducible refine gate_dst (N := 104) rfl ?_); (refine gate_guard (by rfl) ?_; dsimp only); refine goesL_ (some 104) rfl rfl Try.func17 (by kernel_rfl) rfl #[.int .i64 t136] rfl (by (try simp only [List.map_toArray, List.map_cons, List.map_nil]); first | done | rfl | (simp only [List.length_drop, List.length_take]; rfl)) ?_; (with_reducible refine (aquiferlaw1_Num.calls t136 t172 _ A106.out).mono ?_); rintro e w' ⟨rfl, ⟨nd, rfl⟩⟩; refine ⟨_, rfl, ?_⟩) | ((with_reducible refine gate_callee (f := 20) rfl ?_); (with_reducible refine gate_dst (N := 125) rfl ?_); (refine gate_guard (by rfl) ?_; dsimp only); refine goesL_ (some 125) rfl rfl Try.func20 (by kernel_rfl) rfl #[] rfl (by (try simp only [List.map_toArray, List.map_cons, List.map_nil]); first | done | rfl | (simp only [List.length_drop, List.length_take]; rfl)) ?_; (with_reducible refine (aquiferlaw11_awake.calls kj27  t173 _ A109.out).mono ?_); rintro e w110 ⟨rfl, hb⟩; refine ⟨_, rfl, ?_⟩; have n0_ := Aside0.mk (below_step (by repeat (first | (with_reducible first | exact HB.out | apply below_alloc | apply pw_below_drewN | apply below_drew1) | exact HB.out)) hb); clear HB; have HB := n0_; clear n0_; (try clear hb); (try clear hb2); (try clear hk); (try clear hi)))
                                              go_ret
                                              exact ⟨by first | rfl | (simp [errW_none, errW_some] <;> rfl) | (simp only [← hji23]; first | rfl | (simp [errW_none, errW_some] <;> rfl)) | (simp [*, errW_none, errW_some] <;> rfl), by repeat (first | (with_reducible first | exact HB.out | apply below_alloc | apply pw_below_drewN | apply below_drew1) | exact HB.out)⟩
                                            · rw [if_neg c108] at H
                                              have c108b0 : (t132 == 2) = false := beq_eq_false_iff_ne.mpr c108
                                              have c108b1 : (t132 != 2) = true := bne_iff_ne.mpr c108
                                              exact absurd (HLT_.out.symm.trans (Option.some.inj H).symm) (by decide)
                                          · rw [if_neg c107] at H
                                            have c107b0 : (t172 == 0) = false := beq_eq_false_iff_ne.mpr c107
                                            have c107b1 : (t172 != 0) = true := bne_iff_ne.mpr c107
                                            by_cases c111 : (wrap64 (1 + (Int.tmod (ji23) 30))) > 9
                                            · rw [if_pos c111] at H
                                              have c111b0 : decide (9 < (wrap64 (1 + (Int.tmod (ji23) 30)))) = true := decide_eq_true c111
                                              clear c111
                                              replace H := Option.bind_eq_some_iff.mp H
                                              obtain ⟨t174, A1120, H⟩ := H
                                              replace H : (if t174 = 9 then (if t132 = 2 then (if t137 = 2 then ((aquiferlaw11_awake.f kj27).bind fun t175 => (some t175)) else (some false)) else (some false)) else (if t132 = 2 then (some false) else (some false))) = some r := H
                                              have A112 := Aside0.mk A1120
                                              clear A1120
                                              by_cases c113 : t174 = 9
                                              · rw [if_pos c113] at H
                                                have c113b0 : (t174 == 9) = true := beq_iff_eq.mpr c113
                                                have c113b1 : (t174 != 9) = false := bne_eq_false_iff_eq.mpr c113
                                                clear c113
                                                by_cases c114 : t132 = 2
                                                · rw [if_pos c114] at H
                                                  have c114b0 : (t132 == 2) = true := beq_iff_eq.mpr c114
                                                  have c114b1 : (t132 != 2) = false := bne_eq_false_iff_eq.mpr c114
                                                  clear c114
                                                  by_cases c115 : t137 = 2
                                                  · rw [if_pos c115] at H
                                                    have c115b0 : (t137 == 2) = true := beq_iff_eq.mpr c115
                                                    have c115b1 : (t137 != 2) = false := bne_eq_false_iff_eq.mpr c115
                                                    clear c115
                                                    replace H := Option.bind_eq_some_iff.mp H
                                                    obtain ⟨t175, A1160, H⟩ := H
                                                    replace H : (some t175) = some r := H
                                                    have A116 := Aside0.mk A1160
                                                    clear A1160
                                                    obtain rfl := Option.some.inj H
                                                    go_wp2_with (first | ((with_reducible refine gate_callee (f := 17) rfl ?_); (with_reducible refine gate_dst (N := 92) rfl ?_); (refine gate_guard (by rfl) ?_; dsimp only); refine goesL_ (some 92) rfl rfl Try.func17 (by kernel_rfl) rfl #[.int .i64 t131] rfl (by (try simp only [List.map_toArray, List.map_cons, List.map_nil]); first | done | rfl | (simp only [List.length_drop, List.length_take]; rfl)) ?_; (with_reducible refine (aquiferlaw1_Num.calls t131 t171 _ A103.out).mono ?_); rintro e w' ⟨rfl, ⟨nd, rfl⟩⟩; refine ⟨_, rfl, ?_⟩) | ((with_reducible refine gate_callee (f := 17) rfl ?_); (with_reducible refine gate_dst (N := 104) rfl ?_); (refine gate_guard (by rfl) ?_; dsimp only); refine goesL_ (some 104) rfl rfl Try.func17 (by kernel_rfl) rfl #[.int .i64 t136] rfl (by (try simp only [List.map_toArray, List.map_cons, List.map_nil]); first | done | rfl | (simp only [List.length_drop, List.length_take]; rfl)) ?_; (with_reducible refine (aquiferlaw1_Num.calls t136 t172 _ A106.out).mono ?_); rintro e w' ⟨rfl, ⟨nd, rfl⟩⟩; refine ⟨_, rfl, ?_⟩) | ((with_reducible refine gate_callee (f := 17) rfl ?_); (with_reducible refine gate_dst (N := 112) rfl ?_); (refine gate_guard (by rfl) ?_; dsimp only); refine goesL_ (some 112) rfl rfl Try.func17 (by kernel_rfl) rfl #[.int .i64 t136] rfl (by (try simp only [List.map_toArray, List.map_cons, List.map_nil]); first | done | rfl | (simp only [List.length_drop, List.length_take]; rfl)) ?_; (with_reducible refine (aquiferlaw1_Num.calls t136 t174 _ A112.out).mono ?_); rintro e w' ⟨rfl, ⟨nd, rfl⟩⟩; refine ⟨_, rfl, ?_⟩) | ((with_reducible refine gate_callee (f := 20) rfl ?_); (with_reducible refine gate_dst (N := 125) rfl ?_); (refine gate_guard (by rfl) ?_; dsimp only); refine goesL_ (some 125) rfl rfl Try.func20 (by kernel_rfl) rfl #[] rfl (by (try simp only [List.map_toArray, List.map_cons, List.map_nil]); first | done | rfl | (simp only [List.length_drop, List.length_take]; rfl)) ?_; (with_reducible refine (aquiferlaw11_awake.calls kj27  t175 _ A116.out).mono ?_); rintro e w117 ⟨rfl, hb⟩; refine ⟨_, rfl, ?_⟩; have n0_ := Aside0.mk (below_step (by repeat (first | (with_reducible first | exact HB.out | apply below_alloc | apply pw_below_drewN | apply below_drew1) | exact HB.out)) hb); clear HB; have HB := n0_; clear n0_; (try clear hb); (try clear hb2); (try clear hk); (try clear hi)))
                                                    go_ret
                                                    exact ⟨by first | rfl | (simp [errW_none, errW_some] <;> rfl) | (simp only [← hji23]; first | rfl | (simp [errW_none, errW_some] <;> rfl)) | (simp [*, errW_none, errW_some] <;> rfl), by repeat (first | (with_reducible first | exact HB.out | apply below_alloc | apply pw_below_drewN | apply below_drew1) | exact HB.out)⟩
                                                  · rw [if_neg c115] at H
                                                    have c115b0 : (t137 == 2) = false := beq_eq_false_iff_ne.mpr c115
                                                    have c115b1 : (t137 != 2) = true := bne_iff_ne.mpr c115
                                                    exact absurd (HLT_.out.symm.trans (Option.some.inj H).symm) (by decide)
                                                · rw [if_neg c114] at H
                                                  have c114b0 : (t132 == 2) = false := beq_eq_false_iff_ne.mpr c114
                                                  have c114b1 : (t132 != 2) = true := bne_iff_ne.mpr c114
                                                  exact absurd (HLT_.out.symm.trans (Option.some.inj H).symm) (by decide)
                                              · rw [if_neg c113] at H
                                                have c113b0 : (t174 == 9) = false := beq_eq_false_iff_ne.mpr c113
                                                have c113b1 : (t174 != 9) = true := bne_iff_ne.mpr c113
                                                by_cases c118 : t132 = 2
                                                · rw [if_pos c118] at H
                                                  have c118b0 : (t132 == 2) = true := beq_iff_eq.mpr c118
                                                  have c118b1 : (t132 != 2) = false := bne_eq_false_iff_eq.mpr c118
                                                  clear c118
                                                  exact absurd (HLT_.out.symm.trans (Option.some.inj H).symm) (by decide)
                                                · rw [if_neg c118] at H
                                                  have c118b0 : (t132 == 2) = false := beq_eq_false_iff_ne.mpr c118
                                                  have c118b1 : (t132 != 2) = true := bne_iff_ne.mpr c118
                                                  exact absurd (HLT_.out.symm.trans (Option.some.inj H).symm) (by decide)
                                            · rw [if_neg c111] at H
                                              have c111b0 : decide (9 < (wrap64 (1 + (Int.tmod (ji23) 30)))) = false := decide_eq_false c111
                                              clear c111
                                              by_cases c119 : t132 = 2
                                              · rw [if_pos c119] at H
                                                have c119b0 : (t132 == 2) = true := beq_iff_eq.mpr c119
                                                have c119b1 : (t132 != 2) = false := bne_eq_false_iff_eq.mpr c119
                                                clear c119
                                                exact absurd (HLT_.out.symm.trans (Option.some.inj H).symm) (by decide)
                                              · rw [if_neg c119] at H
                                                have c119b0 : (t132 == 2) = false := beq_eq_false_iff_ne.mpr c119
                                                have c119b1 : (t132 != 2) = true := bne_iff_ne.mpr c119
                                                exact absurd (HLT_.out.symm.trans (Option.some.inj H).symm) (by decide)
                                        · rw [if_neg c105] at H
                                          have c105b0 : decide ((wrap64 (1 + (Int.tmod (ji23) 30))) ≤ 9) = false := decide_eq_false c105
                                          clear c105
                                          by_cases c120 : (wrap64 (1 + (Int.tmod (ji23) 30))) > 9
                                          · rw [if_pos c120] at H
                                            have c120b0 : decide (9 < (wrap64 (1 + (Int.tmod (ji23) 30)))) = true := decide_eq_true c120
                                            clear c120
                                            replace H := Option.bind_eq_some_iff.mp H
                                            obtain ⟨t176, A1210, H⟩ := H
                                            replace H : (if t176 = 9 then (if t132 = 2 then (if t137 = 2 then ((aquiferlaw11_awake.f kj27).bind fun t177 => (some t177)) else (some false)) else (some false)) else (if t132 = 2 then (some false) else (some false))) = some r := H
                                            have A121 := Aside0.mk A1210
                                            clear A1210
                                            by_cases c122 : t176 = 9
                                            · rw [if_pos c122] at H
                                              have c122b0 : (t176 == 9) = true := beq_iff_eq.mpr c122
                                              have c122b1 : (t176 != 9) = false := bne_eq_false_iff_eq.mpr c122
                                              clear c122
                                              by_cases c123 : t132 = 2
                                              · rw [if_pos c123] at H
                                                have c123b0 : (t132 == 2) = true := beq_iff_eq.mpr c123
                                                have c123b1 : (t132 != 2) = false := bne_eq_false_iff_eq.mpr c123
                                                clear c123
                                                by_cases c124 : t137 = 2
                                                · rw [if_pos c124] at H
                                                  have c124b0 : (t137 == 2) = true := beq_iff_eq.mpr c124
                                                  have c124b1 : (t137 != 2) = false := bne_eq_false_iff_eq.mpr c124
                                                  clear c124
                                                  replace H := Option.bind_eq_some_iff.mp H
                                                  obtain ⟨t177, A1250, H⟩ := H
                                                  replace H : (some t177) = some r := H
                                                  have A125 := Aside0.mk A1250
                                                  clear A1250
                                                  obtain rfl := Option.some.inj H
                                                  go_wp2_with (first | ((with_reducible refine gate_callee (f := 17) rfl ?_); (with_reducible refine gate_dst (N := 92) rfl ?_); (refine gate_guard (by rfl) ?_; dsimp only); refine goesL_ (some 92) rfl rfl Try.func17 (by kernel_rfl) rfl #[.int .i64 t131] rfl (by (try simp only [List.map_toArray, List.map_cons, List.map_nil]); first | done | rfl | (simp only [List.length_drop, List.length_take]; rfl)) ?_; (with_reducible refine (aquiferlaw1_Num.calls t131 t171 _ A103.out).mono ?_); rintro e w' ⟨rfl, ⟨nd, rfl⟩⟩; refine ⟨_, rfl, ?_⟩) | ((with_reducible refine gate_callee (f := 17) rfl ?_); (with_reducible refine gate_dst (N := 112) rfl ?_); (refine gate_guard (by rfl) ?_; dsimp only); refine goesL_ (some 112) rfl rfl Try.func17 (by kernel_rfl) rfl #[.int .i64 t136] rfl (by (try simp only [List.map_toArray, List.map_cons, List.map_nil]); first | done | rfl | (simp only [List.length_drop, List.length_take]; rfl)) ?_; (with_reducible refine (aquiferlaw1_Num.calls t136 t176 _ A121.out).mono ?_); rintro e w' ⟨rfl, ⟨nd, rfl⟩⟩; refine ⟨_, rfl, ?_⟩) | ((with_reducible refine gate_callee (f := 20) rfl ?_); (with_reducible refine gate_dst (N := 125) rfl ?_); (refine gate_guard (by rfl) ?_; dsimp only); refine goesL_ (some 125) rfl rfl Try.func20 (by kernel_rfl) rfl #[] rfl (by (try simp only [List.map_toArray, List.map_cons, List.map_nil]); first | done | rfl | (simp only [List.length_drop, List.length_take]; rfl)) ?_; (with_reducible refine (aquiferlaw11_awake.calls kj27  t177 _ A125.out).mono ?_); rintro e w126 ⟨rfl, hb⟩; refine ⟨_, rfl, ?_⟩; have n0_ := Aside0.mk (below_step (by repeat (first | (with_reducible first | exact HB.out | apply below_alloc | apply pw_below_drewN | apply below_drew1) | exact HB.out)) hb); clear HB; have HB := n0_; clear n0_; (try clear hb); (try clear hb2); (try clear hk); (try clear hi)))
                                                  go_ret
                                                  exact ⟨by first | rfl | (simp [errW_none, errW_some] <;> rfl) | (simp only [← hji23]; first | rfl | (simp [errW_none, errW_some] <;> rfl)) | (simp [*, errW_none, errW_some] <;> rfl), by repeat (first | (with_reducible first | exact HB.out | apply below_alloc | apply pw_below_drewN | apply below_drew1) | exact HB.out)⟩
                                                · rw [if_neg c124] at H
                                                  have c124b0 : (t137 == 2) = false := beq_eq_false_iff_ne.mpr c124
                                                  have c124b1 : (t137 != 2) = true := bne_iff_ne.mpr c124
                                                  exact absurd (HLT_.out.symm.trans (Option.some.inj H).symm) (by decide)
                                              · rw [if_neg c123] at H
                                                have c123b0 : (t132 == 2) = false := beq_eq_false_iff_ne.mpr c123
                                                have c123b1 : (t132 != 2) = true := bne_iff_ne.mpr c123
                                                exact absurd (HLT_.out.symm.trans (Option.some.inj H).symm) (by decide)
                                            · rw [if_neg c122] at H
                                              have c122b0 : (t176 == 9) = false := beq_eq_false_iff_ne.mpr c122
                                              have c122b1 : (t176 != 9) = true := bne_iff_ne.mpr c122
                                              by_cases c127 : t132 = 2
                                              · rw [if_pos c127] at H
                                                have c127b0 : (t132 == 2) = true := beq_iff_eq.mpr c127
                                                have c127b1 : (t132 != 2) = false := bne_eq_false_iff_eq.mpr c127
                                                clear c127
                                                exact absurd (HLT_.out.symm.trans (Option.some.inj H).symm) (by decide)
                                              · rw [if_neg c127] at H
                                                have c127b0 : (t132 == 2) = false := beq_eq_false_iff_ne.mpr c127
                                                have c127b1 : (t132 != 2) = true := bne_iff_ne.mpr c127
                                                exact absurd (HLT_.out.symm.trans (Option.some.inj H).symm) (by decide)
                                          · rw [if_neg c120] at H
                                            have c120b0 : decide (9 < (wrap64 (1 + (Int.tmod (ji23) 30)))) = false := decide_eq_false c120
                                            clear c120
                                            by_cases c128 : t132 = 2
                                            · rw [if_pos c128] at H
                                              have c128b0 : (t132 == 2) = true := beq_iff_eq.mpr c128
                                              have c128b1 : (t132 != 2) = false := bne_eq_false_iff_eq.mpr c128
                                              clear c128
                                              exact absurd (HLT_.out.symm.trans (Option.some.inj H).symm) (by decide)
                                            · rw [if_neg c128] at H
                                              have c128b0 : (t132 == 2) = false := beq_eq_false_iff_ne.mpr c128
                                              have c128b1 : (t132 != 2) = true := bne_iff_ne.mpr c128
                                              exact absurd (HLT_.out.symm.trans (Option.some.inj H).symm) (by decide)
                                      · rw [if_neg c104] at H
                                        have c104b0 : (t171 == 9) = false := beq_eq_false_iff_ne.mpr c104
                                        have c104b1 : (t171 != 9) = true := bne_iff_ne.mpr c104
                                        by_cases c129 : (wrap64 (1 + (Int.tmod (ji23) 30))) ≤ 9
                                        · rw [if_pos c129] at H
                                          have c129b0 : decide ((wrap64 (1 + (Int.tmod (ji23) 30))) ≤ 9) = true := decide_eq_true c129
                                          clear c129
                                          replace H := Option.bind_eq_some_iff.mp H
                                          obtain ⟨t178, A1300, H⟩ := H
                                          replace H : (if t178 = 0 then (some false) else (if (wrap64 (1 + (Int.tmod (ji23) 30))) > 9 then ((aquiferlaw1_Num.f t136).bind fun t179 => (if t179 = 9 then (some false) else (some false))) else (some false))) = some r := H
                                          have A130 := Aside0.mk A1300
                                          clear A1300
                                          by_cases c131 : t178 = 0
                                          · rw [if_pos c131] at H
                                            have c131b0 : (t178 == 0) = true := beq_iff_eq.mpr c131
                                            have c131b1 : (t178 != 0) = false := bne_eq_false_iff_eq.mpr c131
                                            clear c131
                                            exact absurd (HLT_.out.symm.trans (Option.some.inj H).symm) (by decide)
                                          · rw [if_neg c131] at H
                                            have c131b0 : (t178 == 0) = false := beq_eq_false_iff_ne.mpr c131
                                            have c131b1 : (t178 != 0) = true := bne_iff_ne.mpr c131
                                            by_cases c132 : (wrap64 (1 + (Int.tmod (ji23) 30))) > 9
                                            · rw [if_pos c132] at H
                                              have c132b0 : decide (9 < (wrap64 (1 + (Int.tmod (ji23) 30)))) = true := decide_eq_true c132
                                              clear c132
                                              replace H := Option.bind_eq_some_iff.mp H
                                              obtain ⟨t179, A1330, H⟩ := H
                                              replace H : (if t179 = 9 then (some false) else (some false)) = some r := H
                                              have A133 := Aside0.mk A1330
                                              clear A1330
                                              by_cases c134 : t179 = 9
                                              · rw [if_pos c134] at H
                                                have c134b0 : (t179 == 9) = true := beq_iff_eq.mpr c134
                                                have c134b1 : (t179 != 9) = false := bne_eq_false_iff_eq.mpr c134
                                                clear c134
                                                exact absurd (HLT_.out.symm.trans (Option.some.inj H).symm) (by decide)
                                              · rw [if_neg c134] at H
                                                have c134b0 : (t179 == 9) = false := beq_eq_false_iff_ne.mpr c134
                                                have c134b1 : (t179 != 9) = true := bne_iff_ne.mpr c134
                                                exact absurd (HLT_.out.symm.trans (Option.some.inj H).symm) (by decide)
                                            · rw [if_neg c132] at H
                                              have c132b0 : decide (9 < (wrap64 (1 + (Int.tmod (ji23) 30)))) = false := decide_eq_false c132
                                              clear c132
                                              exact absurd (HLT_.out.symm.trans (Option.some.inj H).symm) (by decide)
                                        · rw [if_neg c129] at H
                                          have c129b0 : decide ((wrap64 (1 + (Int.tmod (ji23) 30))) ≤ 9) = false := decide_eq_false c129
                                          clear c129
                                          by_cases c135 : (wrap64 (1 + (Int.tmod (ji23) 30))) > 9
                                          · rw [if_pos c135] at H
                                            have c135b0 : decide (9 < (wrap64 (1 + (Int.tmod (ji23) 30)))) = true := decide_eq_true c135
                                            clear c135
                                            replace H := Option.bind_eq_some_iff.mp H
                                            obtain ⟨t180, A1360, H⟩ := H
                                            replace H : (if t180 = 9 then (some false) else (some false)) = some r := H
                                            have A136 := Aside0.mk A1360
                                            clear A1360
                                            by_cases c137 : t180 = 9
                                            · rw [if_pos c137] at H
                                              have c137b0 : (t180 == 9) = true := beq_iff_eq.mpr c137
                                              have c137b1 : (t180 != 9) = false := bne_eq_false_iff_eq.mpr c137
                                              clear c137
                                              exact absurd (HLT_.out.symm.trans (Option.some.inj H).symm) (by decide)
                                            · rw [if_neg c137] at H
                                              have c137b0 : (t180 == 9) = false := beq_eq_false_iff_ne.mpr c137
                                              have c137b1 : (t180 != 9) = true := bne_iff_ne.mpr c137
                                              exact absurd (HLT_.out.symm.trans (Option.some.inj H).symm) (by decide)
                                          · rw [if_neg c135] at H
                                            have c135b0 : decide (9 < (wrap64 (1 + (Int.tmod (ji23) 30)))) = false := decide_eq_false c135
                                            clear c135
                                            exact absurd (HLT_.out.symm.trans (Option.some.inj H).symm) (by decide)
                                    · rw [if_neg c102] at H
                                      have c102b0 : decide (20 < (wrap64 (1 + (Int.tmod (ji23) 30)))) = false := decide_eq_false c102
                                      clear c102
                                      by_cases c138 : (wrap64 (1 + (Int.tmod (ji23) 30))) ≤ 9
                                      · rw [if_pos c138] at H
                                        have c138b0 : decide ((wrap64 (1 + (Int.tmod (ji23) 30))) ≤ 9) = true := decide_eq_true c138
                                        clear c138
                                        replace H := Option.bind_eq_some_iff.mp H
                                        obtain ⟨t181, A1390, H⟩ := H
                                        replace H : (if t181 = 0 then (some false) else (if (wrap64 (1 + (Int.tmod (ji23) 30))) > 9 then ((aquiferlaw1_Num.f t136).bind fun t182 => (if t182 = 9 then (some false) else (some false))) else (some false))) = some r := H
                                        have A139 := Aside0.mk A1390
                                        clear A1390
                                        by_cases c140 : t181 = 0
                                        · rw [if_pos c140] at H
                                          have c140b0 : (t181 == 0) = true := beq_iff_eq.mpr c140
                                          have c140b1 : (t181 != 0) = false := bne_eq_false_iff_eq.mpr c140
                                          clear c140
                                          exact absurd (HLT_.out.symm.trans (Option.some.inj H).symm) (by decide)
                                        · rw [if_neg c140] at H
                                          have c140b0 : (t181 == 0) = false := beq_eq_false_iff_ne.mpr c140
                                          have c140b1 : (t181 != 0) = true := bne_iff_ne.mpr c140
                                          by_cases c141 : (wrap64 (1 + (Int.tmod (ji23) 30))) > 9
                                          · rw [if_pos c141] at H
                                            have c141b0 : decide (9 < (wrap64 (1 + (Int.tmod (ji23) 30)))) = true := decide_eq_true c141
                                            clear c141
                                            replace H := Option.bind_eq_some_iff.mp H
                                            obtain ⟨t182, A1420, H⟩ := H
                                            replace H : (if t182 = 9 then (some false) else (some false)) = some r := H
                                            have A142 := Aside0.mk A1420
                                            clear A1420
                                            by_cases c143 : t182 = 9
                                            · rw [if_pos c143] at H
                                              have c143b0 : (t182 == 9) = true := beq_iff_eq.mpr c143
                                              have c143b1 : (t182 != 9) = false := bne_eq_false_iff_eq.mpr c143
                                              clear c143
                                              exact absurd (HLT_.out.symm.trans (Option.some.inj H).symm) (by decide)
                                            · rw [if_neg c143] at H
                                              have c143b0 : (t182 == 9) = false := beq_eq_false_iff_ne.mpr c143
                                              have c143b1 : (t182 != 9) = true := bne_iff_ne.mpr c143
                                              exact absurd (HLT_.out.symm.trans (Option.some.inj H).symm) (by decide)
                                          · rw [if_neg c141] at H
                                            have c141b0 : decide (9 < (wrap64 (1 + (Int.tmod (ji23) 30)))) = false := decide_eq_false c141
                                            clear c141
                                            exact absurd (HLT_.out.symm.trans (Option.some.inj H).symm) (by decide)
                                      · rw [if_neg c138] at H
                                        have c138b0 : decide ((wrap64 (1 + (Int.tmod (ji23) 30))) ≤ 9) = false := decide_eq_false c138
                                        clear c138
                                        by_cases c144 : (wrap64 (1 + (Int.tmod (ji23) 30))) > 9
                                        · rw [if_pos c144] at H
                                          have c144b0 : decide (9 < (wrap64 (1 + (Int.tmod (ji23) 30)))) = true := decide_eq_true c144
                                          clear c144
                                          replace H := Option.bind_eq_some_iff.mp H
                                          obtain ⟨t183, A1450, H⟩ := H
                                          replace H : (if t183 = 9 then (some false) else (some false)) = some r := H
                                          have A145 := Aside0.mk A1450
                                          clear A1450
                                          by_cases c146 : t183 = 9
                                          · rw [if_pos c146] at H
                                            have c146b0 : (t183 == 9) = true := beq_iff_eq.mpr c146
                                            have c146b1 : (t183 != 9) = false := bne_eq_false_iff_eq.mpr c146
                                            clear c146
                                            exact absurd (HLT_.out.symm.trans (Option.some.inj H).symm) (by decide)
                                          · rw [if_neg c146] at H
                                            have c146b0 : (t183 == 9) = false := beq_eq_false_iff_ne.mpr c146
                                            have c146b1 : (t183 != 9) = true := bne_iff_ne.mpr c146
                                            exact absurd (HLT_.out.symm.trans (Option.some.inj H).symm) (by decide)
                                        · rw [if_neg c144] at H
                                          have c144b0 : decide (9 < (wrap64 (1 + (Int.tmod (ji23) 30)))) = false := decide_eq_false c144
                                          clear c144
                                          exact absurd (HLT_.out.symm.trans (Option.some.inj H).symm) (by decide)
                          · rw [if_neg c25] at H
                            exact absurd H (by simp)
                        · rw [if_neg c24] at H
                          exact absurd H (by simp)
                · rw [if_neg c12] at H
                  exact absurd H (by simp)
              · rw [if_neg c10] at H
                exact absurd H (by simp)
            · rw [if_neg c9] at H
              exact absurd H (by simp)
          · rw [if_neg c7] at H
            exact absurd H (by simp)
        · rw [if_neg c6] at H
          exact absurd H (by simp)

/-- THE ONE PURE STATEMENT of aquiferlaw11_LexLong: yours. -/
def aquiferlaw11_LexLong.Pure : Prop := ∀ (a0 : Int) (a1 : Int), (Lit.int .u8 a0).wf = true → (Lit.int .u8 a1).wf = true → ∃ k, aquiferlaw11_LexLong.f k a0 a1 = some true
theorem aquiferlaw11_LexLong.walk (P : aquiferlaw11_LexLong.Pure) (a0 : Int) (a1 : Int) (w : World) (w0 : (Lit.int .u8 a0).wf = true) (w1 : (Lit.int .u8 a1).wf = true) :
    Calls Try.prog 10 #[.int .u8 a0, .int .u8 a1] w fun e w' => e = .returned (.bool true) ∧ Below w.heap.size w w' := by
  obtain ⟨k, h⟩ := P a0 a1 w0 w1
  refine (aquiferlaw11_LexLong.calls k a0 a1 true w ⟨rfl⟩ h).mono ?_
  rintro e w' ⟨rfl, hd⟩
  exact ⟨rfl, hd⟩

end Go.Proofs.Ytlleenoigcjemaa.QLexLong
