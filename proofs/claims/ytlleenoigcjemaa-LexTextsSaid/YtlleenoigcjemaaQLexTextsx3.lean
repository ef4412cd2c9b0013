-- Written by wip/myprint.py of this session's repo, out of the translation. Lean checks it.
import Derived.Test.YtlleenoigcjemaaQLexTextsx0
import Derived.Test.YtlleenoigcjemaaQLexTextsx1
import Derived.Test.YtlleenoigcjemaaQLexTextsx2
namespace Go.Proofs.Ytlleenoigcjemaa.QLexTexts
open Go.RowKit Go.Proofs.YtlleenoigcjemaaW.PrintWords Go.Proofs.YtlleenoigcjemaaW.PrintLast Go.Proofs.YtlleenoigcjemaaW.PrintMore
attribute [local go_sem] max2_int min2_int max_two min_two max_three min_three max_four min_four   -- for this text's walks alone
set_option linter.unusedVariables false
set_option linter.unusedSimpArgs false

/-! ### aquiferlaw11_LexTexts: function 8 -/
mutual
def aquiferlaw11_LexTexts.l0 : Nat → ByteArray → List (S49) → Int → Int → Option (Bool)
  | 0, _, _, _, _ => none
  | k + 1, x0, x3, x6, x7 => if x7 < (x3.length : Int) then (if 0 ≤ x7 then (if ((rd_T49 x3 x7).f2) < x6 then (aquiferlaw11_LexTexts.j1 k x0 x3 x6 x7 true ((rd_T49 x3 x7).f0) ((rd_T49 x3 x7).f1) ((rd_T49 x3 x7).f2)) else (if (wrap64 (((rd_T49 x3 x7).f2) + (((rd_T49 x3 x7).f1).size : Int))) > (x0.size : Int) then (aquiferlaw11_LexTexts.j1 k x0 x3 x6 x7 true ((rd_T49 x3 x7).f0) ((rd_T49 x3 x7).f1) ((rd_T49 x3 x7).f2)) else (if 0 ≤ ((rd_T49 x3 x7).f2) then (if ((rd_T49 x3 x7).f2) ≤ (wrap64 (((rd_T49 x3 x7).f2) + (((rd_T49 x3 x7).f1).size : Int))) then (if (wrap64 (((rd_T49 x3 x7).f2) + (((rd_T49 x3 x7).f1).size : Int))) ≤ (x0.size : Int) then (if (x0.extract (((rd_T49 x3 x7).f2) : Int).toNat ((wrap64 (((rd_T49 x3 x7).f2) + (((rd_T49 x3 x7).f1).size : Int))) : Int).toNat).toList = ((rd_T49 x3 x7).f1).toList then (aquiferlaw11_LexTexts.j1 k x0 x3 x6 x7 ((((rd_T49 x3 x7).f1).toList == ([] : List UInt8)) != (x7 == (wrap64 ((x3.length : Int) - 1)))) ((rd_T49 x3 x7).f0) ((rd_T49 x3 x7).f1) ((rd_T49 x3 x7).f2)) else (aquiferlaw11_LexTexts.j1 k x0 x3 x6 x7 true ((rd_T49 x3 x7).f0) ((rd_T49 x3 x7).f1) ((rd_T49 x3 x7).f2))) else (none)) else (none)) else (none)))) else (none)) else (if (x3.length : Int) > 0 then (if 0 ≤ (wrap64 ((x3.length : Int) - 1)) then (if (wrap64 ((x3.length : Int) - 1)) < (x3.length : Int) then (if ((rd_T49 x3 (wrap64 ((x3.length : Int) - 1))).f2) = (x0.size : Int) then ((aquiferlaw11_awake.f k).bind fun t139 => (some t139)) else (some false)) else (none)) else (none)) else (some false))
def aquiferlaw11_LexTexts.j1 : Nat → ByteArray → List (S49) → Int → Int → Bool → Int → ByteArray → Int → Option (Bool)
  | 0, _, _, _, _, _, _, _, _ => none
  | k + 1, x0, x3, x6, x7, x81, x142000, x142001, x142002 => if x81 = true then (some false) else (aquiferlaw11_LexTexts.l1 k x0 x3 x7 false x6 x142000 x142001 x142002)
def aquiferlaw11_LexTexts.l1 : Nat → ByteArray → List (S49) → Int → Bool → Int → Int → ByteArray → Int → Option (Bool)
  | 0, _, _, _, _, _, _, _, _ => none
  | k + 1, x0, x3, x7, x9, x10, x142000, x142001, x142002 => if x10 < x142002 then (if 0 ≤ x10 then (if x10 < (x0.size : Int) then (if x9 = true then (if (bt x0 x10) = 10 then (if ((bt x0 x10) = 35) then (aquiferlaw11_LexTexts.l1 k x0 x3 x7 ((bt x0 x10) == 35) (wrap64 (x10 + 1)) x142000 x142001 x142002) else (if (bt x0 x10) = 32 then (aquiferlaw11_LexTexts.l1 k x0 x3 x7 ((bt x0 x10) == 35) (wrap64 (x10 + 1)) x142000 x142001 x142002) else (if (bt x0 x10) = 9 then (aquiferlaw11_LexTexts.l1 k x0 x3 x7 ((bt x0 x10) == 35) (wrap64 (x10 + 1)) x142000 x142001 x142002) else (aquiferlaw11_LexTexts.l1 k x0 x3 x7 ((bt x0 x10) == 35) (wrap64 (x10 + 1)) x142000 x142001 x142002)))) else (aquiferlaw11_LexTexts.l1 k x0 x3 x7 true (wrap64 (x10 + 1)) x142000 x142001 x142002)) else (if ((bt x0 x10) = 35) then (aquiferlaw11_LexTexts.l1 k x0 x3 x7 ((bt x0 x10) == 35) (wrap64 (x10 + 1)) x142000 x142001 x142002) else (if (bt x0 x10) = 32 then (aquiferlaw11_LexTexts.l1 k x0 x3 x7 ((bt x0 x10) == 35) (wrap64 (x10 + 1)) x142000 x142001 x142002) else (if (bt x0 x10) = 9 then (aquiferlaw11_LexTexts.l1 k x0 x3 x7 ((bt x0 x10) == 35) (wrap64 (x10 + 1)) x142000 x142001 x142002) else (if (bt x0 x10) = 10 then (aquiferlaw11_LexTexts.l1 k x0 x3 x7 ((bt x0 x10) == 35) (wrap64 (x10 + 1)) x142000 x142001 x142002) else (if (bt x0 x10) = 13 then (aquiferlaw11_LexTexts.l1 k x0 x3 x7 ((bt x0 x10) == 35) (wrap64 (x10 + 1)) x142000 x142001 x142002) else (some false))))))) else (none)) else (none)) else (aquiferlaw11_LexTexts.l0 k x0 x3 (wrap64 (x142002 + (x142001.size : Int))) (wrap64 (x7 + 1)))
end
def aquiferlaw11_LexTexts.f (k : Nat) (a0 : ByteArray) : Option (Bool) := if (a0.size : Int) > 2000 then ((aquiferlaw11_awake.f k).bind fun t130 => (some t130)) else ((lex_Lex.f k a0).bind fun bt131 => ((aquiferlaw1_Num.f bt131.2.1).bind fun t136 => (if t136 = 0 then (aquiferlaw11_LexTexts.l0 k a0 bt131.1 0 0) else (if (bt131.1.length : Int) = 0 then ((aquiferlaw11_awake.f k).bind fun t137 => (some t137)) else (some false)))))
theorem aquiferlaw11_LexTexts.mono_l : ∀ k, (∀ y0 y1 y2 y3, LeO (aquiferlaw11_LexTexts.l0 k y0 y1 y2 y3) (aquiferlaw11_LexTexts.l0 (k + 1) y0 y1 y2 y3)) ∧ (∀ y0 y1 y2 y3 y4 y5 y6 y7, LeO (aquiferlaw11_LexTexts.j1 k y0 y1 y2 y3 y4 y5 y6 y7) (aquiferlaw11_LexTexts.j1 (k + 1) y0 y1 y2 y3 y4 y5 y6 y7)) ∧ (∀ y0 y1 y2 y3 y4 y5 y6 y7, LeO (aquiferlaw11_LexTexts.l1 k y0 y1 y2 y3 y4 y5 y6 y7) (aquiferlaw11_LexTexts.l1 (k + 1) y0 y1 y2 y3 y4 y5 y6 y7))
  | 0 => ⟨fun _ _ _ _ r h => by simp [aquiferlaw11_LexTexts.l0] at h, fun _ _ _ _ _ _ _ _ r h => by simp [aquiferlaw11_LexTexts.j1] at h, fun _ _ _ _ _ _ _ _ r h => by simp [aquiferlaw11_LexTexts.l1] at h⟩
  | k + 1 => by
    obtain ⟨ih0, ih1, ih2⟩ := aquiferlaw11_LexTexts.mono_l k
    refine ⟨?_, ?_, ?_⟩
    · intro y0 y1 y2 y3
      unfold aquiferlaw11_LexTexts.l0
      repeat' first
      | (with_reducible exact ih0 _ _ _ _)
      | (with_reducible exact ih1 _ _ _ _ _ _ _ _)
      | (with_reducible exact ih2 _ _ _ _ _ _ _ _)
      | (with_reducible exact aquiferlaw11_awake.mono _)
      | (with_reducible exact lex_Lex.mono _ _)
      | (with_reducible exact LeO.refl _)
      | (with_reducible exact LeO.none _)
      | (with_reducible refine LeO.ite ?_ ?_)
      | (with_reducible refine LeO.bind ?_ (fun _ => ?_))
      | exact ih0 _ _ _ _
      | exact ih1 _ _ _ _ _ _ _ _
      | exact ih2 _ _ _ _ _ _ _ _
      | exact aquiferlaw11_awake.mono _
      | exact lex_Lex.mono _ _
      | exact LeO.none _
      | refine LeO.ite ?_ ?_
      | refine LeO.bind ?_ (fun _ => ?_)
    · intro y0 y1 y2 y3 y4 y5 y6 y7
      unfold aquiferlaw11_LexTexts.j1
      repeat' first
      | (with_reducible exact ih0 _ _ _ _)
      | (with_reducible exact ih1 _ _ _ _ _ _ _ _)
      | (with_reducible exact ih2 _ _ _ _ _ _ _ _)
      | (with_reducible exact aquiferlaw11_awake.mono _)
      | (with_reducible exact lex_Lex.mono _ _)
      | (with_reducible exact LeO.refl _)
      | (with_reducible exact LeO.none _)
      | (with_reducible refine LeO.ite ?_ ?_)
      | (with_reducible refine LeO.bind ?_ (fun _ => ?_))
      | exact ih0 _ _ _ _
      | exact ih1 _ _ _ _ _ _ _ _
      | exact ih2 _ _ _ _ _ _ _ _
      | exact aquiferlaw11_awake.mono _
      | exact lex_Lex.mono _ _
      | exact LeO.none _
      | refine LeO.ite ?_ ?_
      | refine LeO.bind ?_ (fun _ => ?_)
    · intro y0 y1 y2 y3 y4 y5 y6 y7
      unfold aquiferlaw11_LexTexts.l1
      repeat' first
      | (with_reducible exact ih0 _ _ _ _)
      | (with_reducible exact ih1 _ _ _ _ _ _ _ _)
      | (with_reducible exact ih2 _ _ _ _ _ _ _ _)
      | (with_reducible exact aquiferlaw11_awake.mono _)
      | (with_reducible exact lex_Lex.mono _ _)
      | (with_reducible exact LeO.refl _)
      | (with_reducible exact LeO.none _)
      | (with_reducible refine LeO.ite ?_ ?_)
      | (with_reducible refine LeO.bind ?_ (fun _ => ?_))
      | exact ih0 _ _ _ _
      | exact ih1 _ _ _ _ _ _ _ _
      | exact ih2 _ _ _ _ _ _ _ _
      | exact aquiferlaw11_awake.mono _
      | exact lex_Lex.mono _ _
      | exact LeO.none _
      | refine LeO.ite ?_ ?_
      | refine LeO.bind ?_ (fun _ => ?_)
theorem aquiferlaw11_LexTexts.mono : ∀ a0 k, LeO (aquiferlaw11_LexTexts.f k a0) (aquiferlaw11_LexTexts.f (k + 1) a0) := by
  intro a0 k
  obtain ⟨ih0, ih1, ih2⟩ := aquiferlaw11_LexTexts.mono_l k
  unfold aquiferlaw11_LexTexts.f
  repeat' first
      | (with_reducible exact ih0 _ _ _ _)
      | (with_reducible exact ih1 _ _ _ _ _ _ _ _)
      | (with_reducible exact ih2 _ _ _ _ _ _ _ _)
      | (with_reducible exact aquiferlaw11_awake.mono _)
      | (with_reducible exact lex_Lex.mono _ _)
      | (with_reducible exact LeO.refl _)
      | (with_reducible exact LeO.none _)
      | (with_reducible refine LeO.ite ?_ ?_)
      | (with_reducible refine LeO.bind ?_ (fun _ => ?_))
      | exact ih0 _ _ _ _
      | exact ih1 _ _ _ _ _ _ _ _
      | exact ih2 _ _ _ _ _ _ _ _
      | exact aquiferlaw11_awake.mono _
      | exact lex_Lex.mono _ _
      | exact LeO.none _
      | refine LeO.ite ?_ ?_
      | refine LeO.bind ?_ (fun _ => ?_)
set_option maxHeartbeats 8000000 in
set_option maxRecDepth 100000 in
theorem aquiferlaw11_LexTexts.calls (k : Nat) (a0 : ByteArray) (r : Bool) (w : World) (HLT_ : Aside0 (r = true)) (h : aquiferlaw11_LexTexts.f k a0 = some r) :
    Calls Try.prog 8 #[.string a0] w fun e w' => e = .returned (.bool r) ∧ Below w.heap.size w w' := by
  have hu49 := Try.underlying49
  have HB := Aside0.mk (Below.refl w.heap.size w)
  have H : (if (a0.size : Int) > 2000 then ((aquiferlaw11_awake.f k).bind fun t130 => (some t130)) else ((lex_Lex.f k a0).bind fun bt131 => ((aquiferlaw1_Num.f bt131.2.1).bind fun t136 => (if t136 = 0 then (aquiferlaw11_LexTexts.l0 k a0 bt131.1 0 0) else (if (bt131.1.length : Int) = 0 then ((aquiferlaw11_awake.f k).bind fun t137 => (some t137)) else (some false)))))) = some r := h
  clear h
  by_cases c2 : (a0.size : Int) > 2000
  · rw [if_pos c2] at H
    have c2b0 : decide (2000 < (a0.size : Int)) = true := decide_eq_true c2
    have c2b1 : decide (2000 < a0.size) = true := decide_eq_true (by omega)
    clear c2
    replace H := Option.bind_eq_some_iff.mp H
    obtain ⟨t130, A30, H⟩ := H
    replace H : (some t130) = some r := H
    have A3 := Aside0.mk A30
    clear A30
    obtain rfl := Option.some.inj H
    go_enter Try.func8, Try.ntmps8
    go_wp2_with (first | (go_at_call 20; (with_reducible refine (aquiferlaw11_awake.calls k  t130 _ A3.out).mono ?_); rintro e w4 ⟨rfl, hb⟩; have n0_ := Aside0.mk (below_step (by repeat (first | (with_reducible first | exact HB.out | apply below_alloc | apply pw_below_drewN | apply below_drew1) | exact HB.out)) hb); clear HB; have HB := n0_; clear n0_; (try clear hb); (try clear hb2); (try clear hk); (try clear hi)))
    repeat (go_quiet (first | (go_at_call 20; (with_reducible refine (aquiferlaw11_awake.calls k  t130 _ A3.out).mono ?_); rintro e w4 ⟨rfl, hb⟩; have n0_ := Aside0.mk (below_step (by repeat (first | (with_reducible first | exact HB.out | apply below_alloc | apply pw_below_drewN | apply below_drew1) | exact HB.out)) hb); clear HB; have HB := n0_; clear n0_; (try clear hb); (try clear hb2); (try clear hk); (try clear hi))); try go_wp2_with (first | (go_at_call 20; (with_reducible refine (aquiferlaw11_awake.calls k  t130 _ A3.out).mono ?_); rintro e w4 ⟨rfl, hb⟩; have n0_ := Aside0.mk (below_step (by repeat (first | (with_reducible first | exact HB.out | apply below_alloc | apply pw_below_drewN | apply below_drew1) | exact HB.out)) hb); clear HB; have HB := n0_; clear n0_; (try clear hb); (try clear hb2); (try clear hk); (try clear hi))))
    go_ret
    exact ⟨by first | rfl | (simp [errW_none, errW_some] <;> rfl) | (simp [*, errW_none, errW_some] <;> rfl), by repeat (first | (with_reducible first | exact HB.out | apply below_alloc | apply pw_below_drewN | apply below_drew1) | exact HB.out)⟩
  · rw [if_neg c2] at H
    have c2b0 : decide (2000 < (a0.size : Int)) = false := decide_eq_false c2
    have c2b1 : decide (2000 < a0.size) = false := decide_eq_false (by omega)
    clear c2
    replace H := Option.bind_eq_some_iff.mp H
    obtain ⟨⟨t131, t132, t133⟩, A50, H⟩ := H
    replace H : ((aquiferlaw1_Num.f t132).bind fun t136 => (if t136 = 0 then (aquiferlaw11_LexTexts.l0 k a0 t131 0 0) else (if (t131.length : Int) = 0 then ((aquiferlaw11_awake.f k).bind fun t137 => (some t137)) else (some false)))) = some r := H
    have A5 := Aside0.mk A50
    clear A50
    replace H := Option.bind_eq_some_iff.mp H
    obtain ⟨t136, A60, H⟩ := H
    replace H : (if t136 = 0 then (aquiferlaw11_LexTexts.l0 k a0 t131 0 0) else (if (t131.length : Int) = 0 then ((aquiferlaw11_awake.f k).bind fun t137 => (some t137)) else (some false))) = some r := H
    have A6 := Aside0.mk A60
    clear A60
    by_cases c7 : t136 = 0
    · rw [if_pos c7] at H
      have c7b0 : (t136 == 0) = true := beq_iff_eq.mpr c7
      have c7b1 : (t136 != 0) = false := bne_eq_false_iff_eq.mpr c7
      clear c7
      have H' := Aside0.mk H
      clear H
      go_enter Try.func8, Try.ntmps8
      go_wp2_with (first | (go_at_call 21; (with_reducible refine (lex_Lex.calls k a0 t131 t132 t133 _ A5.out).mono ?_); rintro e w8 ⟨v134, rfl, ho0, hb⟩; have n0_ := Aside0.mk (Kd.R_lower ho0 (below_size (by repeat (first | (with_reducible first | exact HB.out | apply below_alloc | apply pw_below_drewN | apply below_drew1) | exact HB.out)))); have n1_ := Aside0.mk (below_step (by repeat (first | (with_reducible first | exact HB.out | apply below_alloc | apply pw_below_drewN | apply below_drew1) | exact HB.out)) hb); clear HB; have HO135 := n0_; have HB := n1_; clear n0_ n1_; (try clear hb); (try clear hb2); (try clear hk); (try clear hi); (try clear ho0)) | (go_at_call 17; (with_reducible refine (aquiferlaw1_Num.calls t132 t136 _ A6.out).mono ?_); rintro e w' ⟨rfl, ⟨nd, rfl⟩⟩; (try first | exact ⟨rfl, _, World.drewN_drewN _ _ _⟩ | exact ⟨rfl, _, Eq.trans (World.drewN_drewN _ _ _) (congrArg (World.drewN _) (Nat.add_assoc _ _ _))⟩)))
      repeat (go_quiet (first | (go_at_call 21; (with_reducible refine (lex_Lex.calls k a0 t131 t132 t133 _ A5.out).mono ?_); rintro e w8 ⟨v134, rfl, ho0, hb⟩; have n0_ := Aside0.mk (Kd.R_lower ho0 (below_size (by repeat (first | (with_reducible first | exact HB.out | apply below_alloc | apply pw_below_drewN | apply below_drew1) | exact HB.out)))); have n1_ := Aside0.mk (below_step (by repeat (first | (with_reducible first | exact HB.out | apply below_alloc | apply pw_below_drewN | apply below_drew1) | exact HB.out)) hb); clear HB; have HO135 := n0_; have HB := n1_; clear n0_ n1_; (try clear hb); (try clear hb2); (try clear hk); (try clear hi); (try clear ho0)) | (go_at_call 17; (with_reducible refine (aquiferlaw1_Num.calls t132 t136 _ A6.out).mono ?_); rintro e w' ⟨rfl, ⟨nd, rfl⟩⟩; (try first | exact ⟨rfl, _, World.drewN_drewN _ _ _⟩ | exact ⟨rfl, _, Eq.trans (World.drewN_drewN _ _ _) (congrArg (World.drewN _) (Nat.add_assoc _ _ _))⟩))); try go_wp2_with (first | (go_at_call 21; (with_reducible refine (lex_Lex.calls k a0 t131 t132 t133 _ A5.out).mono ?_); rintro e w8 ⟨v134, rfl, ho0, hb⟩; have n0_ := Aside0.mk (Kd.R_lower ho0 (below_size (by repeat (first | (with_reducible first | exact HB.out | apply below_alloc | apply pw_below_drewN | apply below_drew1) | exact HB.out)))); have n1_ := Aside0.mk (below_step (by repeat (first | (with_reducible first | exact HB.out | apply below_alloc | apply pw_below_drewN | apply below_drew1) | exact HB.out)) hb); clear HB; have HO135 := n0_; have HB := n1_; clear n0_ n1_; (try clear hb); (try clear hb2); (try clear hk); (try clear hi); (try clear ho0)) | (go_at_call 17; (with_reducible refine (aquiferlaw1_Num.calls t132 t136 _ A6.out).mono ?_); rintro e w' ⟨rfl, ⟨nd, rfl⟩⟩; (try first | exact ⟨rfl, _, World.drewN_drewN _ _ _⟩ | exact ⟨rfl, _, Eq.trans (World.drewN_drewN _ _ _) (congrArg (World.drewN _) (Nat.add_assoc _ _ _))⟩))))
      go_loopg [6, 7] k (fun kq v6 v7 w' => ∃ (x6_1 : Int) (x7_1 : Int), v6 = .int .i64 x6_1 ∧ v7 = .int .i64 x7_1 ∧ Aside0 (aquiferlaw11_LexTexts.l0 kq a0 t131 x6_1 x7_1 = some r) ∧ Aside0 (kq ≤ k) ∧ Aside0 (Kd.R k49 49 w' w.heap.size (fun _ => True) v134 t131) ∧ Aside0 (Below w.heap.size w w'))
      case atStart => exact ⟨(0), (0), (by first | rfl | (simp; done) | (simp [bne]; done) | (simp [*]; done)), (by first | rfl | (simp; done) | (simp [bne]; done) | (simp [*]; done)), H', ⟨Nat.le_refl _⟩, ⟨by (with_reducible repeat (first | apply Kd.R_alloc | apply Kd.R_drewN | apply Kd.R_drew)); exact HO135.out⟩, ⟨by repeat (first | (with_reducible first | exact HB.out | apply below_alloc | apply pw_below_drewN | apply below_drew1) | exact HB.out)⟩⟩
      case round =>
        clear H'
        try clear c2
        try clear c2b0
        try clear c2b1
        try clear p2
        try clear c7
        try clear c7b0
        try clear c7b1
        try clear c8
        obtain ⟨x6_1, x7_1, rfl, rfl, HA, HK1, HO_3, HB⟩ := hrel
        cases gk with
        | zero => exact absurd HA.out (by simp [aquiferlaw11_LexTexts.l0])
        | succ k1 =>
          have H := HA.out
          clear HA
          simp only [aquiferlaw11_LexTexts.l0] at H
          by_cases c9 : x7_1 < (t131.length : Int)
          · rw [if_pos c9] at H
            have c9b0 : decide (x7_1 < (t131.length : Int)) = true := decide_eq_true c9
            clear c9
            by_cases c10 : 0 ≤ x7_1
            · rw [if_pos c10] at H
              have c10b0 : decide (0 ≤ x7_1) = true := decide_eq_true c10
              clear c10
              have HC11 := Aside0.mk H
              clear H
              obtain ⟨Ao12, co12, eo12⟩ := Kd.R_slice HO_3.out
              subst eo12
              have p140 : 0 ≤ (x7_1 : Int) := of_decide_eq_true (by first | (with_reducible assumption) | assumption)
              have q140 : x7_1 < (t131.length : Int) := of_decide_eq_true (by first | (with_reducible assumption) | assumption)
              obtain ⟨ad140, e140, hx140_0, hx140_1, hx140_2⟩ := at_T49 (Kd.R_reads' HO_3.out).2.2 x7_1 p140 q140
              cases e140
              replace p140 := eq_true p140
              replace q140 := eq_true q140
              go_upto_region 11 with (first | ((with_reducible refine gate_dst (N := 8) rfl ?_); (try (refine gate_guard (by rfl) ?_; dsimp only)); refine box_event ?hg (N := 8) ?hd (cs := #[.int .i64 0, .string (⟨#[]⟩ : ByteArray), .int .i64 0]) (t := 49) ?hr ?_; (case hd => rfl); (case hg => rfl); (case hr => first | (go_simp; done) | (go_simp; rfl)); intro gb141 hg w13 hbox hb; have n0_ := Aside0.mk (Kd.R_below (Kd.R_elderB (by (with_reducible repeat (first | apply Kd.R_alloc | apply Kd.R_drewN | apply Kd.R_drew)); exact HO_3.out) gb141 (Nat.le_of_eq hg.symm)) hb); have n1_ := Aside0.mk (below_step (by repeat (first | (with_reducible first | exact HB.out | apply below_alloc | apply pw_below_drewN | apply below_drew1) | exact HB.out)) hb); have n2_ := Aside0.mk (hbox); have n3_ := Aside0.mk ((by rw [hg]; exact (below_size (by repeat (first | (with_reducible first | exact HB.out | apply below_alloc | apply pw_below_drewN | apply below_drew1) | exact HB.out))) : w.heap.size ≤ gb141)); have n4_ := Aside0.mk ((by rw [hg]; exact (below_size (by repeat (first | (with_reducible first | exact HB.out | apply below_alloc | apply pw_below_drewN | apply below_drew1) | exact HB.out))) : w.heap.size ≤ gb141)); clear HO_3; clear HB; have HO_3 := n0_; have HB := n1_; have BK141 := n2_; have GW141 := n3_; have GE141 := n4_; clear n0_ n1_ n2_ n3_ n4_; clear hb hbox hg; have hcz14_0 : w13.cell? ⟨gb141, 0, none⟩ = some (.int .i64 0) := (blk_cell BK141.out 0).trans rfl; have hcz14_1 : w13.cell? ⟨gb141, 1, none⟩ = some (.string (⟨#[]⟩ : ByteArray)) := (blk_cell BK141.out 1).trans rfl; have hcz14_2 : w13.cell? ⟨gb141, 2, none⟩ = some (.int .i64 0) := (blk_cell BK141.out 2).trans rfl; have hfz14_0 := blk_frozen BK141.out 0; have hfz14_1 := blk_frozen BK141.out 1; have hfz14_2 := blk_frozen BK141.out 2))
              repeat (go_quiet (first | ((with_reducible refine gate_dst (N := 8) rfl ?_); (try (refine gate_guard (by rfl) ?_; dsimp only)); refine box_event ?hg (N := 8) ?hd (cs := #[.int .i64 0, .string (⟨#[]⟩ : ByteArray), .int .i64 0]) (t := 49) ?hr ?_; (case hd => rfl); (case hg => rfl); (case hr => first | (go_simp; done) | (go_simp; rfl)); intro gb141 hg w13 hbox hb; have n0_ := Aside0.mk (Kd.R_below (Kd.R_elderB (by (with_reducible repeat (first | apply Kd.R_alloc | apply Kd.R_drewN | apply Kd.R_drew)); exact HO_3.out) gb141 (Nat.le_of_eq hg.symm)) hb); have n1_ := Aside0.mk (below_step (by repeat (first | (with_reducible first | exact HB.out | apply below_alloc | apply pw_below_drewN | apply below_drew1) | exact HB.out)) hb); have n2_ := Aside0.mk (hbox); have n3_ := Aside0.mk ((by rw [hg]; exact (below_size (by repeat (first | (with_reducible first | exact HB.out | apply below_alloc | apply pw_below_drewN | apply below_drew1) | exact HB.out))) : w.heap.size ≤ gb141)); have n4_ := Aside0.mk ((by rw [hg]; exact (below_size (by repeat (first | (with_reducible first | exact HB.out | apply below_alloc | apply pw_below_drewN | apply below_drew1) | exact HB.out))) : w.heap.size ≤ gb141)); clear HO_3; clear HB; have HO_3 := n0_; have HB := n1_; have BK141 := n2_; have GW141 := n3_; have GE141 := n4_; clear n0_ n1_ n2_ n3_ n4_; clear hb hbox hg; have hcz14_0 : w13.cell? ⟨gb141, 0, none⟩ = some (.int .i64 0) := (blk_cell BK141.out 0).trans rfl; have hcz14_1 : w13.cell? ⟨gb141, 1, none⟩ = some (.string (⟨#[]⟩ : ByteArray)) := (blk_cell BK141.out 1).trans rfl; have hcz14_2 : w13.cell? ⟨gb141, 2, none⟩ = some (.int .i64 0) := (blk_cell BK141.out 2).trans rfl; have hfz14_0 := blk_frozen BK141.out 0; have hfz14_1 := blk_frozen BK141.out 1; have hfz14_2 := blk_frozen BK141.out 2)); go_upto_region 11 with (first | ((with_reducible refine gate_dst (N := 8) rfl ?_); (try (refine gate_guard (by rfl) ?_; dsimp only)); refine box_event ?hg (N := 8) ?hd (cs := #[.int .i64 0, .string (⟨#[]⟩ : ByteArray), .int .i64 0]) (t := 49) ?hr ?_; (case hd => rfl); (case hg => rfl); (case hr => first | (go_simp; done) | (go_simp; rfl)); intro gb141 hg w13 hbox hb; have n0_ := Aside0.mk (Kd.R_below (Kd.R_elderB (by (with_reducible repeat (first | apply Kd.R_alloc | apply Kd.R_drewN | apply Kd.R_drew)); exact HO_3.out) gb141 (Nat.le_of_eq hg.symm)) hb); have n1_ := Aside0.mk (below_step (by repeat (first | (with_reducible first | exact HB.out | apply below_alloc | apply pw_below_drewN | apply below_drew1) | exact HB.out)) hb); have n2_ := Aside0.mk (hbox); have n3_ := Aside0.mk ((by rw [hg]; exact (below_size (by repeat (first | (with_reducible first | exact HB.out | apply below_alloc | apply pw_below_drewN | apply below_drew1) | exact HB.out))) : w.heap.size ≤ gb141)); have n4_ := Aside0.mk ((by rw [hg]; exact (below_size (by repeat (first | (with_reducible first | exact HB.out | apply below_alloc | apply pw_below_drewN | apply below_drew1) | exact HB.out))) : w.heap.size ≤ gb141)); clear HO_3; clear HB; have HO_3 := n0_; have HB := n1_; have BK141 := n2_; have GW141 := n3_; have GE141 := n4_; clear n0_ n1_ n2_ n3_ n4_; clear hb hbox hg; have hcz14_0 : w13.cell? ⟨gb141, 0, none⟩ = some (.int .i64 0) := (blk_cell BK141.out 0).trans rfl; have hcz14_1 : w13.cell? ⟨gb141, 1, none⟩ = some (.string (⟨#[]⟩ : ByteArray)) := (blk_cell BK141.out 1).trans rfl; have hcz14_2 : w13.cell? ⟨gb141, 2, none⟩ = some (.int .i64 0) := (blk_cell BK141.out 2).trans rfl; have hfz14_0 := blk_frozen BK141.out 0; have hfz14_1 := blk_frozen BK141.out 1; have hfz14_2 := blk_frozen BK141.out 2)))
              (try simp only [Act.put, List.setIfInBounds_toArray, List.set_cons_zero, List.set_cons_succ])
              go_cut [81] (fun v81 wc => ∃ (kq : Nat) (x81_10 : Bool), v81 = .bool x81_10 ∧ Aside0 (aquiferlaw11_LexTexts.j1 kq a0 t131 x6_1 x7_1 x81_10 ((rd_T49 t131 x7_1).f0) ((rd_T49 t131 x7_1).f1) ((rd_T49 t131 x7_1).f2) = some r) ∧ Aside0 (kq ≤ k1) ∧ Aside0 (Kd.R k49 49 wc w.heap.size (fun k_ => k_ ≠ gb141) (.slice (some ad140) t131.length co12) t131) ∧ Aside0 (wc.heap[gb141]? = some (.cells #[.int .i64 ((rd_T49 t131 x7_1).f0), .string ((rd_T49 t131 x7_1).f1), .int .i64 ((rd_T49 t131 x7_1).f2)] 49 (0, 0))) ∧ Aside0 (Below w.heap.size w wc))
              case first =>
                have H := HC11.out
                clear HC11
                by_cases c15 : ((rd_T49 t131 x7_1).f2) < x6_1
                · rw [if_pos c15] at H
                  have c15b0 : decide (((rd_T49 t131 x7_1).f2) < x6_1) = true := decide_eq_true c15
                  clear c15
                  (first | rw [c15b0] | (simp only [i64_w, i32_w]; rw [c15b0]) | skip)
                  have H' := Aside0.mk H
                  clear H
                  have hcz16_0 : w13.cell? ⟨gb141, 0, none⟩ = some (.int .i64 0) := (blk_cell BK141.out 0).trans rfl
                  have hcz16_1 : w13.cell? ⟨gb141, 1, none⟩ = some (.string (⟨#[]⟩ : ByteArray)) := (blk_cell BK141.out 1).trans rfl
                  have hcz16_2 : w13.cell? ⟨gb141, 2, none⟩ = some (.int .i64 0) := (blk_cell BK141.out 2).trans rfl
                  have hfz16_0 := blk_frozen BK141.out 0
                  have hfz16_1 := blk_frozen BK141.out 1
                  have hfz16_2 := blk_frozen BK141.out 2
                  go_wp2
                  repeat (go_quiet (fail); try go_wp2)
                  go_meet
                  case rel => exact ⟨_, (true), (by first | rfl | (simp; done) | (simp [bne]; done) | (simp [*]; done)), H', ⟨by have := HK1.out; first | omega | exact Nat.le_refl _⟩, ⟨by (with_reducible repeat (first | apply Kd.R_alloc | apply Kd.R_drewN | apply Kd.R_drew)); exact Kd.R_mono (Kd.R_far (p := ⟨gb141, 2, none⟩) (Kd.R_far (p := ⟨gb141, 1, none⟩) (Kd.R_far (p := ⟨gb141, 0, none⟩) (Kd.R_mono HO_3.out (fun k_ hk => (⟨hk, hk.2⟩ : _ ∧ k_ ≠ gb141))) (fun _ hk => hk.2) (.int .i64 ((rd_T49 t131 x7_1).f0))) (fun _ hk => hk.2) (.string ((rd_T49 t131 x7_1).f1))) (fun _ hk => hk.2) (.int .i64 ((rd_T49 t131 x7_1).f2))) (fun _ hk => hk.1.2)⟩, ⟨by (with_reducible repeat (first | refine blk_drewN ?_ _ | refine blk_drew ?_ | refine blk_alloc ?_ _)); refine blk_put (cs := #[.int .i64 ((rd_T49 t131 x7_1).f0), .string ((rd_T49 t131 x7_1).f1), .int .i64 0]) ?_ 2 _ rfl; (with_reducible repeat (first | refine blk_drewN ?_ _ | refine blk_drew ?_ | refine blk_alloc ?_ _)); refine blk_put (cs := #[.int .i64 ((rd_T49 t131 x7_1).f0), .string (⟨#[]⟩ : ByteArray), .int .i64 0]) ?_ 1 _ rfl; (with_reducible repeat (first | refine blk_drewN ?_ _ | refine blk_drew ?_ | refine blk_alloc ?_ _)); refine blk_put (cs := #[.int .i64 0, .string (⟨#[]⟩ : ByteArray), .int .i64 0]) ?_ 0 _ rfl; (with_reducible repeat (first | refine blk_drewN ?_ _ | refine blk_drew ?_ | refine blk_alloc ?_ _)); exact BK141.out⟩, ⟨by repeat (first | (with_reducible first | exact HB.out | apply below_alloc | apply pw_below_drewN | apply below_drew1 | refine below_set ?_ GE141.out) | exact HB.out)⟩⟩
                · rw [if_neg c15] at H
                  have c15b0 : decide (((rd_T49 t131 x7_1).f2) < x6_1) = false := decide_eq_false c15
                  clear c15
                  (first | rw [c15b0] | (simp only [i64_w, i32_w]; rw [c15b0]) | skip)
                  by_cases c17 : (wrap64 (((rd_T49 t131 x7_1).f2) + (((rd_T49 t131 x7_1).f1).size : Int))) > (a0.size : Int)
                  · rw [if_pos c17] at H
                    have c17b0 : decide ((a0.size : Int) < (wrap64 (((rd_T49 t131 x7_1).f2) + (((rd_T49 t131 x7_1).f1).size : Int)))) = true := decide_eq_true c17
                    clear c17
                    have H' := Aside0.mk H
                    clear H
                    have hcz18_0 : w13.cell? ⟨gb141, 0, none⟩ = some (.int .i64 0) := (blk_cell BK141.out 0).trans rfl
                    have hcz18_1 : w13.cell? ⟨gb141, 1, none⟩ = some (.string (⟨#[]⟩ : ByteArray)) := (blk_cell BK141.out 1).trans rfl
                    have hcz18_2 : w13.cell? ⟨gb141, 2, none⟩ = some (.int .i64 0) := (blk_cell BK141.out 2).trans rfl
                    have hfz18_0 := blk_frozen BK141.out 0
                    have hfz18_1 := blk_frozen BK141.out 1
                    have hfz18_2 := blk_frozen BK141.out 2
                    go_wp2
                    repeat (go_quiet (fail); try go_wp2)
                    go_meet
                    case rel => exact ⟨_, (true), (by first | rfl | (simp; done) | (simp [bne]; done) | (simp [*]; done)), H', ⟨by have := HK1.out; first | omega | exact Nat.le_refl _⟩, ⟨by (with_reducible repeat (first | apply Kd.R_alloc | apply Kd.R_drewN | apply Kd.R_drew)); exact Kd.R_mono (Kd.R_far (p := ⟨gb141, 2, none⟩) (Kd.R_far (p := ⟨gb141, 1, none⟩) (Kd.R_far (p := ⟨gb141, 0, none⟩) (Kd.R_mono HO_3.out (fun k_ hk => (⟨hk, hk.2⟩ : _ ∧ k_ ≠ gb141))) (fun _ hk => hk.2) (.int .i64 ((rd_T49 t131 x7_1).f0))) (fun _ hk => hk.2) (.string ((rd_T49 t131 x7_1).f1))) (fun _ hk => hk.2) (.int .i64 ((rd_T49 t131 x7_1).f2))) (fun _ hk => hk.1.2)⟩, ⟨by (with_reducible repeat (first | refine blk_drewN ?_ _ | refine blk_drew ?_ | refine blk_alloc ?_ _)); refine blk_put (cs := #[.int .i64 ((rd_T49 t131 x7_1).f0), .string ((rd_T49 t131 x7_1).f1), .int .i64 0]) ?_ 2 _ rfl; (with_reducible repeat (first | refine blk_drewN ?_ _ | refine blk_drew ?_ | refine blk_alloc ?_ _)); refine blk_put (cs := #[.int .i64 ((rd_T49 t131 x7_1).f0), .string (⟨#[]⟩ : ByteArray), .int .i64 0]) ?_ 1 _ rfl; (with_reducible repeat (first | refine blk_drewN ?_ _ | refine blk_drew ?_ | refine blk_alloc ?_ _)); refine blk_put (cs := #[.int .i64 0, .string (⟨#[]⟩ : ByteArray), .int .i64 0]) ?_ 0 _ rfl; (with_reducible repeat (first | refine blk_drewN ?_ _ | refine blk_drew ?_ | refine blk_alloc ?_ _)); exact BK141.out⟩, ⟨by repeat (first | (with_reducible first | exact HB.out | apply below_alloc | apply pw_below_drewN | apply below_drew1 | refine below_set ?_ GE141.out) | exact HB.out)⟩⟩
                  · rw [if_neg c17] at H
                    have c17b0 : decide ((a0.size : Int) < (wrap64 (((rd_T49 t131 x7_1).f2) + (((rd_T49 t131 x7_1).f1).size : Int)))) = false := decide_eq_false c17
                    clear c17
                    by_cases c19 : 0 ≤ ((rd_T49 t131 x7_1).f2)
                    · rw [if_pos c19] at H
                      have c19b0 := eq_true c19
                      have c19b1 : decide (0 ≤ ((rd_T49 t131 x7_1).f2)) = true := decide_eq_true c19
                      clear c19
                      by_cases c20 : ((rd_T49 t131 x7_1).f2) ≤ (wrap64 (((rd_T49 t131 x7_1).f2) + (((rd_T49 t131 x7_1).f1).size : Int)))
                      · rw [if_pos c20] at H
                        have c20b0 := eq_true c20
                        have c20b1 : decide (((rd_T49 t131 x7_1).f2) ≤ (wrap64 (((rd_T49 t131 x7_1).f2) + (((rd_T49 t131 x7_1).f1).size : Int)))) = true := decide_eq_true c20
                        by_cases c21 : (wrap64 (((rd_T49 t131 x7_1).f2) + (((rd_T49 t131 x7_1).f1).size : Int))) ≤ (a0.size : Int)
                        · rw [if_pos c21] at H
                          have c21b0 := eq_true c21
                          have c21b1 : decide ((wrap64 (((rd_T49 t131 x7_1).f2) + (((rd_T49 t131 x7_1).f1).size : Int))) ≤ (a0.size : Int)) = true := decide_eq_true c21
                          by_cases c22 : (a0.extract (((rd_T49 t131 x7_1).f2) : Int).toNat ((wrap64 (((rd_T49 t131 x7_1).f2) + (((rd_T49 t131 x7_1).f1).size : Int))) : Int).toNat).toList = ((rd_T49 t131 x7_1).f1).toList
                          · rw [if_pos c22] at H
                            have c22b0 : ((a0.extract (((rd_T49 t131 x7_1).f2) : Int).toNat ((wrap64 (((rd_T49 t131 x7_1).f2) + (((rd_T49 t131 x7_1).f1).size : Int))) : Int).toNat).toList == ((rd_T49 t131 x7_1).f1).toList) = true := beq_iff_eq.mpr c22
                            have c22b1 : ((a0.extract (((rd_T49 t131 x7_1).f2) : Int).toNat ((wrap64 (((rd_T49 t131 x7_1).f2) + (((rd_T49 t131 x7_1).f1).size : Int))) : Int).toNat).toList != ((rd_T49 t131 x7_1).f1).toList) = false := bne_eq_false_iff_eq.mpr c22
                            clear c22
                            have H' := Aside0.mk H
                            clear H
                            have hcz23_0 : w13.cell? ⟨gb141, 0, none⟩ = some (.int .i64 0) := (blk_cell BK141.out 0).trans rfl
                            have hcz23_1 : w13.cell? ⟨gb141, 1, none⟩ = some (.string (⟨#[]⟩ : ByteArray)) := (blk_cell BK141.out 1).trans rfl
                            have hcz23_2 : w13.cell? ⟨gb141, 2, none⟩ = some (.int .i64 0) := (blk_cell BK141.out 2).trans rfl
                            have hfz23_0 := blk_frozen BK141.out 0
                            have hfz23_1 := blk_frozen BK141.out 1
                            have hfz23_2 := blk_frozen BK141.out 2
                            go_wp2
                            repeat (go_quiet (fail); try go_wp2)
                            go_meet
                            case rel => exact ⟨_, (((((rd_T49 t131 x7_1).f1).toList == ([] : List UInt8)) != (x7_1 == (wrap64 ((t131.length : Int) - 1))))), (by first | rfl | (simp; done) | (simp [bne]; done) | (simp [*]; done)), H', ⟨by have := HK1.out; first | omega | exact Nat.le_refl _⟩, ⟨by (with_reducible repeat (first | apply Kd.R_alloc | apply Kd.R_drewN | apply Kd.R_drew)); exact Kd.R_mono (Kd.R_far (p := ⟨gb141, 2, none⟩) (Kd.R_far (p := ⟨gb141, 1, none⟩) (Kd.R_far (p := ⟨gb141, 0, none⟩) (Kd.R_mono HO_3.out (fun k_ hk => (⟨hk, hk.2⟩ : _ ∧ k_ ≠ gb141))) (fun _ hk => hk.2) (.int .i64 ((rd_T49 t131 x7_1).f0))) (fun _ hk => hk.2) (.string ((rd_T49 t131 x7_1).f1))) (fun _ hk => hk.2) (.int .i64 ((rd_T49 t131 x7_1).f2))) (fun _ hk => hk.1.2)⟩, ⟨by (with_reducible repeat (first | refine blk_drewN ?_ _ | refine blk_drew ?_ | refine blk_alloc ?_ _)); refine blk_put (cs := #[.int .i64 ((rd_T49 t131 x7_1).f0), .string ((rd_T49 t131 x7_1).f1), .int .i64 0]) ?_ 2 _ rfl; (with_reducible repeat (first | refine blk_drewN ?_ _ | refine blk_drew ?_ | refine blk_alloc ?_ _)); refine blk_put (cs := #[.int .i64 ((rd_T49 t131 x7_1).f0), .string (⟨#[]⟩ : ByteArray), .int .i64 0]) ?_ 1 _ rfl; (with_reducible repeat (first | refine blk_drewN ?_ _ | refine blk_drew ?_ | refine blk_alloc ?_ _)); refine blk_put (cs := #[.int .i64 0, .string (⟨#[]⟩ : ByteArray), .int .i64 0]) ?_ 0 _ rfl; (with_reducible repeat (first | refine blk_drewN ?_ _ | refine blk_drew ?_ | refine blk_alloc ?_ _)); exact BK141.out⟩, ⟨by repeat (first | (with_reducible first | exact HB.out | apply below_alloc | apply pw_below_drewN | apply below_drew1 | refine below_set ?_ GE141.out) | exact HB.out)⟩⟩
                          · rw [if_neg c22] at H
                            have c22b0 : ((a0.extract (((rd_T49 t131 x7_1).f2) : Int).toNat ((wrap64 (((rd_T49 t131 x7_1).f2) + (((rd_T49 t131 x7_1).f1).size : Int))) : Int).toNat).toList == ((rd_T49 t131 x7_1).f1).toList) = false := beq_eq_false_iff_ne.mpr c22
                            have c22b1 : ((a0.extract (((rd_T49 t131 x7_1).f2) : Int).toNat ((wrap64 (((rd_T49 t131 x7_1).f2) + (((rd_T49 t131 x7_1).f1).size : Int))) : Int).toNat).toList != ((rd_T49 t131 x7_1).f1).toList) = true := bne_iff_ne.mpr c22
                            have H' := Aside0.mk H
                            clear H
                            have hcz24_0 : w13.cell? ⟨gb141, 0, none⟩ = some (.int .i64 0) := (blk_cell BK141.out 0).trans rfl
                            have hcz24_1 : w13.cell? ⟨gb141, 1, none⟩ = some (.string (⟨#[]⟩ : ByteArray)) := (blk_cell BK141.out 1).trans rfl
                            have hcz24_2 : w13.cell? ⟨gb141, 2, none⟩ = some (.int .i64 0) := (blk_cell BK141.out 2).trans rfl
                            have hfz24_0 := blk_frozen BK141.out 0
                            have hfz24_1 := blk_frozen BK141.out 1
                            have hfz24_2 := blk_frozen BK141.out 2
                            go_wp2
                            repeat (go_quiet (fail); try go_wp2)
                            go_meet
                            case rel => exact ⟨_, (true), (by first | rfl | (simp; done) | (simp [bne]; done) | (simp [*]; done)), H', ⟨by have := HK1.out; first | omega | exact Nat.le_refl _⟩, ⟨by (with_reducible repeat (first | apply Kd.R_alloc | apply Kd.R_drewN | apply Kd.R_drew)); exact Kd.R_mono (Kd.R_far (p := ⟨gb141, 2, none⟩) (Kd.R_far (p := ⟨gb141, 1, none⟩) (Kd.R_far (p := ⟨gb141, 0, none⟩) (Kd.R_mono HO_3.out (fun k_ hk => (⟨hk, hk.2⟩ : _ ∧ k_ ≠ gb141))) (fun _ hk => hk.2) (.int .i64 ((rd_T49 t131 x7_1).f0))) (fun _ hk => hk.2) (.string ((rd_T49 t131 x7_1).f1))) (fun _ hk => hk.2) (.int .i64 ((rd_T49 t131 x7_1).f2))) (fun _ hk => hk.1.2)⟩, ⟨by (with_reducible repeat (first | refine blk_drewN ?_ _ | refine blk_drew ?_ | refine blk_alloc ?_ _)); refine blk_put (cs := #[.int .i64 ((rd_T49 t131 x7_1).f0), .string ((rd_T49 t131 x7_1).f1), .int .i64 0]) ?_ 2 _ rfl; (with_reducible repeat (first | refine blk_drewN ?_ _ | refine blk_drew ?_ | refine blk_alloc ?_ _)); refine blk_put (cs := #[.int .i64 ((rd_T49 t131 x7_1).f0), .string (⟨#[]⟩ : ByteArray), .int .i64 0]) ?_ 1 _ rfl; (with_reducible repeat (first | refine blk_drewN ?_ _ | refine blk_drew ?_ | refine blk_alloc ?_ _)); refine blk_put (cs := #[.int .i64 0, .string (⟨#[]⟩ : ByteArray), .int .i64 0]) ?_ 0 _ rfl; (with_reducible repeat (first | refine blk_drewN ?_ _ | refine blk_drew ?_ | refine blk_alloc ?_ _)); exact BK141.out⟩, ⟨by repeat (first | (with_reducible first | exact HB.out | apply below_alloc | apply pw_below_drewN | apply below_drew1 | refine below_set ?_ GE141.out) | exact HB.out)⟩⟩
                        · rw [if_neg c21] at H
                          exact absurd H (by simp)
                      · rw [if_neg c20] at H
                        exact absurd H (by simp)
                    · rw [if_neg c19] at H
                      exact absurd H (by simp)
              case rest =>
                clear HC11
                try clear c1
                try clear p1
                try clear q1
                try clear hx1
                try clear c2
                try clear c2b0
                try clear c2b1
                try clear p2
                try clear p6
                try clear c7
                try clear c7b0
                try clear c7b1
                try clear c8
                try clear c9
                try clear c9b0
                try clear c10
                try clear c10b0
                try clear p14
                try clear q14
                try clear hx14
                try clear c15
                try clear c15b0
                try clear c17
                try clear c17b0
                try clear c19
                try clear c19b0
                try clear c19b1
                try clear c20
                try clear c20b0
                try clear c20b1
                try clear c21
                try clear c21b0
                try clear c21b1
                try clear c22
                try clear c22b0
                try clear c22b1
                try clear hcz14_0
                try clear hcz14_1
                try clear hcz14_2
                try clear hcz16_0
                try clear hcz16_1
                try clear hcz16_2
                try clear hcz18_0
                try clear hcz18_1
                try clear hcz18_2
                try clear hcz23_0
                try clear hcz23_1
                try clear hcz23_2
                try clear hcz24_0
                try clear hcz24_1
                try clear hcz24_2
                try clear hfz14_0
                try clear hfz14_1
                try clear hfz14_2
                try clear hfz16_0
                try clear hfz16_1
                try clear hfz16_2
                try clear hfz18_0
                try clear hfz18_1
                try clear hfz18_2
                try clear hfz23_0
                try clear hfz23_1
                try clear hfz23_2
                try clear hfz24_0
                try clear hfz24_1
                try clear hfz24_2
                try clear hx140_0
                try clear hx140_1
                try clear hx140_2
                try clear p140
                try clear p2
                try clear q140
                obtain ⟨kq, x81_10, rfl, HA, HJ10, HO_3, BK141, HB⟩ := hcut
                cases kq with
                | zero => exact absurd HA.out (by simp [aquiferlaw11_LexTexts.j1])
                | succ kj10 =>
                  have H := HA.out
                  clear HA
                  simp only [aquiferlaw11_LexTexts.j1] at H
                  by_cases c25 : x81_10 = true
                  · subst c25
                    have H1 : (some false) = some r := by rw [if_pos rfl] at H; exact H
                    clear H
                    have H := H1
                    clear H1
                    exact absurd (HLT_.out.symm.trans (Option.some.inj H).symm) (by decide)
                  · replace c25 := Bool.eq_false_iff.mpr c25
                    subst c25
                    have H1 : (aquiferlaw11_LexTexts.l1 kj10 a0 t131 x7_1 false x6_1 ((rd_T49 t131 x7_1).f0) ((rd_T49 t131 x7_1).f1) ((rd_T49 t131 x7_1).f2)) = some r := by rw [if_neg (show ¬ (false = true) by decide)] at H; exact H
                    clear H
                    have H := H1
                    clear H1
                    have H' := Aside0.mk H
                    clear H
                    go_wp2
                    repeat (go_quiet (fail); try go_wp2)
                    go_loopg [9, 10] kj10 (fun kq v9 v10 w' => ∃ (x9_3 : Bool) (x10_3 : Int), v9 = .bool x9_3 ∧ v10 = .int .i64 x10_3 ∧ Aside0 (aquiferlaw11_LexTexts.l1 kq a0 t131 x7_1 x9_3 x10_3 ((rd_T49 t131 x7_1).f0) ((rd_T49 t131 x7_1).f1) ((rd_T49 t131 x7_1).f2) = some r) ∧ Aside0 (kq ≤ kj10) ∧ Aside0 (Kd.R k49 49 w' w.heap.size (fun k_ => k_ ≠ gb141) (.slice (some ad140) t131.length co12) t131) ∧ Aside0 (w'.heap[gb141]? = some (.cells #[.int .i64 ((rd_T49 t131 x7_1).f0), .string ((rd_T49 t131 x7_1).f1), .int .i64 ((rd_T49 t131 x7_1).f2)] 49 (0, 0))) ∧ Aside0 (Below w.heap.size w w'))
                    case atStart => exact ⟨(false), (x6_1), (by first | rfl | (simp; done) | (simp [bne]; done) | (simp [*]; done)), (by first | rfl | (simp; done) | (simp [bne]; done) | (simp [*]; done)), H', ⟨Nat.le_refl _⟩, ⟨by (with_reducible repeat (first | apply Kd.R_alloc | apply Kd.R_drewN | apply Kd.R_drew)); exact HO_3.out⟩, ⟨by (with_reducible repeat (first | refine blk_drewN ?_ _ | refine blk_drew ?_ | refine blk_alloc ?_ _)); exact BK141.out⟩, ⟨by repeat (first | (with_reducible first | exact HB.out | apply below_alloc | apply pw_below_drewN | apply below_drew1 | refine below_set ?_ GE141.out) | exact HB.out)⟩⟩
                    case round =>
                      clear H'
                      try clear c1
                      try clear p1
                      try clear q1
                      try clear hx1
                      try clear c2
                      try clear c2b0
                      try clear c2b1
                      try clear p2
                      try clear p6
                      try clear c7
                      try clear c7b0
                      try clear c7b1
                      try clear c8
                      try clear c9
                      try clear c9b0
                      try clear c10
                      try clear c10b0
                      try clear p14
                      try clear q14
                      try clear hx14
                      try clear c15
                      try clear c15b0
                      try clear c17
                      try clear c17b0
                      try clear c19
                      try clear c19b0
                      try clear c19b1
                      try clear c20
                      try clear c20b0
                      try clear c20b1
                      try clear c21
                      try clear c21b0
                      try clear c21b1
                      try clear c22
                      try clear c22b0
                      try clear c22b1
                      try clear c25
                      try clear hcz14_0
                      try clear hcz14_1
                      try clear hcz14_2
                      try clear hcz16_0
                      try clear hcz16_1
                      try clear hcz16_2
                      try clear hcz18_0
                      try clear hcz18_1
                      try clear hcz18_2
                      try clear hcz23_0
                      try clear hcz23_1
                      try clear hcz23_2
                      try clear hcz24_0
                      try clear hcz24_1
                      try clear hcz24_2
                      try clear hfz14_0
                      try clear hfz14_1
                      try clear hfz14_2
                      try clear hfz16_0
                      try clear hfz16_1
                      try clear hfz16_2
                      try clear hfz18_0
                      try clear hfz18_1
                      try clear hfz18_2
                      try clear hfz23_0
                      try clear hfz23_1
                      try clear hfz23_2
                      try clear hfz24_0
                      try clear hfz24_1
                      try clear hfz24_2
                      try clear hx140_0
                      try clear hx140_1
                      try clear hx140_2
                      try clear p1
                      try clear p14
                      try clear p140
                      try clear p2
                      try clear p6
                      try clear q1
                      try clear q14
                      try clear q140
                      obtain ⟨x9_3, x10_3, rfl, rfl, HA, HK3, HO_3, BK141, HB⟩ := hrel
                      cases gk with
                      | zero => exact absurd HA.out (by simp [aquiferlaw11_LexTexts.l1])
                      | succ k3 =>
                        have H := HA.out
                        clear HA
                        simp only [aquiferlaw11_LexTexts.l1] at H
                        by_cases c26 : x10_3 < ((rd_T49 t131 x7_1).f2)
                        · rw [if_pos c26] at H
                          have c26b0 : decide (x10_3 < ((rd_T49 t131 x7_1).f2)) = true := decide_eq_true c26
                          clear c26
                          by_cases c27 : 0 ≤ x10_3
                          · rw [if_pos c27] at H
                            have c27b0 : decide (0 ≤ x10_3) = true := decide_eq_true c27
                            clear c27
                            by_cases c28 : x10_3 < (a0.size : Int)
                            · rw [if_pos c28] at H
                              have c28b0 : decide (x10_3 < (a0.size : Int)) = true := decide_eq_true c28
                              clear c28
                              by_cases c30 : x9_3 = true
                              · subst c30
                                have H1 : (if (bt a0 x10_3) = 10 then (if ((bt a0 x10_3) = 35) then (aquiferlaw11_LexTexts.l1 k3 a0 t131 x7_1 ((bt a0 x10_3) == 35) (wrap64 (x10_3 + 1)) ((rd_T49 t131 x7_1).f0) ((rd_T49 t131 x7_1).f1) ((rd_T49 t131 x7_1).f2)) else (if (bt a0 x10_3) = 32 then (aquiferlaw11_LexTexts.l1 k3 a0 t131 x7_1 ((bt a0 x10_3) == 35) (wrap64 (x10_3 + 1)) ((rd_T49 t131 x7_1).f0) ((rd_T49 t131 x7_1).f1) ((rd_T49 t131 x7_1).f2)) else (if (bt a0 x10_3) = 9 then (aquiferlaw11_LexTexts.l1 k3 a0 t131 x7_1 ((bt a0 x10_3) == 35) (wrap64 (x10_3 + 1)) ((rd_T49 t131 x7_1).f0) ((rd_T49 t131 x7_1).f1) ((rd_T49 t131 x7_1).f2)) else (aquiferlaw11_LexTexts.l1 k3 a0 t131 x7_1 ((bt a0 x10_3) == 35) (wrap64 (x10_3 + 1)) ((rd_T49 t131 x7_1).f0) ((rd_T49 t131 x7_1).f1) ((rd_T49 t131 x7_1).f2))))) else (aquiferlaw11_LexTexts.l1 k3 a0 t131 x7_1 true (wrap64 (x10_3 + 1)) ((rd_T49 t131 x7_1).f0) ((rd_T49 t131 x7_1).f1) ((rd_T49 t131 x7_1).f2))) = some r := by rw [if_pos rfl] at H; exact H
                                clear H
                                have H := H1
                                clear H1
                                by_cases c31 : (bt a0 x10_3) = 10
                                · rw [if_pos c31] at H
                                  have c31b0 : ((bt a0 x10_3) == 10) = true := beq_iff_eq.mpr c31
                                  have c31b1 : ((bt a0 x10_3) != 10) = false := bne_eq_false_iff_eq.mpr c31
                                  clear c31
                                  by_cases c32 : ((bt a0 x10_3) = 35)
                                  · rw [if_pos c32] at H
                                    have c32b0 : ((bt a0 x10_3) == 35) = true := beq_iff_eq.mpr c32
                                    have c32b1 : ((bt a0 x10_3) != 35) = false := bne_eq_false_iff_eq.mpr c32
                                    clear c32
                                    have H' := Aside0.mk H
                                    clear H
                                    have hcz33_0 : wr.cell? ⟨gb141, 0, none⟩ = some (.int .i64 ((rd_T49 t131 x7_1).f0)) := (blk_cell BK141.out 0).trans rfl
                                    have hcz33_1 : wr.cell? ⟨gb141, 1, none⟩ = some (.string ((rd_T49 t131 x7_1).f1)) := (blk_cell BK141.out 1).trans rfl
                                    have hcz33_2 : wr.cell? ⟨gb141, 2, none⟩ = some (.int .i64 ((rd_T49 t131 x7_1).f2)) := (blk_cell BK141.out 2).trans rfl
                                    have hfz33_0 := blk_frozen BK141.out 0
                                    have hfz33_1 := blk_frozen BK141.out 1
                                    have hfz33_2 := blk_frozen BK141.out 2
                                    have p29 : 0 ≤ (x10_3 : Int) := of_decide_eq_true (by first | (with_reducible assumption) | assumption)
                                    have q29 : x10_3 < (a0.size : Int) := of_decide_eq_true (by first | (with_reducible assumption) | assumption)
                                    have hx29 := bt_at a0 x10_3
                                    replace p29 := eq_true p29
                                    replace q29 := eq_true q29
                                    go_wp2
                                    repeat (go_quiet (fail); try go_wp2)
                                    go_roundg k3
                                    case measure => have := HK1.out; have := HJ10.out; have := HK3.out; omega
                                    case rel => exact ⟨(((bt a0 x10_3) == 35)), (wrap64 (x10_3 + 1)), (by first | rfl | (simp; done) | (simp [bne]; done) | (simp [*]; done)), (by first | rfl | (simp; done) | (simp [bne]; done) | (simp [*]; done)), H', ⟨by have := HK1.out; have := HJ10.out; have := HK3.out; omega⟩, ⟨by (with_reducible repeat (first | apply Kd.R_alloc | apply Kd.R_drewN | apply Kd.R_drew)); exact HO_3.out⟩, ⟨by (with_reducible repeat (first | refine blk_drewN ?_ _ | refine blk_drew ?_ | refine blk_alloc ?_ _)); exact BK141.out⟩, ⟨by repeat (first | (with_reducible first | exact HB.out | apply below_alloc | apply pw_below_drewN | apply below_drew1 | refine below_set ?_ GE141.out) | exact HB.out)⟩⟩
                                  · rw [if_neg c32] at H
                                    have c32b0 : ((bt a0 x10_3) == 35) = false := beq_eq_false_iff_ne.mpr c32
                                    have c32b1 : ((bt a0 x10_3) != 35) = true := bne_iff_ne.mpr c32
                                    by_cases c34 : (bt a0 x10_3) = 32
                                    · rw [if_pos c34] at H
                                      have c34b0 : ((bt a0 x10_3) == 32) = true := beq_iff_eq.mpr c34
                                      have c34b1 : ((bt a0 x10_3) != 32) = false := bne_eq_false_iff_eq.mpr c34
                                      clear c34
                                      have H' := Aside0.mk H
                                      clear H
                                      have hcz35_0 : wr.cell? ⟨gb141, 0, none⟩ = some (.int .i64 ((rd_T49 t131 x7_1).f0)) := (blk_cell BK141.out 0).trans rfl
                                      have hcz35_1 : wr.cell? ⟨gb141, 1, none⟩ = some (.string ((rd_T49 t131 x7_1).f1)) := (blk_cell BK141.out 1).trans rfl
                                      have hcz35_2 : wr.cell? ⟨gb141, 2, none⟩ = some (.int .i64 ((rd_T49 t131 x7_1).f2)) := (blk_cell BK141.out 2).trans rfl
                                      have hfz35_0 := blk_frozen BK141.out 0
                                      have hfz35_1 := blk_frozen BK141.out 1
                                      have hfz35_2 := blk_frozen BK141.out 2
                                      have p29 : 0 ≤ (x10_3 : Int) := of_decide_eq_true (by first | (with_reducible assumption) | assumption)
                                      have q29 : x10_3 < (a0.size : Int) := of_decide_eq_true (by first | (with_reducible assumption) | assumption)
                                      have hx29 := bt_at a0 x10_3
                                      replace p29 := eq_true p29
                                      replace q29 := eq_true q29
                                      go_wp2
                                      repeat (go_quiet (fail); try go_wp2)
                                      go_roundg k3
                                      case measure => have := HK1.out; have := HJ10.out; have := HK3.out; omega
                                      case rel => exact ⟨(((bt a0 x10_3) == 35)), (wrap64 (x10_3 + 1)), (by first | rfl | (simp; done) | (simp [bne]; done) | (simp [*]; done)), (by first | rfl | (simp; done) | (simp [bne]; done) | (simp [*]; done)), H', ⟨by have := HK1.out; have := HJ10.out; have := HK3.out; omega⟩, ⟨by (with_reducible repeat (first | apply Kd.R_alloc | apply Kd.R_drewN | apply Kd.R_drew)); exact HO_3.out⟩, ⟨by (with_reducible repeat (first | refine blk_drewN ?_ _ | refine blk_drew ?_ | refine blk_alloc ?_ _)); exact BK141.out⟩, ⟨by repeat (first | (with_reducible first | exact HB.out | apply below_alloc | apply pw_below_drewN | apply below_drew1 | refine below_set ?_ GE141.out) | exact HB.out)⟩⟩
                                    · rw [if_neg c34] at H
                                      have c34b0 : ((bt a0 x10_3) == 32) = false := beq_eq_false_iff_ne.mpr c34
                                      have c34b1 : ((bt a0 x10_3) != 32) = true := bne_iff_ne.mpr c34
                                      by_cases c36 : (bt a0 x10_3) = 9
                                      · rw [if_pos c36] at H
                                        have c36b0 : ((bt a0 x10_3) == 9) = true := beq_iff_eq.mpr c36
                                        have c36b1 : ((bt a0 x10_3) != 9) = false := bne_eq_false_iff_eq.mpr c36
                                        clear c36
                                        have H' := Aside0.mk H
                                        clear H
                                        have hcz37_0 : wr.cell? ⟨gb141, 0, none⟩ = some (.int .i64 ((rd_T49 t131 x7_1).f0)) := (blk_cell BK141.out 0).trans rfl
                                        have hcz37_1 : wr.cell? ⟨gb141, 1, none⟩ = some (.string ((rd_T49 t131 x7_1).f1)) := (blk_cell BK141.out 1).trans rfl
                                        have hcz37_2 : wr.cell? ⟨gb141, 2, none⟩ = some (.int .i64 ((rd_T49 t131 x7_1).f2)) := (blk_cell BK141.out 2).trans rfl
                                        have hfz37_0 := blk_frozen BK141.out 0
                                        have hfz37_1 := blk_frozen BK141.out 1
                                        have hfz37_2 := blk_frozen BK141.out 2
                                        have p29 : 0 ≤ (x10_3 : Int) := of_decide_eq_true (by first | (with_reducible assumption) | assumption)
                                        have q29 : x10_3 < (a0.size : Int) := of_decide_eq_true (by first | (with_reducible assumption) | assumption)
                                        have hx29 := bt_at a0 x10_3
                                        replace p29 := eq_true p29
                                        replace q29 := eq_true q29
                                        go_wp2
                                        repeat (go_quiet (fail); try go_wp2)
                                        go_roundg k3
                                        case measure => have := HK1.out; have := HJ10.out; have := HK3.out; omega
                                        case rel => exact ⟨(((bt a0 x10_3) == 35)), (wrap64 (x10_3 + 1)), (by first | rfl | (simp; done) | (simp [bne]; done) | (simp [*]; done)), (by first | rfl | (simp; done) | (simp [bne]; done) | (simp [*]; done)), H', ⟨by have := HK1.out; have := HJ10.out; have := HK3.out; omega⟩, ⟨by (with_reducible repeat (first | apply Kd.R_alloc | apply Kd.R_drewN | apply Kd.R_drew)); exact HO_3.out⟩, ⟨by (with_reducible repeat (first | refine blk_drewN ?_ _ | refine blk_drew ?_ | refine blk_alloc ?_ _)); exact BK141.out⟩, ⟨by repeat (first | (with_reducible first | exact HB.out | apply below_alloc | apply pw_below_drewN | apply below_drew1 | refine below_set ?_ GE141.out) | exact HB.out)⟩⟩
                                      · rw [if_neg c36] at H
                                        have c36b0 : ((bt a0 x10_3) == 9) = false := beq_eq_false_iff_ne.mpr c36
                                        have c36b1 : ((bt a0 x10_3) != 9) = true := bne_iff_ne.mpr c36
                                        have H' := Aside0.mk H
                                        clear H
                                        have hcz38_0 : wr.cell? ⟨gb141, 0, none⟩ = some (.int .i64 ((rd_T49 t131 x7_1).f0)) := (blk_cell BK141.out 0).trans rfl
                                        have hcz38_1 : wr.cell? ⟨gb141, 1, none⟩ = some (.string ((rd_T49 t131 x7_1).f1)) := (blk_cell BK141.out 1).trans rfl
                                        have hcz38_2 : wr.cell? ⟨gb141, 2, none⟩ = some (.int .i64 ((rd_T49 t131 x7_1).f2)) := (blk_cell BK141.out 2).trans rfl
                                        have hfz38_0 := blk_frozen BK141.out 0
                                        have hfz38_1 := blk_frozen BK141.out 1
                                        have hfz38_2 := blk_frozen BK141.out 2
                                        have p29 : 0 ≤ (x10_3 : Int) := of_decide_eq_true (by first | (with_reducible assumption) | assumption)
                                        have q29 : x10_3 < (a0.size : Int) := of_decide_eq_true (by first | (with_reducible assumption) | assumption)
                                        have hx29 := bt_at a0 x10_3
                                        replace p29 := eq_true p29
                                        replace q29 := eq_true q29
                                        go_wp2
                                        repeat (go_quiet (fail); try go_wp2)
                                        go_roundg k3
                                        case measure => have := HK1.out; have := HJ10.out; have := HK3.out; omega
                                        case rel => exact ⟨(((bt a0 x10_3) == 35)), (wrap64 (x10_3 + 1)), (by first | rfl | (simp; done) | (simp [bne]; done) | (simp [*]; done)), (by first | rfl | (simp; done) | (simp [bne]; done) | (simp [*]; done)), H', ⟨by have := HK1.out; have := HJ10.out; have := HK3.out; omega⟩, ⟨by (with_reducible repeat (first | apply Kd.R_alloc | apply Kd.R_drewN | apply Kd.R_drew)); exact HO_3.out⟩, ⟨by (with_reducible repeat (first | refine blk_drewN ?_ _ | refine blk_drew ?_ | refine blk_alloc ?_ _)); exact BK141.out⟩, ⟨by repeat (first | (with_reducible first | exact HB.out | apply below_alloc | apply pw_below_drewN | apply below_drew1 | refine below_set ?_ GE141.out) | exact HB.out)⟩⟩
                                · rw [if_neg c31] at H
                                  have c31b0 : ((bt a0 x10_3) == 10) = false := beq_eq_false_iff_ne.mpr c31
                                  have c31b1 : ((bt a0 x10_3) != 10) = true := bne_iff_ne.mpr c31
                                  have H' := Aside0.mk H
                                  clear H
                                  have hcz39_0 : wr.cell? ⟨gb141, 0, none⟩ = some (.int .i64 ((rd_T49 t131 x7_1).f0)) := (blk_cell BK141.out 0).trans rfl
                                  have hcz39_1 : wr.cell? ⟨gb141, 1, none⟩ = some (.string ((rd_T49 t131 x7_1).f1)) := (blk_cell BK141.out 1).trans rfl
                                  have hcz39_2 : wr.cell? ⟨gb141, 2, none⟩ = some (.int .i64 ((rd_T49 t131 x7_1).f2)) := (blk_cell BK141.out 2).trans rfl
                                  have hfz39_0 := blk_frozen BK141.out 0
                                  have hfz39_1 := blk_frozen BK141.out 1
                                  have hfz39_2 := blk_frozen BK141.out 2
                                  have p29 : 0 ≤ (x10_3 : Int) := of_decide_eq_true (by first | (with_reducible assumption) | assumption)
                                  have q29 : x10_3 < (a0.size : Int) := of_decide_eq_true (by first | (with_reducible assumption) | assumption)
                                  have hx29 := bt_at a0 x10_3
                                  replace p29 := eq_true p29
                                  replace q29 := eq_true q29
                                  go_wp2
                                  repeat (go_quiet (fail); try go_wp2)
                                  go_roundg k3
                                  case measure => have := HK1.out; have := HJ10.out; have := HK3.out; omega
                                  case rel => exact ⟨(true), (wrap64 (x10_3 + 1)), (by first | rfl | (simp; done) | (simp [bne]; done) | (simp [*]; done)), (by first | rfl | (simp; done) | (simp [bne]; done) | (simp [*]; done)), H', ⟨by have := HK1.out; have := HJ10.out; have := HK3.out; omega⟩, ⟨by (with_reducible repeat (first | apply Kd.R_alloc | apply Kd.R_drewN | apply Kd.R_drew)); exact HO_3.out⟩, ⟨by (with_reducible repeat (first | refine blk_drewN ?_ _ | refine blk_drew ?_ | refine blk_alloc ?_ _)); exact BK141.out⟩, ⟨by repeat (first | (with_reducible first | exact HB.out | apply below_alloc | apply pw_below_drewN | apply below_drew1 | refine below_set ?_ GE141.out) | exact HB.out)⟩⟩
                              · replace c30 := Bool.eq_false_iff.mpr c30
                                subst c30
                                have H1 : (if ((bt a0 x10_3) = 35) then (aquiferlaw11_LexTexts.l1 k3 a0 t131 x7_1 ((bt a0 x10_3) == 35) (wrap64 (x10_3 + 1)) ((rd_T49 t131 x7_1).f0) ((rd_T49 t131 x7_1).f1) ((rd_T49 t131 x7_1).f2)) else (if (bt a0 x10_3) = 32 then (aquiferlaw11_LexTexts.l1 k3 a0 t131 x7_1 ((bt a0 x10_3) == 35) (wrap64 (x10_3 + 1)) ((rd_T49 t131 x7_1).f0) ((rd_T49 t131 x7_1).f1) ((rd_T49 t131 x7_1).f2)) else (if (bt a0 x10_3) = 9 then (aquiferlaw11_LexTexts.l1 k3 a0 t131 x7_1 ((bt a0 x10_3) == 35) (wrap64 (x10_3 + 1)) ((rd_T49 t131 x7_1).f0) ((rd_T49 t131 x7_1).f1) ((rd_T49 t131 x7_1).f2)) else (if (bt a0 x10_3) = 10 then (aquiferlaw11_LexTexts.l1 k3 a0 t131 x7_1 ((bt a0 x10_3) == 35) (wrap64 (x10_3 + 1)) ((rd_T49 t131 x7_1).f0) ((rd_T49 t131 x7_1).f1) ((rd_T49 t131 x7_1).f2)) else (if (bt a0 x10_3) = 13 then (aquiferlaw11_LexTexts.l1 k3 a0 t131 x7_1 ((bt a0 x10_3) == 35) (wrap64 (x10_3 + 1)) ((rd_T49 t131 x7_1).f0) ((rd_T49 t131 x7_1).f1) ((rd_T49 t131 x7_1).f2)) else (some false)))))) = some r := by rw [if_neg (show ¬ (false = true) by decide)] at H; exact H
                                clear H
                                have H := H1
                                clear H1
                                by_cases c40 : ((bt a0 x10_3) = 35)
                                · rw [if_pos c40] at H
                                  have c40b0 : ((bt a0 x10_3) == 35) = true := beq_iff_eq.mpr c40
                                  have c40b1 : ((bt a0 x10_3) != 35) = false := bne_eq_false_iff_eq.mpr c40
                                  clear c40
                                  have H' := Aside0.mk H
                                  clear H
                                  have hcz41_0 : wr.cell? ⟨gb141, 0, none⟩ = some (.int .i64 ((rd_T49 t131 x7_1).f0)) := (blk_cell BK141.out 0).trans rfl
                                  have hcz41_1 : wr.cell? ⟨gb141, 1, none⟩ = some (.string ((rd_T49 t131 x7_1).f1)) := (blk_cell BK141.out 1).trans rfl
                                  have hcz41_2 : wr.cell? ⟨gb141, 2, none⟩ = some (.int .i64 ((rd_T49 t131 x7_1).f2)) := (blk_cell BK141.out 2).trans rfl
                                  have hfz41_0 := blk_frozen BK141.out 0
                                  have hfz41_1 := blk_frozen BK141.out 1
                                  have hfz41_2 := blk_frozen BK141.out 2
                                  have p29 : 0 ≤ (x10_3 : Int) := of_decide_eq_true (by first | (with_reducible assumption) | assumption)
                                  have q29 : x10_3 < (a0.size : Int) := of_decide_eq_true (by first | (with_reducible assumption) | assumption)
                                  have hx29 := bt_at a0 x10_3
                                  replace p29 := eq_true p29
                                  replace q29 := eq_true q29
                                  go_wp2
                                  repeat (go_quiet (fail); try go_wp2)
                                  go_roundg k3
                                  case measure => have := HK1.out; have := HJ10.out; have := HK3.out; omega
                                  case rel => exact ⟨(((bt a0 x10_3) == 35)), (wrap64 (x10_3 + 1)), (by first | rfl | (simp; done) | (simp [bne]; done) | (simp [*]; done)), (by first | rfl | (simp; done) | (simp [bne]; done) | (simp [*]; done)), H', ⟨by have := HK1.out; have := HJ10.out; have := HK3.out; omega⟩, ⟨by (with_reducible repeat (first | apply Kd.R_alloc | apply Kd.R_drewN | apply Kd.R_drew)); exact HO_3.out⟩, ⟨by (with_reducible repeat (first | refine blk_drewN ?_ _ | refine blk_drew ?_ | refine blk_alloc ?_ _)); exact BK141.out⟩, ⟨by repeat (first | (with_reducible first | exact HB.out | apply below_alloc | apply pw_below_drewN | apply below_drew1 | refine below_set ?_ GE141.out) | exact HB.out)⟩⟩
                                · rw [if_neg c40] at H
                                  have c40b0 : ((bt a0 x10_3) == 35) = false := beq_eq_false_iff_ne.mpr c40
                                  have c40b1 : ((bt a0 x10_3) != 35) = true := bne_iff_ne.mpr c40
                                  by_cases c42 : (bt a0 x10_3) = 32
                                  · rw [if_pos c42] at H
                                    have c42b0 : ((bt a0 x10_3) == 32) = true := beq_iff_eq.mpr c42
                                    have c42b1 : ((bt a0 x10_3) != 32) = false := bne_eq_false_iff_eq.mpr c42
                                    clear c42
                                    have H' := Aside0.mk H
                                    clear H
                                    have hcz43_0 : wr.cell? ⟨gb141, 0, none⟩ = some (.int .i64 ((rd_T49 t131 x7_1).f0)) := (blk_cell BK141.out 0).trans rfl
                                    have hcz43_1 : wr.cell? ⟨gb141, 1, none⟩ = some (.string ((rd_T49 t131 x7_1).f1)) := (blk_cell BK141.out 1).trans rfl
                                    have hcz43_2 : wr.cell? ⟨gb141, 2, none⟩ = some (.int .i64 ((rd_T49 t131 x7_1).f2)) := (blk_cell BK141.out 2).trans rfl
                                    have hfz43_0 := blk_frozen BK141.out 0
                                    have hfz43_1 := blk_frozen BK141.out 1
                                    have hfz43_2 := blk_frozen BK141.out 2
                                    have p29 : 0 ≤ (x10_3 : Int) := of_decide_eq_true (by first | (with_reducible assumption) | assumption)
                                    have q29 : x10_3 < (a0.size : Int) := of_decide_eq_true (by first | (with_reducible assumption) | assumption)
                                    have hx29 := bt_at a0 x10_3
                                    replace p29 := eq_true p29
                                    replace q29 := eq_true q29
                                    go_wp2
                                    repeat (go_quiet (fail); try go_wp2)
                                    go_roundg k3
                                    case measure => have := HK1.out; have := HJ10.out; have := HK3.out; omega
                                    case rel => exact ⟨(((bt a0 x10_3) == 35)), (wrap64 (x10_3 + 1)), (by first | rfl | (simp; done) | (simp [bne]; done) | (simp [*]; done)), (by first | rfl | (simp; done) | (simp [bne]; done) | (simp [*]; done)), H', ⟨by have := HK1.out; have := HJ10.out; have := HK3.out; omega⟩, ⟨by (with_reducible repeat (first | apply Kd.R_alloc | apply Kd.R_drewN | apply Kd.R_drew)); exact HO_3.out⟩, ⟨by (with_reducible repeat (first | refine blk_drewN ?_ _ | refine blk_drew ?_ | refine blk_alloc ?_ _)); exact BK141.out⟩, ⟨by repeat (first | (with_reducible first | exact HB.out | apply below_alloc | apply pw_below_drewN | apply below_drew1 | refine below_set ?_ GE141.out) | exact HB.out)⟩⟩
                                  · rw [if_neg c42] at H
                                    have c42b0 : ((bt a0 x10_3) == 32) = false := beq_eq_false_iff_ne.mpr c42
                                    have c42b1 : ((bt a0 x10_3) != 32) = true := bne_iff_ne.mpr c42
                                    by_cases c44 : (bt a0 x10_3) = 9
                                    · rw [if_pos c44] at H
                                      have c44b0 : ((bt a0 x10_3) == 9) = true := beq_iff_eq.mpr c44
                                      have c44b1 : ((bt a0 x10_3) != 9) = false := bne_eq_false_iff_eq.mpr c44
                                      clear c44
                                      have H' := Aside0.mk H
                                      clear H
                                      have hcz45_0 : wr.cell? ⟨gb141, 0, none⟩ = some (.int .i64 ((rd_T49 t131 x7_1).f0)) := (blk_cell BK141.out 0).trans rfl
                                      have hcz45_1 : wr.cell? ⟨gb141, 1, none⟩ = some (.string ((rd_T49 t131 x7_1).f1)) := (blk_cell BK141.out 1).trans rfl
                                      have hcz45_2 : wr.cell? ⟨gb141, 2, none⟩ = some (.int .i64 ((rd_T49 t131 x7_1).f2)) := (blk_cell BK141.out 2).trans rfl
                                      have hfz45_0 := blk_frozen BK141.out 0
                                      have hfz45_1 := blk_frozen BK141.out 1
                                      have hfz45_2 := blk_frozen BK141.out 2
                                      have p29 : 0 ≤ (x10_3 : Int) := of_decide_eq_true (by first | (with_reducible assumption) | assumption)
                                      have q29 : x10_3 < (a0.size : Int) := of_decide_eq_true (by first | (with_reducible assumption) | assumption)
                                      have hx29 := bt_at a0 x10_3
                                      replace p29 := eq_true p29
                                      replace q29 := eq_true q29
                                      go_wp2
                                      repeat (go_quiet (fail); try go_wp2)
                                      go_roundg k3
                                      case measure => have := HK1.out; have := HJ10.out; have := HK3.out; omega
                                      case rel => exact ⟨(((bt a0 x10_3) == 35)), (wrap64 (x10_3 + 1)), (by first | rfl | (simp; done) | (simp [bne]; done) | (simp [*]; done)), (by first | rfl | (simp; done) | (simp [bne]; done) | (simp [*]; done)), H', ⟨by have := HK1.out; have := HJ10.out; have := HK3.out; omega⟩, ⟨by (with_reducible repeat (first | apply Kd.R_alloc | apply Kd.R_drewN | apply Kd.R_drew)); exact HO_3.out⟩, ⟨by (with_reducible repeat (first | refine blk_drewN ?_ _ | refine blk_drew ?_ | refine blk_alloc ?_ _)); exact BK141.out⟩, ⟨by repeat (first | (with_reducible first | exact HB.out | apply below_alloc | apply pw_below_drewN | apply below_drew1 | refine below_set ?_ GE141.out) | exact HB.out)⟩⟩
                                    · rw [if_neg c44] at H
                                      have c44b0 : ((bt a0 x10_3) == 9) = false := beq_eq_false_iff_ne.mpr c44
                                      have c44b1 : ((bt a0 x10_3) != 9) = true := bne_iff_ne.mpr c44
                                      by_cases c46 : (bt a0 x10_3) = 10
                                      · rw [if_pos c46] at H
                                        have c46b0 : ((bt a0 x10_3) == 10) = true := beq_iff_eq.mpr c46
                                        have c46b1 : ((bt a0 x10_3) != 10) = false := bne_eq_false_iff_eq.mpr c46
                                        clear c46
                                        have H' := Aside0.mk H
                                        clear H
                                        have hcz47_0 : wr.cell? ⟨gb141, 0, none⟩ = some (.int .i64 ((rd_T49 t131 x7_1).f0)) := (blk_cell BK141.out 0).trans rfl
                                        have hcz47_1 : wr.cell? ⟨gb141, 1, none⟩ = some (.string ((rd_T49 t131 x7_1).f1)) := (blk_cell BK141.out 1).trans rfl
                                        have hcz47_2 : wr.cell? ⟨gb141, 2, none⟩ = some (.int .i64 ((rd_T49 t131 x7_1).f2)) := (blk_cell BK141.out 2).trans rfl
                                        have hfz47_0 := blk_frozen BK141.out 0
                                        have hfz47_1 := blk_frozen BK141.out 1
                                        have hfz47_2 := blk_frozen BK141.out 2
                                        have p29 : 0 ≤ (x10_3 : Int) := of_decide_eq_true (by first | (with_reducible assumption) | assumption)
                                        have q29 : x10_3 < (a0.size : Int) := of_decide_eq_true (by first | (with_reducible assumption) | assumption)
                                        have hx29 := bt_at a0 x10_3
                                        replace p29 := eq_true p29
                                        replace q29 := eq_true q29
                                        go_wp2
                                        repeat (go_quiet (fail); try go_wp2)
                                        go_roundg k3
                                        case measure => have := HK1.out; have := HJ10.out; have := HK3.out; omega
                                        case rel => exact ⟨(((bt a0 x10_3) == 35)), (wrap64 (x10_3 + 1)), (by first | rfl | (simp; done) | (simp [bne]; done) | (simp [*]; done)), (by first | rfl | (simp; done) | (simp [bne]; done) | (simp [*]; done)), H', ⟨by have := HK1.out; have := HJ10.out; have := HK3.out; omega⟩, ⟨by (with_reducible repeat (first | apply Kd.R_alloc | apply Kd.R_drewN | apply Kd.R_drew)); exact HO_3.out⟩, ⟨by (with_reducible repeat (first | refine blk_drewN ?_ _ | refine blk_drew ?_ | refine blk_alloc ?_ _)); exact BK141.out⟩, ⟨by repeat (first | (with_reducible first | exact HB.out | apply below_alloc | apply pw_below_drewN | apply below_drew1 | refine below_set ?_ GE141.out) | exact HB.out)⟩⟩
                                      · rw [if_neg c46] at H
                                        have c46b0 : ((bt a0 x10_3) == 10) = false := beq_eq_false_iff_ne.mpr c46
                                        have c46b1 : ((bt a0 x10_3) != 10) = true := bne_iff_ne.mpr c46
                                        by_cases c48 : (bt a0 x10_3) = 13
                                        · rw [if_pos c48] at H
                                          have c48b0 : ((bt a0 x10_3) == 13) = true := beq_iff_eq.mpr c48
                                          have c48b1 : ((bt a0 x10_3) != 13) = false := bne_eq_false_iff_eq.mpr c48
                                          clear c48
                                          have H' := Aside0.mk H
                                          clear H
                                          have hcz49_0 : wr.cell? ⟨gb141, 0, none⟩ = some (.int .i64 ((rd_T49 t131 x7_1).f0)) := (blk_cell BK141.out 0).trans rfl
                                          have hcz49_1 : wr.cell? ⟨gb141, 1, none⟩ = some (.string ((rd_T49 t131 x7_1).f1)) := (blk_cell BK141.out 1).trans rfl
                                          have hcz49_2 : wr.cell? ⟨gb141, 2, none⟩ = some (.int .i64 ((rd_T49 t131 x7_1).f2)) := (blk_cell BK141.out 2).trans rfl
                                          have hfz49_0 := blk_frozen BK141.out 0
                                          have hfz49_1 := blk_frozen BK141.out 1
                                          have hfz49_2 := blk_frozen BK141.out 2
                                          have p29 : 0 ≤ (x10_3 : Int) := of_decide_eq_true (by first | (with_reducible assumption) | assumption)
                                          have q29 : x10_3 < (a0.size : Int) := of_decide_eq_true (by first | (with_reducible assumption) | assumption)
                                          have hx29 := bt_at a0 x10_3
                                          replace p29 := eq_true p29
                                          replace q29 := eq_true q29
                                          go_wp2
                                          repeat (go_quiet (fail); try go_wp2)
                                          go_roundg k3
                                          case measure => have := HK1.out; have := HJ10.out; have := HK3.out; omega
                                          case rel => exact ⟨(((bt a0 x10_3) == 35)), (wrap64 (x10_3 + 1)), (by first | rfl | (simp; done) | (simp [bne]; done) | (simp [*]; done)), (by first | rfl | (simp; done) | (simp [bne]; done) | (simp [*]; done)), H', ⟨by have := HK1.out; have := HJ10.out; have := HK3.out; omega⟩, ⟨by (with_reducible repeat (first | apply Kd.R_alloc | apply Kd.R_drewN | apply Kd.R_drew)); exact HO_3.out⟩, ⟨by (with_reducible repeat (first | refine blk_drewN ?_ _ | refine blk_drew ?_ | refine blk_alloc ?_ _)); exact BK141.out⟩, ⟨by repeat (first | (with_reducible first | exact HB.out | apply below_alloc | apply pw_below_drewN | apply below_drew1 | refine below_set ?_ GE141.out) | exact HB.out)⟩⟩
                                        · rw [if_neg c48] at H
                                          have c48b0 : ((bt a0 x10_3) == 13) = false := beq_eq_false_iff_ne.mpr c48
                                          have c48b1 : ((bt a0 x10_3) != 13) = true := bne_iff_ne.mpr c48
                                          exact absurd (HLT_.out.symm.trans (Option.some.inj H).symm) (by decide)
                            · rw [if_neg c28] at H
                              exact absurd H (by simp)
                          · rw [if_neg c27] at H
                            exact absurd H (by simp)
                        · rw [if_neg c26] at H
                          have c26b0 : decide (x10_3 < ((rd_T49 t131 x7_1).f2)) = false := decide_eq_false c26
                          clear c26
                          have H' := Aside0.mk H
                          clear H
                          have hcz50_0 : wr.cell? ⟨gb141, 0, none⟩ = some (.int .i64 ((rd_T49 t131 x7_1).f0)) := (blk_cell BK141.out 0).trans rfl
                          have hcz50_1 : wr.cell? ⟨gb141, 1, none⟩ = some (.string ((rd_T49 t131 x7_1).f1)) := (blk_cell BK141.out 1).trans rfl
                          have hcz50_2 : wr.cell? ⟨gb141, 2, none⟩ = some (.int .i64 ((rd_T49 t131 x7_1).f2)) := (blk_cell BK141.out 2).trans rfl
                          have hfz50_0 := blk_frozen BK141.out 0
                          have hfz50_1 := blk_frozen BK141.out 1
                          have hfz50_2 := blk_frozen BK141.out 2
                          go_wp2
                          repeat (go_quiet (fail); try go_wp2)
                          go_roundg k3
                          case measure => have := HK1.out; have := HJ10.out; have := HK3.out; omega
                          case rel => exact ⟨(wrap64 (((rd_T49 t131 x7_1).f2) + (((rd_T49 t131 x7_1).f1).size : Int))), (wrap64 (x7_1 + 1)), (by first | rfl | (simp; done) | (simp [bne]; done) | (simp [*]; done)), (by first | rfl | (simp; done) | (simp [bne]; done) | (simp [*]; done)), H', ⟨by have := HK1.out; have := HJ10.out; have := HK3.out; omega⟩, ⟨by (with_reducible repeat (first | apply Kd.R_alloc | apply Kd.R_drewN | apply Kd.R_drew)); exact Kd.R_mono HO_3.out (fun _ hk => trivial)⟩, ⟨by repeat (first | (with_reducible first | exact HB.out | apply below_alloc | apply pw_below_drewN | apply below_drew1 | refine below_set ?_ GE141.out) | exact HB.out)⟩⟩
            · rw [if_neg c10] at H
              exact absurd H (by simp)
          · rw [if_neg c9] at H
            have c9b0 : decide (x7_1 < (t131.length : Int)) = false := decide_eq_false c9
            clear c9
            by_cases c51 : (t131.length : Int) > 0
            · rw [if_pos c51] at H
              have c51b0 : decide (0 < (t131.length : Int)) = true := decide_eq_true c51
              have c51b1 : decide (0 < t131.length) = true := decide_eq_true (by omega)
              clear c51
              obtain ⟨ji52, hji52⟩ : ∃ j_ : Int, (wrap64 ((t131.length : Int) - 1)) = j_ := ⟨_, rfl⟩
              replace H : (if 0 ≤ (ji52) then (if (ji52) < (t131.length : Int) then (if ((rd_T49 t131 (ji52)).f2) = (a0.size : Int) then ((aquiferlaw11_awake.f k1).bind fun t139 => (some t139)) else (some false)) else (none)) else (none)) = some r := by first | (rw [hji52] at H; exact H) | (simp only [hji52] at H ⊢; exact H)
              have hji52w : (IntKind.i64.wrap ((t131.length : Int) - 1)) = ji52 := (i64_w _).trans hji52
              by_cases c53 : 0 ≤ (ji52)
              · rw [if_pos c53] at H
                have c53b0 : decide (0 ≤ (ji52)) = true := decide_eq_true c53
                clear c53
                by_cases c54 : (ji52) < (t131.length : Int)
                · rw [if_pos c54] at H
                  have c54b0 : decide ((ji52) < (t131.length : Int)) = true := decide_eq_true c54
                  clear c54
                  by_cases c55 : ((rd_T49 t131 (ji52)).f2) = (a0.size : Int)
                  · rw [if_pos c55] at H
                    have c55b0 : (((rd_T49 t131 (ji52)).f2) == (a0.size : Int)) = true := beq_iff_eq.mpr c55
                    have c55b1 : (((rd_T49 t131 (ji52)).f2) != (a0.size : Int)) = false := bne_eq_false_iff_eq.mpr c55
                    clear c55
                    replace H := Option.bind_eq_some_iff.mp H
                    obtain ⟨t139, A560, H⟩ := H
                    replace H : (some t139) = some r := H
                    have A56 := Aside0.mk A560
                    clear A560
                    obtain rfl := Option.some.inj H
                    obtain ⟨Ao57, co57, eo57⟩ := Kd.R_slice HO_3.out
                    subst eo57
                    have p138 : 0 ≤ ((ji52) : Int) := of_decide_eq_true (by first | (with_reducible assumption) | assumption)
                    have q138 : (ji52) < (t131.length : Int) := of_decide_eq_true (by first | (with_reducible assumption) | assumption)
                    obtain ⟨ad138, e138, hx138_0, hx138_1, hx138_2⟩ := at_T49 (Kd.R_reads' HO_3.out).2.2 (ji52) p138 q138
                    cases e138
                    replace p138 := eq_true p138
                    replace q138 := eq_true q138
                    go_wp2_with (first | (go_at_call 20; (with_reducible refine (aquiferlaw11_awake.calls k1  t139 _ A56.out).mono ?_); rintro e w58 ⟨rfl, hb⟩; have n0_ := Aside0.mk (Kd.R_below (by (with_reducible repeat (first | apply Kd.R_alloc | apply Kd.R_drewN | apply Kd.R_drew)); exact HO_3.out) hb); have n1_ := Aside0.mk (below_step (by repeat (first | (with_reducible first | exact HB.out | apply below_alloc | apply pw_below_drewN | apply below_drew1) | exact HB.out)) hb); clear HO_3; clear HB; have HO_3 := n0_; have HB := n1_; clear n0_ n1_; (try clear hb); (try clear hb2); (try clear hk); (try clear hi)))
                    repeat (go_quiet (first | (go_at_call 20; (with_reducible refine (aquiferlaw11_awake.calls k1  t139 _ A56.out).mono ?_); rintro e w58 ⟨rfl, hb⟩; have n0_ := Aside0.mk (Kd.R_below (by (with_reducible repeat (first | apply Kd.R_alloc | apply Kd.R_drewN | apply Kd.R_drew)); exact HO_3.out) hb); have n1_ := Aside0.mk (below_step (by repeat (first | (with_reducible first | exact HB.out | apply below_alloc | apply pw_below_drewN | apply below_drew1) | exact HB.out)) hb); clear HO_3; clear HB; have HO_3 := n0_; have HB := n1_; clear n0_ n1_; (try clear hb); (try clear hb2); (try clear hk); (try clear hi))); try go_wp2_with (first | (go_at_call 20; (with_reducible refine (aquiferlaw11_awake.calls k1  t139 _ A56.out).mono ?_); rintro e w58 ⟨rfl, hb⟩; have n0_ := Aside0.mk (Kd.R_below (by (with_reducible repeat (first | apply Kd.R_alloc | apply Kd.R_drewN | apply Kd.R_drew)); exact HO_3.out) hb); have n1_ := Aside0.mk (below_step (by repeat (first | (with_reducible first | exact HB.out | apply below_alloc | apply pw_below_drewN | apply below_drew1) | exact HB.out)) hb); clear HO_3; clear HB; have HO_3 := n0_; have HB := n1_; clear n0_ n1_; (try clear hb); (try clear hb2); (try clear hk); (try clear hi))))
                    go_ret
                    exact ⟨by first | rfl | (simp [errW_none, errW_some] <;> rfl) | (simp only [← hji52]; first | rfl | (simp [errW_none, errW_some] <;> rfl)) | (simp [*, errW_none, errW_some] <;> rfl), by repeat (first | (with_reducible first | exact HB.out | apply below_alloc | apply pw_below_drewN | apply below_drew1) | exact HB.out)⟩
                  · rw [if_neg c55] at H
                    have c55b0 : (((rd_T49 t131 (ji52)).f2) == (a0.size : Int)) = false := beq_eq_false_iff_ne.mpr c55
                    have c55b1 : (((rd_T49 t131 (ji52)).f2) != (a0.size : Int)) = true := bne_iff_ne.mpr c55
                    exact absurd (HLT_.out.symm.trans (Option.some.inj H).symm) (by decide)
                · rw [if_neg c54] at H
                  exact absurd H (by simp)
              · rw [if_neg c53] at H
                exact absurd H (by simp)
            · rw [if_neg c51] at H
              have c51b0 : decide (0 < (t131.length : Int)) = false := decide_eq_false c51
              have c51b1 : decide (0 < t131.length) = false := decide_eq_false (by omega)
              clear c51
              exact absurd (HLT_.out.symm.trans (Option.some.inj H).symm) (by decide)
    · rw [if_neg c7] at H
      have c7b0 : (t136 == 0) = false := beq_eq_false_iff_ne.mpr c7
      have c7b1 : (t136 != 0) = true := bne_iff_ne.mpr c7
      by_cases c59 : (t131.length : Int) = 0
      · rw [if_pos c59] at H
        have c59b0 : ((t131.length : Int) == 0) = true := beq_iff_eq.mpr c59
        have c59b1 : ((t131.length : Int) != 0) = false := bne_eq_false_iff_eq.mpr c59
        clear c59
        replace H := Option.bind_eq_some_iff.mp H
        obtain ⟨t137, A600, H⟩ := H
        replace H : (some t137) = some r := H
        have A60 := Aside0.mk A600
        clear A600
        obtain rfl := Option.some.inj H
        go_enter Try.func8, Try.ntmps8
        go_wp2_with (first | (go_at_call 21; (with_reducible refine (lex_Lex.calls k a0 t131 t132 t133 _ A5.out).mono ?_); rintro e w61 ⟨v134, rfl, ho0, hb⟩; have n0_ := Aside0.mk (Kd.R_lower ho0 (below_size (by repeat (first | (with_reducible first | exact HB.out | apply below_alloc | apply pw_below_drewN | apply below_drew1) | exact HB.out)))); have n1_ := Aside0.mk (below_step (by repeat (first | (with_reducible first | exact HB.out | apply below_alloc | apply pw_below_drewN | apply below_drew1) | exact HB.out)) hb); clear HB; have HO135 := n0_; have HB := n1_; clear n0_ n1_; (try clear hb); (try clear hb2); (try clear hk); (try clear hi); (try clear ho0)) | (go_at_call 17; (with_reducible refine (aquiferlaw1_Num.calls t132 t136 _ A6.out).mono ?_); rintro e w' ⟨rfl, ⟨nd, rfl⟩⟩; (try first | exact ⟨rfl, _, World.drewN_drewN _ _ _⟩ | exact ⟨rfl, _, Eq.trans (World.drewN_drewN _ _ _) (congrArg (World.drewN _) (Nat.add_assoc _ _ _))⟩); obtain ⟨Ao62, co62, eo62⟩ := Kd.R_slice HO135.out; subst eo62) | (go_at_call 20; (with_reducible refine (aquiferlaw11_awake.calls k  t137 _ A60.out).mono ?_); rintro e w63 ⟨rfl, hb⟩; have n0_ := Aside0.mk (Kd.R_below (by (with_reducible repeat (first | apply Kd.R_alloc | apply Kd.R_drewN | apply Kd.R_drew)); exact HO135.out) hb); have n1_ := Aside0.mk (below_step (by repeat (first | (with_reducible first | exact HB.out | apply below_alloc | apply pw_below_drewN | apply below_drew1) | exact HB.out)) hb); clear HO135; clear HB; have HO135 := n0_; have HB := n1_; clear n0_ n1_; (try clear hb); (try clear hb2); (try clear hk); (try clear hi)))
        repeat (go_quiet (first | (go_at_call 21; (with_reducible refine (lex_Lex.calls k a0 t131 t132 t133 _ A5.out).mono ?_); rintro e w61 ⟨v134, rfl, ho0, hb⟩; have n0_ := Aside0.mk (Kd.R_lower ho0 (below_size (by repeat (first | (with_reducible first | exact HB.out | apply below_alloc | apply pw_below_drewN | apply below_drew1) | exact HB.out)))); have n1_ := Aside0.mk (below_step (by repeat (first | (with_reducible first | exact HB.out | apply below_alloc | apply pw_below_drewN | apply below_drew1) | exact HB.out)) hb); clear HB; have HO135 := n0_; have HB := n1_; clear n0_ n1_; (try clear hb); (try clear hb2); (try clear hk); (try clear hi); (try clear ho0)) | (go_at_call 17; (with_reducible refine (aquiferlaw1_Num.calls t132 t136 _ A6.out).mono ?_); rintro e w' ⟨rfl, ⟨nd, rfl⟩⟩; (try first | exact ⟨rfl, _, World.drewN_drewN _ _ _⟩ | exact ⟨rfl, _, Eq.trans (World.drewN_drewN _ _ _) (congrArg (World.drewN _) (Nat.add_assoc _ _ _))⟩); obtain ⟨Ao62, co62, eo62⟩ := Kd.R_slice HO135.out; subst eo62) | (go_at_call 20; (with_reducible refine (aquiferlaw11_awake.calls k  t137 _ A60.out).mono ?_); rintro e w63 ⟨rfl, hb⟩; have n0_ := Aside0.mk (Kd.R_below (by (with_reducible repeat (first | apply Kd.R_alloc | apply Kd.R_drewN | apply Kd.R_drew)); exact HO135.out) hb); have n1_ := Aside0.mk (below_step (by repeat (first | (with_reducible first | exact HB.out | apply below_alloc | apply pw_below_drewN | apply below_drew1) | exact HB.out)) hb); clear HO135; clear HB; have HO135 := n0_; have HB := n1_; clear n0_ n1_; (try clear hb); (try clear hb2); (try clear hk); (try clear hi))); try go_wp2_with (first | (go_at_call 21; (with_reducible refine (lex_Lex.calls k a0 t131 t132 t133 _ A5.out).mono ?_); rintro e w61 ⟨v134, rfl, ho0, hb⟩; have n0_ := Aside0.mk (Kd.R_lower ho0 (below_size (by repeat (first | (with_reducible first | exact HB.out | apply below_alloc | apply pw_below_drewN | apply below_drew1) | exact HB.out)))); have n1_ := Aside0.mk (below_step (by repeat (first | (with_reducible first | exact HB.out | apply below_alloc | apply pw_below_drewN | apply below_drew1) | exact HB.out)) hb); clear HB; have HO135 := n0_; have HB := n1_; clear n0_ n1_; (try clear hb); (try clear hb2); (try clear hk); (try clear hi); (try clear ho0)) | (go_at_call 17; (with_reducible refine (aquiferlaw1_Num.calls t132 t136 _ A6.out).mono ?_); rintro e w' ⟨rfl, ⟨nd, rfl⟩⟩; (try first | exact ⟨rfl, _, World.drewN_drewN _ _ _⟩ | exact ⟨rfl, _, Eq.trans (World.drewN_drewN _ _ _) (congrArg (World.drewN _) (Nat.add_assoc _ _ _))⟩); obtain ⟨Ao62, co62, eo62⟩ := Kd.R_slice HO135.out; subst eo62) | (go_at_call 20; (with_reducible refine (aquiferlaw11_awake.calls k  t137 _ A60.out).mono ?_); rintro e w63 ⟨rfl, hb⟩; have n0_ := Aside0.mk (Kd.R_below (by (with_reducible repeat (first | apply Kd.R_alloc | apply Kd.R_drewN | apply Kd.R_drew)); exact HO135.out) hb); have n1_ := Aside0.mk (below_step (by repeat (first | (with_reducible first | exact HB.out | apply below_alloc | apply pw_below_drewN | apply below_drew1) | exact HB.out)) hb); clear HO135; clear HB; have HO135 := n0_; have HB := n1_; clear n0_ n1_; (try clear hb); (try clear hb2); (try clear hk); (try clear hi))))
        go_ret
        exact ⟨by first | rfl | (simp [errW_none, errW_some] <;> rfl) | (simp [*, errW_none, errW_some] <;> rfl), by repeat (first | (with_reducible first | exact HB.out | apply below_alloc | apply pw_below_drewN | apply below_drew1) | exact HB.out)⟩
      · rw [if_neg c59] at H
        have c59b0 : ((t131.length : Int) == 0) = false := beq_eq_false_iff_ne.mpr c59
        have c59b1 : ((t131.length : Int) != 0) = true := bne_iff_ne.mpr c59
        have c59b2 : ¬ (t131 = []) := fun h_ => c59 (by rw [h_]; rfl)
        exact absurd (HLT_.out.symm.trans (Option.some.inj H).symm) (by decide)

/-- THE ONE PURE STATEMENT of aquiferlaw11_LexTexts: yours. -/
def aquiferlaw11_LexTexts.Pure : Prop := ∀ (a0 : ByteArray), a0.size ≤ 140737488351232 → ∃ k, aquiferlaw11_LexTexts.f k a0 = some true
theorem aquiferlaw11_LexTexts.walk (P : aquiferlaw11_LexTexts.Pure) (a0 : ByteArray) (w : World) (w0 : a0.size ≤ 140737488351232) :
    Calls Try.prog 8 #[.string a0] w fun e w' => e = .returned (.bool true) ∧ Below w.heap.size w w' := by
  obtain ⟨k, h⟩ := P a0 w0
  refine (aquiferlaw11_LexTexts.calls k a0 true w ⟨rfl⟩ h).mono ?_
  rintro e w' ⟨rfl, hd⟩
  exact ⟨rfl, hd⟩

end Go.Proofs.Ytlleenoigcjemaa.QLexTexts
