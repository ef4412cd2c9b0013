-- Written by wip/myprint.py of this session's repo, out of the translation. Lean checks it.
import Derived.Test.YtlleenoigcjemaaQLexJoinsx0
import Derived.Test.YtlleenoigcjemaaQLexJoinsx1
import Derived.Test.YtlleenoigcjemaaQLexJoinsx2
import Derived.Test.YtlleenoigcjemaaQLexJoinsx3
namespace Go.Proofs.Ytlleenoigcjemaa.QLexJoins
open Go.RowKit Go.Proofs.YtlleenoigcjemaaW.PrintWords Go.Proofs.YtlleenoigcjemaaW.PrintLast Go.Proofs.YtlleenoigcjemaaW.PrintMore
attribute [local go_sem] max2_int min2_int max_two min_two max_three min_three max_four min_four   -- for this text's walks alone
set_option linter.unusedVariables false
set_option linter.unusedSimpArgs false

attribute [local go_sem high] eqA49
/-! ### aquiferlaw11_LexJoins: function 9 -/
mutual
def aquiferlaw11_LexJoins.j0 : Nat → ByteArray → ByteArray → Bool → Option (Bool)
  | 0, _, _, _ => none
  | k + 1, x0, x1, x23 => if x23 = true then ((aquiferlaw11_awake.f k).bind fun t130 => (some t130)) else ((lex_Lex.f k x0).bind fun bt131 => ((lex_Lex.f k x1).bind fun bt136 => ((aquiferlaw1_Num.f bt131.2.1).bind fun t141 => (if t141 = 0 then ((aquiferlaw1_Num.f bt136.2.1).bind fun t142 => (aquiferlaw11_LexJoins.j1 k x0 x1 bt131.1 bt136.1 (t142 != 0))) else (aquiferlaw11_LexJoins.j1 k x0 x1 bt131.1 bt136.1 true)))))
def aquiferlaw11_LexJoins.j1 : Nat → ByteArray → ByteArray → List (S49) → List (S49) → Bool → Option (Bool)
  | 0, _, _, _, _, _ => none
  | k + 1, x0, x1, x5, x8, x44 => if x44 = true then ((aquiferlaw11_awake.f k).bind fun t143 => (some t143)) else (if x0.size + 1 ≤ 9223372036854775807 then (if (x0 ++ (⟨#[10]⟩ : ByteArray)).size + x1.size ≤ 9223372036854775807 then ((lex_Lex.f k ((x0 ++ (⟨#[10]⟩ : ByteArray)) ++ x1)).bind fun bt144 => ((aquiferlaw1_Num.f bt144.2.1).bind fun t149 => (if t149 = 0 then (aquiferlaw11_LexJoins.j2 k x0 x5 x8 bt144.1 ((bt144.1.length : Int) != (wrap64 ((wrap64 ((x5.length : Int) + (x8.length : Int))) - 1)))) else (aquiferlaw11_LexJoins.j2 k x0 x5 x8 bt144.1 true)))) else (none)) else (none))
def aquiferlaw11_LexJoins.j2 : Nat → ByteArray → List (S49) → List (S49) → List (S49) → Bool → Option (Bool)
  | 0, _, _, _, _, _ => none
  | k + 1, x0, x5, x8, x11, x68 => if x68 = true then (some false) else (aquiferlaw11_LexJoins.l0 k x0 x5 x8 x11 0)
def aquiferlaw11_LexJoins.l0 : Nat → ByteArray → List (S49) → List (S49) → List (S49) → Int → Option (Bool)
  | 0, _, _, _, _, _ => none
  | k + 1, x0, x5, x8, x11, x14 => if x14 < (x11.length : Int) then (if x14 < (wrap64 ((x5.length : Int) - 1)) then (if 0 ≤ x14 then (if x14 < (x5.length : Int) then (if (!(((rd_T49 x11 x14).f0) == ((rd_T49 x5 x14).f0)) || (!((((rd_T49 x11 x14).f1).toList) == (((rd_T49 x5 x14).f1).toList)) || (!(((rd_T49 x11 x14).f2) == ((rd_T49 x5 x14).f2))))) = true then (some false) else (aquiferlaw11_LexJoins.l0 k x0 x5 x8 x11 (wrap64 (x14 + 1)))) else (none)) else (none)) else (if 0 ≤ (wrap64 ((wrap64 (x14 - (x5.length : Int))) + 1)) then (if (wrap64 ((wrap64 (x14 - (x5.length : Int))) + 1)) < (x8.length : Int) then (if 0 ≤ x14 then (if (!(((rd_T49 x11 x14).f0) == ((rd_T49 x8 (wrap64 ((wrap64 (x14 - (x5.length : Int))) + 1))).f0)) || (!((((rd_T49 x11 x14).f1).toList) == (((rd_T49 x8 (wrap64 ((wrap64 (x14 - (x5.length : Int))) + 1))).f1).toList)) || (!(((rd_T49 x11 x14).f2) == (wrap64 ((wrap64 (((rd_T49 x8 (wrap64 ((wrap64 (x14 - (x5.length : Int))) + 1))).f2) + (x0.size : Int))) + 1)))))) = true then (some false) else (aquiferlaw11_LexJoins.l0 k x0 x5 x8 x11 (wrap64 (x14 + 1)))) else (none)) else (none)) else (none))) else ((aquiferlaw11_awake.f k).bind fun t150 => (some t150))
end
def aquiferlaw11_LexJoins.f (k : Nat) (a0 : ByteArray) (a1 : ByteArray) : Option (Bool) := if (a0.size : Int) > 300 then (aquiferlaw11_LexJoins.j0 k a0 a1 true) else (aquiferlaw11_LexJoins.j0 k a0 a1 (decide ((a1.size : Int) > 300)))
theorem aquiferlaw11_LexJoins.mono_l : ∀ k, (∀ y0 y1 y2, LeO (aquiferlaw11_LexJoins.j0 k y0 y1 y2) (aquiferlaw11_LexJoins.j0 (k + 1) y0 y1 y2)) ∧ (∀ y0 y1 y2 y3 y4, LeO (aquiferlaw11_LexJoins.j1 k y0 y1 y2 y3 y4) (aquiferlaw11_LexJoins.j1 (k + 1) y0 y1 y2 y3 y4)) ∧ (∀ y0 y1 y2 y3 y4, LeO (aquiferlaw11_LexJoins.j2 k y0 y1 y2 y3 y4) (aquiferlaw11_LexJoins.j2 (k + 1) y0 y1 y2 y3 y4)) ∧ (∀ y0 y1 y2 y3 y4, LeO (aquiferlaw11_LexJoins.l0 k y0 y1 y2 y3 y4) (aquiferlaw11_LexJoins.l0 (k + 1) y0 y1 y2 y3 y4))
  | 0 => ⟨fun _ _ _ r h => by simp [aquiferlaw11_LexJoins.j0] at h, fun _ _ _ _ _ r h => by simp [aquiferlaw11_LexJoins.j1] at h, fun _ _ _ _ _ r h => by simp [aquiferlaw11_LexJoins.j2] at h, fun _ _ _ _ _ r h => by simp [aquiferlaw11_LexJoins.l0] at h⟩
  | k + 1 => by
    obtain ⟨ih0, ih1, ih2, ih3⟩ := aquiferlaw11_LexJoins.mono_l k
    refine ⟨?_, ?_, ?_, ?_⟩
    · intro y0 y1 y2
      unfold aquiferlaw11_LexJoins.j0
      repeat' first
      | (with_reducible exact ih0 _ _ _)
      | (with_reducible exact ih1 _ _ _ _ _)
      | (with_reducible exact ih2 _ _ _ _ _)
      | (with_reducible exact ih3 _ _ _ _ _)
      | (with_reducible exact aquiferlaw11_awake.mono _)
      | (with_reducible exact lex_Lex.mono _ _)
      | (with_reducible exact LeO.refl _)
      | (with_reducible exact LeO.none _)
      | (with_reducible refine LeO.ite ?_ ?_)
      | (with_reducible refine LeO.bind ?_ (fun _ => ?_))
      | exact ih0 _ _ _
      | exact ih1 _ _ _ _ _
      | exact ih2 _ _ _ _ _
      | exact ih3 _ _ _ _ _
      | exact aquiferlaw11_awake.mono _
      | exact lex_Lex.mono _ _
      | exact LeO.none _
      | refine LeO.ite ?_ ?_
      | refine LeO.bind ?_ (fun _ => ?_)
    · intro y0 y1 y2 y3 y4
      unfold aquiferlaw11_LexJoins.j1
      repeat' first
      | (with_reducible exact ih0 _ _ _)
      | (with_reducible exact ih1 _ _ _ _ _)
      | (with_reducible exact ih2 _ _ _ _ _)
      | (with_reducible exact ih3 _ _ _ _ _)
      | (with_reducible exact aquiferlaw11_awake.mono _)
      | (with_reducible exact lex_Lex.mono _ _)
      | (with_reducible exact LeO.refl _)
      | (with_reducible exact LeO.none _)
      | (with_reducible refine LeO.ite ?_ ?_)
      | (with_reducible refine LeO.bind ?_ (fun _ => ?_))
      | exact ih0 _ _ _
      | exact ih1 _ _ _ _ _
      | exact ih2 _ _ _ _ _
      | exact ih3 _ _ _ _ _
      | exact aquiferlaw11_awake.mono _
      | exact lex_Lex.mono _ _
      | exact LeO.none _
      | refine LeO.ite ?_ ?_
      | refine LeO.bind ?_ (fun _ => ?_)
    · intro y0 y1 y2 y3 y4
      unfold aquiferlaw11_LexJoins.j2
      repeat' first
      | (with_reducible exact ih0 _ _ _)
      | (with_reducible exact ih1 _ _ _ _ _)
      | (with_reducible exact ih2 _ _ _ _ _)
      | (with_reducible exact ih3 _ _ _ _ _)
      | (with_reducible exact aquiferlaw11_awake.mono _)
      | (with_reducible exact lex_Lex.mono _ _)
      | (with_reducible exact LeO.refl _)
      | (with_reducible exact LeO.none _)
      | (with_reducible refine LeO.ite ?_ ?_)
      | (with_reducible refine LeO.bind ?_ (fun _ => ?_))
      | exact ih0 _ _ _
      | exact ih1 _ _ _ _ _
      | exact ih2 _ _ _ _ _
      | exact ih3 _ _ _ _ _
      | exact aquiferlaw11_awake.mono _
      | exact lex_Lex.mono _ _
      | exact LeO.none _
      | refine LeO.ite ?_ ?_
      | refine LeO.bind ?_ (fun _ => ?_)
    · intro y0 y1 y2 y3 y4
      unfold aquiferlaw11_LexJoins.l0
      repeat' first
      | (with_reducible exact ih0 _ _ _)
      | (with_reducible exact ih1 _ _ _ _ _)
      | (with_reducible exact ih2 _ _ _ _ _)
      | (with_reducible exact ih3 _ _ _ _ _)
      | (with_reducible exact aquiferlaw11_awake.mono _)
      | (with_reducible exact lex_Lex.mono _ _)
      | (with_reducible exact LeO.refl _)
      | (with_reducible exact LeO.none _)
      | (with_reducible refine LeO.ite ?_ ?_)
      | (with_reducible refine LeO.bind ?_ (fun _ => ?_))
      | exact ih0 _ _ _
      | exact ih1 _ _ _ _ _
      | exact ih2 _ _ _ _ _
      | exact ih3 _ _ _ _ _
      | exact aquiferlaw11_awake.mono _
      | exact lex_Lex.mono _ _
      | exact LeO.none _
      | refine LeO.ite ?_ ?_
      | refine LeO.bind ?_ (fun _ => ?_)
theorem aquiferlaw11_LexJoins.mono : ∀ a0 a1 k, LeO (aquiferlaw11_LexJoins.f k a0 a1) (aquiferlaw11_LexJoins.f (k + 1) a0 a1) := by
  intro a0 a1 k
  obtain ⟨ih0, ih1, ih2, ih3⟩ := aquiferlaw11_LexJoins.mono_l k
  unfold aquiferlaw11_LexJoins.f
  repeat' first
      | (with_reducible exact ih0 _ _ _)
      | (with_reducible exact ih1 _ _ _ _ _)
      | (with_reducible exact ih2 _ _ _ _ _)
      | (with_reducible exact ih3 _ _ _ _ _)
      | (with_reducible exact aquiferlaw11_awake.mono _)
      | (with_reducible exact lex_Lex.mono _ _)
      | (with_reducible exact LeO.refl _)
      | (with_reducible exact LeO.none _)
      | (with_reducible refine LeO.ite ?_ ?_)
      | (with_reducible refine LeO.bind ?_ (fun _ => ?_))
      | exact ih0 _ _ _
      | exact ih1 _ _ _ _ _
      | exact ih2 _ _ _ _ _
      | exact ih3 _ _ _ _ _
      | exact aquiferlaw11_awake.mono _
      | exact lex_Lex.mono _ _
      | exact LeO.none _
      | refine LeO.ite ?_ ?_
      | refine LeO.bind ?_ (fun _ => ?_)
set_option maxHeartbeats 8000000 in
set_option maxRecDepth 100000 in
theorem aquiferlaw11_LexJoins.calls (k : Nat) (a0 : ByteArray) (a1 : ByteArray) (r : Bool) (w : World) (HLT_ : Aside0 (r = true)) (h : aquiferlaw11_LexJoins.f k a0 a1 = some r) :
    Calls Try.prog 9 #[.string a0, .string a1] w fun e w' => e = .returned (.bool r) ∧ Below w.heap.size w w' := by
  have hu49 := Try.underlying49
  have HB := Aside0.mk (Below.refl w.heap.size w)
  have H : (if (a0.size : Int) > 300 then (aquiferlaw11_LexJoins.j0 k a0 a1 true) else (aquiferlaw11_LexJoins.j0 k a0 a1 (decide ((a1.size : Int) > 300)))) = some r := h
  clear h
  have HC3 := Aside0.mk H
  clear H
  go_enter Try.func9, Try.ntmps9
  go_upto_region 1 with (fail)
  repeat (go_quiet (fail); go_upto_region 1 with (fail))
  go_cut [23] (fun v23 wc => ∃ (kq : Nat) (x23_2 : Bool), v23 = .bool x23_2 ∧ Aside0 (aquiferlaw11_LexJoins.j0 kq a0 a1 x23_2 = some r) ∧ Aside0 (kq ≤ k) ∧ Aside0 (Below w.heap.size w wc))
  case first =>
    have H := HC3.out
    clear HC3
    by_cases c4 : (a0.size : Int) > 300
    · rw [if_pos c4] at H
      have c4b0 : decide (300 < (a0.size : Int)) = true := decide_eq_true c4
      have c4b1 : decide (300 < a0.size) = true := decide_eq_true (by omega)
      clear c4
      (first | rw [c4b0] | (simp only [i64_w, i32_w]; rw [c4b0]) | skip)
      have H' := Aside0.mk H
      clear H
      go_wp2
      repeat (go_quiet (fail); try go_wp2)
      go_meet
      case rel => exact ⟨_, (true), (by first | rfl | (simp; done) | (simp [bne]; done) | (simp [*]; done)), H', ⟨by first | omega | exact Nat.le_refl _⟩, ⟨by repeat (first | (with_reducible first | exact HB.out | apply below_alloc | apply pw_below_drewN | apply below_drew1) | exact HB.out)⟩⟩
    · rw [if_neg c4] at H
      have c4b0 : decide (300 < (a0.size : Int)) = false := decide_eq_false c4
      have c4b1 : decide (300 < a0.size) = false := decide_eq_false (by omega)
      clear c4
      (first | rw [c4b0] | (simp only [i64_w, i32_w]; rw [c4b0]) | skip)
      have H' := Aside0.mk H
      clear H
      go_wp2
      repeat (go_quiet (fail); try go_wp2)
      go_meet
      case rel => exact ⟨_, (decide ((a1.size : Int) > 300)), (by first | rfl | (simp; done) | (simp [bne]; done) | (simp [*]; done)), H', ⟨by first | omega | exact Nat.le_refl _⟩, ⟨by repeat (first | (with_reducible first | exact HB.out | apply below_alloc | apply pw_below_drewN | apply below_drew1) | exact HB.out)⟩⟩
  case rest =>
    clear HC3
    try clear p2
    try clear c4
    try clear c4b0
    try clear c4b1
    obtain ⟨kq, x23_2, rfl, HA, HJ2, HB⟩ := hcut
    cases kq with
    | zero => exact absurd HA.out (by simp [aquiferlaw11_LexJoins.j0])
    | succ kj2 =>
      have H := HA.out
      clear HA
      simp only [aquiferlaw11_LexJoins.j0] at H
      by_cases c5 : x23_2 = true
      · subst c5
        have H1 : ((aquiferlaw11_awake.f kj2).bind fun t130 => (some t130)) = some r := by rw [if_pos rfl] at H; exact H
        clear H
        have H := H1
        clear H1
        replace H := Option.bind_eq_some_iff.mp H
        obtain ⟨t130, A60, H⟩ := H
        replace H : (some t130) = some r := H
        have A6 := Aside0.mk A60
        clear A60
        obtain rfl := Option.some.inj H
        go_wp2_with (first | (go_at_call 20; (with_reducible refine (aquiferlaw11_awake.calls kj2  t130 _ A6.out).mono ?_); rintro e w7 ⟨rfl, hb⟩; have n0_ := Aside0.mk (below_step (by repeat (first | (with_reducible first | exact HB.out | apply below_alloc | apply pw_below_drewN | apply below_drew1) | exact HB.out)) hb); clear HB; have HB := n0_; clear n0_; (try clear hb); (try clear hb2); (try clear hk); (try clear hi)))
        repeat (go_quiet (first | (go_at_call 20; (with_reducible refine (aquiferlaw11_awake.calls kj2  t130 _ A6.out).mono ?_); rintro e w7 ⟨rfl, hb⟩; have n0_ := Aside0.mk (below_step (by repeat (first | (with_reducible first | exact HB.out | apply below_alloc | apply pw_below_drewN | apply below_drew1) | exact HB.out)) hb); clear HB; have HB := n0_; clear n0_; (try clear hb); (try clear hb2); (try clear hk); (try clear hi))); try go_wp2_with (first | (go_at_call 20; (with_reducible refine (aquiferlaw11_awake.calls kj2  t130 _ A6.out).mono ?_); rintro e w7 ⟨rfl, hb⟩; have n0_ := Aside0.mk (below_step (by repeat (first | (with_reducible first | exact HB.out | apply below_alloc | apply pw_below_drewN | apply below_drew1) | exact HB.out)) hb); clear HB; have HB := n0_; clear n0_; (try clear hb); (try clear hb2); (try clear hk); (try clear hi))))
        go_ret
        exact ⟨by first | rfl | (simp [errW_none, errW_some] <;> rfl) | (simp [*, errW_none, errW_some] <;> rfl), by repeat (first | (with_reducible first | exact HB.out | apply below_alloc | apply pw_below_drewN | apply below_drew1) | exact HB.out)⟩
      · replace c5 := Bool.eq_false_iff.mpr c5
        subst c5
        have H1 : ((lex_Lex.f kj2 a0).bind fun bt131 => ((lex_Lex.f kj2 a1).bind fun bt136 => ((aquiferlaw1_Num.f bt131.2.1).bind fun t141 => (if t141 = 0 then ((aquiferlaw1_Num.f bt136.2.1).bind fun t142 => (aquiferlaw11_LexJoins.j1 kj2 a0 a1 bt131.1 bt136.1 (t142 != 0))) else (aquiferlaw11_LexJoins.j1 kj2 a0 a1 bt131.1 bt136.1 true))))) = some r := by rw [if_neg (show ¬ (false = true) by decide)] at H; exact H
        clear H
        have H := H1
        clear H1
        replace H := Option.bind_eq_some_iff.mp H
        obtain ⟨⟨t131, t132, t133⟩, A80, H⟩ := H
        replace H : ((lex_Lex.f kj2 a1).bind fun bt136 => ((aquiferlaw1_Num.f t132).bind fun t141 => (if t141 = 0 then ((aquiferlaw1_Num.f bt136.2.1).bind fun t142 => (aquiferlaw11_LexJoins.j1 kj2 a0 a1 t131 bt136.1 (t142 != 0))) else (aquiferlaw11_LexJoins.j1 kj2 a0 a1 t131 bt136.1 true)))) = some r := H
        have A8 := Aside0.mk A80
        clear A80
        replace H := Option.bind_eq_some_iff.mp H
        obtain ⟨⟨t136, t137, t138⟩, A90, H⟩ := H
        replace H : ((aquiferlaw1_Num.f t132).bind fun t141 => (if t141 = 0 then ((aquiferlaw1_Num.f t137).bind fun t142 => (aquiferlaw11_LexJoins.j1 kj2 a0 a1 t131 t136 (t142 != 0))) else (aquiferlaw11_LexJoins.j1 kj2 a0 a1 t131 t136 true))) = some r := H
        have A9 := Aside0.mk A90
        clear A90
        have HC10 := Aside0.mk H
        clear H
        go_upto_region 5 with (first | (go_at_call 21; (with_reducible refine (lex_Lex.calls kj2 a0 t131 t132 t133 _ A8.out).mono ?_); rintro e w11 ⟨v134, rfl, ho0, hb⟩; have n0_ := Aside0.mk (Kd.R_lower ho0 (below_size (by repeat (first | (with_reducible first | exact HB.out | apply below_alloc | apply pw_below_drewN | apply below_drew1) | exact HB.out)))); have n1_ := Aside0.mk (below_step (by repeat (first | (with_reducible first | exact HB.out | apply below_alloc | apply pw_below_drewN | apply below_drew1) | exact HB.out)) hb); clear HB; have HO135 := n0_; have HB := n1_; clear n0_ n1_; (try clear hb); (try clear hb2); (try clear hk); (try clear hi); (try clear ho0)) | (go_at_call 21; (with_reducible refine (lex_Lex.calls kj2 a1 t136 t137 t138 _ A9.out).mono ?_); rintro e w12 ⟨v139, rfl, ho0, hb⟩; have n0_ := Aside0.mk (Kd.R_elder' (by (with_reducible repeat (first | apply Kd.R_alloc | apply Kd.R_drewN | apply Kd.R_drew)); exact HO135.out) (Kd.R_base ho0) hb); have n1_ := Aside0.mk (Kd.R_lower (Kd.R_new' ho0 (Kd.R_lt (by (with_reducible repeat (first | apply Kd.R_alloc | apply Kd.R_drewN | apply Kd.R_drew)); exact HO135.out))) (below_size (by repeat (first | (with_reducible first | exact HB.out | apply below_alloc | apply pw_below_drewN | apply below_drew1) | exact HB.out)))); have n2_ := Aside0.mk (below_step (by repeat (first | (with_reducible first | exact HB.out | apply below_alloc | apply pw_below_drewN | apply below_drew1) | exact HB.out)) hb); clear HO135; clear HB; have HO135 := n0_; have HO140 := n1_; have HB := n2_; clear n0_ n1_ n2_; (try clear hb); (try clear hb2); (try clear hk); (try clear hi); (try clear ho0)))
        repeat (go_quiet (first | (go_at_call 21; (with_reducible refine (lex_Lex.calls kj2 a0 t131 t132 t133 _ A8.out).mono ?_); rintro e w11 ⟨v134, rfl, ho0, hb⟩; have n0_ := Aside0.mk (Kd.R_lower ho0 (below_size (by repeat (first | (with_reducible first | exact HB.out | apply below_alloc | apply pw_below_drewN | apply below_drew1) | exact HB.out)))); have n1_ := Aside0.mk (below_step (by repeat (first | (with_reducible first | exact HB.out | apply below_alloc | apply pw_below_drewN | apply below_drew1) | exact HB.out)) hb); clear HB; have HO135 := n0_; have HB := n1_; clear n0_ n1_; (try clear hb); (try clear hb2); (try clear hk); (try clear hi); (try clear ho0)) | (go_at_call 21; (with_reducible refine (lex_Lex.calls kj2 a1 t136 t137 t138 _ A9.out).mono ?_); rintro e w12 ⟨v139, rfl, ho0, hb⟩; have n0_ := Aside0.mk (Kd.R_elder' (by (with_reducible repeat (first | apply Kd.R_alloc | apply Kd.R_drewN | apply Kd.R_drew)); exact HO135.out) (Kd.R_base ho0) hb); have n1_ := Aside0.mk (Kd.R_lower (Kd.R_new' ho0 (Kd.R_lt (by (with_reducible repeat (first | apply Kd.R_alloc | apply Kd.R_drewN | apply Kd.R_drew)); exact HO135.out))) (below_size (by repeat (first | (with_reducible first | exact HB.out | apply below_alloc | apply pw_below_drewN | apply below_drew1) | exact HB.out)))); have n2_ := Aside0.mk (below_step (by repeat (first | (with_reducible first | exact HB.out | apply below_alloc | apply pw_below_drewN | apply below_drew1) | exact HB.out)) hb); clear HO135; clear HB; have HO135 := n0_; have HO140 := n1_; have HB := n2_; clear n0_ n1_ n2_; (try clear hb); (try clear hb2); (try clear hk); (try clear hi); (try clear ho0))); go_upto_region 5 with (first | (go_at_call 21; (with_reducible refine (lex_Lex.calls kj2 a0 t131 t132 t133 _ A8.out).mono ?_); rintro e w11 ⟨v134, rfl, ho0, hb⟩; have n0_ := Aside0.mk (Kd.R_lower ho0 (below_size (by repeat (first | (with_reducible first | exact HB.out | apply below_alloc | apply pw_below_drewN | apply below_drew1) | exact HB.out)))); have n1_ := Aside0.mk (below_step (by repeat (first | (with_reducible first | exact HB.out | apply below_alloc | apply pw_below_drewN | apply below_drew1) | exact HB.out)) hb); clear HB; have HO135 := n0_; have HB := n1_; clear n0_ n1_; (try clear hb); (try clear hb2); (try clear hk); (try clear hi); (try clear ho0)) | (go_at_call 21; (with_reducible refine (lex_Lex.calls kj2 a1 t136 t137 t138 _ A9.out).mono ?_); rintro e w12 ⟨v139, rfl, ho0, hb⟩; have n0_ := Aside0.mk (Kd.R_elder' (by (with_reducible repeat (first | apply Kd.R_alloc | apply Kd.R_drewN | apply Kd.R_drew)); exact HO135.out) (Kd.R_base ho0) hb); have n1_ := Aside0.mk (Kd.R_lower (Kd.R_new' ho0 (Kd.R_lt (by (with_reducible repeat (first | apply Kd.R_alloc | apply Kd.R_drewN | apply Kd.R_drew)); exact HO135.out))) (below_size (by repeat (first | (with_reducible first | exact HB.out | apply below_alloc | apply pw_below_drewN | apply below_drew1) | exact HB.out)))); have n2_ := Aside0.mk (below_step (by repeat (first | (with_reducible first | exact HB.out | apply below_alloc | apply pw_below_drewN | apply below_drew1) | exact HB.out)) hb); clear HO135; clear HB; have HO135 := n0_; have HO140 := n1_; have HB := n2_; clear n0_ n1_ n2_; (try clear hb); (try clear hb2); (try clear hk); (try clear hi); (try clear ho0))))
        (try simp only [Act.put, List.setIfInBounds_toArray, List.set_cons_zero, List.set_cons_succ])
        go_cut [44] (fun v44 wc => ∃ (kq : Nat) (x44_9 : Bool), v44 = .bool x44_9 ∧ Aside0 (aquiferlaw11_LexJoins.j1 kq a0 a1 t131 t136 x44_9 = some r) ∧ Aside0 (kq ≤ kj2) ∧ Aside0 (Kd.R k49 49 wc w.heap.size (fun k_ => some k_ ≠ (v139 : Value).ownBlock) v134 t131) ∧ Aside0 (Kd.R k49 49 wc w.heap.size (fun k_ => some k_ ≠ (v134 : Value).ownBlock) v139 t136) ∧ Aside0 (Below w.heap.size w wc))
        case first =>
          have H := HC10.out
          clear HC10
          replace H := Option.bind_eq_some_iff.mp H
          obtain ⟨t141, A130, H⟩ := H
          replace H : (if t141 = 0 then ((aquiferlaw1_Num.f t137).bind fun t142 => (aquiferlaw11_LexJoins.j1 kj2 a0 a1 t131 t136 (t142 != 0))) else (aquiferlaw11_LexJoins.j1 kj2 a0 a1 t131 t136 true)) = some r := H
          have A13 := Aside0.mk A130
          clear A130
          by_cases c14 : t141 = 0
          · rw [if_pos c14] at H
            have c14b0 : (t141 == 0) = true := beq_iff_eq.mpr c14
            have c14b1 : (t141 != 0) = false := bne_eq_false_iff_eq.mpr c14
            clear c14
            (first | rw [c14b0] | (simp only [i64_w, i32_w]; rw [c14b0]) | skip)
            replace H := Option.bind_eq_some_iff.mp H
            obtain ⟨t142, A150, H⟩ := H
            replace H : (aquiferlaw11_LexJoins.j1 kj2 a0 a1 t131 t136 (t142 != 0)) = some r := H
            have A15 := Aside0.mk A150
            clear A150
            have H' := Aside0.mk H
            clear H
            go_wp2_with (first | (go_at_call 17; (with_reducible refine (aquiferlaw1_Num.calls t132 t141 _ A13.out).mono ?_); rintro e w' ⟨rfl, ⟨nd, rfl⟩⟩; (try first | exact ⟨rfl, _, World.drewN_drewN _ _ _⟩ | exact ⟨rfl, _, Eq.trans (World.drewN_drewN _ _ _) (congrArg (World.drewN _) (Nat.add_assoc _ _ _))⟩)) | (go_at_call 17; (with_reducible refine (aquiferlaw1_Num.calls t137 t142 _ A15.out).mono ?_); rintro e w' ⟨rfl, ⟨nd, rfl⟩⟩; (try first | exact ⟨rfl, _, World.drewN_drewN _ _ _⟩ | exact ⟨rfl, _, Eq.trans (World.drewN_drewN _ _ _) (congrArg (World.drewN _) (Nat.add_assoc _ _ _))⟩)))
            repeat (go_quiet (first | (go_at_call 17; (with_reducible refine (aquiferlaw1_Num.calls t132 t141 _ A13.out).mono ?_); rintro e w' ⟨rfl, ⟨nd, rfl⟩⟩; (try first | exact ⟨rfl, _, World.drewN_drewN _ _ _⟩ | exact ⟨rfl, _, Eq.trans (World.drewN_drewN _ _ _) (congrArg (World.drewN _) (Nat.add_assoc _ _ _))⟩)) | (go_at_call 17; (with_reducible refine (aquiferlaw1_Num.calls t137 t142 _ A15.out).mono ?_); rintro e w' ⟨rfl, ⟨nd, rfl⟩⟩; (try first | exact ⟨rfl, _, World.drewN_drewN _ _ _⟩ | exact ⟨rfl, _, Eq.trans (World.drewN_drewN _ _ _) (congrArg (World.drewN _) (Nat.add_assoc _ _ _))⟩))); try go_wp2_with (first | (go_at_call 17; (with_reducible refine (aquiferlaw1_Num.calls t132 t141 _ A13.out).mono ?_); rintro e w' ⟨rfl, ⟨nd, rfl⟩⟩; (try first | exact ⟨rfl, _, World.drewN_drewN _ _ _⟩ | exact ⟨rfl, _, Eq.trans (World.drewN_drewN _ _ _) (congrArg (World.drewN _) (Nat.add_assoc _ _ _))⟩)) | (go_at_call 17; (with_reducible refine (aquiferlaw1_Num.calls t137 t142 _ A15.out).mono ?_); rintro e w' ⟨rfl, ⟨nd, rfl⟩⟩; (try first | exact ⟨rfl, _, World.drewN_drewN _ _ _⟩ | exact ⟨rfl, _, Eq.trans (World.drewN_drewN _ _ _) (congrArg (World.drewN _) (Nat.add_assoc _ _ _))⟩))))
            go_meet
            case rel => exact ⟨_, ((t142 != 0)), (by first | rfl | (simp; done) | (simp [bne]; done) | (simp [*]; done)), H', ⟨by have := HJ2.out; first | omega | exact Nat.le_refl _⟩, ⟨by (with_reducible repeat (first | apply Kd.R_alloc | apply Kd.R_drewN | apply Kd.R_drew)); exact Kd.R_mono HO135.out (fun _ hk => hk.2)⟩, ⟨by (with_reducible repeat (first | apply Kd.R_alloc | apply Kd.R_drewN | apply Kd.R_drew)); exact Kd.R_mono HO140.out (fun _ hk => hk.2)⟩, ⟨by repeat (first | (with_reducible first | exact HB.out | apply below_alloc | apply pw_below_drewN | apply below_drew1) | exact HB.out)⟩⟩
          · rw [if_neg c14] at H
            have c14b0 : (t141 == 0) = false := beq_eq_false_iff_ne.mpr c14
            have c14b1 : (t141 != 0) = true := bne_iff_ne.mpr c14
            (first | rw [c14b0] | (simp only [i64_w, i32_w]; rw [c14b0]) | skip)
            have H' := Aside0.mk H
            clear H
            go_wp2_with (first | (go_at_call 17; (with_reducible refine (aquiferlaw1_Num.calls t132 t141 _ A13.out).mono ?_); rintro e w' ⟨rfl, ⟨nd, rfl⟩⟩; (try first | exact ⟨rfl, _, World.drewN_drewN _ _ _⟩ | exact ⟨rfl, _, Eq.trans (World.drewN_drewN _ _ _) (congrArg (World.drewN _) (Nat.add_assoc _ _ _))⟩)))
            repeat (go_quiet (first | (go_at_call 17; (with_reducible refine (aquiferlaw1_Num.calls t132 t141 _ A13.out).mono ?_); rintro e w' ⟨rfl, ⟨nd, rfl⟩⟩; (try first | exact ⟨rfl, _, World.drewN_drewN _ _ _⟩ | exact ⟨rfl, _, Eq.trans (World.drewN_drewN _ _ _) (congrArg (World.drewN _) (Nat.add_assoc _ _ _))⟩))); try go_wp2_with (first | (go_at_call 17; (with_reducible refine (aquiferlaw1_Num.calls t132 t141 _ A13.out).mono ?_); rintro e w' ⟨rfl, ⟨nd, rfl⟩⟩; (try first | exact ⟨rfl, _, World.drewN_drewN _ _ _⟩ | exact ⟨rfl, _, Eq.trans (World.drewN_drewN _ _ _) (congrArg (World.drewN _) (Nat.add_assoc _ _ _))⟩))))
            go_meet
            case rel => exact ⟨_, (true), (by first | rfl | (simp; done) | (simp [bne]; done) | (simp [*]; done)), H', ⟨by have := HJ2.out; first | omega | exact Nat.le_refl _⟩, ⟨by (with_reducible repeat (first | apply Kd.R_alloc | apply Kd.R_drewN | apply Kd.R_drew)); exact Kd.R_mono HO135.out (fun _ hk => hk.2)⟩, ⟨by (with_reducible repeat (first | apply Kd.R_alloc | apply Kd.R_drewN | apply Kd.R_drew)); exact Kd.R_mono HO140.out (fun _ hk => hk.2)⟩, ⟨by repeat (first | (with_reducible first | exact HB.out | apply below_alloc | apply pw_below_drewN | apply below_drew1) | exact HB.out)⟩⟩
        case rest =>
          clear HC10
          try clear c1
          try clear p2
          try clear c4
          try clear c4b0
          try clear c4b1
          try clear c5
          try clear c9
          try clear c14
          try clear c14b0
          try clear c14b1
          try clear p2
          obtain ⟨kq, x44_9, rfl, HA, HJ9, HO_5, HO_8, HB⟩ := hcut
          cases kq with
          | zero => exact absurd HA.out (by simp [aquiferlaw11_LexJoins.j1])
          | succ kj9 =>
            have H := HA.out
            clear HA
            simp only [aquiferlaw11_LexJoins.j1] at H
            by_cases c16 : x44_9 = true
            · subst c16
              have H1 : ((aquiferlaw11_awake.f kj9).bind fun t143 => (some t143)) = some r := by rw [if_pos rfl] at H; exact H
              clear H
              have H := H1
              clear H1
              replace H := Option.bind_eq_some_iff.mp H
              obtain ⟨t143, A170, H⟩ := H
              replace H : (some t143) = some r := H
              have A17 := Aside0.mk A170
              clear A170
              obtain rfl := Option.some.inj H
              go_wp2_with (first | (go_at_call 20; (with_reducible refine (aquiferlaw11_awake.calls kj9  t143 _ A17.out).mono ?_); rintro e w18 ⟨rfl, hb⟩; have n0_ := Aside0.mk (Kd.R_below (by (with_reducible repeat (first | apply Kd.R_alloc | apply Kd.R_drewN | apply Kd.R_drew)); exact HO_5.out) hb); have n1_ := Aside0.mk (Kd.R_below (by (with_reducible repeat (first | apply Kd.R_alloc | apply Kd.R_drewN | apply Kd.R_drew)); exact HO_8.out) hb); have n2_ := Aside0.mk (below_step (by repeat (first | (with_reducible first | exact HB.out | apply below_alloc | apply pw_below_drewN | apply below_drew1) | exact HB.out)) hb); clear HO_5; clear HO_8; clear HB; have HO_5 := n0_; have HO_8 := n1_; have HB := n2_; clear n0_ n1_ n2_; (try clear hb); (try clear hb2); (try clear hk); (try clear hi)))
              repeat (go_quiet (first | (go_at_call 20; (with_reducible refine (aquiferlaw11_awake.calls kj9  t143 _ A17.out).mono ?_); rintro e w18 ⟨rfl, hb⟩; have n0_ := Aside0.mk (Kd.R_below (by (with_reducible repeat (first | apply Kd.R_alloc | apply Kd.R_drewN | apply Kd.R_drew)); exact HO_5.out) hb); have n1_ := Aside0.mk (Kd.R_below (by (with_reducible repeat (first | apply Kd.R_alloc | apply Kd.R_drewN | apply Kd.R_drew)); exact HO_8.out) hb); have n2_ := Aside0.mk (below_step (by repeat (first | (with_reducible first | exact HB.out | apply below_alloc | apply pw_below_drewN | apply below_drew1) | exact HB.out)) hb); clear HO_5; clear HO_8; clear HB; have HO_5 := n0_; have HO_8 := n1_; have HB := n2_; clear n0_ n1_ n2_; (try clear hb); (try clear hb2); (try clear hk); (try clear hi))); try go_wp2_with (first | (go_at_call 20; (with_reducible refine (aquiferlaw11_awake.calls kj9  t143 _ A17.out).mono ?_); rintro e w18 ⟨rfl, hb⟩; have n0_ := Aside0.mk (Kd.R_below (by (with_reducible repeat (first | apply Kd.R_alloc | apply Kd.R_drewN | apply Kd.R_drew)); exact HO_5.out) hb); have n1_ := Aside0.mk (Kd.R_below (by (with_reducible repeat (first | apply Kd.R_alloc | apply Kd.R_drewN | apply Kd.R_drew)); exact HO_8.out) hb); have n2_ := Aside0.mk (below_step (by repeat (first | (with_reducible first | exact HB.out | apply below_alloc | apply pw_below_drewN | apply below_drew1) | exact HB.out)) hb); clear HO_5; clear HO_8; clear HB; have HO_5 := n0_; have HO_8 := n1_; have HB := n2_; clear n0_ n1_ n2_; (try clear hb); (try clear hb2); (try clear hk); (try clear hi))))
              go_ret
              exact ⟨by first | rfl | (simp [errW_none, errW_some] <;> rfl) | (simp [*, errW_none, errW_some] <;> rfl), by repeat (first | (with_reducible first | exact HB.out | apply below_alloc | apply pw_below_drewN | apply below_drew1) | exact HB.out)⟩
            · replace c16 := Bool.eq_false_iff.mpr c16
              subst c16
              have H1 : (if a0.size + 1 ≤ 9223372036854775807 then (if (a0 ++ (⟨#[10]⟩ : ByteArray)).size + a1.size ≤ 9223372036854775807 then ((lex_Lex.f kj9 ((a0 ++ (⟨#[10]⟩ : ByteArray)) ++ a1)).bind fun bt144 => ((aquiferlaw1_Num.f bt144.2.1).bind fun t149 => (if t149 = 0 then (aquiferlaw11_LexJoins.j2 kj9 a0 t131 t136 bt144.1 ((bt144.1.length : Int) != (wrap64 ((wrap64 ((t131.length : Int) + (t136.length : Int))) - 1)))) else (aquiferlaw11_LexJoins.j2 kj9 a0 t131 t136 bt144.1 true)))) else (none)) else (none)) = some r := by rw [if_neg (show ¬ (false = true) by decide)] at H; exact H
              clear H
              have H := H1
              clear H1
              by_cases c19 : a0.size + 1 ≤ 9223372036854775807
              · rw [if_pos c19] at H
                have c19b0 := eq_true c19
                have c19b1 : decide (a0.size + 1 ≤ 9223372036854775807) = true := decide_eq_true c19
                try have c19b2 : (9223372036854775807 < a0.size + 1) = False := eq_false (Nat.not_lt.2 c19)
                by_cases c20 : (a0 ++ (⟨#[10]⟩ : ByteArray)).size + a1.size ≤ 9223372036854775807
                · rw [if_pos c20] at H
                  have c20b0 := eq_true c20
                  have c20b1 : decide ((a0 ++ (⟨#[10]⟩ : ByteArray)).size + a1.size ≤ 9223372036854775807) = true := decide_eq_true c20
                  try have c20b2 : (9223372036854775807 < (a0 ++ (⟨#[10]⟩ : ByteArray)).size + a1.size) = False := eq_false (Nat.not_lt.2 c20)
                  have c20b3 : (9223372036854775807 < a0.size + 1 + a1.size) = False := by have h_ := c20b2; simp only [ByteArray.size_append] at h_; exact h_
                  replace H := Option.bind_eq_some_iff.mp H
                  obtain ⟨⟨t144, t145, t146⟩, A210, H⟩ := H
                  replace H : ((aquiferlaw1_Num.f t145).bind fun t149 => (if t149 = 0 then (aquiferlaw11_LexJoins.j2 kj9 a0 t131 t136 t144 ((t144.length : Int) != (wrap64 ((wrap64 ((t131.length : Int) + (t136.length : Int))) - 1)))) else (aquiferlaw11_LexJoins.j2 kj9 a0 t131 t136 t144 true))) = some r := H
                  have A21 := Aside0.mk A210
                  clear A210
                  have HC22 := Aside0.mk H
                  clear H
                  go_upto_region 8 with (first | (go_at_call 21; (with_reducible refine (lex_Lex.calls kj9 ((a0 ++ (⟨#[10]⟩ : ByteArray)) ++ a1) t144 t145 t146 _ A21.out).mono ?_); rintro e w23 ⟨v147, rfl, ho0, hb⟩; have n0_ := Aside0.mk (Kd.R_elder' (by (with_reducible repeat (first | apply Kd.R_alloc | apply Kd.R_drewN | apply Kd.R_drew)); exact HO_5.out) (Kd.R_base ho0) hb); have n1_ := Aside0.mk (Kd.R_elder' (by (with_reducible repeat (first | apply Kd.R_alloc | apply Kd.R_drewN | apply Kd.R_drew)); exact HO_8.out) (Kd.R_base ho0) hb); have n2_ := Aside0.mk (Kd.R_lower (Kd.R_new' (Kd.R_new' ho0 (Kd.R_lt (by (with_reducible repeat (first | apply Kd.R_alloc | apply Kd.R_drewN | apply Kd.R_drew)); exact HO_5.out))) (Kd.R_lt (by (with_reducible repeat (first | apply Kd.R_alloc | apply Kd.R_drewN | apply Kd.R_drew)); exact HO_8.out))) (below_size (by repeat (first | (with_reducible first | exact HB.out | apply below_alloc | apply pw_below_drewN | apply below_drew1) | exact HB.out)))); have n3_ := Aside0.mk (below_step (by repeat (first | (with_reducible first | exact HB.out | apply below_alloc | apply pw_below_drewN | apply below_drew1) | exact HB.out)) hb); clear HO_5; clear HO_8; clear HB; have HO_5 := n0_; have HO_8 := n1_; have HO148 := n2_; have HB := n3_; clear n0_ n1_ n2_ n3_; (try clear hb); (try clear hb2); (try clear hk); (try clear hi); (try clear ho0)))
                  repeat (go_quiet (first | (go_at_call 21; (with_reducible refine (lex_Lex.calls kj9 ((a0 ++ (⟨#[10]⟩ : ByteArray)) ++ a1) t144 t145 t146 _ A21.out).mono ?_); rintro e w23 ⟨v147, rfl, ho0, hb⟩; have n0_ := Aside0.mk (Kd.R_elder' (by (with_reducible repeat (first | apply Kd.R_alloc | apply Kd.R_drewN | apply Kd.R_drew)); exact HO_5.out) (Kd.R_base ho0) hb); have n1_ := Aside0.mk (Kd.R_elder' (by (with_reducible repeat (first | apply Kd.R_alloc | apply Kd.R_drewN | apply Kd.R_drew)); exact HO_8.out) (Kd.R_base ho0) hb); have n2_ := Aside0.mk (Kd.R_lower (Kd.R_new' (Kd.R_new' ho0 (Kd.R_lt (by (with_reducible repeat (first | apply Kd.R_alloc | apply Kd.R_drewN | apply Kd.R_drew)); exact HO_5.out))) (Kd.R_lt (by (with_reducible repeat (first | apply Kd.R_alloc | apply Kd.R_drewN | apply Kd.R_drew)); exact HO_8.out))) (below_size (by repeat (first | (with_reducible first | exact HB.out | apply below_alloc | apply pw_below_drewN | apply below_drew1) | exact HB.out)))); have n3_ := Aside0.mk (below_step (by repeat (first | (with_reducible first | exact HB.out | apply below_alloc | apply pw_below_drewN | apply below_drew1) | exact HB.out)) hb); clear HO_5; clear HO_8; clear HB; have HO_5 := n0_; have HO_8 := n1_; have HO148 := n2_; have HB := n3_; clear n0_ n1_ n2_ n3_; (try clear hb); (try clear hb2); (try clear hk); (try clear hi); (try clear ho0))); go_upto_region 8 with (first | (go_at_call 21; (with_reducible refine (lex_Lex.calls kj9 ((a0 ++ (⟨#[10]⟩ : ByteArray)) ++ a1) t144 t145 t146 _ A21.out).mono ?_); rintro e w23 ⟨v147, rfl, ho0, hb⟩; have n0_ := Aside0.mk (Kd.R_elder' (by (with_reducible repeat (first | apply Kd.R_alloc | apply Kd.R_drewN | apply Kd.R_drew)); exact HO_5.out) (Kd.R_base ho0) hb); have n1_ := Aside0.mk (Kd.R_elder' (by (with_reducible repeat (first | apply Kd.R_alloc | apply Kd.R_drewN | apply Kd.R_drew)); exact HO_8.out) (Kd.R_base ho0) hb); have n2_ := Aside0.mk (Kd.R_lower (Kd.R_new' (Kd.R_new' ho0 (Kd.R_lt (by (with_reducible repeat (first | apply Kd.R_alloc | apply Kd.R_drewN | apply Kd.R_drew)); exact HO_5.out))) (Kd.R_lt (by (with_reducible repeat (first | apply Kd.R_alloc | apply Kd.R_drewN | apply Kd.R_drew)); exact HO_8.out))) (below_size (by repeat (first | (with_reducible first | exact HB.out | apply below_alloc | apply pw_below_drewN | apply below_drew1) | exact HB.out)))); have n3_ := Aside0.mk (below_step (by repeat (first | (with_reducible first | exact HB.out | apply below_alloc | apply pw_below_drewN | apply below_drew1) | exact HB.out)) hb); clear HO_5; clear HO_8; clear HB; have HO_5 := n0_; have HO_8 := n1_; have HO148 := n2_; have HB := n3_; clear n0_ n1_ n2_ n3_; (try clear hb); (try clear hb2); (try clear hk); (try clear hi); (try clear ho0))))
                  (try simp only [Act.put, List.setIfInBounds_toArray, List.set_cons_zero, List.set_cons_succ])
                  go_cut [68] (fun v68 wc => ∃ (kq : Nat) (x68_21 : Bool), v68 = .bool x68_21 ∧ Aside0 (aquiferlaw11_LexJoins.j2 kq a0 t131 t136 t144 x68_21 = some r) ∧ Aside0 (kq ≤ kj9) ∧ Aside0 (Kd.R k49 49 wc w.heap.size (fun k_ => some k_ ≠ (v139 : Value).ownBlock ∧ some k_ ≠ (v147 : Value).ownBlock) v134 t131) ∧ Aside0 (Kd.R k49 49 wc w.heap.size (fun k_ => some k_ ≠ (v134 : Value).ownBlock ∧ some k_ ≠ (v147 : Value).ownBlock) v139 t136) ∧ Aside0 (Kd.R k49 49 wc w.heap.size (fun k_ => some k_ ≠ (v134 : Value).ownBlock ∧ some k_ ≠ (v139 : Value).ownBlock) v147 t144) ∧ Aside0 (Below w.heap.size w wc))
                  case first =>
                    have H := HC22.out
                    clear HC22
                    replace H := Option.bind_eq_some_iff.mp H
                    obtain ⟨t149, A240, H⟩ := H
                    replace H : (if t149 = 0 then (aquiferlaw11_LexJoins.j2 kj9 a0 t131 t136 t144 ((t144.length : Int) != (wrap64 ((wrap64 ((t131.length : Int) + (t136.length : Int))) - 1)))) else (aquiferlaw11_LexJoins.j2 kj9 a0 t131 t136 t144 true)) = some r := H
                    have A24 := Aside0.mk A240
                    clear A240
                    by_cases c25 : t149 = 0
                    · rw [if_pos c25] at H
                      have c25b0 : (t149 == 0) = true := beq_iff_eq.mpr c25
                      have c25b1 : (t149 != 0) = false := bne_eq_false_iff_eq.mpr c25
                      clear c25
                      (first | rw [c25b0] | (simp only [i64_w, i32_w]; rw [c25b0]) | skip)
                      have H' := Aside0.mk H
                      clear H
                      go_wp2_with (first | (go_at_call 17; (with_reducible refine (aquiferlaw1_Num.calls t145 t149 _ A24.out).mono ?_); rintro e w' ⟨rfl, ⟨nd, rfl⟩⟩; (try first | exact ⟨rfl, _, World.drewN_drewN _ _ _⟩ | exact ⟨rfl, _, Eq.trans (World.drewN_drewN _ _ _) (congrArg (World.drewN _) (Nat.add_assoc _ _ _))⟩); obtain ⟨Ao26, co26, eo26⟩ := Kd.R_slice HO148.out; subst eo26; obtain ⟨Ao27, co27, eo27⟩ := Kd.R_slice HO_5.out; subst eo27; obtain ⟨Ao28, co28, eo28⟩ := Kd.R_slice HO_8.out; subst eo28))
                      repeat (go_quiet (first | (go_at_call 17; (with_reducible refine (aquiferlaw1_Num.calls t145 t149 _ A24.out).mono ?_); rintro e w' ⟨rfl, ⟨nd, rfl⟩⟩; (try first | exact ⟨rfl, _, World.drewN_drewN _ _ _⟩ | exact ⟨rfl, _, Eq.trans (World.drewN_drewN _ _ _) (congrArg (World.drewN _) (Nat.add_assoc _ _ _))⟩); obtain ⟨Ao26, co26, eo26⟩ := Kd.R_slice HO148.out; subst eo26; obtain ⟨Ao27, co27, eo27⟩ := Kd.R_slice HO_5.out; subst eo27; obtain ⟨Ao28, co28, eo28⟩ := Kd.R_slice HO_8.out; subst eo28)); try go_wp2_with (first | (go_at_call 17; (with_reducible refine (aquiferlaw1_Num.calls t145 t149 _ A24.out).mono ?_); rintro e w' ⟨rfl, ⟨nd, rfl⟩⟩; (try first | exact ⟨rfl, _, World.drewN_drewN _ _ _⟩ | exact ⟨rfl, _, Eq.trans (World.drewN_drewN _ _ _) (congrArg (World.drewN _) (Nat.add_assoc _ _ _))⟩); obtain ⟨Ao26, co26, eo26⟩ := Kd.R_slice HO148.out; subst eo26; obtain ⟨Ao27, co27, eo27⟩ := Kd.R_slice HO_5.out; subst eo27; obtain ⟨Ao28, co28, eo28⟩ := Kd.R_slice HO_8.out; subst eo28)))
                      go_meet
                      case rel => exact ⟨_, (((t144.length : Int) != (wrap64 ((wrap64 ((t131.length : Int) + (t136.length : Int))) - 1)))), (by first | rfl | (simp; done) | (simp [bne]; done) | (simp [*]; done)), H', ⟨by have := HJ2.out; have := HJ9.out; first | omega | exact Nat.le_refl _⟩, ⟨by (with_reducible repeat (first | apply Kd.R_alloc | apply Kd.R_drewN | apply Kd.R_drew)); exact HO_5.out⟩, ⟨by (with_reducible repeat (first | apply Kd.R_alloc | apply Kd.R_drewN | apply Kd.R_drew)); exact HO_8.out⟩, ⟨by (with_reducible repeat (first | apply Kd.R_alloc | apply Kd.R_drewN | apply Kd.R_drew)); exact Kd.R_mono HO148.out (fun _ hk => by first | exact ⟨hk.1.2, hk.2⟩ | ((repeat' refine And.intro ?_ ?_) <;> first | exact trivial | exact hk | exact hk.1 | exact hk.2 | exact hk.1.1 | exact hk.1.2 | exact hk.2.1 | exact hk.2.2 | exact hk.1.1.1 | exact hk.1.1.2 | exact hk.1.2.1 | exact hk.1.2.2 | exact hk.2.1.1 | exact hk.2.1.2 | exact hk.2.2.1 | exact hk.2.2.2 | exact hk.1.1.1.1 | exact hk.1.1.1.2 | exact hk.1.1.2.1 | exact hk.1.1.2.2 | exact hk.1.2.1.1 | exact hk.1.2.1.2 | exact hk.1.2.2.1 | exact hk.1.2.2.2 | exact hk.2.1.1.1 | exact hk.2.1.1.2 | exact hk.2.1.2.1 | exact hk.2.1.2.2 | exact hk.2.2.1.1 | exact hk.2.2.1.2 | exact hk.2.2.2.1 | exact hk.2.2.2.2))⟩, ⟨by repeat (first | (with_reducible first | exact HB.out | apply below_alloc | apply pw_below_drewN | apply below_drew1) | exact HB.out)⟩⟩
                    · rw [if_neg c25] at H
                      have c25b0 : (t149 == 0) = false := beq_eq_false_iff_ne.mpr c25
                      have c25b1 : (t149 != 0) = true := bne_iff_ne.mpr c25
                      (first | rw [c25b0] | (simp only [i64_w, i32_w]; rw [c25b0]) | skip)
                      have H' := Aside0.mk H
                      clear H
                      go_wp2_with (first | (go_at_call 17; (with_reducible refine (aquiferlaw1_Num.calls t145 t149 _ A24.out).mono ?_); rintro e w' ⟨rfl, ⟨nd, rfl⟩⟩; (try first | exact ⟨rfl, _, World.drewN_drewN _ _ _⟩ | exact ⟨rfl, _, Eq.trans (World.drewN_drewN _ _ _) (congrArg (World.drewN _) (Nat.add_assoc _ _ _))⟩)))
                      repeat (go_quiet (first | (go_at_call 17; (with_reducible refine (aquiferlaw1_Num.calls t145 t149 _ A24.out).mono ?_); rintro e w' ⟨rfl, ⟨nd, rfl⟩⟩; (try first | exact ⟨rfl, _, World.drewN_drewN _ _ _⟩ | exact ⟨rfl, _, Eq.trans (World.drewN_drewN _ _ _) (congrArg (World.drewN _) (Nat.add_assoc _ _ _))⟩))); try go_wp2_with (first | (go_at_call 17; (with_reducible refine (aquiferlaw1_Num.calls t145 t149 _ A24.out).mono ?_); rintro e w' ⟨rfl, ⟨nd, rfl⟩⟩; (try first | exact ⟨rfl, _, World.drewN_drewN _ _ _⟩ | exact ⟨rfl, _, Eq.trans (World.drewN_drewN _ _ _) (congrArg (World.drewN _) (Nat.add_assoc _ _ _))⟩))))
                      go_meet
                      case rel => exact ⟨_, (true), (by first | rfl | (simp; done) | (simp [bne]; done) | (simp [*]; done)), H', ⟨by have := HJ2.out; have := HJ9.out; first | omega | exact Nat.le_refl _⟩, ⟨by (with_reducible repeat (first | apply Kd.R_alloc | apply Kd.R_drewN | apply Kd.R_drew)); exact HO_5.out⟩, ⟨by (with_reducible repeat (first | apply Kd.R_alloc | apply Kd.R_drewN | apply Kd.R_drew)); exact HO_8.out⟩, ⟨by (with_reducible repeat (first | apply Kd.R_alloc | apply Kd.R_drewN | apply Kd.R_drew)); exact Kd.R_mono HO148.out (fun _ hk => by first | exact ⟨hk.1.2, hk.2⟩ | ((repeat' refine And.intro ?_ ?_) <;> first | exact trivial | exact hk | exact hk.1 | exact hk.2 | exact hk.1.1 | exact hk.1.2 | exact hk.2.1 | exact hk.2.2 | exact hk.1.1.1 | exact hk.1.1.2 | exact hk.1.2.1 | exact hk.1.2.2 | exact hk.2.1.1 | exact hk.2.1.2 | exact hk.2.2.1 | exact hk.2.2.2 | exact hk.1.1.1.1 | exact hk.1.1.1.2 | exact hk.1.1.2.1 | exact hk.1.1.2.2 | exact hk.1.2.1.1 | exact hk.1.2.1.2 | exact hk.1.2.2.1 | exact hk.1.2.2.2 | exact hk.2.1.1.1 | exact hk.2.1.1.2 | exact hk.2.1.2.1 | exact hk.2.1.2.2 | exact hk.2.2.1.1 | exact hk.2.2.1.2 | exact hk.2.2.2.1 | exact hk.2.2.2.2))⟩, ⟨by repeat (first | (with_reducible first | exact HB.out | apply below_alloc | apply pw_below_drewN | apply below_drew1) | exact HB.out)⟩⟩
                  case rest =>
                    clear HC22
                    try clear c1
                    try clear c2
                    try clear p2
                    try clear c4
                    try clear c4b0
                    try clear c4b1
                    try clear c5
                    try clear p6
                    try clear c9
                    try clear c14
                    try clear c14b0
                    try clear c14b1
                    try clear c16
                    try clear c19
                    try clear c19b0
                    try clear c19b1
                    try clear c19b2
                    try clear c20
                    try clear c20b0
                    try clear c20b1
                    try clear c20b2
                    try clear c25
                    try clear c25b0
                    try clear c25b1
                    try clear p2
                    obtain ⟨kq, x68_21, rfl, HA, HJ21, HO_5, HO_8, HO_11, HB⟩ := hcut
                    cases kq with
                    | zero => exact absurd HA.out (by simp [aquiferlaw11_LexJoins.j2])
                    | succ kj21 =>
                      have H := HA.out
                      clear HA
                      simp only [aquiferlaw11_LexJoins.j2] at H
                      by_cases c29 : x68_21 = true
                      · subst c29
                        have H1 : (some false) = some r := by rw [if_pos rfl] at H; exact H
                        clear H
                        have H := H1
                        clear H1
                        exact absurd (HLT_.out.symm.trans (Option.some.inj H).symm) (by decide)
                      · replace c29 := Bool.eq_false_iff.mpr c29
                        subst c29
                        have H1 : (aquiferlaw11_LexJoins.l0 kj21 a0 t131 t136 t144 0) = some r := by rw [if_neg (show ¬ (false = true) by decide)] at H; exact H
                        clear H
                        have H := H1
                        clear H1
                        have H' := Aside0.mk H
                        clear H
                        go_wp2
                        repeat (go_quiet (fail); try go_wp2)
                        go_loopg [14] kj21 (fun kq v14 w' => ∃ (x14_4 : Int), v14 = .int .i64 x14_4 ∧ Aside0 (aquiferlaw11_LexJoins.l0 kq a0 t131 t136 t144 x14_4 = some r) ∧ Aside0 (kq ≤ kj21) ∧ Aside0 (Kd.R k49 49 w' w.heap.size (fun k_ => some k_ ≠ (v139 : Value).ownBlock ∧ some k_ ≠ (v147 : Value).ownBlock) v134 t131) ∧ Aside0 (Kd.R k49 49 w' w.heap.size (fun k_ => some k_ ≠ (v134 : Value).ownBlock ∧ some k_ ≠ (v147 : Value).ownBlock) v139 t136) ∧ Aside0 (Kd.R k49 49 w' w.heap.size (fun k_ => some k_ ≠ (v134 : Value).ownBlock ∧ some k_ ≠ (v139 : Value).ownBlock) v147 t144) ∧ Aside0 (Below w.heap.size w w'))
                        case atStart => exact ⟨(0), (by first | rfl | (simp; done) | (simp [bne]; done) | (simp [*]; done)), H', ⟨Nat.le_refl _⟩, ⟨by (with_reducible repeat (first | apply Kd.R_alloc | apply Kd.R_drewN | apply Kd.R_drew)); exact HO_5.out⟩, ⟨by (with_reducible repeat (first | apply Kd.R_alloc | apply Kd.R_drewN | apply Kd.R_drew)); exact HO_8.out⟩, ⟨by (with_reducible repeat (first | apply Kd.R_alloc | apply Kd.R_drewN | apply Kd.R_drew)); exact HO_11.out⟩, ⟨by repeat (first | (with_reducible first | exact HB.out | apply below_alloc | apply pw_below_drewN | apply below_drew1) | exact HB.out)⟩⟩
                        case round =>
                          clear H'
                          try clear c1
                          try clear c2
                          try clear p2
                          try clear c4
                          try clear c4b0
                          try clear c4b1
                          try clear c5
                          try clear p6
                          try clear c9
                          try clear c14
                          try clear c14b0
                          try clear c14b1
                          try clear c16
                          try clear c19
                          try clear c19b0
                          try clear c19b1
                          try clear c19b2
                          try clear c20
                          try clear c20b0
                          try clear c20b1
                          try clear c20b2
                          try clear c25
                          try clear c25b0
                          try clear c25b1
                          try clear c29
                          try clear p2
                          try clear p6
                          obtain ⟨x14_4, rfl, HA, HK4, HO_5, HO_8, HO_11, HB⟩ := hrel
                          cases gk with
                          | zero => exact absurd HA.out (by simp [aquiferlaw11_LexJoins.l0])
                          | succ k4 =>
                            have H := HA.out
                            clear HA
                            simp only [aquiferlaw11_LexJoins.l0] at H
                            by_cases c30 : x14_4 < (t144.length : Int)
                            · rw [if_pos c30] at H
                              have c30b0 : decide (x14_4 < (t144.length : Int)) = true := decide_eq_true c30
                              clear c30
                              by_cases c31 : x14_4 < (wrap64 ((t131.length : Int) - 1))
                              · rw [if_pos c31] at H
                                have c31b0 : decide (x14_4 < (wrap64 ((t131.length : Int) - 1))) = true := decide_eq_true c31
                                clear c31
                                by_cases c32 : 0 ≤ x14_4
                                · rw [if_pos c32] at H
                                  have c32b0 : decide (0 ≤ x14_4) = true := decide_eq_true c32
                                  clear c32
                                  by_cases c33 : x14_4 < (t131.length : Int)
                                  · rw [if_pos c33] at H
                                    have c33b0 : decide (x14_4 < (t131.length : Int)) = true := decide_eq_true c33
                                    clear c33
                                    by_cases c34 : (!(((rd_T49 t144 x14_4).f0) == ((rd_T49 t131 x14_4).f0)) || (!((((rd_T49 t144 x14_4).f1).toList) == (((rd_T49 t131 x14_4).f1).toList)) || (!(((rd_T49 t144 x14_4).f2) == ((rd_T49 t131 x14_4).f2))))) = true
                                    · rw [if_pos c34] at H
                                      have c34b0 : (!(((rd_T49 t144 x14_4).f0) == ((rd_T49 t131 x14_4).f0)) || (!((((rd_T49 t144 x14_4).f1).toList) == (((rd_T49 t131 x14_4).f1).toList)) || (!(((rd_T49 t144 x14_4).f2) == ((rd_T49 t131 x14_4).f2))))) = true := c34
                                      clear c34
                                      exact absurd (HLT_.out.symm.trans (Option.some.inj H).symm) (by decide)
                                    · rw [if_neg c34] at H
                                      have c34b0 : (!(((rd_T49 t144 x14_4).f0) == ((rd_T49 t131 x14_4).f0)) || (!((((rd_T49 t144 x14_4).f1).toList) == (((rd_T49 t131 x14_4).f1).toList)) || (!(((rd_T49 t144 x14_4).f2) == ((rd_T49 t131 x14_4).f2))))) = false := by simpa using c34
                                      clear c34
                                      have H' := Aside0.mk H
                                      clear H
                                      obtain ⟨Ao35, co35, eo35⟩ := Kd.R_slice HO_11.out
                                      subst eo35
                                      go_wp2_with (first | ((with_reducible refine gate_dst (N := 15) rfl ?_); (try (refine gate_guard (by rfl) ?_; dsimp only)); refine box_event ?hg (N := 15) ?hd (cs := #[.int .i64 0, .string (⟨#[]⟩ : ByteArray), .int .i64 0]) (t := 49) ?hr ?_; (case hd => rfl); (case hg => rfl); (case hr => first | (go_simp; done) | (go_simp; rfl)); intro gb151 hg w36 hbox hb; have n0_ := Aside0.mk (Kd.R_below (Kd.R_elderB (by (with_reducible repeat (first | apply Kd.R_alloc | apply Kd.R_drewN | apply Kd.R_drew)); exact HO_5.out) gb151 (Nat.le_of_eq hg.symm)) hb); have n1_ := Aside0.mk (Kd.R_below (Kd.R_elderB (by (with_reducible repeat (first | apply Kd.R_alloc | apply Kd.R_drewN | apply Kd.R_drew)); exact HO_8.out) gb151 (Nat.le_of_eq hg.symm)) hb); have n2_ := Aside0.mk (Kd.R_below (Kd.R_elderB (by (with_reducible repeat (first | apply Kd.R_alloc | apply Kd.R_drewN | apply Kd.R_drew)); exact HO_11.out) gb151 (Nat.le_of_eq hg.symm)) hb); have n3_ := Aside0.mk (below_step (by repeat (first | (with_reducible first | exact HB.out | apply below_alloc | apply pw_below_drewN | apply below_drew1) | exact HB.out)) hb); have n4_ := Aside0.mk (hbox); have n5_ := Aside0.mk ((by rw [hg]; exact (below_size (by repeat (first | (with_reducible first | exact HB.out | apply below_alloc | apply pw_below_drewN | apply below_drew1) | exact HB.out))) : w.heap.size ≤ gb151)); have n6_ := Aside0.mk ((by rw [hg]; exact (below_size (by repeat (first | (with_reducible first | exact HB.out | apply below_alloc | apply pw_below_drewN | apply below_drew1) | exact HB.out))) : w.heap.size ≤ gb151)); clear HO_5; clear HO_8; clear HO_11; clear HB; have HO_5 := n0_; have HO_8 := n1_; have HO_11 := n2_; have HB := n3_; have BK151 := n4_; have GW151 := n5_; have GE151 := n6_; clear n0_ n1_ n2_ n3_ n4_ n5_ n6_; clear hb hbox hg; have hcz37_0 : w36.cell? ⟨gb151, 0, none⟩ = some (.int .i64 0) := (blk_cell BK151.out 0).trans rfl; have hcz37_1 : w36.cell? ⟨gb151, 1, none⟩ = some (.string (⟨#[]⟩ : ByteArray)) := (blk_cell BK151.out 1).trans rfl; have hcz37_2 : w36.cell? ⟨gb151, 2, none⟩ = some (.int .i64 0) := (blk_cell BK151.out 2).trans rfl; have hfz37_0 := blk_frozen BK151.out 0; have hfz37_1 := blk_frozen BK151.out 1; have hfz37_2 := blk_frozen BK151.out 2; obtain ⟨Ao38, co38, eo38⟩ := Kd.R_slice HO_5.out; subst eo38; have p152 : 0 ≤ (x14_4 : Int) := of_decide_eq_true (by first | (with_reducible assumption) | assumption); have q152 : x14_4 < (t131.length : Int) := of_decide_eq_true (by first | (with_reducible assumption) | assumption); obtain ⟨ad152, e152, hx152_0, hx152_1, hx152_2⟩ := at_T49 (Kd.R_reads' HO_5.out).2.2 x14_4 p152 q152; cases e152; have hn152_0 : ad152.block ≠ gb151 := Kd.own_blk (by first | exact Kd.R_ne HO_5.out BK151.out (by decide) | exact (fun e_ => (HO_5.out.1 _ e_.symm).2 rfl)); have hn152_1 : ad152.block ≠ gb151 := Kd.own_blk (by first | exact Kd.R_ne HO_5.out BK151.out (by decide) | exact (fun e_ => (HO_5.out.1 _ e_.symm).2 rfl)); have hn152_2 : ad152.block ≠ gb151 := Kd.own_blk (by first | exact Kd.R_ne HO_5.out BK151.out (by decide) | exact (fun e_ => (HO_5.out.1 _ e_.symm).2 rfl)); replace hx152_0 := (cell_far (p := ⟨gb151, 0, none⟩) (by first | (rw [add_block]; exact hn152_0) | (show (Addr.add _ _).block ≠ _; rw [add_block]; exact hn152_0) | exact hn152_0) (.int .i64 0)).trans hx152_0; replace hx152_1 := (cell_far (p := ⟨gb151, 0, none⟩) (by first | (rw [add_block]; exact hn152_0) | (show (Addr.add _ _).block ≠ _; rw [add_block]; exact hn152_0) | exact hn152_0) (.int .i64 0)).trans hx152_1; replace hx152_2 := (cell_far (p := ⟨gb151, 0, none⟩) (by first | (rw [add_block]; exact hn152_0) | (show (Addr.add _ _).block ≠ _; rw [add_block]; exact hn152_0) | exact hn152_0) (.int .i64 0)).trans hx152_2; replace hx152_0 := (cell_far (p := ⟨gb151, 1, none⟩) (by first | (rw [add_block]; exact hn152_1) | (show (Addr.add _ _).block ≠ _; rw [add_block]; exact hn152_1) | exact hn152_1) (.string (⟨#[]⟩ : ByteArray))).trans hx152_0; replace hx152_1 := (cell_far (p := ⟨gb151, 1, none⟩) (by first | (rw [add_block]; exact hn152_1) | (show (Addr.add _ _).block ≠ _; rw [add_block]; exact hn152_1) | exact hn152_1) (.string (⟨#[]⟩ : ByteArray))).trans hx152_1; replace hx152_2 := (cell_far (p := ⟨gb151, 1, none⟩) (by first | (rw [add_block]; exact hn152_1) | (show (Addr.add _ _).block ≠ _; rw [add_block]; exact hn152_1) | exact hn152_1) (.string (⟨#[]⟩ : ByteArray))).trans hx152_2; replace hx152_0 := (cell_far (p := ⟨gb151, 2, none⟩) (by first | (rw [add_block]; exact hn152_2) | (show (Addr.add _ _).block ≠ _; rw [add_block]; exact hn152_2) | exact hn152_2) (.int .i64 0)).trans hx152_0; replace hx152_1 := (cell_far (p := ⟨gb151, 2, none⟩) (by first | (rw [add_block]; exact hn152_2) | (show (Addr.add _ _).block ≠ _; rw [add_block]; exact hn152_2) | exact hn152_2) (.int .i64 0)).trans hx152_1; replace hx152_2 := (cell_far (p := ⟨gb151, 2, none⟩) (by first | (rw [add_block]; exact hn152_2) | (show (Addr.add _ _).block ≠ _; rw [add_block]; exact hn152_2) | exact hn152_2) (.int .i64 0)).trans hx152_2; clear hn152_0; clear hn152_1; clear hn152_2; replace p152 := eq_true p152; replace q152 := eq_true q152; have p153 : 0 ≤ (x14_4 : Int) := of_decide_eq_true (by first | (with_reducible assumption) | assumption); have q153 : x14_4 < (t144.length : Int) := of_decide_eq_true (by first | (with_reducible assumption) | assumption); obtain ⟨ad153, e153, hx153_0, hx153_1, hx153_2⟩ := at_T49 (Kd.R_reads' HO_11.out).2.2 x14_4 p153 q153; cases e153; have hn153_0 : ad153.block ≠ gb151 := Kd.own_blk (by first | exact Kd.R_ne HO_11.out BK151.out (by decide) | exact (fun e_ => (HO_11.out.1 _ e_.symm).2 rfl)); have hn153_1 : ad153.block ≠ gb151 := Kd.own_blk (by first | exact Kd.R_ne HO_11.out BK151.out (by decide) | exact (fun e_ => (HO_11.out.1 _ e_.symm).2 rfl)); have hn153_2 : ad153.block ≠ gb151 := Kd.own_blk (by first | exact Kd.R_ne HO_11.out BK151.out (by decide) | exact (fun e_ => (HO_11.out.1 _ e_.symm).2 rfl)); have hn153_3 : ad153.block ≠ gb151 := Kd.own_blk (by first | exact Kd.R_ne HO_11.out BK151.out (by decide) | exact (fun e_ => (HO_11.out.1 _ e_.symm).2 rfl)); have hn153_4 : ad153.block ≠ gb151 := Kd.own_blk (by first | exact Kd.R_ne HO_11.out BK151.out (by decide) | exact (fun e_ => (HO_11.out.1 _ e_.symm).2 rfl)); have hn153_5 : ad153.block ≠ gb151 := Kd.own_blk (by first | exact Kd.R_ne HO_11.out BK151.out (by decide) | exact (fun e_ => (HO_11.out.1 _ e_.symm).2 rfl)); replace hx153_0 := (cell_far (p := ⟨gb151, 0, none⟩) (by first | (rw [add_block]; exact hn153_0) | (show (Addr.add _ _).block ≠ _; rw [add_block]; exact hn153_0) | exact hn153_0) (.int .i64 0)).trans hx153_0; replace hx153_1 := (cell_far (p := ⟨gb151, 0, none⟩) (by first | (rw [add_block]; exact hn153_0) | (show (Addr.add _ _).block ≠ _; rw [add_block]; exact hn153_0) | exact hn153_0) (.int .i64 0)).trans hx153_1; replace hx153_2 := (cell_far (p := ⟨gb151, 0, none⟩) (by first | (rw [add_block]; exact hn153_0) | (show (Addr.add _ _).block ≠ _; rw [add_block]; exact hn153_0) | exact hn153_0) (.int .i64 0)).trans hx153_2; replace hx153_0 := (cell_far (p := ⟨gb151, 1, none⟩) (by first | (rw [add_block]; exact hn153_1) | (show (Addr.add _ _).block ≠ _; rw [add_block]; exact hn153_1) | exact hn153_1) (.string (⟨#[]⟩ : ByteArray))).trans hx153_0; replace hx153_1 := (cell_far (p := ⟨gb151, 1, none⟩) (by first | (rw [add_block]; exact hn153_1) | (show (Addr.add _ _).block ≠ _; rw [add_block]; exact hn153_1) | exact hn153_1) (.string (⟨#[]⟩ : ByteArray))).trans hx153_1; replace hx153_2 := (cell_far (p := ⟨gb151, 1, none⟩) (by first | (rw [add_block]; exact hn153_1) | (show (Addr.add _ _).block ≠ _; rw [add_block]; exact hn153_1) | exact hn153_1) (.string (⟨#[]⟩ : ByteArray))).trans hx153_2; replace hx153_0 := (cell_far (p := ⟨gb151, 2, none⟩) (by first | (rw [add_block]; exact hn153_2) | (show (Addr.add _ _).block ≠ _; rw [add_block]; exact hn153_2) | exact hn153_2) (.int .i64 0)).trans hx153_0; replace hx153_1 := (cell_far (p := ⟨gb151, 2, none⟩) (by first | (rw [add_block]; exact hn153_2) | (show (Addr.add _ _).block ≠ _; rw [add_block]; exact hn153_2) | exact hn153_2) (.int .i64 0)).trans hx153_1; replace hx153_2 := (cell_far (p := ⟨gb151, 2, none⟩) (by first | (rw [add_block]; exact hn153_2) | (show (Addr.add _ _).block ≠ _; rw [add_block]; exact hn153_2) | exact hn153_2) (.int .i64 0)).trans hx153_2; replace hx153_0 := (cell_far (p := ⟨gb151, 0, none⟩) (by first | (rw [add_block]; exact hn153_3) | (show (Addr.add _ _).block ≠ _; rw [add_block]; exact hn153_3) | exact hn153_3) (.int .i64 ((rd_T49 t131 x14_4).f0))).trans hx153_0; replace hx153_1 := (cell_far (p := ⟨gb151, 0, none⟩) (by first | (rw [add_block]; exact hn153_3) | (show (Addr.add _ _).block ≠ _; rw [add_block]; exact hn153_3) | exact hn153_3) (.int .i64 ((rd_T49 t131 x14_4).f0))).trans hx153_1; replace hx153_2 := (cell_far (p := ⟨gb151, 0, none⟩) (by first | (rw [add_block]; exact hn153_3) | (show (Addr.add _ _).block ≠ _; rw [add_block]; exact hn153_3) | exact hn153_3) (.int .i64 ((rd_T49 t131 x14_4).f0))).trans hx153_2; replace hx153_0 := (cell_far (p := ⟨gb151, 1, none⟩) (by first | (rw [add_block]; exact hn153_4) | (show (Addr.add _ _).block ≠ _; rw [add_block]; exact hn153_4) | exact hn153_4) (.string ((rd_T49 t131 x14_4).f1))).trans hx153_0; replace hx153_1 := (cell_far (p := ⟨gb151, 1, none⟩) (by first | (rw [add_block]; exact hn153_4) | (show (Addr.add _ _).block ≠ _; rw [add_block]; exact hn153_4) | exact hn153_4) (.string ((rd_T49 t131 x14_4).f1))).trans hx153_1; replace hx153_2 := (cell_far (p := ⟨gb151, 1, none⟩) (by first | (rw [add_block]; exact hn153_4) | (show (Addr.add _ _).block ≠ _; rw [add_block]; exact hn153_4) | exact hn153_4) (.string ((rd_T49 t131 x14_4).f1))).trans hx153_2; replace hx153_0 := (cell_far (p := ⟨gb151, 2, none⟩) (by first | (rw [add_block]; exact hn153_5) | (show (Addr.add _ _).block ≠ _; rw [add_block]; exact hn153_5) | exact hn153_5) (.int .i64 ((rd_T49 t131 x14_4).f2))).trans hx153_0; replace hx153_1 := (cell_far (p := ⟨gb151, 2, none⟩) (by first | (rw [add_block]; exact hn153_5) | (show (Addr.add _ _).block ≠ _; rw [add_block]; exact hn153_5) | exact hn153_5) (.int .i64 ((rd_T49 t131 x14_4).f2))).trans hx153_1; replace hx153_2 := (cell_far (p := ⟨gb151, 2, none⟩) (by first | (rw [add_block]; exact hn153_5) | (show (Addr.add _ _).block ≠ _; rw [add_block]; exact hn153_5) | exact hn153_5) (.int .i64 ((rd_T49 t131 x14_4).f2))).trans hx153_2; clear hn153_0; clear hn153_1; clear hn153_2; clear hn153_3; clear hn153_4; clear hn153_5; replace p153 := eq_true p153; replace q153 := eq_true q153))
                                      have BKX := Aside0.mk (blk_put (cs' := #[.int .i64 ((rd_T49 t131 x14_4).f0), .string ((rd_T49 t131 x14_4).f1), .int .i64 ((rd_T49 t131 x14_4).f2)]) (blk_put (cs' := #[.int .i64 ((rd_T49 t131 x14_4).f0), .string ((rd_T49 t131 x14_4).f1), .int .i64 0]) (blk_put (cs' := #[.int .i64 ((rd_T49 t131 x14_4).f0), .string (⟨#[]⟩ : ByteArray), .int .i64 0]) (blk_put (cs' := #[.int .i64 0, .string (⟨#[]⟩ : ByteArray), .int .i64 0]) (blk_put (cs' := #[.int .i64 0, .string (⟨#[]⟩ : ByteArray), .int .i64 0]) (blk_put (cs' := #[.int .i64 0, .string (⟨#[]⟩ : ByteArray), .int .i64 0]) BK151.out 0 (.int .i64 0) rfl) 1 (.string (⟨#[]⟩ : ByteArray)) rfl) 2 (.int .i64 0) rfl) 0 (.int .i64 ((rd_T49 t131 x14_4).f0)) rfl) 1 (.string ((rd_T49 t131 x14_4).f1)) rfl) 2 (.int .i64 ((rd_T49 t131 x14_4).f2)) rfl)
                                      try clear hx152_0
                                      try clear hx152_1
                                      try clear hx152_2
                                      try clear hy152_0
                                      try clear hy152_1
                                      try clear hy152_2
                                      try clear hy153_0
                                      try clear hy153_1
                                      try clear hy153_2
                                      try clear hcz37_0
                                      try clear hcz37_1
                                      try clear hcz37_2
                                      try clear hfz37_0
                                      try clear hfz37_1
                                      try clear hfz37_2
                                      generalize hWX : ((((((w36.setCell ⟨gb151, 0, none⟩ (.int .i64 0)).setCell ⟨gb151, 1, none⟩ (.string (⟨#[]⟩ : ByteArray))).setCell ⟨gb151, 2, none⟩ (.int .i64 0)).setCell ⟨gb151, 0, none⟩ (.int .i64 ((rd_T49 t131 x14_4).f0))).setCell ⟨gb151, 1, none⟩ (.string ((rd_T49 t131 x14_4).f1))).setCell ⟨gb151, 2, none⟩ (.int .i64 ((rd_T49 t131 x14_4).f2))) = WX at BKX hx153_0 hx153_1 hx153_2 ⊢
                                      have HWX := Aside0.mk hWX
                                      clear hWX
                                      have z0_ := (blk_cell BKX.out 0).trans rfl
                                      have z1_ := (blk_cell BKX.out 1).trans rfl
                                      have z2_ := (blk_cell BKX.out 2).trans rfl
                                      repeat (go_quiet (fail); try go_wp2)
                                      go_roundg k4
                                      case measure => have := HJ2.out; have := HJ9.out; have := HJ21.out; have := HK4.out; omega
                                      case rel => obtain rfl := HWX.out; exact ⟨(wrap64 (x14_4 + 1)), (by first | rfl | (simp; done) | (simp [bne]; done) | (simp [*]; done)), H', ⟨by have := HJ2.out; have := HJ9.out; have := HJ21.out; have := HK4.out; omega⟩, ⟨by (with_reducible repeat (first | apply Kd.R_alloc | apply Kd.R_drewN | apply Kd.R_drew)); exact Kd.R_mono (Kd.R_far (p := ⟨gb151, 2, none⟩) (Kd.R_far (p := ⟨gb151, 1, none⟩) (Kd.R_far (p := ⟨gb151, 0, none⟩) (Kd.R_far (p := ⟨gb151, 2, none⟩) (Kd.R_far (p := ⟨gb151, 1, none⟩) (Kd.R_far (p := ⟨gb151, 0, none⟩) (Kd.R_mono HO_5.out (fun k_ hk => (⟨hk, hk.2⟩ : _ ∧ k_ ≠ gb151))) (fun _ hk => hk.2) (.int .i64 0)) (fun _ hk => hk.2) (.string (⟨#[]⟩ : ByteArray))) (fun _ hk => hk.2) (.int .i64 0)) (fun _ hk => hk.2) (.int .i64 ((rd_T49 t131 x14_4).f0))) (fun _ hk => hk.2) (.string ((rd_T49 t131 x14_4).f1))) (fun _ hk => hk.2) (.int .i64 ((rd_T49 t131 x14_4).f2))) (fun _ hk => by first | exact ⟨hk.1.1.1, hk.1.1.2⟩ | ((repeat' refine And.intro ?_ ?_) <;> first | exact trivial | exact hk | exact hk.1 | exact hk.2 | exact hk.1.1 | exact hk.1.2 | exact hk.2.1 | exact hk.2.2 | exact hk.1.1.1 | exact hk.1.1.2 | exact hk.1.2.1 | exact hk.1.2.2 | exact hk.2.1.1 | exact hk.2.1.2 | exact hk.2.2.1 | exact hk.2.2.2 | exact hk.1.1.1.1 | exact hk.1.1.1.2 | exact hk.1.1.2.1 | exact hk.1.1.2.2 | exact hk.1.2.1.1 | exact hk.1.2.1.2 | exact hk.1.2.2.1 | exact hk.1.2.2.2 | exact hk.2.1.1.1 | exact hk.2.1.1.2 | exact hk.2.1.2.1 | exact hk.2.1.2.2 | exact hk.2.2.1.1 | exact hk.2.2.1.2 | exact hk.2.2.2.1 | exact hk.2.2.2.2))⟩, ⟨by (with_reducible repeat (first | apply Kd.R_alloc | apply Kd.R_drewN | apply Kd.R_drew)); exact Kd.R_mono (Kd.R_far (p := ⟨gb151, 2, none⟩) (Kd.R_far (p := ⟨gb151, 1, none⟩) (Kd.R_far (p := ⟨gb151, 0, none⟩) (Kd.R_far (p := ⟨gb151, 2, none⟩) (Kd.R_far (p := ⟨gb151, 1, none⟩) (Kd.R_far (p := ⟨gb151, 0, none⟩) (Kd.R_mono HO_8.out (fun k_ hk => (⟨hk, hk.2⟩ : _ ∧ k_ ≠ gb151))) (fun _ hk => hk.2) (.int .i64 0)) (fun _ hk => hk.2) (.string (⟨#[]⟩ : ByteArray))) (fun _ hk => hk.2) (.int .i64 0)) (fun _ hk => hk.2) (.int .i64 ((rd_T49 t131 x14_4).f0))) (fun _ hk => hk.2) (.string ((rd_T49 t131 x14_4).f1))) (fun _ hk => hk.2) (.int .i64 ((rd_T49 t131 x14_4).f2))) (fun _ hk => by first | exact ⟨hk.1.1.1, hk.1.1.2⟩ | ((repeat' refine And.intro ?_ ?_) <;> first | exact trivial | exact hk | exact hk.1 | exact hk.2 | exact hk.1.1 | exact hk.1.2 | exact hk.2.1 | exact hk.2.2 | exact hk.1.1.1 | exact hk.1.1.2 | exact hk.1.2.1 | exact hk.1.2.2 | exact hk.2.1.1 | exact hk.2.1.2 | exact hk.2.2.1 | exact hk.2.2.2 | exact hk.1.1.1.1 | exact hk.1.1.1.2 | exact hk.1.1.2.1 | exact hk.1.1.2.2 | exact hk.1.2.1.1 | exact hk.1.2.1.2 | exact hk.1.2.2.1 | exact hk.1.2.2.2 | exact hk.2.1.1.1 | exact hk.2.1.1.2 | exact hk.2.1.2.1 | exact hk.2.1.2.2 | exact hk.2.2.1.1 | exact hk.2.2.1.2 | exact hk.2.2.2.1 | exact hk.2.2.2.2))⟩, ⟨by (with_reducible repeat (first | apply Kd.R_alloc | apply Kd.R_drewN | apply Kd.R_drew)); exact Kd.R_mono (Kd.R_far (p := ⟨gb151, 2, none⟩) (Kd.R_far (p := ⟨gb151, 1, none⟩) (Kd.R_far (p := ⟨gb151, 0, none⟩) (Kd.R_far (p := ⟨gb151, 2, none⟩) (Kd.R_far (p := ⟨gb151, 1, none⟩) (Kd.R_far (p := ⟨gb151, 0, none⟩) (Kd.R_mono HO_11.out (fun k_ hk => (⟨hk, hk.2⟩ : _ ∧ k_ ≠ gb151))) (fun _ hk => hk.2) (.int .i64 0)) (fun _ hk => hk.2) (.string (⟨#[]⟩ : ByteArray))) (fun _ hk => hk.2) (.int .i64 0)) (fun _ hk => hk.2) (.int .i64 ((rd_T49 t131 x14_4).f0))) (fun _ hk => hk.2) (.string ((rd_T49 t131 x14_4).f1))) (fun _ hk => hk.2) (.int .i64 ((rd_T49 t131 x14_4).f2))) (fun _ hk => by first | exact ⟨hk.1.1.1, hk.1.1.2⟩ | ((repeat' refine And.intro ?_ ?_) <;> first | exact trivial | exact hk | exact hk.1 | exact hk.2 | exact hk.1.1 | exact hk.1.2 | exact hk.2.1 | exact hk.2.2 | exact hk.1.1.1 | exact hk.1.1.2 | exact hk.1.2.1 | exact hk.1.2.2 | exact hk.2.1.1 | exact hk.2.1.2 | exact hk.2.2.1 | exact hk.2.2.2 | exact hk.1.1.1.1 | exact hk.1.1.1.2 | exact hk.1.1.2.1 | exact hk.1.1.2.2 | exact hk.1.2.1.1 | exact hk.1.2.1.2 | exact hk.1.2.2.1 | exact hk.1.2.2.2 | exact hk.2.1.1.1 | exact hk.2.1.1.2 | exact hk.2.1.2.1 | exact hk.2.1.2.2 | exact hk.2.2.1.1 | exact hk.2.2.1.2 | exact hk.2.2.2.1 | exact hk.2.2.2.2))⟩, ⟨by repeat (first | (with_reducible first | exact HB.out | apply below_alloc | apply pw_below_drewN | apply below_drew1 | refine below_set ?_ GE151.out) | exact HB.out)⟩⟩
                                  · rw [if_neg c33] at H
                                    exact absurd H (by simp)
                                · rw [if_neg c32] at H
                                  exact absurd H (by simp)
                              · rw [if_neg c31] at H
                                have c31b0 : decide (x14_4 < (wrap64 ((t131.length : Int) - 1))) = false := decide_eq_false c31
                                clear c31
                                obtain ⟨ji39, hji39⟩ : ∃ j_ : Int, (wrap64 ((wrap64 (x14_4 - (t131.length : Int))) + 1)) = j_ := ⟨_, rfl⟩
                                replace H : (if 0 ≤ (ji39) then (if (ji39) < (t136.length : Int) then (if 0 ≤ x14_4 then (if (!(((rd_T49 t144 x14_4).f0) == ((rd_T49 t136 (ji39)).f0)) || (!((((rd_T49 t144 x14_4).f1).toList) == (((rd_T49 t136 (ji39)).f1).toList)) || (!(((rd_T49 t144 x14_4).f2) == (wrap64 ((wrap64 (((rd_T49 t136 (ji39)).f2) + (a0.size : Int))) + 1)))))) = true then (some false) else (aquiferlaw11_LexJoins.l0 k4 a0 t131 t136 t144 (wrap64 (x14_4 + 1)))) else (none)) else (none)) else (none)) = some r := by first | (rw [hji39] at H; exact H) | (simp only [hji39] at H ⊢; exact H)
                                have hji39w : (IntKind.i64.wrap ((wrap64 (x14_4 - (t131.length : Int))) + 1)) = ji39 := (i64_w _).trans hji39
                                by_cases c40 : 0 ≤ (ji39)
                                · rw [if_pos c40] at H
                                  have c40b0 : decide (0 ≤ (ji39)) = true := decide_eq_true c40
                                  clear c40
                                  by_cases c41 : (ji39) < (t136.length : Int)
                                  · rw [if_pos c41] at H
                                    have c41b0 : decide ((ji39) < (t136.length : Int)) = true := decide_eq_true c41
                                    clear c41
                                    by_cases c42 : 0 ≤ x14_4
                                    · rw [if_pos c42] at H
                                      have c42b0 : decide (0 ≤ x14_4) = true := decide_eq_true c42
                                      clear c42
                                      by_cases c43 : (!(((rd_T49 t144 x14_4).f0) == ((rd_T49 t136 (ji39)).f0)) || (!((((rd_T49 t144 x14_4).f1).toList) == (((rd_T49 t136 (ji39)).f1).toList)) || (!(((rd_T49 t144 x14_4).f2) == (wrap64 ((wrap64 (((rd_T49 t136 (ji39)).f2) + (a0.size : Int))) + 1)))))) = true
                                      · rw [if_pos c43] at H
                                        have c43b0 : (!(((rd_T49 t144 x14_4).f0) == ((rd_T49 t136 (ji39)).f0)) || (!((((rd_T49 t144 x14_4).f1).toList) == (((rd_T49 t136 (ji39)).f1).toList)) || (!(((rd_T49 t144 x14_4).f2) == (wrap64 ((wrap64 (((rd_T49 t136 (ji39)).f2) + (a0.size : Int))) + 1)))))) = true := c43
                                        clear c43
                                        exact absurd (HLT_.out.symm.trans (Option.some.inj H).symm) (by decide)
                                      · rw [if_neg c43] at H
                                        have c43b0 : (!(((rd_T49 t144 x14_4).f0) == ((rd_T49 t136 (ji39)).f0)) || (!((((rd_T49 t144 x14_4).f1).toList) == (((rd_T49 t136 (ji39)).f1).toList)) || (!(((rd_T49 t144 x14_4).f2) == (wrap64 ((wrap64 (((rd_T49 t136 (ji39)).f2) + (a0.size : Int))) + 1)))))) = false := by simpa using c43
                                        clear c43
                                        have H' := Aside0.mk H
                                        clear H
                                        obtain ⟨Ao44, co44, eo44⟩ := Kd.R_slice HO_11.out
                                        subst eo44
                                        go_upto_region 17 with (first | ((with_reducible refine gate_dst (N := 15) rfl ?_); (try (refine gate_guard (by rfl) ?_; dsimp only)); refine box_event ?hg (N := 15) ?hd (cs := #[.int .i64 0, .string (⟨#[]⟩ : ByteArray), .int .i64 0]) (t := 49) ?hr ?_; (case hd => rfl); (case hg => rfl); (case hr => first | (go_simp; done) | (go_simp; rfl)); intro gb151 hg w45 hbox hb; have n0_ := Aside0.mk (Kd.R_below (Kd.R_elderB (by (with_reducible repeat (first | apply Kd.R_alloc | apply Kd.R_drewN | apply Kd.R_drew)); exact HO_5.out) gb151 (Nat.le_of_eq hg.symm)) hb); have n1_ := Aside0.mk (Kd.R_below (Kd.R_elderB (by (with_reducible repeat (first | apply Kd.R_alloc | apply Kd.R_drewN | apply Kd.R_drew)); exact HO_8.out) gb151 (Nat.le_of_eq hg.symm)) hb); have n2_ := Aside0.mk (Kd.R_below (Kd.R_elderB (by (with_reducible repeat (first | apply Kd.R_alloc | apply Kd.R_drewN | apply Kd.R_drew)); exact HO_11.out) gb151 (Nat.le_of_eq hg.symm)) hb); have n3_ := Aside0.mk (below_step (by repeat (first | (with_reducible first | exact HB.out | apply below_alloc | apply pw_below_drewN | apply below_drew1) | exact HB.out)) hb); have n4_ := Aside0.mk (hbox); have n5_ := Aside0.mk ((by rw [hg]; exact (below_size (by repeat (first | (with_reducible first | exact HB.out | apply below_alloc | apply pw_below_drewN | apply below_drew1) | exact HB.out))) : w.heap.size ≤ gb151)); have n6_ := Aside0.mk ((by rw [hg]; exact (below_size (by repeat (first | (with_reducible first | exact HB.out | apply below_alloc | apply pw_below_drewN | apply below_drew1) | exact HB.out))) : w.heap.size ≤ gb151)); clear HO_5; clear HO_8; clear HO_11; clear HB; have HO_5 := n0_; have HO_8 := n1_; have HO_11 := n2_; have HB := n3_; have BK151 := n4_; have GW151 := n5_; have GE151 := n6_; clear n0_ n1_ n2_ n3_ n4_ n5_ n6_; clear hb hbox hg; have hcz46_0 : w45.cell? ⟨gb151, 0, none⟩ = some (.int .i64 0) := (blk_cell BK151.out 0).trans rfl; have hcz46_1 : w45.cell? ⟨gb151, 1, none⟩ = some (.string (⟨#[]⟩ : ByteArray)) := (blk_cell BK151.out 1).trans rfl; have hcz46_2 : w45.cell? ⟨gb151, 2, none⟩ = some (.int .i64 0) := (blk_cell BK151.out 2).trans rfl; have hfz46_0 := blk_frozen BK151.out 0; have hfz46_1 := blk_frozen BK151.out 1; have hfz46_2 := blk_frozen BK151.out 2; obtain ⟨Ao47, co47, eo47⟩ := Kd.R_slice HO_5.out; subst eo47; obtain ⟨Ao48, co48, eo48⟩ := Kd.R_slice HO_8.out; subst eo48; have p154 : 0 ≤ ((ji39) : Int) := of_decide_eq_true (by first | (with_reducible assumption) | assumption); have q154 : (ji39) < (t136.length : Int) := of_decide_eq_true (by first | (with_reducible assumption) | assumption); obtain ⟨ad154, e154, hx154_0, hx154_1, hx154_2⟩ := at_T49 (Kd.R_reads' HO_8.out).2.2 (ji39) p154 q154; cases e154; have hn154_0 : ad154.block ≠ gb151 := Kd.own_blk (by first | exact Kd.R_ne HO_8.out BK151.out (by decide) | exact (fun e_ => (HO_8.out.1 _ e_.symm).2 rfl)); have hn154_1 : ad154.block ≠ gb151 := Kd.own_blk (by first | exact Kd.R_ne HO_8.out BK151.out (by decide) | exact (fun e_ => (HO_8.out.1 _ e_.symm).2 rfl)); have hn154_2 : ad154.block ≠ gb151 := Kd.own_blk (by first | exact Kd.R_ne HO_8.out BK151.out (by decide) | exact (fun e_ => (HO_8.out.1 _ e_.symm).2 rfl)); replace hx154_0 := (cell_far (p := ⟨gb151, 0, none⟩) (by first | (rw [add_block]; exact hn154_0) | (show (Addr.add _ _).block ≠ _; rw [add_block]; exact hn154_0) | exact hn154_0) (.int .i64 0)).trans hx154_0; replace hx154_1 := (cell_far (p := ⟨gb151, 0, none⟩) (by first | (rw [add_block]; exact hn154_0) | (show (Addr.add _ _).block ≠ _; rw [add_block]; exact hn154_0) | exact hn154_0) (.int .i64 0)).trans hx154_1; replace hx154_2 := (cell_far (p := ⟨gb151, 0, none⟩) (by first | (rw [add_block]; exact hn154_0) | (show (Addr.add _ _).block ≠ _; rw [add_block]; exact hn154_0) | exact hn154_0) (.int .i64 0)).trans hx154_2; replace hx154_0 := (cell_far (p := ⟨gb151, 1, none⟩) (by first | (rw [add_block]; exact hn154_1) | (show (Addr.add _ _).block ≠ _; rw [add_block]; exact hn154_1) | exact hn154_1) (.string (⟨#[]⟩ : ByteArray))).trans hx154_0; replace hx154_1 := (cell_far (p := ⟨gb151, 1, none⟩) (by first | (rw [add_block]; exact hn154_1) | (show (Addr.add _ _).block ≠ _; rw [add_block]; exact hn154_1) | exact hn154_1) (.string (⟨#[]⟩ : ByteArray))).trans hx154_1; replace hx154_2 := (cell_far (p := ⟨gb151, 1, none⟩) (by first | (rw [add_block]; exact hn154_1) | (show (Addr.add _ _).block ≠ _; rw [add_block]; exact hn154_1) | exact hn154_1) (.string (⟨#[]⟩ : ByteArray))).trans hx154_2; replace hx154_0 := (cell_far (p := ⟨gb151, 2, none⟩) (by first | (rw [add_block]; exact hn154_2) | (show (Addr.add _ _).block ≠ _; rw [add_block]; exact hn154_2) | exact hn154_2) (.int .i64 0)).trans hx154_0; replace hx154_1 := (cell_far (p := ⟨gb151, 2, none⟩) (by first | (rw [add_block]; exact hn154_2) | (show (Addr.add _ _).block ≠ _; rw [add_block]; exact hn154_2) | exact hn154_2) (.int .i64 0)).trans hx154_1; replace hx154_2 := (cell_far (p := ⟨gb151, 2, none⟩) (by first | (rw [add_block]; exact hn154_2) | (show (Addr.add _ _).block ≠ _; rw [add_block]; exact hn154_2) | exact hn154_2) (.int .i64 0)).trans hx154_2; clear hn154_0; clear hn154_1; clear hn154_2; replace p154 := eq_true p154; replace q154 := eq_true q154; have p155 : 0 ≤ (x14_4 : Int) := of_decide_eq_true (by first | (with_reducible assumption) | assumption); have q155 : x14_4 < (t144.length : Int) := of_decide_eq_true (by first | (with_reducible assumption) | assumption); obtain ⟨ad155, e155, hx155_0, hx155_1, hx155_2⟩ := at_T49 (Kd.R_reads' HO_11.out).2.2 x14_4 p155 q155; cases e155; have hn155_0 : ad155.block ≠ gb151 := Kd.own_blk (by first | exact Kd.R_ne HO_11.out BK151.out (by decide) | exact (fun e_ => (HO_11.out.1 _ e_.symm).2 rfl)); have hn155_1 : ad155.block ≠ gb151 := Kd.own_blk (by first | exact Kd.R_ne HO_11.out BK151.out (by decide) | exact (fun e_ => (HO_11.out.1 _ e_.symm).2 rfl)); have hn155_2 : ad155.block ≠ gb151 := Kd.own_blk (by first | exact Kd.R_ne HO_11.out BK151.out (by decide) | exact (fun e_ => (HO_11.out.1 _ e_.symm).2 rfl)); have hn155_3 : ad155.block ≠ gb151 := Kd.own_blk (by first | exact Kd.R_ne HO_11.out BK151.out (by decide) | exact (fun e_ => (HO_11.out.1 _ e_.symm).2 rfl)); have hn155_4 : ad155.block ≠ gb151 := Kd.own_blk (by first | exact Kd.R_ne HO_11.out BK151.out (by decide) | exact (fun e_ => (HO_11.out.1 _ e_.symm).2 rfl)); have hn155_5 : ad155.block ≠ gb151 := Kd.own_blk (by first | exact Kd.R_ne HO_11.out BK151.out (by decide) | exact (fun e_ => (HO_11.out.1 _ e_.symm).2 rfl)); have hn155_6 : ad155.block ≠ gb151 := Kd.own_blk (by first | exact Kd.R_ne HO_11.out BK151.out (by decide) | exact (fun e_ => (HO_11.out.1 _ e_.symm).2 rfl)); replace hx155_0 := (cell_far (p := ⟨gb151, 0, none⟩) (by first | (rw [add_block]; exact hn155_0) | (show (Addr.add _ _).block ≠ _; rw [add_block]; exact hn155_0) | exact hn155_0) (.int .i64 0)).trans hx155_0; replace hx155_1 := (cell_far (p := ⟨gb151, 0, none⟩) (by first | (rw [add_block]; exact hn155_0) | (show (Addr.add _ _).block ≠ _; rw [add_block]; exact hn155_0) | exact hn155_0) (.int .i64 0)).trans hx155_1; replace hx155_2 := (cell_far (p := ⟨gb151, 0, none⟩) (by first | (rw [add_block]; exact hn155_0) | (show (Addr.add _ _).block ≠ _; rw [add_block]; exact hn155_0) | exact hn155_0) (.int .i64 0)).trans hx155_2; replace hx155_0 := (cell_far (p := ⟨gb151, 1, none⟩) (by first | (rw [add_block]; exact hn155_1) | (show (Addr.add _ _).block ≠ _; rw [add_block]; exact hn155_1) | exact hn155_1) (.string (⟨#[]⟩ : ByteArray))).trans hx155_0; replace hx155_1 := (cell_far (p := ⟨gb151, 1, none⟩) (by first | (rw [add_block]; exact hn155_1) | (show (Addr.add _ _).block ≠ _; rw [add_block]; exact hn155_1) | exact hn155_1) (.string (⟨#[]⟩ : ByteArray))).trans hx155_1; replace hx155_2 := (cell_far (p := ⟨gb151, 1, none⟩) (by first | (rw [add_block]; exact hn155_1) | (show (Addr.add _ _).block ≠ _; rw [add_block]; exact hn155_1) | exact hn155_1) (.string (⟨#[]⟩ : ByteArray))).trans hx155_2; replace hx155_0 := (cell_far (p := ⟨gb151, 2, none⟩) (by first | (rw [add_block]; exact hn155_2) | (show (Addr.add _ _).block ≠ _; rw [add_block]; exact hn155_2) | exact hn155_2) (.int .i64 0)).trans hx155_0; replace hx155_1 := (cell_far (p := ⟨gb151, 2, none⟩) (by first | (rw [add_block]; exact hn155_2) | (show (Addr.add _ _).block ≠ _; rw [add_block]; exact hn155_2) | exact hn155_2) (.int .i64 0)).trans hx155_1; replace hx155_2 := (cell_far (p := ⟨gb151, 2, none⟩) (by first | (rw [add_block]; exact hn155_2) | (show (Addr.add _ _).block ≠ _; rw [add_block]; exact hn155_2) | exact hn155_2) (.int .i64 0)).trans hx155_2; replace hx155_0 := (cell_far (p := ⟨gb151, 0, none⟩) (by first | (rw [add_block]; exact hn155_3) | (show (Addr.add _ _).block ≠ _; rw [add_block]; exact hn155_3) | exact hn155_3) (.int .i64 ((rd_T49 t136 (ji39)).f0))).trans hx155_0; replace hx155_1 := (cell_far (p := ⟨gb151, 0, none⟩) (by first | (rw [add_block]; exact hn155_3) | (show (Addr.add _ _).block ≠ _; rw [add_block]; exact hn155_3) | exact hn155_3) (.int .i64 ((rd_T49 t136 (ji39)).f0))).trans hx155_1; replace hx155_2 := (cell_far (p := ⟨gb151, 0, none⟩) (by first | (rw [add_block]; exact hn155_3) | (show (Addr.add _ _).block ≠ _; rw [add_block]; exact hn155_3) | exact hn155_3) (.int .i64 ((rd_T49 t136 (ji39)).f0))).trans hx155_2; replace hx155_0 := (cell_far (p := ⟨gb151, 1, none⟩) (by first | (rw [add_block]; exact hn155_4) | (show (Addr.add _ _).block ≠ _; rw [add_block]; exact hn155_4) | exact hn155_4) (.string ((rd_T49 t136 (ji39)).f1))).trans hx155_0; replace hx155_1 := (cell_far (p := ⟨gb151, 1, none⟩) (by first | (rw [add_block]; exact hn155_4) | (show (Addr.add _ _).block ≠ _; rw [add_block]; exact hn155_4) | exact hn155_4) (.string ((rd_T49 t136 (ji39)).f1))).trans hx155_1; replace hx155_2 := (cell_far (p := ⟨gb151, 1, none⟩) (by first | (rw [add_block]; exact hn155_4) | (show (Addr.add _ _).block ≠ _; rw [add_block]; exact hn155_4) | exact hn155_4) (.string ((rd_T49 t136 (ji39)).f1))).trans hx155_2; replace hx155_0 := (cell_far (p := ⟨gb151, 2, none⟩) (by first | (rw [add_block]; exact hn155_5) | (show (Addr.add _ _).block ≠ _; rw [add_block]; exact hn155_5) | exact hn155_5) (.int .i64 ((rd_T49 t136 (ji39)).f2))).trans hx155_0; replace hx155_1 := (cell_far (p := ⟨gb151, 2, none⟩) (by first | (rw [add_block]; exact hn155_5) | (show (Addr.add _ _).block ≠ _; rw [add_block]; exact hn155_5) | exact hn155_5) (.int .i64 ((rd_T49 t136 (ji39)).f2))).trans hx155_1; replace hx155_2 := (cell_far (p := ⟨gb151, 2, none⟩) (by first | (rw [add_block]; exact hn155_5) | (show (Addr.add _ _).block ≠ _; rw [add_block]; exact hn155_5) | exact hn155_5) (.int .i64 ((rd_T49 t136 (ji39)).f2))).trans hx155_2; replace hx155_0 := (cell_far (p := ⟨gb151, 2, none⟩) (by first | (rw [add_block]; exact hn155_6) | (show (Addr.add _ _).block ≠ _; rw [add_block]; exact hn155_6) | exact hn155_6) (.int .i64 (wrap64 ((wrap64 (((rd_T49 t136 (ji39)).f2) + (a0.size : Int))) + 1)))).trans hx155_0; replace hx155_1 := (cell_far (p := ⟨gb151, 2, none⟩) (by first | (rw [add_block]; exact hn155_6) | (show (Addr.add _ _).block ≠ _; rw [add_block]; exact hn155_6) | exact hn155_6) (.int .i64 (wrap64 ((wrap64 (((rd_T49 t136 (ji39)).f2) + (a0.size : Int))) + 1)))).trans hx155_1; replace hx155_2 := (cell_far (p := ⟨gb151, 2, none⟩) (by first | (rw [add_block]; exact hn155_6) | (show (Addr.add _ _).block ≠ _; rw [add_block]; exact hn155_6) | exact hn155_6) (.int .i64 (wrap64 ((wrap64 (((rd_T49 t136 (ji39)).f2) + (a0.size : Int))) + 1)))).trans hx155_2; clear hn155_0; clear hn155_1; clear hn155_2; clear hn155_3; clear hn155_4; clear hn155_5; clear hn155_6; replace p155 := eq_true p155; replace q155 := eq_true q155))
                                        have BKY := Aside0.mk (blk_put (cs' := #[.int .i64 ((rd_T49 t136 (ji39)).f0), .string ((rd_T49 t136 (ji39)).f1), .int .i64 ((rd_T49 t136 (ji39)).f2)]) (blk_put (cs' := #[.int .i64 ((rd_T49 t136 (ji39)).f0), .string ((rd_T49 t136 (ji39)).f1), .int .i64 0]) (blk_put (cs' := #[.int .i64 ((rd_T49 t136 (ji39)).f0), .string (⟨#[]⟩ : ByteArray), .int .i64 0]) (blk_put (cs' := #[.int .i64 0, .string (⟨#[]⟩ : ByteArray), .int .i64 0]) (blk_put (cs' := #[.int .i64 0, .string (⟨#[]⟩ : ByteArray), .int .i64 0]) (blk_put (cs' := #[.int .i64 0, .string (⟨#[]⟩ : ByteArray), .int .i64 0]) BK151.out 0 (.int .i64 0) rfl) 1 (.string (⟨#[]⟩ : ByteArray)) rfl) 2 (.int .i64 0) rfl) 0 (.int .i64 ((rd_T49 t136 (ji39)).f0)) rfl) 1 (.string ((rd_T49 t136 (ji39)).f1)) rfl) 2 (.int .i64 ((rd_T49 t136 (ji39)).f2)) rfl)
                                        try clear hx154_0
                                        try clear hx154_1
                                        try clear hx154_2
                                        try clear hy154_0
                                        try clear hy154_1
                                        try clear hy154_2
                                        try clear hy155_0
                                        try clear hy155_1
                                        try clear hy155_2
                                        try clear hcz46_0
                                        try clear hcz46_1
                                        try clear hcz46_2
                                        try clear hfz46_0
                                        try clear hfz46_1
                                        try clear hfz46_2
                                        generalize hWY : ((((((w45.setCell ⟨gb151, 0, none⟩ (.int .i64 0)).setCell ⟨gb151, 1, none⟩ (.string (⟨#[]⟩ : ByteArray))).setCell ⟨gb151, 2, none⟩ (.int .i64 0)).setCell ⟨gb151, 0, none⟩ (.int .i64 ((rd_T49 t136 (ji39)).f0))).setCell ⟨gb151, 1, none⟩ (.string ((rd_T49 t136 (ji39)).f1))).setCell ⟨gb151, 2, none⟩ (.int .i64 ((rd_T49 t136 (ji39)).f2))) = WY at BKY hx155_0 hx155_1 hx155_2 ⊢
                                        have HWY := Aside0.mk hWY
                                        clear hWY
                                        have y0_ := (blk_cell BKY.out 0).trans rfl
                                        have y1_ := (blk_cell BKY.out 1).trans rfl
                                        have y2_ := (blk_cell BKY.out 2).trans rfl
                                        have yf_ := blk_frozen BKY.out 2
                                        go_wp2
                                        clear y0_ y1_ y2_ yf_
                                        have BKX := Aside0.mk (blk_put (cs' := #[.int .i64 ((rd_T49 t136 (ji39)).f0), .string ((rd_T49 t136 (ji39)).f1), .int .i64 (wrap64 ((wrap64 (((rd_T49 t136 (ji39)).f2) + (a0.size : Int))) + 1))]) BKY.out 2 (.int .i64 (wrap64 ((wrap64 (((rd_T49 t136 (ji39)).f2) + (a0.size : Int))) + 1))) rfl)
                                        generalize hWX : WY.setCell ⟨gb151, 2, none⟩ (.int .i64 (wrap64 ((wrap64 (((rd_T49 t136 (ji39)).f2) + (a0.size : Int))) + 1))) = WX at BKX hx155_0 hx155_1 hx155_2 ⊢
                                        have HWX := Aside0.mk hWX
                                        clear hWX
                                        have z0_ := (blk_cell BKX.out 0).trans rfl
                                        have z1_ := (blk_cell BKX.out 1).trans rfl
                                        have z2_ := (blk_cell BKX.out 2).trans rfl
                                        repeat (go_quiet (fail); try go_wp2)
                                        go_roundg k4
                                        case measure => have := HJ2.out; have := HJ9.out; have := HJ21.out; have := HK4.out; omega
                                        case rel => obtain rfl := HWX.out; obtain rfl := HWY.out; exact ⟨(wrap64 (x14_4 + 1)), (by first | rfl | (simp; done) | (simp [bne]; done) | (simp [*]; done)), H', ⟨by have := HJ2.out; have := HJ9.out; have := HJ21.out; have := HK4.out; omega⟩, ⟨by (with_reducible repeat (first | apply Kd.R_alloc | apply Kd.R_drewN | apply Kd.R_drew)); exact Kd.R_mono (Kd.R_far (p := ⟨gb151, 2, none⟩) (Kd.R_far (p := ⟨gb151, 2, none⟩) (Kd.R_far (p := ⟨gb151, 1, none⟩) (Kd.R_far (p := ⟨gb151, 0, none⟩) (Kd.R_far (p := ⟨gb151, 2, none⟩) (Kd.R_far (p := ⟨gb151, 1, none⟩) (Kd.R_far (p := ⟨gb151, 0, none⟩) (Kd.R_mono HO_5.out (fun k_ hk => (⟨hk, hk.2⟩ : _ ∧ k_ ≠ gb151))) (fun _ hk => hk.2) (.int .i64 0)) (fun _ hk => hk.2) (.string (⟨#[]⟩ : ByteArray))) (fun _ hk => hk.2) (.int .i64 0)) (fun _ hk => hk.2) (.int .i64 ((rd_T49 t136 (ji39)).f0))) (fun _ hk => hk.2) (.string ((rd_T49 t136 (ji39)).f1))) (fun _ hk => hk.2) (.int .i64 ((rd_T49 t136 (ji39)).f2))) (fun _ hk => hk.2) (.int .i64 (wrap64 ((wrap64 (((rd_T49 t136 (ji39)).f2) + (a0.size : Int))) + 1)))) (fun _ hk => by first | exact ⟨hk.1.1.1, hk.1.1.2⟩ | ((repeat' refine And.intro ?_ ?_) <;> first | exact trivial | exact hk | exact hk.1 | exact hk.2 | exact hk.1.1 | exact hk.1.2 | exact hk.2.1 | exact hk.2.2 | exact hk.1.1.1 | exact hk.1.1.2 | exact hk.1.2.1 | exact hk.1.2.2 | exact hk.2.1.1 | exact hk.2.1.2 | exact hk.2.2.1 | exact hk.2.2.2 | exact hk.1.1.1.1 | exact hk.1.1.1.2 | exact hk.1.1.2.1 | exact hk.1.1.2.2 | exact hk.1.2.1.1 | exact hk.1.2.1.2 | exact hk.1.2.2.1 | exact hk.1.2.2.2 | exact hk.2.1.1.1 | exact hk.2.1.1.2 | exact hk.2.1.2.1 | exact hk.2.1.2.2 | exact hk.2.2.1.1 | exact hk.2.2.1.2 | exact hk.2.2.2.1 | exact hk.2.2.2.2))⟩, ⟨by (with_reducible repeat (first | apply Kd.R_alloc | apply Kd.R_drewN | apply Kd.R_drew)); exact Kd.R_mono (Kd.R_far (p := ⟨gb151, 2, none⟩) (Kd.R_far (p := ⟨gb151, 2, none⟩) (Kd.R_far (p := ⟨gb151, 1, none⟩) (Kd.R_far (p := ⟨gb151, 0, none⟩) (Kd.R_far (p := ⟨gb151, 2, none⟩) (Kd.R_far (p := ⟨gb151, 1, none⟩) (Kd.R_far (p := ⟨gb151, 0, none⟩) (Kd.R_mono HO_8.out (fun k_ hk => (⟨hk, hk.2⟩ : _ ∧ k_ ≠ gb151))) (fun _ hk => hk.2) (.int .i64 0)) (fun _ hk => hk.2) (.string (⟨#[]⟩ : ByteArray))) (fun _ hk => hk.2) (.int .i64 0)) (fun _ hk => hk.2) (.int .i64 ((rd_T49 t136 (ji39)).f0))) (fun _ hk => hk.2) (.string ((rd_T49 t136 (ji39)).f1))) (fun _ hk => hk.2) (.int .i64 ((rd_T49 t136 (ji39)).f2))) (fun _ hk => hk.2) (.int .i64 (wrap64 ((wrap64 (((rd_T49 t136 (ji39)).f2) + (a0.size : Int))) + 1)))) (fun _ hk => by first | exact ⟨hk.1.1.1, hk.1.1.2⟩ | ((repeat' refine And.intro ?_ ?_) <;> first | exact trivial | exact hk | exact hk.1 | exact hk.2 | exact hk.1.1 | exact hk.1.2 | exact hk.2.1 | exact hk.2.2 | exact hk.1.1.1 | exact hk.1.1.2 | exact hk.1.2.1 | exact hk.1.2.2 | exact hk.2.1.1 | exact hk.2.1.2 | exact hk.2.2.1 | exact hk.2.2.2 | exact hk.1.1.1.1 | exact hk.1.1.1.2 | exact hk.1.1.2.1 | exact hk.1.1.2.2 | exact hk.1.2.1.1 | exact hk.1.2.1.2 | exact hk.1.2.2.1 | exact hk.1.2.2.2 | exact hk.2.1.1.1 | exact hk.2.1.1.2 | exact hk.2.1.2.1 | exact hk.2.1.2.2 | exact hk.2.2.1.1 | exact hk.2.2.1.2 | exact hk.2.2.2.1 | exact hk.2.2.2.2))⟩, ⟨by (with_reducible repeat (first | apply Kd.R_alloc | apply Kd.R_drewN | apply Kd.R_drew)); exact Kd.R_mono (Kd.R_far (p := ⟨gb151, 2, none⟩) (Kd.R_far (p := ⟨gb151, 2, none⟩) (Kd.R_far (p := ⟨gb151, 1, none⟩) (Kd.R_far (p := ⟨gb151, 0, none⟩) (Kd.R_far (p := ⟨gb151, 2, none⟩) (Kd.R_far (p := ⟨gb151, 1, none⟩) (Kd.R_far (p := ⟨gb151, 0, none⟩) (Kd.R_mono HO_11.out (fun k_ hk => (⟨hk, hk.2⟩ : _ ∧ k_ ≠ gb151))) (fun _ hk => hk.2) (.int .i64 0)) (fun _ hk => hk.2) (.string (⟨#[]⟩ : ByteArray))) (fun _ hk => hk.2) (.int .i64 0)) (fun _ hk => hk.2) (.int .i64 ((rd_T49 t136 (ji39)).f0))) (fun _ hk => hk.2) (.string ((rd_T49 t136 (ji39)).f1))) (fun _ hk => hk.2) (.int .i64 ((rd_T49 t136 (ji39)).f2))) (fun _ hk => hk.2) (.int .i64 (wrap64 ((wrap64 (((rd_T49 t136 (ji39)).f2) + (a0.size : Int))) + 1)))) (fun _ hk => by first | exact ⟨hk.1.1.1, hk.1.1.2⟩ | ((repeat' refine And.intro ?_ ?_) <;> first | exact trivial | exact hk | exact hk.1 | exact hk.2 | exact hk.1.1 | exact hk.1.2 | exact hk.2.1 | exact hk.2.2 | exact hk.1.1.1 | exact hk.1.1.2 | exact hk.1.2.1 | exact hk.1.2.2 | exact hk.2.1.1 | exact hk.2.1.2 | exact hk.2.2.1 | exact hk.2.2.2 | exact hk.1.1.1.1 | exact hk.1.1.1.2 | exact hk.1.1.2.1 | exact hk.1.1.2.2 | exact hk.1.2.1.1 | exact hk.1.2.1.2 | exact hk.1.2.2.1 | exact hk.1.2.2.2 | exact hk.2.1.1.1 | exact hk.2.1.1.2 | exact hk.2.1.2.1 | exact hk.2.1.2.2 | exact hk.2.2.1.1 | exact hk.2.2.1.2 | exact hk.2.2.2.1 | exact hk.2.2.2.2))⟩, ⟨by repeat (first | (with_reducible first | exact HB.out | apply below_alloc | apply pw_below_drewN | apply below_drew1 | refine below_set ?_ GE151.out) | exact HB.out)⟩⟩
                                    · rw [if_neg c42] at H
                                      exact absurd H (by simp)
                                  · rw [if_neg c41] at H
                                    exact absurd H (by simp)
                                · rw [if_neg c40] at H
                                  exact absurd H (by simp)
                            · rw [if_neg c30] at H
                              have c30b0 : decide (x14_4 < (t144.length : Int)) = false := decide_eq_false c30
                              clear c30
                              replace H := Option.bind_eq_some_iff.mp H
                              obtain ⟨t150, A490, H⟩ := H
                              replace H : (some t150) = some r := H
                              have A49 := Aside0.mk A490
                              clear A490
                              obtain rfl := Option.some.inj H
                              obtain ⟨Ao50, co50, eo50⟩ := Kd.R_slice HO_11.out
                              subst eo50
                              go_wp2_with (first | (go_at_call 20; (with_reducible refine (aquiferlaw11_awake.calls k4  t150 _ A49.out).mono ?_); rintro e w51 ⟨rfl, hb⟩; have n0_ := Aside0.mk (Kd.R_below (by (with_reducible repeat (first | apply Kd.R_alloc | apply Kd.R_drewN | apply Kd.R_drew)); exact HO_5.out) hb); have n1_ := Aside0.mk (Kd.R_below (by (with_reducible repeat (first | apply Kd.R_alloc | apply Kd.R_drewN | apply Kd.R_drew)); exact HO_8.out) hb); have n2_ := Aside0.mk (Kd.R_below (by (with_reducible repeat (first | apply Kd.R_alloc | apply Kd.R_drewN | apply Kd.R_drew)); exact HO_11.out) hb); have n3_ := Aside0.mk (below_step (by repeat (first | (with_reducible first | exact HB.out | apply below_alloc | apply pw_below_drewN | apply below_drew1) | exact HB.out)) hb); clear HO_5; clear HO_8; clear HO_11; clear HB; have HO_5 := n0_; have HO_8 := n1_; have HO_11 := n2_; have HB := n3_; clear n0_ n1_ n2_ n3_; (try clear hb); (try clear hb2); (try clear hk); (try clear hi)))
                              repeat (go_quiet (first | (go_at_call 20; (with_reducible refine (aquiferlaw11_awake.calls k4  t150 _ A49.out).mono ?_); rintro e w51 ⟨rfl, hb⟩; have n0_ := Aside0.mk (Kd.R_below (by (with_reducible repeat (first | apply Kd.R_alloc | apply Kd.R_drewN | apply Kd.R_drew)); exact HO_5.out) hb); have n1_ := Aside0.mk (Kd.R_below (by (with_reducible repeat (first | apply Kd.R_alloc | apply Kd.R_drewN | apply Kd.R_drew)); exact HO_8.out) hb); have n2_ := Aside0.mk (Kd.R_below (by (with_reducible repeat (first | apply Kd.R_alloc | apply Kd.R_drewN | apply Kd.R_drew)); exact HO_11.out) hb); have n3_ := Aside0.mk (below_step (by repeat (first | (with_reducible first | exact HB.out | apply below_alloc | apply pw_below_drewN | apply below_drew1) | exact HB.out)) hb); clear HO_5; clear HO_8; clear HO_11; clear HB; have HO_5 := n0_; have HO_8 := n1_; have HO_11 := n2_; have HB := n3_; clear n0_ n1_ n2_ n3_; (try clear hb); (try clear hb2); (try clear hk); (try clear hi))); try go_wp2_with (first | (go_at_call 20; (with_reducible refine (aquiferlaw11_awake.calls k4  t150 _ A49.out).mono ?_); rintro e w51 ⟨rfl, hb⟩; have n0_ := Aside0.mk (Kd.R_below (by (with_reducible repeat (first | apply Kd.R_alloc | apply Kd.R_drewN | apply Kd.R_drew)); exact HO_5.out) hb); have n1_ := Aside0.mk (Kd.R_below (by (with_reducible repeat (first | apply Kd.R_alloc | apply Kd.R_drewN | apply Kd.R_drew)); exact HO_8.out) hb); have n2_ := Aside0.mk (Kd.R_below (by (with_reducible repeat (first | apply Kd.R_alloc | apply Kd.R_drewN | apply Kd.R_drew)); exact HO_11.out) hb); have n3_ := Aside0.mk (below_step (by repeat (first | (with_reducible first | exact HB.out | apply below_alloc | apply pw_below_drewN | apply below_drew1) | exact HB.out)) hb); clear HO_5; clear HO_8; clear HO_11; clear HB; have HO_5 := n0_; have HO_8 := n1_; have HO_11 := n2_; have HB := n3_; clear n0_ n1_ n2_ n3_; (try clear hb); (try clear hb2); (try clear hk); (try clear hi))))
                              go_ret
                              exact ⟨by first | rfl | (simp [errW_none, errW_some] <;> rfl) | (simp [*, errW_none, errW_some] <;> rfl), by repeat (first | (with_reducible first | exact HB.out | apply below_alloc | apply pw_below_drewN | apply below_drew1) | exact HB.out)⟩
                · rw [if_neg c20] at H
                  exact absurd H (by simp)
              · rw [if_neg c19] at H
                exact absurd H (by simp)

/-- THE ONE PURE STATEMENT of aquiferlaw11_LexJoins: yours. -/
def aquiferlaw11_LexJoins.Pure : Prop := ∀ (a0 : ByteArray) (a1 : ByteArray), a0.size ≤ 140737488351232 → a1.size ≤ 140737488351232 → ∃ k, aquiferlaw11_LexJoins.f k a0 a1 = some true
theorem aquiferlaw11_LexJoins.walk (P : aquiferlaw11_LexJoins.Pure) (a0 : ByteArray) (a1 : ByteArray) (w : World) (w0 : a0.size ≤ 140737488351232) (w1 : a1.size ≤ 140737488351232) :
    Calls Try.prog 9 #[.string a0, .string a1] w fun e w' => e = .returned (.bool true) ∧ Below w.heap.size w w' := by
  obtain ⟨k, h⟩ := P a0 a1 w0 w1
  refine (aquiferlaw11_LexJoins.calls k a0 a1 true w ⟨rfl⟩ h).mono ?_
  rintro e w' ⟨rfl, hd⟩
  exact ⟨rfl, hd⟩

end Go.Proofs.Ytlleenoigcjemaa.QLexJoins
