import Derived.Test.YtcjnhnnfoadklaaZRCx17
namespace Go.Proofs.Ytcjnhnnfoadklaa.QRunCounts
open Go.RowKit Go.Proofs.YtcjnhnnfoadklaaW.PrintWords Go.Proofs.YtcjnhnnfoadklaaW.PrintLast Go.Proofs.YtcjnhnnfoadklaaW.PrintMore
attribute [local go_sem] max2_int min2_int max_two min_two max_three min_three max_four min_four
set_option linter.unusedVariables false
set_option linter.unusedSimpArgs false
def aquiferref1_Digits.l0 : Nat → Int → Int → ByteArray → Option (ByteArray)
 | 0, _, _, _ => none
 | k + 1, x0, x3, x4 => if x3 ≥ 10 then ((some (([(IntKind.u64.wrap (48 + (Int.tmod x3 10))) % 256] : List Int) : List Int)).bind fun y842 => (if (strOfNums y842).size + x4.size ≤ 9223372036854775807 then (aquiferref1_Digits.l0 k x0 (IntKind.u64.wrap (Int.tdiv x3 10)) ((strOfNums y842) ++ x4)) else (none))) else ((some (([(IntKind.u64.wrap (48 + x3)) % 256] : List Int) : List Int)).bind fun y845 => (if (strOfNums y845).size + x4.size ≤ 9223372036854775807 then (if x0 < 0 then (none) else (some ((strOfNums y845) ++ x4))) else (none)))
def aquiferref1_Digits.f (k : Nat) (a0 : Int) : Option (ByteArray) := if a0 < 0 then (none) else (aquiferref1_Digits.l0 k a0 (IntKind.u64.wrap (a0)) (⟨#[]⟩ : ByteArray))
theorem aquiferref1_Digits.mono_l : ∀ k, (∀ y0 y1 y2, LeO (aquiferref1_Digits.l0 k y0 y1 y2) (aquiferref1_Digits.l0 (k + 1) y0 y1 y2))
 | 0 => fun _ _ _ r h => by simp [aquiferref1_Digits.l0] at h
 | k + 1 => by
  have ih0 := aquiferref1_Digits.mono_l k
  ·
   intro y0 y1 y2
   unfold aquiferref1_Digits.l0
   repeat' with_reducible first | apply ih0 | exact LeO.refl _ | exact LeO.none _ | refine LeO.ite ?_ ?_ | refine LeO.bind ?_ (fun _ => ?_)
theorem aquiferref1_Digits.mono : ∀ a0 k, LeO (aquiferref1_Digits.f k a0) (aquiferref1_Digits.f (k + 1) a0) := by
 intro a0 k
 have ih0 := aquiferref1_Digits.mono_l k
 unfold aquiferref1_Digits.f
 repeat' with_reducible first | apply ih0 | exact LeO.refl _ | exact LeO.none _ | refine LeO.ite ?_ ?_ | refine LeO.bind ?_ (fun _ => ?_)
set_option maxHeartbeats 8000000 in
set_option maxRecDepth 100000 in
theorem aquiferref1_Digits.calls (k : Nat) (a0 : Int) (r : ByteArray) (w : World) (h : aquiferref1_Digits.f k a0 = some r) :
  Calls Try.prog 21 #[.int .i64 a0] w fun e w' => e = .returned (.string r) ∧ Below w.heap.size w w' := by
 have HB := za (Below.refl w.heap.size w)
 have H : (if a0 < 0 then (none) else (aquiferref1_Digits.l0 k a0 (IntKind.u64.wrap (a0)) (⟨#[]⟩ : ByteArray))) = some r := h
 clear h
 by_cases c2 : a0 < 0
 ·
  rw [if_pos c2] at H
  exact absurd H (by simp)
 ·
  rw [if_neg c2] at H
  have c2b0 := decide_eq_false c2
  clear c2
  have H' := za H
  clear H
  go_enter Try.func21, Try.ntmps21
  go_wp2
  go_loopg [3, 4] k (fun kq v3 v4 w' => ∃ (x3_1 : Int) (x4_1 : ByteArray), v3 = .int .u64 x3_1 ∧ v4 = .string x4_1 ∧ Aside0 (aquiferref1_Digits.l0 kq a0 x3_1 x4_1 = some r) ∧ Aside0 (kq ≤ k) ∧ Aside0 (Below w.heap.size w w'))
  case atStart => exact ⟨(IntKind.u64.wrap (a0)), ((⟨#[]⟩ : ByteArray)), zq16, zq16, H', ⟨Nat.le_refl _⟩, ⟨zq2⟩⟩
  case round =>
   clear H'
   obtain ⟨x3_1, x4_1, rfl, rfl, HA, HK1, HB⟩ := hrel
   cases gk with
   | zero => exact absurd HA.out (by simp [aquiferref1_Digits.l0])
   | succ k1 =>
    have H := HA.out
    clear HA
    simp only [aquiferref1_Digits.l0] at H
    by_cases c3 : x3_1 ≥ 10
    ·
     rw [if_pos c3] at H
     have c3b0 : decide (10 ≤ x3_1) = true := decide_eq_true c3
     clear c3
     obtain ⟨y842, hy842⟩ : ∃ y_ : List Int, y_ = (([(IntKind.u64.wrap (48 + (Int.tmod x3_1 10))) % 256] : List Int)) := ⟨_, rfl⟩
     replace H : (if (strOfNums y842).size + x4_1.size ≤ 9223372036854775807 then (aquiferref1_Digits.l0 k1 a0 (IntKind.u64.wrap (Int.tdiv x3_1 10)) ((strOfNums y842) ++ x4_1)) else (none)) = some r := by first | (rw [hy842]; with_reducible exact H) | (have H2_ := (Option.bind_some _ _).symm.trans H; rw [hy842]; with_reducible exact H2_) | (have H2_ := (Option.bind_some _ _).symm.trans H; with_reducible exact H2_) | with_reducible exact H | (rw [hy842]; exact H) | exact H
     have Ny842 := za hy842
     clear hy842
     by_cases c4 : (strOfNums y842).size + x4_1.size ≤ 9223372036854775807
     ·
      rw [if_pos c4] at H
      have c4b0 := eq_true c4
      have c4b1 : decide ((strOfNums y842).size + x4_1.size ≤ 9223372036854775807) = true := decide_eq_true c4
      try have c4b2 : (9223372036854775807 < (strOfNums y842).size + x4_1.size) = False := eq_false (Nat.not_lt.2 c4)
      have H' := za H
      clear H
      go_wp2_with (first | ((with_reducible refine gate_dst (N := 17) rfl ?_); refine Kd.R_lit (Kd.int .u8) _ 5 ?hg (N := 17) ?hd (xs := ([(IntKind.u64.wrap (48 + (Int.tmod x3_1 10))) % 256] : List Int)) (inner := [.int .u8 ((IntKind.u64.wrap (48 + (Int.tmod x3_1 10))) % 256)]) (ok := fun _ => True) (okp := fun _ => True) ?hr ?hp (fun _ hk => hk) trivial (Below.refl _ _) (Nat.le_refl _) (by simp) ?_; (case hd => rfl); (case hg => rfl); (case hr => exact zq17); (case hp => exact (Reps.one (show Kd.M (Kd.int .u8) _ _ _ ((IntKind.u64.wrap (48 + (Int.tmod x3_1 10))) % 256) [.int .u8 ((IntKind.u64.wrap (48 + (Int.tmod x3_1 10))) % 256)] from rfl) (Reps.none _ _))); intro v843 w5 ho6 hb hg_ hnew_; clear hg_ hnew_; (first | rw [← Ny842.out] at ho6 | (simp only [Int.reduceToNat] at ho6; rw [← Ny842.out] at ho6)); have HO844 := za (Kd.R_lower ho6 (below_size zq2)); replace HB := za (below_step zq2 hb); clear hb ho6; have hcv7 := own_string (P := Try.prog) Try.underlying86 Try.underlying5 Try.underlying9 (Kd.own_of_R HO844.out); have hcw7 := fun (nq_ : Nat) => own_string (P := Try.prog) Try.underlying86 Try.underlying5 Try.underlying9 (Kd.own_of_R (Kd.R_drewN HO844.out nq_))))
      go_roundg k1
      case measure => have := HK1.out; omega
      case rel => exact ⟨(IntKind.u64.wrap (Int.tdiv x3_1 10)), ((strOfNums y842) ++ x4_1), zq16, zq16, H', ⟨by have := HK1.out; omega⟩, ⟨zq2⟩⟩
     ·
      rw [if_neg c4] at H
      exact absurd H (by simp)
    ·
     rw [if_neg c3] at H
     have c3b0 : decide (10 ≤ x3_1) = false := decide_eq_false c3
     clear c3
     obtain ⟨y845, hy845⟩ : ∃ y_ : List Int, y_ = (([(IntKind.u64.wrap (48 + x3_1)) % 256] : List Int)) := ⟨_, rfl⟩
     replace H : (if (strOfNums y845).size + x4_1.size ≤ 9223372036854775807 then (if a0 < 0 then (none) else (some ((strOfNums y845) ++ x4_1))) else (none)) = some r := by first | (rw [hy845]; with_reducible exact H) | (have H2_ := (Option.bind_some _ _).symm.trans H; rw [hy845]; with_reducible exact H2_) | (have H2_ := (Option.bind_some _ _).symm.trans H; with_reducible exact H2_) | with_reducible exact H | (rw [hy845]; exact H) | exact H
     have Ny845 := za hy845
     clear hy845
     by_cases c8 : (strOfNums y845).size + x4_1.size ≤ 9223372036854775807
     ·
      rw [if_pos c8] at H
      have c8b0 := eq_true c8
      have c8b1 := decide_eq_true c8
      try have c8b2 : (9223372036854775807 < (strOfNums y845).size + x4_1.size) = False := eq_false (Nat.not_lt.2 c8)
      by_cases c9 : a0 < 0
      ·
       rw [if_pos c9] at H
       exact absurd H (by simp)
      ·
       rw [if_neg c9] at H
       have c9b0 : decide (a0 < 0) = false := decide_eq_false c9
       clear c9
       obtain rfl := Option.some.inj H
       go_wp2_with (first | ((with_reducible refine gate_dst (N := 26) rfl ?_); refine Kd.R_lit (Kd.int .u8) _ 5 ?hg (N := 26) ?hd (xs := ([(IntKind.u64.wrap (48 + x3_1)) % 256] : List Int)) (inner := [.int .u8 ((IntKind.u64.wrap (48 + x3_1)) % 256)]) (ok := fun _ => True) (okp := fun _ => True) ?hr ?hp (fun _ hk => hk) trivial (Below.refl _ _) (Nat.le_refl _) (by simp) ?_; (case hd => rfl); (case hg => rfl); (case hr => exact zq17); (case hp => exact (Reps.one (show Kd.M (Kd.int .u8) _ _ _ ((IntKind.u64.wrap (48 + x3_1)) % 256) [.int .u8 ((IntKind.u64.wrap (48 + x3_1)) % 256)] from rfl) (Reps.none _ _))); intro v846 w10 ho11 hb hg_ hnew_; clear hg_ hnew_; (first | rw [← Ny845.out] at ho11 | (simp only [Int.reduceToNat] at ho11; rw [← Ny845.out] at ho11)); have HO847 := za (Kd.R_lower ho11 (below_size zq2)); replace HB := za (below_step zq2 hb); clear hb ho11; have hcv12 := own_string (P := Try.prog) Try.underlying86 Try.underlying5 Try.underlying9 (Kd.own_of_R HO847.out); have hcw12 := fun (nq_ : Nat) => own_string (P := Try.prog) Try.underlying86 Try.underlying5 Try.underlying9 (Kd.own_of_R (Kd.R_drewN HO847.out nq_))))
       go_ret
       exact ⟨zq14, zq2⟩
     ·
      rw [if_neg c8] at H
      exact absurd H (by simp)
def rb_place.l0 : Nat → List (S61) → ByteArray → ByteArray → Int → Option (Int)
 | 0, _, _, _, _ => none
 | k + 1, x0, x1, x2, x7 => if x7 < (x0.length : Int) then (if 0 ≤ x7 then (if ((rd_T61 x0 x7).f0).toList = x1.toList then (if ((rd_T61 x0 x7).f1).toList = x2.toList then (some x7) else (rb_place.l0 k x0 x1 x2 (wrap64 (x7 + 1)))) else (rb_place.l0 k x0 x1 x2 (wrap64 (x7 + 1)))) else (none)) else (some (-1))
def rb_place.f (k : Nat) (l0 : List (S61)) (a1 : ByteArray) (a2 : ByteArray) : Option (Int) := rb_place.l0 k l0 a1 a2 0
theorem rb_place.mono_l : ∀ k, (∀ y0 y1 y2 y3, LeO (rb_place.l0 k y0 y1 y2 y3) (rb_place.l0 (k + 1) y0 y1 y2 y3))
 | 0 => fun _ _ _ _ r h => by simp [rb_place.l0] at h
 | k + 1 => by
  have ih0 := rb_place.mono_l k
  ·
   intro y0 y1 y2 y3
   unfold rb_place.l0
   repeat' with_reducible first | apply ih0 | exact LeO.refl _ | exact LeO.none _ | refine LeO.ite ?_ ?_ | refine LeO.bind ?_ (fun _ => ?_)
theorem rb_place.mono : ∀ a0 a1 a2 k, LeO (rb_place.f k a0 a1 a2) (rb_place.f (k + 1) a0 a1 a2) := by
 intro a0 a1 a2 k
 have ih0 := rb_place.mono_l k
 unfold rb_place.f
 repeat' with_reducible first | apply ih0 | exact LeO.refl _ | exact LeO.none _ | refine LeO.ite ?_ ?_ | refine LeO.bind ?_ (fun _ => ?_)
set_option maxHeartbeats 8000000 in
set_option maxRecDepth 100000 in
theorem rb_place.calls (k : Nat) (A0 : Option Addr) (c0 : Nat) (l0 : List (S61)) (a1 : ByteArray) (a2 : ByteArray) (r : Int) (w : World) (hr0 : Kd.C k61 w A0 l0.length l0) (hc0 : l0.length ≤ c0) (h : rb_place.f k l0 a1 a2 = some r) :
  Calls Try.prog 33 #[.slice A0 l0.length c0, .string a1, .string a2] w fun e w' => e = .returned (.int .i64 r) ∧ Drawn0 w w' := by
 have HR0 := za hr0
 have HC0 := za hc0
 clear hr0 hc0
 have H : (rb_place.l0 k l0 a1 a2 0) = some r := h
 clear h
 have H' := za H
 clear H
 go_enter Try.func33, Try.ntmps33
 go_wp2
 go_loopg [7] k (fun kq v7 w' => ∃ (x7_1 : Int), v7 = .int .i64 x7_1 ∧ Aside0 (rb_place.l0 kq l0 a1 a2 x7_1 = some r) ∧ Aside0 (kq ≤ k) ∧ Drawn0 w w')
 case atStart => exact ⟨(0), zq16, H', ⟨Nat.le_refl _⟩, zq20⟩
 case round =>
  clear H'
  obtain ⟨x7_1, rfl, HA, HK1, ⟨m1, rfl⟩⟩ := hrel
  cases gk with
  | zero => exact absurd HA.out (by simp [rb_place.l0])
  | succ k1 =>
   have H := HA.out
   clear HA
   simp only [rb_place.l0] at H
   by_cases c4 : x7_1 < (l0.length : Int)
   ·
    rw [if_pos c4] at H
    have c4b0 : decide (x7_1 < (l0.length : Int)) = true := decide_eq_true c4
    clear c4
    by_cases c5 : 0 ≤ x7_1
    ·
     rw [if_pos c5] at H
     have c5b0 : decide (0 ≤ x7_1) = true := decide_eq_true c5
     clear c5
     by_cases c6 : ((rd_T61 l0 x7_1).f0).toList = a1.toList
     ·
      rw [if_pos c6] at H
      have c6b0 := beq_iff_eq.mpr c6
      have c6b1 := bne_eq_false_iff_eq.mpr c6
      clear c6
      by_cases c7 : ((rd_T61 l0 x7_1).f1).toList = a2.toList
      ·
       rw [if_pos c7] at H
       have c7b0 := beq_iff_eq.mpr c7
       have c7b1 := bne_eq_false_iff_eq.mpr c7
       clear c7
       obtain rfl := Option.some.inj H
       have p848 : 0 ≤ (x7_1 : Int) := of_decide_eq_true zq6
       have q848 : x7_1 < (l0.length : Int) := of_decide_eq_true zq6
       obtain ⟨ad848, e848, hx848_0, hx848_1, hx848_2⟩ := at_T61 HR0.out x7_1 p848 q848
       cases e848
       replace p848 := eq_true p848
       replace q848 := eq_true q848
       have p849 : 0 ≤ (x7_1 : Int) := of_decide_eq_true zq6
       have q849 : x7_1 < (l0.length : Int) := of_decide_eq_true zq6
       obtain ⟨ad849, e849, hx849_0, hx849_1, hx849_2⟩ := at_T61 HR0.out x7_1 p849 q849
       obtain rfl : ad848 = ad849 := (by injection e849)
       replace p849 := eq_true p849
       replace q849 := eq_true q849
       go_wp2
       go_ret
       exact ⟨zq26, zq20⟩
      ·
       rw [if_neg c7] at H
       have c7b0 := beq_eq_false_iff_ne.mpr c7
       have c7b1 := bne_iff_ne.mpr c7
       have H' := za H
       clear H
       have p848 : 0 ≤ (x7_1 : Int) := of_decide_eq_true zq6
       have q848 : x7_1 < (l0.length : Int) := of_decide_eq_true zq6
       obtain ⟨ad848, e848, hx848_0, hx848_1, hx848_2⟩ := at_T61 HR0.out x7_1 p848 q848
       cases e848
       replace p848 := eq_true p848
       replace q848 := eq_true q848
       have p849 : 0 ≤ (x7_1 : Int) := of_decide_eq_true zq6
       have q849 : x7_1 < (l0.length : Int) := of_decide_eq_true zq6
       obtain ⟨ad849, e849, hx849_0, hx849_1, hx849_2⟩ := at_T61 HR0.out x7_1 p849 q849
       obtain rfl : ad848 = ad849 := (by injection e849)
       replace p849 := eq_true p849
       replace q849 := eq_true q849
       go_wp2
       go_roundg k1
       case measure => have := HK1.out; omega
       case rel => exact ⟨(wrap64 (x7_1 + 1)), zq16, H', ⟨by have := HK1.out; omega⟩, zq20⟩
     ·
      rw [if_neg c6] at H
      have c6b0 := beq_eq_false_iff_ne.mpr c6
      have c6b1 := bne_iff_ne.mpr c6
      have H' := za H
      clear H
      have p848 : 0 ≤ (x7_1 : Int) := of_decide_eq_true zq6
      have q848 : x7_1 < (l0.length : Int) := of_decide_eq_true zq6
      obtain ⟨ad848, e848, hx848_0, hx848_1, hx848_2⟩ := at_T61 HR0.out x7_1 p848 q848
      cases e848
      replace p848 := eq_true p848
      replace q848 := eq_true q848
      go_wp2
      go_roundg k1
      case measure => have := HK1.out; omega
      case rel => exact ⟨(wrap64 (x7_1 + 1)), zq16, H', ⟨by have := HK1.out; omega⟩, zq20⟩
    ·
     rw [if_neg c5] at H
     exact absurd H (by simp)
   ·
    rw [if_neg c4] at H
    have c4b0 : decide (x7_1 < (l0.length : Int)) = false := decide_eq_false c4
    clear c4
    obtain rfl := Option.some.inj H
    go_wp2
    go_ret
    exact ⟨zq26, zq20⟩
def rb_Get.f (k : Nat) (l0 : List (S61)) (a1 : ByteArray) (a2 : ByteArray) : Option (Int × Bool) := (rb_place.f k l0 a1 a2).bind fun t850 => (if t850 < 0 then (some (0, false)) else (if 0 ≤ t850 then (if t850 < (l0.length : Int) then (some ((rd_T61 l0 t850).f2, true)) else (none)) else (none)))
theorem rb_Get.mono : ∀ a0 a1 a2 k, LeO (rb_Get.f k a0 a1 a2) (rb_Get.f (k + 1) a0 a1 a2) := by
 intro a0 a1 a2 k
 unfold rb_Get.f
 repeat' with_reducible first | apply rb_place.mono | exact LeO.refl _ | exact LeO.none _ | refine LeO.ite ?_ ?_ | refine LeO.bind ?_ (fun _ => ?_)
set_option maxHeartbeats 8000000 in
set_option maxRecDepth 100000 in
theorem rb_Get.calls (k : Nat) (A0 : Option Addr) (c0 : Nat) (l0 : List (S61)) (a1 : ByteArray) (a2 : ByteArray) (r1 : Int) (r2 : Bool) (w : World) (hr0 : Kd.C k61 w A0 l0.length l0) (hc0 : l0.length ≤ c0) (h : rb_Get.f k l0 a1 a2 = some (r1, r2)) :
  Calls Try.prog 22 #[.slice A0 l0.length c0, .string a1, .string a2] w fun e w' => e = .returned (.tuple #[.int .i64 r1, .bool r2]) ∧ Drawn0 w w' := by
 have HR0 := za hr0
 have HC0 := za hc0
 clear hr0 hc0
 have H : ((rb_place.f k l0 a1 a2).bind fun t850 => (if t850 < 0 then (some (0, false)) else (if 0 ≤ t850 then (if t850 < (l0.length : Int) then (some ((rd_T61 l0 t850).f2, true)) else (none)) else (none)))) = some (r1, r2) := h
 clear h
 replace H := Option.bind_eq_some_iff.mp H
 obtain ⟨t850, A40, H⟩ := H
 (try dsimp only at H)
 have A4 := za A40
 clear A40
 by_cases c5 : t850 < 0
 ·
  rw [if_pos c5] at H
  have c5b0 : decide (t850 < 0) = true := decide_eq_true c5
  clear c5
  simp only [Option.some.injEq, Prod.mk.injEq] at H
  obtain ⟨rfl, rfl⟩ := H
  go_enter Try.func22, Try.ntmps22
  go_wp2_with (first | ((with_reducible refine gate_callee (f := 33) rfl ?_); refine goesL_ (some 12) rfl rfl Try.func33 zq12 rfl #[.slice A0 l0.length c0, .string a1, .string a2] rfl zq1 ?_; (with_reducible refine (rb_place.calls k _ _ l0 a1 a2 t850 _ ?side1 ?side2 A4.out).mono ?_); (case side1 => exact zq51); (case side2 => exact HC0.out); rintro e w' ⟨rfl, ⟨nd, rfl⟩⟩; refine ⟨_, rfl, ?_⟩))
  go_ret2
  exact ⟨zq26, zq20⟩
 ·
  rw [if_neg c5] at H
  have c5b0 : decide (t850 < 0) = false := decide_eq_false c5
  clear c5
  by_cases c6 : 0 ≤ t850
  ·
   rw [if_pos c6] at H
   have c6b0 := decide_eq_true c6
   clear c6
   by_cases c7 : t850 < (l0.length : Int)
   ·
    rw [if_pos c7] at H
    have c7b0 := decide_eq_true c7
    clear c7
    simp only [Option.some.injEq, Prod.mk.injEq] at H
    obtain ⟨rfl, rfl⟩ := H
    go_enter Try.func22, Try.ntmps22
    go_wp2_with (first | ((with_reducible refine gate_callee (f := 33) rfl ?_); refine goesL_ (some 12) rfl rfl Try.func33 zq12 rfl #[.slice A0 l0.length c0, .string a1, .string a2] rfl zq1 ?_; (with_reducible refine (rb_place.calls k _ _ l0 a1 a2 t850 _ ?side1 ?side2 A4.out).mono ?_); (case side1 => exact zq51); (case side2 => exact HC0.out); rintro e w' ⟨rfl, ⟨nd, rfl⟩⟩; refine ⟨_, rfl, ?_⟩; have p851 : 0 ≤ (t850 : Int) := of_decide_eq_true zq6; have q851 : t850 < (l0.length : Int) := of_decide_eq_true zq6; obtain ⟨ad851, e851, hx851_0, hx851_1, hx851_2⟩ := at_T61 HR0.out t850 p851 q851; cases e851; replace p851 := eq_true p851; replace q851 := eq_true q851))
    go_ret2
    exact ⟨zq26, zq20⟩
   ·
    rw [if_neg c7] at H
    exact absurd H (by simp)
  ·
   rw [if_neg c6] at H
   exact absurd H (by simp)
def aquiferlaw22_RunCounts.f (k : Nat) (a0 : Int) (a1 : Int) : Option (Bool) := (aquiferref1_Digits.f k (Int.tmod (wrap64 (a0)) 100)).bind fun t852 => (if 22 + t852.size ≤ 9223372036854775807 then (if ((⟨#[109, 111, 100, 117, 108, 101, 32, 109, 59, 32, 118, 97, 114, 32, 120, 32, 58, 32, 97, 32, 61, 32]⟩ : ByteArray) ++ t852).size + 87 ≤ 9223372036854775807 then ((ra_Parse.f k (((⟨#[109, 111, 100, 117, 108, 101, 32, 109, 59, 32, 118, 97, 114, 32, 120, 32, 58, 32, 97, 32, 61, 32]⟩ : ByteArray) ++ t852) ++ (⟨#[59, 32, 118, 97, 114, 32, 121, 32, 58, 32, 97, 32, 61, 32, 48, 59, 32, 112, 114, 111, 99, 32, 112, 40, 41, 32, 112, 99, 32, 97, 32, 117, 115, 101, 115, 32, 123, 32, 116, 32, 125, 32, 123, 32, 119, 104, 105, 108, 101, 32, 120, 32, 123, 32, 120, 32, 61, 32, 120, 32, 45, 32, 49, 59, 32, 121, 32, 61, 32, 121, 32, 43, 32, 50, 59, 32, 101, 109, 105, 116, 32, 116, 59, 32, 125, 32, 125]⟩ : ByteArray))).bind fun bt853 => ((some (([(⟨bt853.1, bt853.2.1, bt853.2.2.1, bt853.2.2.2.1, bt853.2.2.2.2.1⟩ : S39)] : List (S39)) : List (S39))).bind fun y867 => ((rb_Begin.f k y867).bind fun t870 => ((run_Run.f k y867 (⟨#[109]⟩ : ByteArray) (⟨#[112]⟩ : ByteArray) ([] : List Int) t870 (Int.tmod (wrap64 (a1)) 600)).bind fun bt873 => (if bt853.2.2.2.2.2.1 = 0 then (if (Int.tmod (wrap64 (a1)) 600) < (wrap64 ((wrap64 ((wrap64 (1 + (Int.tmod (wrap64 (a0)) 100))) + 1)) + (wrap64 (3 * (Int.tmod (wrap64 (a0)) 100))))) then (if bt873.1 = 2 then (if bt873.2.2.2.2 = 0 then ((aquiferlaw22_awake.f k).bind fun t883 => (some t883)) else (some false)) else (some false)) else ((rb_Get.f k bt873.2.1 (⟨#[109]⟩ : ByteArray) (⟨#[120]⟩ : ByteArray)).bind fun bt884 => ((rb_Get.f k bt873.2.1 (⟨#[109]⟩ : ByteArray) (⟨#[121]⟩ : ByteArray)).bind fun bt886 => (if bt873.1 = 1 then (if bt873.2.2.2.2 = (wrap64 ((Int.tmod (wrap64 (a1)) 600) - (wrap64 ((wrap64 ((wrap64 (1 + (Int.tmod (wrap64 (a0)) 100))) + 1)) + (wrap64 (3 * (Int.tmod (wrap64 (a0)) 100))))))) then (if bt884.1 = 0 then (if bt886.1 = (wrap64 (2 * (Int.tmod (wrap64 (a0)) 100))) then (if (bt873.2.2.2.1.length : Int) = (Int.tmod (wrap64 (a0)) 100) then ((aquiferlaw22_awake.f k).bind fun t888 => (some t888)) else (some false)) else (some false)) else (some false)) else (some false)) else (some false))))) else (some false)))))) else (none)) else (none))
theorem aquiferlaw22_RunCounts.mono : ∀ a0 a1 k, LeO (aquiferlaw22_RunCounts.f k a0 a1) (aquiferlaw22_RunCounts.f (k + 1) a0 a1) := by
 intro a0 a1 k
 unfold aquiferlaw22_RunCounts.f
 repeat' with_reducible first | apply aquiferlaw22_awake.mono | apply ra_Parse.mono | apply aquiferref1_Digits.mono | apply rb_Begin.mono | apply rb_Get.mono | apply run_Run.mono | exact LeO.refl _ | exact LeO.none _ | refine LeO.ite ?_ ?_ | refine LeO.bind ?_ (fun _ => ?_)
set_option maxHeartbeats 8000000 in
set_option maxRecDepth 100000 in
theorem aquiferlaw22_RunCounts.calls (k : Nat) (a0 : Int) (a1 : Int) (r : Bool) (w : World) (HLT_ : Aside0 (r = true)) (h : aquiferlaw22_RunCounts.f k a0 a1 = some r) :
  Calls Try.prog 6 #[.int .u8 a0, .int .u16 a1] w fun e w' => e = .returned (.bool r) ∧ Below w.heap.size w w' := by
 have hu39 := Try.underlying39
 have hu31 := Try.underlying31
 have HB := za (Below.refl w.heap.size w)
 have H : ((aquiferref1_Digits.f k (Int.tmod (wrap64 (a0)) 100)).bind fun t852 => (if 22 + t852.size ≤ 9223372036854775807 then (if ((⟨#[109, 111, 100, 117, 108, 101, 32, 109, 59, 32, 118, 97, 114, 32, 120, 32, 58, 32, 97, 32, 61, 32]⟩ : ByteArray) ++ t852).size + 87 ≤ 9223372036854775807 then ((ra_Parse.f k (((⟨#[109, 111, 100, 117, 108, 101, 32, 109, 59, 32, 118, 97, 114, 32, 120, 32, 58, 32, 97, 32, 61, 32]⟩ : ByteArray) ++ t852) ++ (⟨#[59, 32, 118, 97, 114, 32, 121, 32, 58, 32, 97, 32, 61, 32, 48, 59, 32, 112, 114, 111, 99, 32, 112, 40, 41, 32, 112, 99, 32, 97, 32, 117, 115, 101, 115, 32, 123, 32, 116, 32, 125, 32, 123, 32, 119, 104, 105, 108, 101, 32, 120, 32, 123, 32, 120, 32, 61, 32, 120, 32, 45, 32, 49, 59, 32, 121, 32, 61, 32, 121, 32, 43, 32, 50, 59, 32, 101, 109, 105, 116, 32, 116, 59, 32, 125, 32, 125]⟩ : ByteArray))).bind fun bt853 => ((some (([(⟨bt853.1, bt853.2.1, bt853.2.2.1, bt853.2.2.2.1, bt853.2.2.2.2.1⟩ : S39)] : List (S39)) : List (S39))).bind fun y867 => ((rb_Begin.f k y867).bind fun t870 => ((run_Run.f k y867 (⟨#[109]⟩ : ByteArray) (⟨#[112]⟩ : ByteArray) ([] : List Int) t870 (Int.tmod (wrap64 (a1)) 600)).bind fun bt873 => (if bt853.2.2.2.2.2.1 = 0 then (if (Int.tmod (wrap64 (a1)) 600) < (wrap64 ((wrap64 ((wrap64 (1 + (Int.tmod (wrap64 (a0)) 100))) + 1)) + (wrap64 (3 * (Int.tmod (wrap64 (a0)) 100))))) then (if bt873.1 = 2 then (if bt873.2.2.2.2 = 0 then ((aquiferlaw22_awake.f k).bind fun t883 => (some t883)) else (some false)) else (some false)) else ((rb_Get.f k bt873.2.1 (⟨#[109]⟩ : ByteArray) (⟨#[120]⟩ : ByteArray)).bind fun bt884 => ((rb_Get.f k bt873.2.1 (⟨#[109]⟩ : ByteArray) (⟨#[121]⟩ : ByteArray)).bind fun bt886 => (if bt873.1 = 1 then (if bt873.2.2.2.2 = (wrap64 ((Int.tmod (wrap64 (a1)) 600) - (wrap64 ((wrap64 ((wrap64 (1 + (Int.tmod (wrap64 (a0)) 100))) + 1)) + (wrap64 (3 * (Int.tmod (wrap64 (a0)) 100))))))) then (if bt884.1 = 0 then (if bt886.1 = (wrap64 (2 * (Int.tmod (wrap64 (a0)) 100))) then (if (bt873.2.2.2.1.length : Int) = (Int.tmod (wrap64 (a0)) 100) then ((aquiferlaw22_awake.f k).bind fun t888 => (some t888)) else (some false)) else (some false)) else (some false)) else (some false)) else (some false))))) else (some false)))))) else (none)) else (none))) = some r := h
 clear h
 replace H := Option.bind_eq_some_iff.mp H
 obtain ⟨t852, A30, H⟩ := H
 (try dsimp only at H)
 have A3 := za A30
 clear A30
 by_cases c4 : 22 + t852.size ≤ 9223372036854775807
 ·
  rw [if_pos c4] at H
  have c4b0 := eq_true c4
  have c4b1 := decide_eq_true c4
  try have c4b2 : (9223372036854775807 < 22 + t852.size) = False := eq_false (Nat.not_lt.2 c4)
  by_cases c5 : ((⟨#[109, 111, 100, 117, 108, 101, 32, 109, 59, 32, 118, 97, 114, 32, 120, 32, 58, 32, 97, 32, 61, 32]⟩ : ByteArray) ++ t852).size + 87 ≤ 9223372036854775807
  ·
   rw [if_pos c5] at H
   have c5b0 := eq_true c5
   have c5b1 := decide_eq_true c5
   try have c5b2 : (9223372036854775807 < ((⟨#[109, 111, 100, 117, 108, 101, 32, 109, 59, 32, 118, 97, 114, 32, 120, 32, 58, 32, 97, 32, 61, 32]⟩ : ByteArray) ++ t852).size + 87) = False := eq_false (Nat.not_lt.2 c5)
   have c5b3 : (9223372036854775807 < 22 + t852.size + 87) = False := by have h_ := c5b2; simp only [ByteArray.size_append] at h_; exact h_
   replace H := Option.bind_eq_some_iff.mp H
   obtain ⟨⟨t853, t854, t855, t858, t861, t864, t865⟩, A60, H⟩ := H
   (try dsimp only at H)
   have A6 := za A60
   clear A60
   obtain ⟨y867, hy867⟩ : ∃ y_ : List (S39), y_ = (([(⟨t853, t854, t855, t858, t861⟩ : S39)] : List (S39))) := ⟨_, rfl⟩
   replace H : ((rb_Begin.f k y867).bind fun t870 => ((run_Run.f k y867 (⟨#[109]⟩ : ByteArray) (⟨#[112]⟩ : ByteArray) ([] : List Int) t870 (Int.tmod (wrap64 (a1)) 600)).bind fun bt873 => (if t864 = 0 then (if (Int.tmod (wrap64 (a1)) 600) < (wrap64 ((wrap64 ((wrap64 (1 + (Int.tmod (wrap64 (a0)) 100))) + 1)) + (wrap64 (3 * (Int.tmod (wrap64 (a0)) 100))))) then (if bt873.1 = 2 then (if bt873.2.2.2.2 = 0 then ((aquiferlaw22_awake.f k).bind fun t883 => (some t883)) else (some false)) else (some false)) else ((rb_Get.f k bt873.2.1 (⟨#[109]⟩ : ByteArray) (⟨#[120]⟩ : ByteArray)).bind fun bt884 => ((rb_Get.f k bt873.2.1 (⟨#[109]⟩ : ByteArray) (⟨#[121]⟩ : ByteArray)).bind fun bt886 => (if bt873.1 = 1 then (if bt873.2.2.2.2 = (wrap64 ((Int.tmod (wrap64 (a1)) 600) - (wrap64 ((wrap64 ((wrap64 (1 + (Int.tmod (wrap64 (a0)) 100))) + 1)) + (wrap64 (3 * (Int.tmod (wrap64 (a0)) 100))))))) then (if bt884.1 = 0 then (if bt886.1 = (wrap64 (2 * (Int.tmod (wrap64 (a0)) 100))) then (if (bt873.2.2.2.1.length : Int) = (Int.tmod (wrap64 (a0)) 100) then ((aquiferlaw22_awake.f k).bind fun t888 => (some t888)) else (some false)) else (some false)) else (some false)) else (some false)) else (some false))))) else (some false)))) = some r := by first | (rw [hy867]; with_reducible exact H) | (have H2_ := (Option.bind_some _ _).symm.trans H; rw [hy867]; with_reducible exact H2_) | (have H2_ := (Option.bind_some _ _).symm.trans H; with_reducible exact H2_) | with_reducible exact H | (rw [hy867]; exact H) | exact H
   have Ny867 := za hy867
   clear hy867
   replace H := Option.bind_eq_some_iff.mp H
   obtain ⟨t870, A70, H⟩ := H
   (try dsimp only at H)
   have A7 := za A70
   clear A70
   replace H := Option.bind_eq_some_iff.mp H
   obtain ⟨⟨t873, t874, t877, t878, t881⟩, A80, H⟩ := H
   (try dsimp only at H)
   have A8 := za A80
   clear A80
   by_cases c9 : t864 = 0
   ·
    rw [if_pos c9] at H
    have c9b0 := beq_iff_eq.mpr c9
    have c9b1 := bne_eq_false_iff_eq.mpr c9
    clear c9
    by_cases c10 : (Int.tmod (wrap64 (a1)) 600) < (wrap64 ((wrap64 ((wrap64 (1 + (Int.tmod (wrap64 (a0)) 100))) + 1)) + (wrap64 (3 * (Int.tmod (wrap64 (a0)) 100)))))
    ·
     rw [if_pos c10] at H
     have c10b0 := decide_eq_true c10
     clear c10
     by_cases c11 : t873 = 2
     ·
      rw [if_pos c11] at H
      have c11b0 := beq_iff_eq.mpr c11
      have c11b1 := bne_eq_false_iff_eq.mpr c11
      clear c11
      by_cases c12 : t881 = 0
      ·
       rw [if_pos c12] at H
       have c12b0 := beq_iff_eq.mpr c12
       have c12b1 := bne_eq_false_iff_eq.mpr c12
       clear c12
       replace H := Option.bind_eq_some_iff.mp H
       obtain ⟨t883, A130, H⟩ := H
       (try dsimp only at H)
       have A13 := za A130
       clear A130
       obtain rfl := Option.some.inj H
       go_enter Try.func6, Try.ntmps6
       go_wp2_with (first | ((with_reducible refine gate_callee (f := 21) rfl ?_); refine goesL_ (some 22) rfl rfl Try.func21 zq12 rfl #[.int .i64 (Int.tmod (wrap64 (a0)) 100)] rfl zq1 ?_; (with_reducible refine (aquiferref1_Digits.calls k (Int.tmod (wrap64 (a0)) 100) t852 _ A3.out).mono ?_); rintro e w14 ⟨rfl, hb⟩; refine ⟨_, rfl, ?_⟩; replace HB := za (below_step zq2 hb); (try clear hb)) | ((with_reducible refine gate_callee (f := 20) rfl ?_); refine goesL_ (some 25) rfl rfl Try.func20 zq12 rfl #[.string (((⟨#[109, 111, 100, 117, 108, 101, 32, 109, 59, 32, 118, 97, 114, 32, 120, 32, 58, 32, 97, 32, 61, 32]⟩ : ByteArray) ++ t852) ++ (⟨#[59, 32, 118, 97, 114, 32, 121, 32, 58, 32, 97, 32, 61, 32, 48, 59, 32, 112, 114, 111, 99, 32, 112, 40, 41, 32, 112, 99, 32, 97, 32, 117, 115, 101, 115, 32, 123, 32, 116, 32, 125, 32, 123, 32, 119, 104, 105, 108, 101, 32, 120, 32, 123, 32, 120, 32, 61, 32, 120, 32, 45, 32, 49, 59, 32, 121, 32, 61, 32, 121, 32, 43, 32, 50, 59, 32, 101, 109, 105, 116, 32, 116, 59, 32, 125, 32, 125]⟩ : ByteArray))] rfl zq1 ?_; (with_reducible refine (ra_Parse.calls k (((⟨#[109, 111, 100, 117, 108, 101, 32, 109, 59, 32, 118, 97, 114, 32, 120, 32, 58, 32, 97, 32, 61, 32]⟩ : ByteArray) ++ t852) ++ (⟨#[59, 32, 118, 97, 114, 32, 121, 32, 58, 32, 97, 32, 61, 32, 48, 59, 32, 112, 114, 111, 99, 32, 112, 40, 41, 32, 112, 99, 32, 97, 32, 117, 115, 101, 115, 32, 123, 32, 116, 32, 125, 32, 123, 32, 119, 104, 105, 108, 101, 32, 120, 32, 123, 32, 120, 32, 61, 32, 120, 32, 45, 32, 49, 59, 32, 121, 32, 61, 32, 121, 32, 43, 32, 50, 59, 32, 101, 109, 105, 116, 32, 116, 59, 32, 125, 32, 125]⟩ : ByteArray)) t853 t854 t855 t858 t861 t864 t865 _ A6.out).mono ?_); rintro e w15 ⟨v856, v859, v862, rfl, ho0, ho1, ho2, hb⟩; refine ⟨_, rfl, ?_⟩; have HO857 := za (Kd.R_lower ho0 (below_size zq2)); have HO860 := za (Kd.R_lower ho1 (below_size zq2)); have HO863 := za (Kd.N_lower (Kd.N_mono (ok' := fun k_ => some k_ ≠ (v856 : Value).ownBlock ∧ some k_ ≠ (v859 : Value).ownBlock) (Kd.R_N (Kd.R_bound (Kd.R_apart' (Kd.R_apart' ho2 (Kd.R_typed ho0) (by decide)) (Kd.R_typed ho1) (by decide)))) (fun k_ hk_ => ⟨hk_.1.1.2, hk_.1.2⟩)) (below_size zq2)); replace HB := za (below_step zq2 hb); (try clear hb ho0 ho1 ho2)) | ((with_reducible refine gate_dst (N := 6) rfl ?_); (try (refine gate_guard (by rfl) ?_; dsimp only)); refine box_event ?hg (N := 6) ?hd (cs := #[.string (⟨#[]⟩ : ByteArray), .int .i64 0, .slice none 0 0, .slice none 0 0, .slice none 0 0]) (t := 39) ?hr ?_; (case hd => rfl); (case hg => rfl); (case hr => exact zq17); intro gb866 hg w16 hbox hb; replace HO857 := za (Kd.R_below (zr HO857.out) hb); replace HO860 := za (Kd.R_below (zr HO860.out) hb); replace HO863 := za (Kd.N_below (Kd.N_elderB (by (with_reducible repeat (first | apply Kd.N_alloc | apply Kd.N_drewN | apply Kd.N_drew)); exact HO863.out) gb866 (Nat.le_of_eq hg.symm)) hb); have BK866 := za (hbox); have GW866 := za ((by rw [hg]; exact (below_size zq2) : w.heap.size ≤ gb866)); have GE866 := za ((by rw [hg]; exact (below_size zq2) : w.heap.size ≤ gb866)); replace HB := za (below_step zq2 hb); clear hb hbox hg; obtain ⟨hcz17_0, hcz17_1, hcz17_2, hcz17_3, hcz17_4⟩ := zc5 BK866.out; obtain ⟨hfz17_0, hfz17_1, hfz17_2, hfz17_3, hfz17_4⟩ := zf5 BK866.out; obtain ⟨Ao18, co18, eo18⟩ := Kd.R_slice HO857.out; subst eo18; obtain ⟨Ao19, co19, eo19⟩ := Kd.R_slice HO860.out; subst eo19; obtain ⟨Ao20, co20, eo20⟩ := Kd.N_slice HO863.out; subst eo20) | ((with_reducible refine gate_store (t := 39) (p := 6) rfl ?_); refine store_event (t := 39) (p := 6) (v := ?vo_w21) (w1 := (((((w16.setCell ⟨gb866, 0, none⟩ (.string t853)).setCell ⟨gb866, 1, none⟩ (.int .i64 t854)).setCell ⟨gb866, 2, none⟩ (.slice Ao18 t855.length co18)).setCell ⟨gb866, 3, none⟩ (.slice Ao19 t858.length co19)).setCell ⟨gb866, 4, none⟩ (.slice Ao20 t861.length co20))) ?hg ?ho ?hn ?hr ?_; (case ho => rfl); (case hg => rfl); (case hn => rfl); (case hr => exact zq17); intro w21 hw; replace HO857 : Aside0 (Kd.R k116 116 w21 w.heap.size (fun _ => True) (.slice Ao18 t855.length co18) t855) := ⟨(by rw [hw]; exact (by (with_reducible repeat (first | apply Kd.R_alloc | apply Kd.R_drewN | apply Kd.R_drew)); exact Kd.R_mono (Kd.R_far (p := ⟨gb866, 4, none⟩) (Kd.R_far (p := ⟨gb866, 3, none⟩) (Kd.R_far (p := ⟨gb866, 2, none⟩) (Kd.R_far (p := ⟨gb866, 1, none⟩) (Kd.R_far (p := ⟨gb866, 0, none⟩) (Kd.R_types HO857.out BK866.out (by decide)) (fun _ hk => hk.2) (.string t853)) (fun _ hk => hk.2) (.int .i64 t854)) (fun _ hk => hk.2) (.slice Ao18 t855.length co18)) (fun _ hk => hk.2) (.slice Ao19 t858.length co19)) (fun _ hk => hk.2) (.slice Ao20 t861.length co20)) (fun _ hk => trivial)))⟩; replace HO860 : Aside0 (Kd.R k64 64 w21 w.heap.size (fun _ => True) (.slice Ao19 t858.length co19) t858) := ⟨(by rw [hw]; exact (by (with_reducible repeat (first | apply Kd.R_alloc | apply Kd.R_drewN | apply Kd.R_drew)); exact Kd.R_mono (Kd.R_far (p := ⟨gb866, 4, none⟩) (Kd.R_far (p := ⟨gb866, 3, none⟩) (Kd.R_far (p := ⟨gb866, 2, none⟩) (Kd.R_far (p := ⟨gb866, 1, none⟩) (Kd.R_far (p := ⟨gb866, 0, none⟩) (Kd.R_types HO860.out BK866.out (by decide)) (fun _ hk => hk.2) (.string t853)) (fun _ hk => hk.2) (.int .i64 t854)) (fun _ hk => hk.2) (.slice Ao18 t855.length co18)) (fun _ hk => hk.2) (.slice Ao19 t858.length co19)) (fun _ hk => hk.2) (.slice Ao20 t861.length co20)) (fun _ hk => trivial)))⟩; replace HO863 : Aside0 (Kd.N k44 44 w21 w.heap.size (fun k_ => some k_ ≠ (.slice Ao18 t855.length co18 : Value).ownBlock ∧ some k_ ≠ (.slice Ao19 t858.length co19 : Value).ownBlock ∧ k_ ≠ gb866) (.slice Ao20 t861.length co20) t861) := ⟨(by rw [hw]; exact (by (with_reducible repeat (first | apply Kd.N_alloc | apply Kd.N_drewN | apply Kd.N_drew)); exact Kd.N_mono (Kd.N_far (p := ⟨gb866, 4, none⟩) (Kd.N_far (p := ⟨gb866, 3, none⟩) (Kd.N_far (p := ⟨gb866, 2, none⟩) (Kd.N_far (p := ⟨gb866, 1, none⟩) (Kd.N_far (p := ⟨gb866, 0, none⟩) (Kd.N_mono HO863.out (fun k_ hk => (⟨hk, hk.2⟩ : _ ∧ k_ ≠ gb866))) (fun _ hk => hk.2) (.string t853)) (fun _ hk => hk.2) (.int .i64 t854)) (fun _ hk => hk.2) (.slice Ao18 t855.length co18)) (fun _ hk => hk.2) (.slice Ao19 t858.length co19)) (fun _ hk => hk.2) (.slice Ao20 t861.length co20)) (fun _ hk => by first | exact ⟨hk.1.1.1, ⟨hk.1.1.2, hk.1.2⟩⟩ | ((repeat' refine And.intro ?_ ?_) <;> first | exact trivial | exact hk | exact hk.1 | exact hk.2 | exact hk.1.1 | exact hk.1.2 | exact hk.2.1 | exact hk.2.2 | exact hk.1.1.1 | exact hk.1.1.2 | exact hk.1.2.1 | exact hk.1.2.2 | exact hk.2.1.1 | exact hk.2.1.2 | exact hk.2.2.1 | exact hk.2.2.2 | exact hk.1.1.1.1 | exact hk.1.1.1.2 | exact hk.1.1.2.1 | exact hk.1.1.2.2 | exact hk.1.2.1.1 | exact hk.1.2.1.2 | exact hk.1.2.2.1 | exact hk.1.2.2.2 | exact hk.2.1.1.1 | exact hk.2.1.1.2 | exact hk.2.1.2.1 | exact hk.2.1.2.2 | exact hk.2.2.1.1 | exact hk.2.2.1.2 | exact hk.2.2.2.1 | exact hk.2.2.2.2))))⟩; replace BK866 : Aside0 (w21.heap[gb866]? = some (.cells #[.string t853, .int .i64 t854, .slice Ao18 t855.length co18, .slice Ao19 t858.length co19, .slice Ao20 t861.length co20] 39 (0, 0))) := ⟨(by rw [hw]; exact (by (with_reducible repeat (first | refine blk_drewN ?_ _ | refine blk_drew ?_ | refine blk_alloc ?_ _)); refine blk_put (cs := #[.string t853, .int .i64 t854, .slice Ao18 t855.length co18, .slice Ao19 t858.length co19, .slice none 0 0]) ?_ 4 _ rfl; (with_reducible repeat (first | refine blk_drewN ?_ _ | refine blk_drew ?_ | refine blk_alloc ?_ _)); refine blk_put (cs := #[.string t853, .int .i64 t854, .slice Ao18 t855.length co18, .slice none 0 0, .slice none 0 0]) ?_ 3 _ rfl; (with_reducible repeat (first | refine blk_drewN ?_ _ | refine blk_drew ?_ | refine blk_alloc ?_ _)); refine blk_put (cs := #[.string t853, .int .i64 t854, .slice none 0 0, .slice none 0 0, .slice none 0 0]) ?_ 2 _ rfl; (with_reducible repeat (first | refine blk_drewN ?_ _ | refine blk_drew ?_ | refine blk_alloc ?_ _)); refine blk_put (cs := #[.string t853, .int .i64 0, .slice none 0 0, .slice none 0 0, .slice none 0 0]) ?_ 1 _ rfl; (with_reducible repeat (first | refine blk_drewN ?_ _ | refine blk_drew ?_ | refine blk_alloc ?_ _)); refine blk_put (cs := #[.string (⟨#[]⟩ : ByteArray), .int .i64 0, .slice none 0 0, .slice none 0 0, .slice none 0 0]) ?_ 0 _ rfl; (with_reducible repeat (first | refine blk_drewN ?_ _ | refine blk_drew ?_ | refine blk_alloc ?_ _)); exact BK866.out))⟩; replace HB : Aside0 (Below w.heap.size w w21) := ⟨(by rw [hw]; exact zq19)⟩; clear hw; obtain ⟨hcz22_0, hcz22_1, hcz22_2, hcz22_3, hcz22_4⟩ := zc5 BK866.out; obtain ⟨hfz22_0, hfz22_1, hfz22_2, hfz22_3⟩ := zf4 BK866.out; have hfz22_4 := blk_frozen BK866.out 4) | ((with_reducible refine gate_dst (N := 33) rfl ?_); (try (refine gate_guard (by rfl) ?_; dsimp only)); refine Kd.N_lit k39 _ 39 ?hg (N' := 33) ?hd (xs := ([(⟨t853, t854, t855, t858, t861⟩ : S39)] : List (S39))) (inner := [.string t853, .int .i64 t854, .slice Ao18 t855.length co18, .slice Ao19 t858.length co19, .slice Ao20 t861.length co20]) (ok := (fun k_ => k_ ≠ gb866)) (okp := (fun k_ => k_ ≠ gb866)) ?hr ?hp (fun _ hk => hk) ((show ∀ k_, w21.heap.size ≤ k_ → (fun k_ => k_ ≠ gb866) k_ from fun k_ hk => Kd.freshB (g := gb866) (zb BK866.out) k_ hk) _ (Nat.le_refl _)) (Below.refl _ _) (Nat.le_refl _) (by simp) ?_; (case hd => rfl); (case hg => rfl); (case hr => exact zq17); (case hp => exact (Reps.c5 (show Kd.FK k39 _ _ (⟨t853, t854, t855, t858, t861⟩ : S39) [.string t853, .int .i64 t854, .slice Ao18 t855.length co18, .slice Ao19 t858.length co19, .slice Ao20 t861.length co20] from (k39_mkF _ _ (⟨t853, t854, t855, t858, t861⟩ : S39) (Kd.R_reads' (Kd.R_mono (ok' := (fun k_ => k_ ≠ gb866)) (Kd.R_types (HO857.out) BK866.out (by decide)) (fun k_ hk => hk.2))).2.1 (Kd.R_F (Kd.R_mono (ok' := (fun k_ => k_ ≠ gb866)) (Kd.R_types (HO857.out) BK866.out (by decide)) (fun k_ hk => hk.2))) (Kd.R_reads' (Kd.R_mono (ok' := (fun k_ => k_ ≠ gb866)) (Kd.R_types (HO860.out) BK866.out (by decide)) (fun k_ hk => hk.2))).2.1 (Kd.R_F (Kd.R_mono (ok' := (fun k_ => k_ ≠ gb866)) (Kd.R_types (HO860.out) BK866.out (by decide)) (fun k_ hk => hk.2))) (Kd.N_reads' (Kd.N_mono (ok' := (fun k_ => k_ ≠ gb866)) (HO863.out) (fun k_ hk => hk.2.2))).2.1 (Kd.N_F (Kd.N_mono (ok' := (fun k_ => k_ ≠ gb866)) (HO863.out) (fun k_ hk => hk.2.2))))) (Reps.none _ _))); intro v868 w23 ho24 hb hg_ hnew_; clear hg_ hnew_; (first | rw [← Ny867.out] at ho24 | (simp only [Int.reduceToNat] at ho24; rw [← Ny867.out] at ho24)); have HO869 := za (Kd.N_lower ho24 (below_size zq19)); replace BK866 := za (blk_below (g := gb866) (zb BK866.out) hb); replace HB := za (below_step zq19 hb); clear HO857 HO860 HO863; clear hb ho24; obtain ⟨Ao25, co25, eo25⟩ := Kd.N_slice HO869.out; subst eo25) | ((with_reducible refine gate_callee (f := 13) rfl ?_); refine goesL_ (some 36) rfl rfl Try.func13 zq12 rfl #[.slice Ao25 y867.length co25] rfl zq1 ?_; (with_reducible refine (rb_Begin.calls k _ _ y867 t870 _ ?side1 ?side2 A7.out).mono ?_); (case side1 => exact zq63); (case side2 => exact (Kd.N_reads' HO869.out).2.1); rintro e w26 ⟨v871, rfl, ho0, hb⟩; refine ⟨_, rfl, ?_⟩; replace HO869 := za (Kd.N_elder' zq66 (Kd.R_base ho0) hb); have HO872 := za (Kd.R_lower ho0 (below_size zq19)); replace BK866 := za (blk_below (g := gb866) (zb BK866.out) hb); replace HB := za (below_step zq19 hb); (try clear hb ho0); obtain ⟨Ao27, co27, eo27⟩ := Kd.R_slice HO872.out; subst eo27) | ((with_reducible refine gate_callee (f := 15) rfl ?_); refine goesL_ (some 38) rfl rfl Try.func15 zq12 rfl #[.slice Ao25 y867.length co25, .string (⟨#[109]⟩ : ByteArray), .string (⟨#[112]⟩ : ByteArray), .slice none 0 0, .slice Ao27 t870.length co27, .int .i64 (Int.tmod (wrap64 (a1)) 600)] rfl zq1 ?_; (refine (run_Run.calls k _ _ y867 (⟨#[109]⟩ : ByteArray) (⟨#[112]⟩ : ByteArray) _ _ ([] : List Int) _ _ t870 (Int.tmod (wrap64 (a1)) 600) t873 t874 t877 t878 t881 _ ?side1 ?side2 ?side3 ?side4 ?side5 ?side6 A8.out).mono ?_); (case side1 => exact zq63); (case side2 => exact (Kd.N_reads' HO869.out).2.1); (case side3 => exact Kd.C_nil _ _); (case side4 => exact zq87); (case side5 => exact zq86); (case side6 => exact (Kd.R_reads' HO872.out).2.1); rintro e w28 ⟨v875, v879, rfl, ho0, ho1, hb⟩; refine ⟨_, rfl, ?_⟩; replace HO869 := za (Kd.N_mono (Kd.N_told (Kd.N_told (Kd.N_old zq66 hb) (Kd.R_base ho0)) (Kd.R_base ho1)) (fun _ h_ => h_.1)); have HO876 := za (Kd.R_lower (Kd.R_new' ho0 (Kd.R_lt (zr HO872.out))) (below_size zq19)); replace HO872 := za (Kd.R_elder' (zr HO872.out) (Kd.R_base ho0) hb); have HO880 := za (Kd.R_lower ho1 (below_size zq19)); replace BK866 := za (blk_below (g := gb866) (zb BK866.out) hb); replace HB := za (below_step zq19 hb); (try clear hb ho0 ho1)) | ((with_reducible refine gate_dst (N := 11) rfl ?_); (try (refine gate_guard (by rfl) ?_; dsimp only)); refine box_event ?hg (N := 11) ?hd (cs := #[.int .i64 0, .slice none 0 0, .int .i64 0, .slice none 0 0, .int .i64 0]) (t := 31) ?hr ?_; (case hd => rfl); (case hg => rfl); (case hr => exact zq17); intro gb882 hg w29 hbox hb; replace HO869 := za (Kd.N_below (Kd.N_elderB zq66 gb882 (Nat.le_of_eq hg.symm)) hb); replace HO872 := za (Kd.R_below (zr HO872.out) hb); replace HO876 := za (Kd.R_below (zr HO876.out) hb); replace HO880 := za (Kd.R_below (zr HO880.out) hb); have BK882 := za (hbox); have GW882 := za ((by rw [hg]; exact (below_size zq19) : w.heap.size ≤ gb882)); have GE882 := za ((by rw [hg]; exact (below_size zq19) : w.heap.size ≤ gb882)); replace HB := za (below_step zq19 hb); have NB866_882 := za ((by rw [hg]; exact Nat.ne_of_lt (blk_lt (g := gb866) (zb BK866.out)) : gb866 ≠ gb882)); have NB882_866 := za ((by rw [hg]; exact Nat.ne_of_gt (blk_lt (g := gb866) (zb BK866.out)) : gb882 ≠ gb866)); replace BK866 := za (blk_below (g := gb866) (zb BK866.out) hb); clear hb hbox hg; have hnb30 := NB882_866.out; have hnc30 := NB866_882.out; obtain ⟨hcz31_0, hcz31_1, hcz31_2, hcz31_3, hcz31_4⟩ := zc5 BK882.out; obtain ⟨hfz31_0, hfz31_1, hfz31_2, hfz31_3, hfz31_4⟩ := zf5 BK882.out; obtain ⟨Ao32, co32, eo32⟩ := Kd.R_slice HO876.out; subst eo32; obtain ⟨Ao33, co33, eo33⟩ := Kd.R_slice HO880.out; subst eo33) | ((with_reducible refine gate_callee (f := 11) rfl ?_); (with_reducible refine gate_dst (N := 59) rfl ?_); (refine gate_guard (by rfl) ?_; dsimp only); refine goesL_ (some 59) rfl rfl Try.func11 zq12 rfl #[] rfl zq1 ?_; (with_reducible refine (aquiferlaw22_awake.calls k  t883 _ A13.out).mono ?_); rintro e w34 ⟨rfl, hb⟩; refine ⟨_, rfl, ?_⟩; replace HO869 := za (Kd.N_below (by (with_reducible repeat (first | apply Kd.N_alloc | apply Kd.N_drewN | apply Kd.N_drew)); exact (Kd.N_mono (Kd.N_far (p := ⟨gb882, 4, none⟩) (Kd.N_far (p := ⟨gb882, 3, none⟩) (Kd.N_far (p := ⟨gb882, 2, none⟩) (Kd.N_far (p := ⟨gb882, 1, none⟩) (Kd.N_far (p := ⟨gb882, 0, none⟩) (Kd.N_mono HO869.out (fun k_ hk => (⟨hk, hk.2⟩ : _ ∧ k_ ≠ gb882))) (fun _ hk => hk.2) (.int .i64 t873)) (fun _ hk => hk.2) (.slice Ao32 t874.length co32)) (fun _ hk => hk.2) (.int .i64 t877)) (fun _ hk => hk.2) (.slice Ao33 t878.length co33)) (fun _ hk => hk.2) (.int .i64 t881)) (fun _ h_ => h_.1))) hb); replace HO872 := za (Kd.R_below (by (with_reducible repeat (first | apply Kd.R_alloc | apply Kd.R_drewN | apply Kd.R_drew)); exact (Kd.R_mono (Kd.R_far (p := ⟨gb882, 4, none⟩) (Kd.R_far (p := ⟨gb882, 3, none⟩) (Kd.R_far (p := ⟨gb882, 2, none⟩) (Kd.R_far (p := ⟨gb882, 1, none⟩) (Kd.R_far (p := ⟨gb882, 0, none⟩) (Kd.R_types HO872.out BK882.out (by decide)) (fun _ hk => hk.2) (.int .i64 t873)) (fun _ hk => hk.2) (.slice Ao32 t874.length co32)) (fun _ hk => hk.2) (.int .i64 t877)) (fun _ hk => hk.2) (.slice Ao33 t878.length co33)) (fun _ hk => hk.2) (.int .i64 t881)) (fun _ h_ => h_.1))) hb); replace HO876 := za (Kd.R_below (by (with_reducible repeat (first | apply Kd.R_alloc | apply Kd.R_drewN | apply Kd.R_drew)); exact (Kd.R_mono (Kd.R_far (p := ⟨gb882, 4, none⟩) (Kd.R_far (p := ⟨gb882, 3, none⟩) (Kd.R_far (p := ⟨gb882, 2, none⟩) (Kd.R_far (p := ⟨gb882, 1, none⟩) (Kd.R_far (p := ⟨gb882, 0, none⟩) (Kd.R_types HO876.out BK882.out (by decide)) (fun _ hk => hk.2) (.int .i64 t873)) (fun _ hk => hk.2) (.slice Ao32 t874.length co32)) (fun _ hk => hk.2) (.int .i64 t877)) (fun _ hk => hk.2) (.slice Ao33 t878.length co33)) (fun _ hk => hk.2) (.int .i64 t881)) (fun _ h_ => h_.1))) hb); replace HO880 := za (Kd.R_below (by (with_reducible repeat (first | apply Kd.R_alloc | apply Kd.R_drewN | apply Kd.R_drew)); exact (Kd.R_mono (Kd.R_far (p := ⟨gb882, 4, none⟩) (Kd.R_far (p := ⟨gb882, 3, none⟩) (Kd.R_far (p := ⟨gb882, 2, none⟩) (Kd.R_far (p := ⟨gb882, 1, none⟩) (Kd.R_far (p := ⟨gb882, 0, none⟩) (Kd.R_types HO880.out BK882.out (by decide)) (fun _ hk => hk.2) (.int .i64 t873)) (fun _ hk => hk.2) (.slice Ao32 t874.length co32)) (fun _ hk => hk.2) (.int .i64 t877)) (fun _ hk => hk.2) (.slice Ao33 t878.length co33)) (fun _ hk => hk.2) (.int .i64 t881)) (fun _ h_ => h_.1))) hb); replace BK866 := za (blk_below (g := gb866) (o := .cells #[.string t853, .int .i64 t854, .slice Ao18 t855.length co18, .slice Ao19 t858.length co19, .slice Ao20 t861.length co20] 39 (0, 0)) zq33 hb); replace BK882 := za (blk_below (g := gb882) (o := .cells #[.int .i64 t873, .slice Ao32 t874.length co32, .int .i64 t877, .slice Ao33 t878.length co33, .int .i64 t881] 31 (0, 0)) (by (with_reducible repeat (first | refine blk_drewN ?_ _ | refine blk_drew ?_ | refine blk_alloc ?_ _)); refine blk_put (cs := #[.int .i64 t873, .slice Ao32 t874.length co32, .int .i64 t877, .slice Ao33 t878.length co33, .int .i64 0]) ?_ 4 _ rfl; (with_reducible repeat (first | refine blk_drewN ?_ _ | refine blk_drew ?_ | refine blk_alloc ?_ _)); refine blk_put (cs := #[.int .i64 t873, .slice Ao32 t874.length co32, .int .i64 t877, .slice none 0 0, .int .i64 0]) ?_ 3 _ rfl; (with_reducible repeat (first | refine blk_drewN ?_ _ | refine blk_drew ?_ | refine blk_alloc ?_ _)); refine blk_put (cs := #[.int .i64 t873, .slice Ao32 t874.length co32, .int .i64 0, .slice none 0 0, .int .i64 0]) ?_ 2 _ rfl; (with_reducible repeat (first | refine blk_drewN ?_ _ | refine blk_drew ?_ | refine blk_alloc ?_ _)); refine blk_put (cs := #[.int .i64 t873, .slice none 0 0, .int .i64 0, .slice none 0 0, .int .i64 0]) ?_ 1 _ rfl; (with_reducible repeat (first | refine blk_drewN ?_ _ | refine blk_drew ?_ | refine blk_alloc ?_ _)); refine blk_put (cs := #[.int .i64 0, .slice none 0 0, .int .i64 0, .slice none 0 0, .int .i64 0]) ?_ 0 _ rfl; (with_reducible repeat (first | refine blk_drewN ?_ _ | refine blk_drew ?_ | refine blk_alloc ?_ _)); exact BK882.out) hb); replace HB := za (below_step zq58 hb); (try clear hb)))
       go_ret
       exact ⟨zq14, zq58⟩
      ·
       rw [if_neg c12] at H
       have c12b0 := beq_eq_false_iff_ne.mpr c12
       have c12b1 := bne_iff_ne.mpr c12
       exact absurd (HLT_.out.symm.trans (Option.some.inj H).symm) (by decide)
     ·
      rw [if_neg c11] at H
      have c11b0 := beq_eq_false_iff_ne.mpr c11
      have c11b1 := bne_iff_ne.mpr c11
      exact absurd (HLT_.out.symm.trans (Option.some.inj H).symm) (by decide)
    ·
     rw [if_neg c10] at H
     have c10b0 := decide_eq_false c10
     clear c10
     replace H := Option.bind_eq_some_iff.mp H
     obtain ⟨⟨t884, t885⟩, A350, H⟩ := H
     (try dsimp only at H)
     have A35 := za A350
     clear A350
     replace H := Option.bind_eq_some_iff.mp H
     obtain ⟨⟨t886, t887⟩, A360, H⟩ := H
     (try dsimp only at H)
     have A36 := za A360
     clear A360
     by_cases c37 : t873 = 1
     ·
      rw [if_pos c37] at H
      have c37b0 := beq_iff_eq.mpr c37
      have c37b1 := bne_eq_false_iff_eq.mpr c37
      clear c37
      by_cases c38 : t881 = (wrap64 ((Int.tmod (wrap64 (a1)) 600) - (wrap64 ((wrap64 ((wrap64 (1 + (Int.tmod (wrap64 (a0)) 100))) + 1)) + (wrap64 (3 * (Int.tmod (wrap64 (a0)) 100)))))))
      ·
       rw [if_pos c38] at H
       have c38b0 := beq_iff_eq.mpr c38
       have c38b1 := bne_eq_false_iff_eq.mpr c38
       clear c38
       by_cases c39 : t884 = 0
       ·
        rw [if_pos c39] at H
        have c39b0 := beq_iff_eq.mpr c39
        have c39b1 := bne_eq_false_iff_eq.mpr c39
        clear c39
        by_cases c40 : t886 = (wrap64 (2 * (Int.tmod (wrap64 (a0)) 100)))
        ·
         rw [if_pos c40] at H
         have c40b0 := beq_iff_eq.mpr c40
         have c40b1 := bne_eq_false_iff_eq.mpr c40
         clear c40
         by_cases c41 : (t878.length : Int) = (Int.tmod (wrap64 (a0)) 100)
         ·
          rw [if_pos c41] at H
          have c41b0 := beq_iff_eq.mpr c41
          have c41b1 := bne_eq_false_iff_eq.mpr c41
          clear c41
          replace H := Option.bind_eq_some_iff.mp H
          obtain ⟨t888, A420, H⟩ := H
          (try dsimp only at H)
          have A42 := za A420
          clear A420
          obtain rfl := Option.some.inj H
          go_enter Try.func6, Try.ntmps6
          go_wp2_with (first | ((with_reducible refine gate_callee (f := 21) rfl ?_); refine goesL_ (some 22) rfl rfl Try.func21 zq12 rfl #[.int .i64 (Int.tmod (wrap64 (a0)) 100)] rfl zq1 ?_; (with_reducible refine (aquiferref1_Digits.calls k (Int.tmod (wrap64 (a0)) 100) t852 _ A3.out).mono ?_); rintro e w43 ⟨rfl, hb⟩; refine ⟨_, rfl, ?_⟩; replace HB := za (below_step zq2 hb); (try clear hb)) | ((with_reducible refine gate_callee (f := 20) rfl ?_); refine goesL_ (some 25) rfl rfl Try.func20 zq12 rfl #[.string (((⟨#[109, 111, 100, 117, 108, 101, 32, 109, 59, 32, 118, 97, 114, 32, 120, 32, 58, 32, 97, 32, 61, 32]⟩ : ByteArray) ++ t852) ++ (⟨#[59, 32, 118, 97, 114, 32, 121, 32, 58, 32, 97, 32, 61, 32, 48, 59, 32, 112, 114, 111, 99, 32, 112, 40, 41, 32, 112, 99, 32, 97, 32, 117, 115, 101, 115, 32, 123, 32, 116, 32, 125, 32, 123, 32, 119, 104, 105, 108, 101, 32, 120, 32, 123, 32, 120, 32, 61, 32, 120, 32, 45, 32, 49, 59, 32, 121, 32, 61, 32, 121, 32, 43, 32, 50, 59, 32, 101, 109, 105, 116, 32, 116, 59, 32, 125, 32, 125]⟩ : ByteArray))] rfl zq1 ?_; (with_reducible refine (ra_Parse.calls k (((⟨#[109, 111, 100, 117, 108, 101, 32, 109, 59, 32, 118, 97, 114, 32, 120, 32, 58, 32, 97, 32, 61, 32]⟩ : ByteArray) ++ t852) ++ (⟨#[59, 32, 118, 97, 114, 32, 121, 32, 58, 32, 97, 32, 61, 32, 48, 59, 32, 112, 114, 111, 99, 32, 112, 40, 41, 32, 112, 99, 32, 97, 32, 117, 115, 101, 115, 32, 123, 32, 116, 32, 125, 32, 123, 32, 119, 104, 105, 108, 101, 32, 120, 32, 123, 32, 120, 32, 61, 32, 120, 32, 45, 32, 49, 59, 32, 121, 32, 61, 32, 121, 32, 43, 32, 50, 59, 32, 101, 109, 105, 116, 32, 116, 59, 32, 125, 32, 125]⟩ : ByteArray)) t853 t854 t855 t858 t861 t864 t865 _ A6.out).mono ?_); rintro e w44 ⟨v856, v859, v862, rfl, ho0, ho1, ho2, hb⟩; refine ⟨_, rfl, ?_⟩; have HO857 := za (Kd.R_lower ho0 (below_size zq2)); have HO860 := za (Kd.R_lower ho1 (below_size zq2)); have HO863 := za (Kd.N_lower (Kd.N_mono (ok' := fun k_ => some k_ ≠ (v856 : Value).ownBlock ∧ some k_ ≠ (v859 : Value).ownBlock) (Kd.R_N (Kd.R_bound (Kd.R_apart' (Kd.R_apart' ho2 (Kd.R_typed ho0) (by decide)) (Kd.R_typed ho1) (by decide)))) (fun k_ hk_ => ⟨hk_.1.1.2, hk_.1.2⟩)) (below_size zq2)); replace HB := za (below_step zq2 hb); (try clear hb ho0 ho1 ho2)) | ((with_reducible refine gate_dst (N := 6) rfl ?_); (try (refine gate_guard (by rfl) ?_; dsimp only)); refine box_event ?hg (N := 6) ?hd (cs := #[.string (⟨#[]⟩ : ByteArray), .int .i64 0, .slice none 0 0, .slice none 0 0, .slice none 0 0]) (t := 39) ?hr ?_; (case hd => rfl); (case hg => rfl); (case hr => exact zq17); intro gb866 hg w45 hbox hb; replace HO857 := za (Kd.R_below (zr HO857.out) hb); replace HO860 := za (Kd.R_below (zr HO860.out) hb); replace HO863 := za (Kd.N_below (Kd.N_elderB (by (with_reducible repeat (first | apply Kd.N_alloc | apply Kd.N_drewN | apply Kd.N_drew)); exact HO863.out) gb866 (Nat.le_of_eq hg.symm)) hb); have BK866 := za (hbox); have GW866 := za ((by rw [hg]; exact (below_size zq2) : w.heap.size ≤ gb866)); have GE866 := za ((by rw [hg]; exact (below_size zq2) : w.heap.size ≤ gb866)); replace HB := za (below_step zq2 hb); clear hb hbox hg; obtain ⟨hcz46_0, hcz46_1, hcz46_2, hcz46_3, hcz46_4⟩ := zc5 BK866.out; obtain ⟨hfz46_0, hfz46_1, hfz46_2, hfz46_3, hfz46_4⟩ := zf5 BK866.out; obtain ⟨Ao47, co47, eo47⟩ := Kd.R_slice HO857.out; subst eo47; obtain ⟨Ao48, co48, eo48⟩ := Kd.R_slice HO860.out; subst eo48; obtain ⟨Ao49, co49, eo49⟩ := Kd.N_slice HO863.out; subst eo49) | ((with_reducible refine gate_store (t := 39) (p := 6) rfl ?_); refine store_event (t := 39) (p := 6) (v := ?vo_w50) (w1 := (((((w45.setCell ⟨gb866, 0, none⟩ (.string t853)).setCell ⟨gb866, 1, none⟩ (.int .i64 t854)).setCell ⟨gb866, 2, none⟩ (.slice Ao47 t855.length co47)).setCell ⟨gb866, 3, none⟩ (.slice Ao48 t858.length co48)).setCell ⟨gb866, 4, none⟩ (.slice Ao49 t861.length co49))) ?hg ?ho ?hn ?hr ?_; (case ho => rfl); (case hg => rfl); (case hn => rfl); (case hr => exact zq17); intro w50 hw; replace HO857 : Aside0 (Kd.R k116 116 w50 w.heap.size (fun _ => True) (.slice Ao47 t855.length co47) t855) := ⟨(by rw [hw]; exact (by (with_reducible repeat (first | apply Kd.R_alloc | apply Kd.R_drewN | apply Kd.R_drew)); exact Kd.R_mono (Kd.R_far (p := ⟨gb866, 4, none⟩) (Kd.R_far (p := ⟨gb866, 3, none⟩) (Kd.R_far (p := ⟨gb866, 2, none⟩) (Kd.R_far (p := ⟨gb866, 1, none⟩) (Kd.R_far (p := ⟨gb866, 0, none⟩) (Kd.R_types HO857.out BK866.out (by decide)) (fun _ hk => hk.2) (.string t853)) (fun _ hk => hk.2) (.int .i64 t854)) (fun _ hk => hk.2) (.slice Ao47 t855.length co47)) (fun _ hk => hk.2) (.slice Ao48 t858.length co48)) (fun _ hk => hk.2) (.slice Ao49 t861.length co49)) (fun _ hk => trivial)))⟩; replace HO860 : Aside0 (Kd.R k64 64 w50 w.heap.size (fun _ => True) (.slice Ao48 t858.length co48) t858) := ⟨(by rw [hw]; exact (by (with_reducible repeat (first | apply Kd.R_alloc | apply Kd.R_drewN | apply Kd.R_drew)); exact Kd.R_mono (Kd.R_far (p := ⟨gb866, 4, none⟩) (Kd.R_far (p := ⟨gb866, 3, none⟩) (Kd.R_far (p := ⟨gb866, 2, none⟩) (Kd.R_far (p := ⟨gb866, 1, none⟩) (Kd.R_far (p := ⟨gb866, 0, none⟩) (Kd.R_types HO860.out BK866.out (by decide)) (fun _ hk => hk.2) (.string t853)) (fun _ hk => hk.2) (.int .i64 t854)) (fun _ hk => hk.2) (.slice Ao47 t855.length co47)) (fun _ hk => hk.2) (.slice Ao48 t858.length co48)) (fun _ hk => hk.2) (.slice Ao49 t861.length co49)) (fun _ hk => trivial)))⟩; replace HO863 : Aside0 (Kd.N k44 44 w50 w.heap.size (fun k_ => some k_ ≠ (.slice Ao47 t855.length co47 : Value).ownBlock ∧ some k_ ≠ (.slice Ao48 t858.length co48 : Value).ownBlock ∧ k_ ≠ gb866) (.slice Ao49 t861.length co49) t861) := ⟨(by rw [hw]; exact (by (with_reducible repeat (first | apply Kd.N_alloc | apply Kd.N_drewN | apply Kd.N_drew)); exact Kd.N_mono (Kd.N_far (p := ⟨gb866, 4, none⟩) (Kd.N_far (p := ⟨gb866, 3, none⟩) (Kd.N_far (p := ⟨gb866, 2, none⟩) (Kd.N_far (p := ⟨gb866, 1, none⟩) (Kd.N_far (p := ⟨gb866, 0, none⟩) (Kd.N_mono HO863.out (fun k_ hk => (⟨hk, hk.2⟩ : _ ∧ k_ ≠ gb866))) (fun _ hk => hk.2) (.string t853)) (fun _ hk => hk.2) (.int .i64 t854)) (fun _ hk => hk.2) (.slice Ao47 t855.length co47)) (fun _ hk => hk.2) (.slice Ao48 t858.length co48)) (fun _ hk => hk.2) (.slice Ao49 t861.length co49)) (fun _ hk => by first | exact ⟨hk.1.1.1, ⟨hk.1.1.2, hk.1.2⟩⟩ | ((repeat' refine And.intro ?_ ?_) <;> first | exact trivial | exact hk | exact hk.1 | exact hk.2 | exact hk.1.1 | exact hk.1.2 | exact hk.2.1 | exact hk.2.2 | exact hk.1.1.1 | exact hk.1.1.2 | exact hk.1.2.1 | exact hk.1.2.2 | exact hk.2.1.1 | exact hk.2.1.2 | exact hk.2.2.1 | exact hk.2.2.2 | exact hk.1.1.1.1 | exact hk.1.1.1.2 | exact hk.1.1.2.1 | exact hk.1.1.2.2 | exact hk.1.2.1.1 | exact hk.1.2.1.2 | exact hk.1.2.2.1 | exact hk.1.2.2.2 | exact hk.2.1.1.1 | exact hk.2.1.1.2 | exact hk.2.1.2.1 | exact hk.2.1.2.2 | exact hk.2.2.1.1 | exact hk.2.2.1.2 | exact hk.2.2.2.1 | exact hk.2.2.2.2))))⟩; replace BK866 : Aside0 (w50.heap[gb866]? = some (.cells #[.string t853, .int .i64 t854, .slice Ao47 t855.length co47, .slice Ao48 t858.length co48, .slice Ao49 t861.length co49] 39 (0, 0))) := ⟨(by rw [hw]; exact (by (with_reducible repeat (first | refine blk_drewN ?_ _ | refine blk_drew ?_ | refine blk_alloc ?_ _)); refine blk_put (cs := #[.string t853, .int .i64 t854, .slice Ao47 t855.length co47, .slice Ao48 t858.length co48, .slice none 0 0]) ?_ 4 _ rfl; (with_reducible repeat (first | refine blk_drewN ?_ _ | refine blk_drew ?_ | refine blk_alloc ?_ _)); refine blk_put (cs := #[.string t853, .int .i64 t854, .slice Ao47 t855.length co47, .slice none 0 0, .slice none 0 0]) ?_ 3 _ rfl; (with_reducible repeat (first | refine blk_drewN ?_ _ | refine blk_drew ?_ | refine blk_alloc ?_ _)); refine blk_put (cs := #[.string t853, .int .i64 t854, .slice none 0 0, .slice none 0 0, .slice none 0 0]) ?_ 2 _ rfl; (with_reducible repeat (first | refine blk_drewN ?_ _ | refine blk_drew ?_ | refine blk_alloc ?_ _)); refine blk_put (cs := #[.string t853, .int .i64 0, .slice none 0 0, .slice none 0 0, .slice none 0 0]) ?_ 1 _ rfl; (with_reducible repeat (first | refine blk_drewN ?_ _ | refine blk_drew ?_ | refine blk_alloc ?_ _)); refine blk_put (cs := #[.string (⟨#[]⟩ : ByteArray), .int .i64 0, .slice none 0 0, .slice none 0 0, .slice none 0 0]) ?_ 0 _ rfl; (with_reducible repeat (first | refine blk_drewN ?_ _ | refine blk_drew ?_ | refine blk_alloc ?_ _)); exact BK866.out))⟩; replace HB : Aside0 (Below w.heap.size w w50) := ⟨(by rw [hw]; exact zq19)⟩; clear hw; obtain ⟨hcz51_0, hcz51_1, hcz51_2, hcz51_3, hcz51_4⟩ := zc5 BK866.out; obtain ⟨hfz51_0, hfz51_1, hfz51_2, hfz51_3⟩ := zf4 BK866.out; have hfz51_4 := blk_frozen BK866.out 4) | ((with_reducible refine gate_dst (N := 33) rfl ?_); (try (refine gate_guard (by rfl) ?_; dsimp only)); refine Kd.N_lit k39 _ 39 ?hg (N' := 33) ?hd (xs := ([(⟨t853, t854, t855, t858, t861⟩ : S39)] : List (S39))) (inner := [.string t853, .int .i64 t854, .slice Ao47 t855.length co47, .slice Ao48 t858.length co48, .slice Ao49 t861.length co49]) (ok := (fun k_ => k_ ≠ gb866)) (okp := (fun k_ => k_ ≠ gb866)) ?hr ?hp (fun _ hk => hk) ((show ∀ k_, w50.heap.size ≤ k_ → (fun k_ => k_ ≠ gb866) k_ from fun k_ hk => Kd.freshB (g := gb866) (zb BK866.out) k_ hk) _ (Nat.le_refl _)) (Below.refl _ _) (Nat.le_refl _) (by simp) ?_; (case hd => rfl); (case hg => rfl); (case hr => exact zq17); (case hp => exact (Reps.c5 (show Kd.FK k39 _ _ (⟨t853, t854, t855, t858, t861⟩ : S39) [.string t853, .int .i64 t854, .slice Ao47 t855.length co47, .slice Ao48 t858.length co48, .slice Ao49 t861.length co49] from (k39_mkF _ _ (⟨t853, t854, t855, t858, t861⟩ : S39) (Kd.R_reads' (Kd.R_mono (ok' := (fun k_ => k_ ≠ gb866)) (Kd.R_types (HO857.out) BK866.out (by decide)) (fun k_ hk => hk.2))).2.1 (Kd.R_F (Kd.R_mono (ok' := (fun k_ => k_ ≠ gb866)) (Kd.R_types (HO857.out) BK866.out (by decide)) (fun k_ hk => hk.2))) (Kd.R_reads' (Kd.R_mono (ok' := (fun k_ => k_ ≠ gb866)) (Kd.R_types (HO860.out) BK866.out (by decide)) (fun k_ hk => hk.2))).2.1 (Kd.R_F (Kd.R_mono (ok' := (fun k_ => k_ ≠ gb866)) (Kd.R_types (HO860.out) BK866.out (by decide)) (fun k_ hk => hk.2))) (Kd.N_reads' (Kd.N_mono (ok' := (fun k_ => k_ ≠ gb866)) (HO863.out) (fun k_ hk => hk.2.2))).2.1 (Kd.N_F (Kd.N_mono (ok' := (fun k_ => k_ ≠ gb866)) (HO863.out) (fun k_ hk => hk.2.2))))) (Reps.none _ _))); intro v868 w52 ho53 hb hg_ hnew_; clear hg_ hnew_; (first | rw [← Ny867.out] at ho53 | (simp only [Int.reduceToNat] at ho53; rw [← Ny867.out] at ho53)); have HO869 := za (Kd.N_lower ho53 (below_size zq19)); replace BK866 := za (blk_below (g := gb866) (zb BK866.out) hb); replace HB := za (below_step zq19 hb); clear HO857 HO860 HO863; clear hb ho53; obtain ⟨Ao54, co54, eo54⟩ := Kd.N_slice HO869.out; subst eo54) | ((with_reducible refine gate_callee (f := 13) rfl ?_); refine goesL_ (some 36) rfl rfl Try.func13 zq12 rfl #[.slice Ao54 y867.length co54] rfl zq1 ?_; (with_reducible refine (rb_Begin.calls k _ _ y867 t870 _ ?side1 ?side2 A7.out).mono ?_); (case side1 => exact zq63); (case side2 => exact (Kd.N_reads' HO869.out).2.1); rintro e w55 ⟨v871, rfl, ho0, hb⟩; refine ⟨_, rfl, ?_⟩; replace HO869 := za (Kd.N_elder' zq66 (Kd.R_base ho0) hb); have HO872 := za (Kd.R_lower ho0 (below_size zq19)); replace BK866 := za (blk_below (g := gb866) (zb BK866.out) hb); replace HB := za (below_step zq19 hb); (try clear hb ho0); obtain ⟨Ao56, co56, eo56⟩ := Kd.R_slice HO872.out; subst eo56) | ((with_reducible refine gate_callee (f := 15) rfl ?_); refine goesL_ (some 38) rfl rfl Try.func15 zq12 rfl #[.slice Ao54 y867.length co54, .string (⟨#[109]⟩ : ByteArray), .string (⟨#[112]⟩ : ByteArray), .slice none 0 0, .slice Ao56 t870.length co56, .int .i64 (Int.tmod (wrap64 (a1)) 600)] rfl zq1 ?_; (refine (run_Run.calls k _ _ y867 (⟨#[109]⟩ : ByteArray) (⟨#[112]⟩ : ByteArray) _ _ ([] : List Int) _ _ t870 (Int.tmod (wrap64 (a1)) 600) t873 t874 t877 t878 t881 _ ?side1 ?side2 ?side3 ?side4 ?side5 ?side6 A8.out).mono ?_); (case side1 => exact zq63); (case side2 => exact (Kd.N_reads' HO869.out).2.1); (case side3 => exact Kd.C_nil _ _); (case side4 => exact zq87); (case side5 => exact zq86); (case side6 => exact (Kd.R_reads' HO872.out).2.1); rintro e w57 ⟨v875, v879, rfl, ho0, ho1, hb⟩; refine ⟨_, rfl, ?_⟩; replace HO869 := za (Kd.N_mono (Kd.N_told (Kd.N_told (Kd.N_old zq66 hb) (Kd.R_base ho0)) (Kd.R_base ho1)) (fun _ h_ => h_.1)); have HO876 := za (Kd.R_lower (Kd.R_new' ho0 (Kd.R_lt (zr HO872.out))) (below_size zq19)); replace HO872 := za (Kd.R_elder' (zr HO872.out) (Kd.R_base ho0) hb); have HO880 := za (Kd.R_lower ho1 (below_size zq19)); replace BK866 := za (blk_below (g := gb866) (zb BK866.out) hb); replace HB := za (below_step zq19 hb); (try clear hb ho0 ho1)) | ((with_reducible refine gate_dst (N := 11) rfl ?_); (try (refine gate_guard (by rfl) ?_; dsimp only)); refine box_event ?hg (N := 11) ?hd (cs := #[.int .i64 0, .slice none 0 0, .int .i64 0, .slice none 0 0, .int .i64 0]) (t := 31) ?hr ?_; (case hd => rfl); (case hg => rfl); (case hr => exact zq17); intro gb882 hg w58 hbox hb; replace HO869 := za (Kd.N_below (Kd.N_elderB zq66 gb882 (Nat.le_of_eq hg.symm)) hb); replace HO872 := za (Kd.R_below (zr HO872.out) hb); replace HO876 := za (Kd.R_below (zr HO876.out) hb); replace HO880 := za (Kd.R_below (zr HO880.out) hb); have BK882 := za (hbox); have GW882 := za ((by rw [hg]; exact (below_size zq19) : w.heap.size ≤ gb882)); have GE882 := za ((by rw [hg]; exact (below_size zq19) : w.heap.size ≤ gb882)); replace HB := za (below_step zq19 hb); have NB866_882 := za ((by rw [hg]; exact Nat.ne_of_lt (blk_lt (g := gb866) (zb BK866.out)) : gb866 ≠ gb882)); have NB882_866 := za ((by rw [hg]; exact Nat.ne_of_gt (blk_lt (g := gb866) (zb BK866.out)) : gb882 ≠ gb866)); replace BK866 := za (blk_below (g := gb866) (zb BK866.out) hb); clear hb hbox hg; have hnb59 := NB882_866.out; have hnc59 := NB866_882.out; obtain ⟨hcz60_0, hcz60_1, hcz60_2, hcz60_3, hcz60_4⟩ := zc5 BK882.out; obtain ⟨hfz60_0, hfz60_1, hfz60_2, hfz60_3, hfz60_4⟩ := zf5 BK882.out; obtain ⟨Ao61, co61, eo61⟩ := Kd.R_slice HO876.out; subst eo61; obtain ⟨Ao62, co62, eo62⟩ := Kd.R_slice HO880.out; subst eo62) | ((with_reducible refine gate_callee (f := 22) rfl ?_); refine goesL_ (some 64) rfl rfl Try.func22 zq12 rfl #[.slice Ao61 t874.length co61, .string (⟨#[109]⟩ : ByteArray), .string (⟨#[120]⟩ : ByteArray)] rfl zq1 ?_; (with_reducible refine (rb_Get.calls k _ _ t874 (⟨#[109]⟩ : ByteArray) (⟨#[120]⟩ : ByteArray) t884 t885 _ ?side1 ?side2 A35.out).mono ?_); (case side1 => refine (Kd.R_reads' (e := 61) (base := w.heap.size) (ok := fun k_ => (True ∧ some k_ ≠ (.slice Ao56 t870.length co56 : Value).ownBlock)) (n := t874.length) (c := co61) ?_).2.2; exact (by (with_reducible repeat (first | apply Kd.R_alloc | apply Kd.R_drewN | apply Kd.R_drew)); exact (Kd.R_mono (Kd.R_far (p := ⟨gb882, 4, none⟩) (Kd.R_far (p := ⟨gb882, 3, none⟩) (Kd.R_far (p := ⟨gb882, 2, none⟩) (Kd.R_far (p := ⟨gb882, 1, none⟩) (Kd.R_far (p := ⟨gb882, 0, none⟩) (Kd.R_types HO876.out BK882.out (by decide)) (fun _ hk => hk.2) (.int .i64 t873)) (fun _ hk => hk.2) (.slice Ao61 t874.length co61)) (fun _ hk => hk.2) (.int .i64 t877)) (fun _ hk => hk.2) (.slice Ao62 t878.length co62)) (fun _ hk => hk.2) (.int .i64 t881)) (fun _ h_ => h_.1)))); (case side2 => exact (Kd.R_reads' HO876.out).2.1); rintro e w' ⟨rfl, ⟨nd, rfl⟩⟩; refine ⟨_, rfl, ?_⟩) | ((with_reducible refine gate_callee (f := 22) rfl ?_); refine goesL_ (some 70) rfl rfl Try.func22 zq12 rfl #[.slice Ao61 t874.length co61, .string (⟨#[109]⟩ : ByteArray), .string (⟨#[121]⟩ : ByteArray)] rfl zq1 ?_; (with_reducible refine (rb_Get.calls k _ _ t874 (⟨#[109]⟩ : ByteArray) (⟨#[121]⟩ : ByteArray) t886 t887 _ ?side1 ?side2 A36.out).mono ?_); (case side1 => refine (Kd.R_reads' (e := 61) (base := w.heap.size) (ok := fun k_ => (True ∧ some k_ ≠ (.slice Ao56 t870.length co56 : Value).ownBlock)) (n := t874.length) (c := co61) ?_).2.2; exact (by (with_reducible repeat (first | apply Kd.R_alloc | apply Kd.R_drewN | apply Kd.R_drew)); exact (Kd.R_mono (Kd.R_far (p := ⟨gb882, 4, none⟩) (Kd.R_far (p := ⟨gb882, 3, none⟩) (Kd.R_far (p := ⟨gb882, 2, none⟩) (Kd.R_far (p := ⟨gb882, 1, none⟩) (Kd.R_far (p := ⟨gb882, 0, none⟩) (Kd.R_types HO876.out BK882.out (by decide)) (fun _ hk => hk.2) (.int .i64 t873)) (fun _ hk => hk.2) (.slice Ao61 t874.length co61)) (fun _ hk => hk.2) (.int .i64 t877)) (fun _ hk => hk.2) (.slice Ao62 t878.length co62)) (fun _ hk => hk.2) (.int .i64 t881)) (fun _ h_ => h_.1)))); (case side2 => exact (Kd.R_reads' HO876.out).2.1); rintro e w' ⟨rfl, ⟨nd, rfl⟩⟩; refine ⟨_, rfl, ?_⟩) | ((with_reducible refine gate_callee (f := 11) rfl ?_); (with_reducible refine gate_dst (N := 102) rfl ?_); (refine gate_guard (by rfl) ?_; dsimp only); refine goesL_ (some 102) rfl rfl Try.func11 zq12 rfl #[] rfl zq1 ?_; (with_reducible refine (aquiferlaw22_awake.calls k  t888 _ A42.out).mono ?_); rintro e w63 ⟨rfl, hb⟩; refine ⟨_, rfl, ?_⟩; replace HO869 := za (Kd.N_below (by (with_reducible repeat (first | apply Kd.N_alloc | apply Kd.N_drewN | apply Kd.N_drew)); exact (Kd.N_mono (Kd.N_far (p := ⟨gb882, 4, none⟩) (Kd.N_far (p := ⟨gb882, 3, none⟩) (Kd.N_far (p := ⟨gb882, 2, none⟩) (Kd.N_far (p := ⟨gb882, 1, none⟩) (Kd.N_far (p := ⟨gb882, 0, none⟩) (Kd.N_mono HO869.out (fun k_ hk => (⟨hk, hk.2⟩ : _ ∧ k_ ≠ gb882))) (fun _ hk => hk.2) (.int .i64 t873)) (fun _ hk => hk.2) (.slice Ao61 t874.length co61)) (fun _ hk => hk.2) (.int .i64 t877)) (fun _ hk => hk.2) (.slice Ao62 t878.length co62)) (fun _ hk => hk.2) (.int .i64 t881)) (fun _ h_ => h_.1))) hb); replace HO872 := za (Kd.R_below (by (with_reducible repeat (first | apply Kd.R_alloc | apply Kd.R_drewN | apply Kd.R_drew)); exact (Kd.R_mono (Kd.R_far (p := ⟨gb882, 4, none⟩) (Kd.R_far (p := ⟨gb882, 3, none⟩) (Kd.R_far (p := ⟨gb882, 2, none⟩) (Kd.R_far (p := ⟨gb882, 1, none⟩) (Kd.R_far (p := ⟨gb882, 0, none⟩) (Kd.R_types HO872.out BK882.out (by decide)) (fun _ hk => hk.2) (.int .i64 t873)) (fun _ hk => hk.2) (.slice Ao61 t874.length co61)) (fun _ hk => hk.2) (.int .i64 t877)) (fun _ hk => hk.2) (.slice Ao62 t878.length co62)) (fun _ hk => hk.2) (.int .i64 t881)) (fun _ h_ => h_.1))) hb); replace HO876 := za (Kd.R_below (by (with_reducible repeat (first | apply Kd.R_alloc | apply Kd.R_drewN | apply Kd.R_drew)); exact (Kd.R_mono (Kd.R_far (p := ⟨gb882, 4, none⟩) (Kd.R_far (p := ⟨gb882, 3, none⟩) (Kd.R_far (p := ⟨gb882, 2, none⟩) (Kd.R_far (p := ⟨gb882, 1, none⟩) (Kd.R_far (p := ⟨gb882, 0, none⟩) (Kd.R_types HO876.out BK882.out (by decide)) (fun _ hk => hk.2) (.int .i64 t873)) (fun _ hk => hk.2) (.slice Ao61 t874.length co61)) (fun _ hk => hk.2) (.int .i64 t877)) (fun _ hk => hk.2) (.slice Ao62 t878.length co62)) (fun _ hk => hk.2) (.int .i64 t881)) (fun _ h_ => h_.1))) hb); replace HO880 := za (Kd.R_below (by (with_reducible repeat (first | apply Kd.R_alloc | apply Kd.R_drewN | apply Kd.R_drew)); exact (Kd.R_mono (Kd.R_far (p := ⟨gb882, 4, none⟩) (Kd.R_far (p := ⟨gb882, 3, none⟩) (Kd.R_far (p := ⟨gb882, 2, none⟩) (Kd.R_far (p := ⟨gb882, 1, none⟩) (Kd.R_far (p := ⟨gb882, 0, none⟩) (Kd.R_types HO880.out BK882.out (by decide)) (fun _ hk => hk.2) (.int .i64 t873)) (fun _ hk => hk.2) (.slice Ao61 t874.length co61)) (fun _ hk => hk.2) (.int .i64 t877)) (fun _ hk => hk.2) (.slice Ao62 t878.length co62)) (fun _ hk => hk.2) (.int .i64 t881)) (fun _ h_ => h_.1))) hb); replace BK866 := za (blk_below (g := gb866) (o := .cells #[.string t853, .int .i64 t854, .slice Ao47 t855.length co47, .slice Ao48 t858.length co48, .slice Ao49 t861.length co49] 39 (0, 0)) zq33 hb); replace BK882 := za (blk_below (g := gb882) (o := .cells #[.int .i64 t873, .slice Ao61 t874.length co61, .int .i64 t877, .slice Ao62 t878.length co62, .int .i64 t881] 31 (0, 0)) (by (with_reducible repeat (first | refine blk_drewN ?_ _ | refine blk_drew ?_ | refine blk_alloc ?_ _)); refine blk_put (cs := #[.int .i64 t873, .slice Ao61 t874.length co61, .int .i64 t877, .slice Ao62 t878.length co62, .int .i64 0]) ?_ 4 _ rfl; (with_reducible repeat (first | refine blk_drewN ?_ _ | refine blk_drew ?_ | refine blk_alloc ?_ _)); refine blk_put (cs := #[.int .i64 t873, .slice Ao61 t874.length co61, .int .i64 t877, .slice none 0 0, .int .i64 0]) ?_ 3 _ rfl; (with_reducible repeat (first | refine blk_drewN ?_ _ | refine blk_drew ?_ | refine blk_alloc ?_ _)); refine blk_put (cs := #[.int .i64 t873, .slice Ao61 t874.length co61, .int .i64 0, .slice none 0 0, .int .i64 0]) ?_ 2 _ rfl; (with_reducible repeat (first | refine blk_drewN ?_ _ | refine blk_drew ?_ | refine blk_alloc ?_ _)); refine blk_put (cs := #[.int .i64 t873, .slice none 0 0, .int .i64 0, .slice none 0 0, .int .i64 0]) ?_ 1 _ rfl; (with_reducible repeat (first | refine blk_drewN ?_ _ | refine blk_drew ?_ | refine blk_alloc ?_ _)); refine blk_put (cs := #[.int .i64 0, .slice none 0 0, .int .i64 0, .slice none 0 0, .int .i64 0]) ?_ 0 _ rfl; (with_reducible repeat (first | refine blk_drewN ?_ _ | refine blk_drew ?_ | refine blk_alloc ?_ _)); exact BK882.out) hb); replace HB := za (below_step zq58 hb); (try clear hb)))
          go_ret
          exact ⟨zq14, zq58⟩
         ·
          rw [if_neg c41] at H
          have c41b0 := beq_eq_false_iff_ne.mpr c41
          have c41b1 := bne_iff_ne.mpr c41
          exact absurd (HLT_.out.symm.trans (Option.some.inj H).symm) (by decide)
        ·
         rw [if_neg c40] at H
         have c40b0 := beq_eq_false_iff_ne.mpr c40
         have c40b1 := bne_iff_ne.mpr c40
         exact absurd (HLT_.out.symm.trans (Option.some.inj H).symm) (by decide)
       ·
        rw [if_neg c39] at H
        have c39b0 := beq_eq_false_iff_ne.mpr c39
        have c39b1 := bne_iff_ne.mpr c39
        exact absurd (HLT_.out.symm.trans (Option.some.inj H).symm) (by decide)
      ·
       rw [if_neg c38] at H
       have c38b0 := beq_eq_false_iff_ne.mpr c38
       have c38b1 := bne_iff_ne.mpr c38
       exact absurd (HLT_.out.symm.trans (Option.some.inj H).symm) (by decide)
     ·
      rw [if_neg c37] at H
      have c37b0 := beq_eq_false_iff_ne.mpr c37
      have c37b1 := bne_iff_ne.mpr c37
      exact absurd (HLT_.out.symm.trans (Option.some.inj H).symm) (by decide)
   ·
    rw [if_neg c9] at H
    have c9b0 := beq_eq_false_iff_ne.mpr c9
    have c9b1 := bne_iff_ne.mpr c9
    exact absurd (HLT_.out.symm.trans (Option.some.inj H).symm) (by decide)
  ·
   rw [if_neg c5] at H
   exact absurd H (by simp)
 ·
  rw [if_neg c4] at H
  exact absurd H (by simp)
def aquiferlaw22_RunCounts.Pure : Prop := ∀ (a0 : Int) (a1 : Int), (Lit.int .u8 a0).wf = true → (Lit.int .u16 a1).wf = true → ∃ k, aquiferlaw22_RunCounts.f k a0 a1 = some true
theorem aquiferlaw22_RunCounts.walk (P : aquiferlaw22_RunCounts.Pure) (a0 : Int) (a1 : Int) (w : World) (w0 : (Lit.int .u8 a0).wf = true) (w1 : (Lit.int .u16 a1).wf = true) :
  Calls Try.prog 6 #[.int .u8 a0, .int .u16 a1] w fun e w' => e = .returned (.bool true) ∧ Below w.heap.size w w' := by
 obtain ⟨k, h⟩ := P a0 a1 w0 w1
 refine (aquiferlaw22_RunCounts.calls k a0 a1 true w ⟨rfl⟩ h).mono ?_
 rintro e w' ⟨rfl, hd⟩
 exact ⟨rfl, hd⟩
end Go.Proofs.Ytcjnhnnfoadklaa.QRunCounts
