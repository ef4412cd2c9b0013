import Derived.Test.YtcmpmlklednhbaaZEJx19
namespace Go.Proofs.Ytcmpmlklednhbaa.QEvalJoins
open Go.RowKit Go.Proofs.YtcmpmlklednhbaaW.PrintWords Go.Proofs.YtcmpmlklednhbaaW.PrintLast Go.Proofs.YtcmpmlklednhbaaW.PrintMore
set_option maxHeartbeats 8000000
set_option maxRecDepth 100000
attribute [local go_sem] max2_int min2_int max_two min_two max_three min_three max_four min_four
set_option linter.unusedVariables false
set_option linter.unusedSimpArgs false
def rl_EvalJoins.j0 : Nat → ByteArray → List (S63) → List (S63) → List (S48) → List (S48) → Int → List (S48) → List (S48) → Bool → Option (Bool)
 | 0, _, _, _, _, _, _, _, _, _ => none
 | k + 1, x2, x4, x5, x13, x15, x18, x19, x21, x82 => if x82 = true then ((rl_awake.f).bind fun t1024 => (some t1024)) else ((eval_Value.f k x13 (wrap64 ((x13.length : Int) - 1)) x2 x4 x5).bind fun t1025 => ((eval_Value.f k x15 (wrap64 ((x15.length : Int) - 1)) x2 x4 x5).bind fun t1026 => ((eval_Value.f k x19 (wrap64 ((x19.length : Int) - 1)) x2 x4 x5).bind fun t1027 => ((eval_Op.f (wrap64 (5 + x18)) t1025 t1026).bind fun t1028 => (if t1027 = t1028 then ((eval_Value.f k x21 (wrap64 ((x21.length : Int) - 1)) x2 x4 x5).bind fun t1029 => ((eval_Op.f 3 t1025 0).bind fun t1030 => (if t1029 = t1030 then ((rl_awake.f).bind fun t1031 => (some t1031)) else (some false)))) else (some false))))))
def rl_EvalJoins.f (k : Nat) (a0 : ByteArray) (a1 : ByteArray) (a2 : ByteArray) (a3 : Int) (l4 : List (S63)) (l5 : List (S63)) : Option (Bool) := (rl_Expr.f k a0).bind fun bt1003 => ((rl_Expr.f k a1).bind fun bt1007 => ((some (([(⟨#[43]⟩ : ByteArray), (⟨#[45]⟩ : ByteArray), (⟨#[42]⟩ : ByteArray), (⟨#[47]⟩ : ByteArray), (⟨#[37]⟩ : ByteArray), (⟨#[61, 61]⟩ : ByteArray), (⟨#[60]⟩ : ByteArray), (⟨#[60, 61]⟩ : ByteArray)] : List ByteArray) : List ByteArray)).bind fun y1011 => (if (y1011.length : Int) = 0 then (none) else (if 1 + a0.size ≤ 9223372036854775807 then (if ((⟨#[40]⟩ : ByteArray) ++ a0).size + 2 ≤ 9223372036854775807 then (if 0 ≤ (Int.tmod (wrap64 (a3)) (y1011.length : Int)) then (if (Int.tmod (wrap64 (a3)) (y1011.length : Int)) < (y1011.length : Int) then (if (((⟨#[40]⟩ : ByteArray) ++ a0) ++ (⟨#[41, 32]⟩ : ByteArray)).size + (rdOf ByteArray.empty y1011 (Int.tmod (wrap64 (a3)) (y1011.length : Int))).size ≤ 9223372036854775807 then (if ((((⟨#[40]⟩ : ByteArray) ++ a0) ++ (⟨#[41, 32]⟩ : ByteArray)) ++ (rdOf ByteArray.empty y1011 (Int.tmod (wrap64 (a3)) (y1011.length : Int)))).size + 2 ≤ 9223372036854775807 then (if (((((⟨#[40]⟩ : ByteArray) ++ a0) ++ (⟨#[41, 32]⟩ : ByteArray)) ++ (rdOf ByteArray.empty y1011 (Int.tmod (wrap64 (a3)) (y1011.length : Int)))) ++ (⟨#[32, 40]⟩ : ByteArray)).size + a1.size ≤ 9223372036854775807 then (if ((((((⟨#[40]⟩ : ByteArray) ++ a0) ++ (⟨#[41, 32]⟩ : ByteArray)) ++ (rdOf ByteArray.empty y1011 (Int.tmod (wrap64 (a3)) (y1011.length : Int)))) ++ (⟨#[32, 40]⟩ : ByteArray)) ++ a1).size + 1 ≤ 9223372036854775807 then ((rl_Expr.f k (((((((⟨#[40]⟩ : ByteArray) ++ a0) ++ (⟨#[41, 32]⟩ : ByteArray)) ++ (rdOf ByteArray.empty y1011 (Int.tmod (wrap64 (a3)) (y1011.length : Int)))) ++ (⟨#[32, 40]⟩ : ByteArray)) ++ a1) ++ (⟨#[41]⟩ : ByteArray))).bind fun bt1015 => (if 2 + a0.size ≤ 9223372036854775807 then (if ((⟨#[45, 40]⟩ : ByteArray) ++ a0).size + 1 ≤ 9223372036854775807 then ((rl_Expr.f k (((⟨#[45, 40]⟩ : ByteArray) ++ a0) ++ (⟨#[41]⟩ : ByteArray))).bind fun bt1019 => (if bt1003.2 = true then (if bt1007.2 = true then (if bt1015.2 = true then (if bt1019.2 = true then ((rl_great.f l4 l5).bind fun t1023 => (rl_EvalJoins.j0 k a2 l4 l5 bt1003.1 bt1007.1 (Int.tmod (wrap64 (a3)) (y1011.length : Int)) bt1015.1 bt1019.1 t1023)) else (rl_EvalJoins.j0 k a2 l4 l5 bt1003.1 bt1007.1 (Int.tmod (wrap64 (a3)) (y1011.length : Int)) bt1015.1 bt1019.1 true)) else (rl_EvalJoins.j0 k a2 l4 l5 bt1003.1 bt1007.1 (Int.tmod (wrap64 (a3)) (y1011.length : Int)) bt1015.1 bt1019.1 true)) else (rl_EvalJoins.j0 k a2 l4 l5 bt1003.1 bt1007.1 (Int.tmod (wrap64 (a3)) (y1011.length : Int)) bt1015.1 bt1019.1 true)) else (rl_EvalJoins.j0 k a2 l4 l5 bt1003.1 bt1007.1 (Int.tmod (wrap64 (a3)) (y1011.length : Int)) bt1015.1 bt1019.1 true))) else (none)) else (none))) else (none)) else (none)) else (none)) else (none)) else (none)) else (none)) else (none)) else (none)))))
theorem rl_EvalJoins.mono_l : ∀ k, (∀ y0 y1 y2 y3 y4 y5 y6 y7 y8, LeO (rl_EvalJoins.j0 k y0 y1 y2 y3 y4 y5 y6 y7 y8) (rl_EvalJoins.j0 (k + 1) y0 y1 y2 y3 y4 y5 y6 y7 y8))
 | 0 => fun _ _ _ _ _ _ _ _ _ r h => by simp [rl_EvalJoins.j0] at h
 | k + 1 => by
  have ih0 := rl_EvalJoins.mono_l k
  ·
   intro y0 y1 y2 y3 y4 y5 y6 y7 y8
   unfold rl_EvalJoins.j0
   repeat' with_reducible first | apply ih0 | apply rl_Expr.mono | apply eval_Value.mono | exact LeO.refl _ | exact LeO.none _ | refine LeO.ite ?_ ?_ | refine LeO.bind ?_ (fun _ => ?_)
theorem rl_EvalJoins.mono : ∀ a0 a1 a2 a3 a4 a5 k, LeO (rl_EvalJoins.f k a0 a1 a2 a3 a4 a5) (rl_EvalJoins.f (k + 1) a0 a1 a2 a3 a4 a5) := by
 intro a0 a1 a2 a3 a4 a5 k
 have ih0 := rl_EvalJoins.mono_l k
 unfold rl_EvalJoins.f
 repeat' with_reducible first | apply ih0 | apply rl_Expr.mono | apply eval_Value.mono | exact LeO.refl _ | exact LeO.none _ | refine LeO.ite ?_ ?_ | refine LeO.bind ?_ (fun _ => ?_)
theorem rl_EvalJoins.calls (k : Nat) (a0 : ByteArray) (a1 : ByteArray) (a2 : ByteArray) (a3 : Int) (A4 : Option Addr) (c4 : Nat) (l4 : List (S63)) (A5 : Option Addr) (c5 : Nat) (l5 : List (S63)) (r : Bool) (w : World) (HLT_ : Aside0 (r = true)) (hr4 : Kd.C k63 w A4 l4.length l4) (hc4 : l4.length ≤ c4) (hr5 : Kd.C k63 w A5 l5.length l5) (hc5 : l5.length ≤ c5) (h : rl_EvalJoins.f k a0 a1 a2 a3 l4 l5 = some r) :
  Calls Try.prog 3 #[.string a0, .string a1, .string a2, .int .u8 a3, .slice A4 l4.length c4, .slice A5 l5.length c5] w fun e w' => e = .returned (.bool r) ∧ Below w.heap.size w w' := by
 have HR4 := za hr4
 have HC4 := za hc4
 clear hr4 hc4
 have HR5 := za hr5
 have HC5 := za hc5
 clear hr5 hc5
 have HB := za (Below.refl w.heap.size w)
 have H : ((rl_Expr.f k a0).bind fun bt1003 => ((rl_Expr.f k a1).bind fun bt1007 => ((some (([(⟨#[43]⟩ : ByteArray), (⟨#[45]⟩ : ByteArray), (⟨#[42]⟩ : ByteArray), (⟨#[47]⟩ : ByteArray), (⟨#[37]⟩ : ByteArray), (⟨#[61, 61]⟩ : ByteArray), (⟨#[60]⟩ : ByteArray), (⟨#[60, 61]⟩ : ByteArray)] : List ByteArray) : List ByteArray)).bind fun y1011 => (if (y1011.length : Int) = 0 then (none) else (if 1 + a0.size ≤ 9223372036854775807 then (if ((⟨#[40]⟩ : ByteArray) ++ a0).size + 2 ≤ 9223372036854775807 then (if 0 ≤ (Int.tmod (wrap64 (a3)) (y1011.length : Int)) then (if (Int.tmod (wrap64 (a3)) (y1011.length : Int)) < (y1011.length : Int) then (if (((⟨#[40]⟩ : ByteArray) ++ a0) ++ (⟨#[41, 32]⟩ : ByteArray)).size + (rdOf ByteArray.empty y1011 (Int.tmod (wrap64 (a3)) (y1011.length : Int))).size ≤ 9223372036854775807 then (if ((((⟨#[40]⟩ : ByteArray) ++ a0) ++ (⟨#[41, 32]⟩ : ByteArray)) ++ (rdOf ByteArray.empty y1011 (Int.tmod (wrap64 (a3)) (y1011.length : Int)))).size + 2 ≤ 9223372036854775807 then (if (((((⟨#[40]⟩ : ByteArray) ++ a0) ++ (⟨#[41, 32]⟩ : ByteArray)) ++ (rdOf ByteArray.empty y1011 (Int.tmod (wrap64 (a3)) (y1011.length : Int)))) ++ (⟨#[32, 40]⟩ : ByteArray)).size + a1.size ≤ 9223372036854775807 then (if ((((((⟨#[40]⟩ : ByteArray) ++ a0) ++ (⟨#[41, 32]⟩ : ByteArray)) ++ (rdOf ByteArray.empty y1011 (Int.tmod (wrap64 (a3)) (y1011.length : Int)))) ++ (⟨#[32, 40]⟩ : ByteArray)) ++ a1).size + 1 ≤ 9223372036854775807 then ((rl_Expr.f k (((((((⟨#[40]⟩ : ByteArray) ++ a0) ++ (⟨#[41, 32]⟩ : ByteArray)) ++ (rdOf ByteArray.empty y1011 (Int.tmod (wrap64 (a3)) (y1011.length : Int)))) ++ (⟨#[32, 40]⟩ : ByteArray)) ++ a1) ++ (⟨#[41]⟩ : ByteArray))).bind fun bt1015 => (if 2 + a0.size ≤ 9223372036854775807 then (if ((⟨#[45, 40]⟩ : ByteArray) ++ a0).size + 1 ≤ 9223372036854775807 then ((rl_Expr.f k (((⟨#[45, 40]⟩ : ByteArray) ++ a0) ++ (⟨#[41]⟩ : ByteArray))).bind fun bt1019 => (if bt1003.2 = true then (if bt1007.2 = true then (if bt1015.2 = true then (if bt1019.2 = true then ((rl_great.f l4 l5).bind fun t1023 => (rl_EvalJoins.j0 k a2 l4 l5 bt1003.1 bt1007.1 (Int.tmod (wrap64 (a3)) (y1011.length : Int)) bt1015.1 bt1019.1 t1023)) else (rl_EvalJoins.j0 k a2 l4 l5 bt1003.1 bt1007.1 (Int.tmod (wrap64 (a3)) (y1011.length : Int)) bt1015.1 bt1019.1 true)) else (rl_EvalJoins.j0 k a2 l4 l5 bt1003.1 bt1007.1 (Int.tmod (wrap64 (a3)) (y1011.length : Int)) bt1015.1 bt1019.1 true)) else (rl_EvalJoins.j0 k a2 l4 l5 bt1003.1 bt1007.1 (Int.tmod (wrap64 (a3)) (y1011.length : Int)) bt1015.1 bt1019.1 true)) else (rl_EvalJoins.j0 k a2 l4 l5 bt1003.1 bt1007.1 (Int.tmod (wrap64 (a3)) (y1011.length : Int)) bt1015.1 bt1019.1 true))) else (none)) else (none))) else (none)) else (none)) else (none)) else (none)) else (none)) else (none)) else (none)) else (none)))))) = some r := h
 clear h
 replace H := Option.bind_eq_some_iff.mp H
 obtain ⟨⟨t1003, t1004⟩, A70, H⟩ := H
 (try dsimp only at H)
 have A7 := za A70
 clear A70
 replace H := Option.bind_eq_some_iff.mp H
 obtain ⟨⟨t1007, t1008⟩, A80, H⟩ := H
 (try dsimp only at H)
 have A8 := za A80
 clear A80
 obtain ⟨y1011, hy1011⟩ : ∃ y_ : List ByteArray, y_ = (([(⟨#[43]⟩ : ByteArray), (⟨#[45]⟩ : ByteArray), (⟨#[42]⟩ : ByteArray), (⟨#[47]⟩ : ByteArray), (⟨#[37]⟩ : ByteArray), (⟨#[61, 61]⟩ : ByteArray), (⟨#[60]⟩ : ByteArray), (⟨#[60, 61]⟩ : ByteArray)] : List ByteArray)) := ⟨_, rfl⟩
 replace H : (if (y1011.length : Int) = 0 then (none) else (if 1 + a0.size ≤ 9223372036854775807 then (if ((⟨#[40]⟩ : ByteArray) ++ a0).size + 2 ≤ 9223372036854775807 then (if 0 ≤ (Int.tmod (wrap64 (a3)) (y1011.length : Int)) then (if (Int.tmod (wrap64 (a3)) (y1011.length : Int)) < (y1011.length : Int) then (if (((⟨#[40]⟩ : ByteArray) ++ a0) ++ (⟨#[41, 32]⟩ : ByteArray)).size + (rdOf ByteArray.empty y1011 (Int.tmod (wrap64 (a3)) (y1011.length : Int))).size ≤ 9223372036854775807 then (if ((((⟨#[40]⟩ : ByteArray) ++ a0) ++ (⟨#[41, 32]⟩ : ByteArray)) ++ (rdOf ByteArray.empty y1011 (Int.tmod (wrap64 (a3)) (y1011.length : Int)))).size + 2 ≤ 9223372036854775807 then (if (((((⟨#[40]⟩ : ByteArray) ++ a0) ++ (⟨#[41, 32]⟩ : ByteArray)) ++ (rdOf ByteArray.empty y1011 (Int.tmod (wrap64 (a3)) (y1011.length : Int)))) ++ (⟨#[32, 40]⟩ : ByteArray)).size + a1.size ≤ 9223372036854775807 then (if ((((((⟨#[40]⟩ : ByteArray) ++ a0) ++ (⟨#[41, 32]⟩ : ByteArray)) ++ (rdOf ByteArray.empty y1011 (Int.tmod (wrap64 (a3)) (y1011.length : Int)))) ++ (⟨#[32, 40]⟩ : ByteArray)) ++ a1).size + 1 ≤ 9223372036854775807 then ((rl_Expr.f k (((((((⟨#[40]⟩ : ByteArray) ++ a0) ++ (⟨#[41, 32]⟩ : ByteArray)) ++ (rdOf ByteArray.empty y1011 (Int.tmod (wrap64 (a3)) (y1011.length : Int)))) ++ (⟨#[32, 40]⟩ : ByteArray)) ++ a1) ++ (⟨#[41]⟩ : ByteArray))).bind fun bt1015 => (if 2 + a0.size ≤ 9223372036854775807 then (if ((⟨#[45, 40]⟩ : ByteArray) ++ a0).size + 1 ≤ 9223372036854775807 then ((rl_Expr.f k (((⟨#[45, 40]⟩ : ByteArray) ++ a0) ++ (⟨#[41]⟩ : ByteArray))).bind fun bt1019 => (if t1004 = true then (if t1008 = true then (if bt1015.2 = true then (if bt1019.2 = true then ((rl_great.f l4 l5).bind fun t1023 => (rl_EvalJoins.j0 k a2 l4 l5 t1003 t1007 (Int.tmod (wrap64 (a3)) (y1011.length : Int)) bt1015.1 bt1019.1 t1023)) else (rl_EvalJoins.j0 k a2 l4 l5 t1003 t1007 (Int.tmod (wrap64 (a3)) (y1011.length : Int)) bt1015.1 bt1019.1 true)) else (rl_EvalJoins.j0 k a2 l4 l5 t1003 t1007 (Int.tmod (wrap64 (a3)) (y1011.length : Int)) bt1015.1 bt1019.1 true)) else (rl_EvalJoins.j0 k a2 l4 l5 t1003 t1007 (Int.tmod (wrap64 (a3)) (y1011.length : Int)) bt1015.1 bt1019.1 true)) else (rl_EvalJoins.j0 k a2 l4 l5 t1003 t1007 (Int.tmod (wrap64 (a3)) (y1011.length : Int)) bt1015.1 bt1019.1 true))) else (none)) else (none))) else (none)) else (none)) else (none)) else (none)) else (none)) else (none)) else (none)) else (none))) = some r := by first | (rw [hy1011]; with_reducible exact H) | (have H2_ := (Option.bind_some _ _).symm.trans H; rw [hy1011]; with_reducible exact H2_) | (have H2_ := (Option.bind_some _ _).symm.trans H; with_reducible exact H2_) | with_reducible exact H | (rw [hy1011]; exact H) | exact H
 have Ny1011 := za hy1011
 clear hy1011
 by_cases c9 : (y1011.length : Int) = 0
 ·
  rw [if_pos c9] at H
  exact absurd H (by simp)
 ·
  rw [if_neg c9] at H
  have c9b0 := beq_eq_false_iff_ne.mpr c9
  have c9b1 := bne_iff_ne.mpr c9
  have c9b2 : ¬ (y1011 = []) := fun h_ => c9 (by rw [h_]; rfl)
  by_cases c10 : 1 + a0.size ≤ 9223372036854775807
  ·
   rw [if_pos c10] at H
   have c10b0 := eq_true c10
   have c10b1 := decide_eq_true c10
   try have c10b2 : (9223372036854775807 < 1 + a0.size) = False := eq_false (Nat.not_lt.2 c10)
   by_cases c11 : ((⟨#[40]⟩ : ByteArray) ++ a0).size + 2 ≤ 9223372036854775807
   ·
    rw [if_pos c11] at H
    have c11b0 := eq_true c11
    have c11b1 := decide_eq_true c11
    try have c11b2 : (9223372036854775807 < ((⟨#[40]⟩ : ByteArray) ++ a0).size + 2) = False := eq_false (Nat.not_lt.2 c11)
    have c11b3 : (9223372036854775807 < 1 + a0.size + 2) = False := by have h_ := c11b2; simp only [ByteArray.size_append] at h_; exact h_
    obtain ⟨ji12, hji12⟩ : ∃ j_ : Int, (Int.tmod (wrap64 (a3)) (y1011.length : Int)) = j_ := ⟨_, rfl⟩
    replace H : (if 0 ≤ (ji12) then (if (ji12) < (y1011.length : Int) then (if (((⟨#[40]⟩ : ByteArray) ++ a0) ++ (⟨#[41, 32]⟩ : ByteArray)).size + (rdOf ByteArray.empty y1011 (ji12)).size ≤ 9223372036854775807 then (if ((((⟨#[40]⟩ : ByteArray) ++ a0) ++ (⟨#[41, 32]⟩ : ByteArray)) ++ (rdOf ByteArray.empty y1011 (ji12))).size + 2 ≤ 9223372036854775807 then (if (((((⟨#[40]⟩ : ByteArray) ++ a0) ++ (⟨#[41, 32]⟩ : ByteArray)) ++ (rdOf ByteArray.empty y1011 (ji12))) ++ (⟨#[32, 40]⟩ : ByteArray)).size + a1.size ≤ 9223372036854775807 then (if ((((((⟨#[40]⟩ : ByteArray) ++ a0) ++ (⟨#[41, 32]⟩ : ByteArray)) ++ (rdOf ByteArray.empty y1011 (ji12))) ++ (⟨#[32, 40]⟩ : ByteArray)) ++ a1).size + 1 ≤ 9223372036854775807 then ((rl_Expr.f k (((((((⟨#[40]⟩ : ByteArray) ++ a0) ++ (⟨#[41, 32]⟩ : ByteArray)) ++ (rdOf ByteArray.empty y1011 (ji12))) ++ (⟨#[32, 40]⟩ : ByteArray)) ++ a1) ++ (⟨#[41]⟩ : ByteArray))).bind fun bt1015 => (if 2 + a0.size ≤ 9223372036854775807 then (if ((⟨#[45, 40]⟩ : ByteArray) ++ a0).size + 1 ≤ 9223372036854775807 then ((rl_Expr.f k (((⟨#[45, 40]⟩ : ByteArray) ++ a0) ++ (⟨#[41]⟩ : ByteArray))).bind fun bt1019 => (if t1004 = true then (if t1008 = true then (if bt1015.2 = true then (if bt1019.2 = true then ((rl_great.f l4 l5).bind fun t1023 => (rl_EvalJoins.j0 k a2 l4 l5 t1003 t1007 ji12 bt1015.1 bt1019.1 t1023)) else (rl_EvalJoins.j0 k a2 l4 l5 t1003 t1007 ji12 bt1015.1 bt1019.1 true)) else (rl_EvalJoins.j0 k a2 l4 l5 t1003 t1007 ji12 bt1015.1 bt1019.1 true)) else (rl_EvalJoins.j0 k a2 l4 l5 t1003 t1007 ji12 bt1015.1 bt1019.1 true)) else (rl_EvalJoins.j0 k a2 l4 l5 t1003 t1007 ji12 bt1015.1 bt1019.1 true))) else (none)) else (none))) else (none)) else (none)) else (none)) else (none)) else (none)) else (none)) = some r := by first | (rw [hji12] at H; exact H) | (simp only [hji12] at H ⊢; exact H)
    (try rw [hji12] at A7)
    (try rw [hji12] at A8)
    by_cases c13 : 0 ≤ (ji12)
    ·
     rw [if_pos c13] at H
     have c13b0 := decide_eq_true c13
     clear c13
     by_cases c14 : (ji12) < (y1011.length : Int)
     ·
      rw [if_pos c14] at H
      have c14b0 := decide_eq_true c14
      clear c14
      by_cases c15 : (((⟨#[40]⟩ : ByteArray) ++ a0) ++ (⟨#[41, 32]⟩ : ByteArray)).size + (rdOf ByteArray.empty y1011 (ji12)).size ≤ 9223372036854775807
      ·
       rw [if_pos c15] at H
       have c15b0 := eq_true c15
       have c15b1 := decide_eq_true c15
       try have c15b2 : (9223372036854775807 < (((⟨#[40]⟩ : ByteArray) ++ a0) ++ (⟨#[41, 32]⟩ : ByteArray)).size + (rdOf ByteArray.empty y1011 (ji12)).size) = False := eq_false (Nat.not_lt.2 c15)
       have c15b3 : (9223372036854775807 < 1 + a0.size + 2 + (rdOf ByteArray.empty y1011 (ji12)).size) = False := by have h_ := c15b2; simp only [ByteArray.size_append] at h_; exact h_
       by_cases c16 : ((((⟨#[40]⟩ : ByteArray) ++ a0) ++ (⟨#[41, 32]⟩ : ByteArray)) ++ (rdOf ByteArray.empty y1011 (ji12))).size + 2 ≤ 9223372036854775807
       ·
        rw [if_pos c16] at H
        have c16b0 := eq_true c16
        have c16b1 := decide_eq_true c16
        try have c16b2 : (9223372036854775807 < ((((⟨#[40]⟩ : ByteArray) ++ a0) ++ (⟨#[41, 32]⟩ : ByteArray)) ++ (rdOf ByteArray.empty y1011 (ji12))).size + 2) = False := eq_false (Nat.not_lt.2 c16)
        have c16b3 : (9223372036854775807 < 1 + a0.size + 2 + (rdOf ByteArray.empty y1011 (ji12)).size + 2) = False := by have h_ := c16b2; simp only [ByteArray.size_append] at h_; exact h_
        by_cases c17 : (((((⟨#[40]⟩ : ByteArray) ++ a0) ++ (⟨#[41, 32]⟩ : ByteArray)) ++ (rdOf ByteArray.empty y1011 (ji12))) ++ (⟨#[32, 40]⟩ : ByteArray)).size + a1.size ≤ 9223372036854775807
        ·
         rw [if_pos c17] at H
         have c17b0 := eq_true c17
         have c17b1 := decide_eq_true c17
         try have c17b2 : (9223372036854775807 < (((((⟨#[40]⟩ : ByteArray) ++ a0) ++ (⟨#[41, 32]⟩ : ByteArray)) ++ (rdOf ByteArray.empty y1011 (ji12))) ++ (⟨#[32, 40]⟩ : ByteArray)).size + a1.size) = False := eq_false (Nat.not_lt.2 c17)
         have c17b3 : (9223372036854775807 < 1 + a0.size + 2 + (rdOf ByteArray.empty y1011 (ji12)).size + 2 + a1.size) = False := by have h_ := c17b2; simp only [ByteArray.size_append] at h_; exact h_
         by_cases c18 : ((((((⟨#[40]⟩ : ByteArray) ++ a0) ++ (⟨#[41, 32]⟩ : ByteArray)) ++ (rdOf ByteArray.empty y1011 (ji12))) ++ (⟨#[32, 40]⟩ : ByteArray)) ++ a1).size + 1 ≤ 9223372036854775807
         ·
          rw [if_pos c18] at H
          have c18b0 := eq_true c18
          have c18b1 := decide_eq_true c18
          try have c18b2 : (9223372036854775807 < ((((((⟨#[40]⟩ : ByteArray) ++ a0) ++ (⟨#[41, 32]⟩ : ByteArray)) ++ (rdOf ByteArray.empty y1011 (ji12))) ++ (⟨#[32, 40]⟩ : ByteArray)) ++ a1).size + 1) = False := eq_false (Nat.not_lt.2 c18)
          have c18b3 : (9223372036854775807 < 1 + a0.size + 2 + (rdOf ByteArray.empty y1011 (ji12)).size + 2 + a1.size + 1) = False := by have h_ := c18b2; simp only [ByteArray.size_append] at h_; exact h_
          replace H := Option.bind_eq_some_iff.mp H
          obtain ⟨⟨t1015, t1016⟩, A190, H⟩ := H
          (try dsimp only at H)
          have A19 := za A190
          clear A190
          by_cases c20 : 2 + a0.size ≤ 9223372036854775807
          ·
           rw [if_pos c20] at H
           have c20b0 := eq_true c20
           have c20b1 := decide_eq_true c20
           try have c20b2 : (9223372036854775807 < 2 + a0.size) = False := eq_false (Nat.not_lt.2 c20)
           by_cases c21 : ((⟨#[45, 40]⟩ : ByteArray) ++ a0).size + 1 ≤ 9223372036854775807
           ·
            rw [if_pos c21] at H
            have c21b0 := eq_true c21
            have c21b1 := decide_eq_true c21
            try have c21b2 : (9223372036854775807 < ((⟨#[45, 40]⟩ : ByteArray) ++ a0).size + 1) = False := eq_false (Nat.not_lt.2 c21)
            have c21b3 : (9223372036854775807 < 2 + a0.size + 1) = False := by have h_ := c21b2; simp only [ByteArray.size_append] at h_; exact h_
            replace H := Option.bind_eq_some_iff.mp H
            obtain ⟨⟨t1019, t1020⟩, A220, H⟩ := H
            (try dsimp only at H)
            have A22 := za A220
            clear A220
            have HC23 := za H
            clear H
            go_enter Try.func3, Try.ntmps3
            go_upto_region 7 with (first | ((with_reducible refine gate_callee (f := 4) rfl ?_); refine goesL_ (some 27) rfl rfl Try.func4 zq18 rfl #[.string a0] rfl zq1 ?_; (with_reducible refine (rl_Expr.calls k a0 t1003 t1004 _ A7.out).mono ?_); rintro e w24 ⟨v1005, rfl, ho0, hb⟩; refine ⟨_, rfl, ?_⟩; have HO1006 := za (Kd.R_lower ho0 (below_size zq4)); replace HB := za (below_step zq4 hb)) | ((with_reducible refine gate_callee (f := 4) rfl ?_); refine goesL_ (some 32) rfl rfl Try.func4 zq18 rfl #[.string a1] rfl zq1 ?_; (with_reducible refine (rl_Expr.calls k a1 t1007 t1008 _ A8.out).mono ?_); rintro e w25 ⟨v1009, rfl, ho0, hb⟩; refine ⟨_, rfl, ?_⟩; have HO1010 := za (Kd.R_lower (Kd.R_new' ho0 (Kd.R_lt (zr HO1006.out))) (below_size zq4)); replace HO1006 := za (Kd.R_elder' (zr HO1006.out) (Kd.R_base ho0) hb); replace HB := za (below_step zq4 hb)) | ((with_reducible refine gate_dst (N := 35) rfl ?_); (try (refine gate_guard (by rfl) ?_; dsimp only)); refine Kd.R_lit Kd.string _ 9 ?hg (N := 35) ?hd (xs := ([(⟨#[43]⟩ : ByteArray), (⟨#[45]⟩ : ByteArray), (⟨#[42]⟩ : ByteArray), (⟨#[47]⟩ : ByteArray), (⟨#[37]⟩ : ByteArray), (⟨#[61, 61]⟩ : ByteArray), (⟨#[60]⟩ : ByteArray), (⟨#[60, 61]⟩ : ByteArray)] : List ByteArray)) (inner := [.string (⟨#[43]⟩ : ByteArray), .string (⟨#[45]⟩ : ByteArray), .string (⟨#[42]⟩ : ByteArray), .string (⟨#[47]⟩ : ByteArray), .string (⟨#[37]⟩ : ByteArray), .string (⟨#[61, 61]⟩ : ByteArray), .string (⟨#[60]⟩ : ByteArray), .string (⟨#[60, 61]⟩ : ByteArray)]) (ok := fun _ => True) (okp := fun _ => True) ?hr ?hp (fun _ hk => hk) trivial (Below.refl _ _) (Nat.le_refl _) (by simp) ?_; (case hd => rfl); (case hg => rfl); (case hr => exact zq39); (case hp => exact (Reps.one (show Kd.M Kd.string _ _ _ (⟨#[43]⟩ : ByteArray) [.string (⟨#[43]⟩ : ByteArray)] from rfl) (Reps.one (show Kd.M Kd.string _ _ _ (⟨#[45]⟩ : ByteArray) [.string (⟨#[45]⟩ : ByteArray)] from rfl) (Reps.one (show Kd.M Kd.string _ _ _ (⟨#[42]⟩ : ByteArray) [.string (⟨#[42]⟩ : ByteArray)] from rfl) (Reps.one (show Kd.M Kd.string _ _ _ (⟨#[47]⟩ : ByteArray) [.string (⟨#[47]⟩ : ByteArray)] from rfl) (Reps.one (show Kd.M Kd.string _ _ _ (⟨#[37]⟩ : ByteArray) [.string (⟨#[37]⟩ : ByteArray)] from rfl) (Reps.one (show Kd.M Kd.string _ _ _ (⟨#[61, 61]⟩ : ByteArray) [.string (⟨#[61, 61]⟩ : ByteArray)] from rfl) (Reps.one (show Kd.M Kd.string _ _ _ (⟨#[60]⟩ : ByteArray) [.string (⟨#[60]⟩ : ByteArray)] from rfl) (Reps.one (show Kd.M Kd.string _ _ _ (⟨#[60, 61]⟩ : ByteArray) [.string (⟨#[60, 61]⟩ : ByteArray)] from rfl) (Reps.none _ _)))))))))); intro v1012 w26 ho27 hb hg_ hnew_; clear hg_ hnew_; (first | rw [← Ny1011.out] at ho27 | (simp only [Int.reduceToNat] at ho27; rw [← Ny1011.out] at ho27)); replace HO1006 := za (Kd.R_below (zr HO1006.out) hb); replace HO1010 := za (Kd.R_below (zr HO1010.out) hb); have HO1013 := za (Kd.R_lower ho27 (below_size zq4)); replace HB := za (below_step zq4 hb); clear hb ho27; obtain ⟨Ao28, co28, eo28⟩ := Kd.R_slice HO1013.out; subst eo28; have p1014 : 0 ≤ ((ji12) : Int) := of_decide_eq_true zq11; have q1014 : (ji12) < (y1011.length : Int) := of_decide_eq_true zq11; obtain ⟨ad1014, e1014, hx1014_0⟩ := Kd.at_string (Kd.R_reads' HO1013.out).2.2 (ji12) p1014 q1014; cases e1014; replace p1014 := eq_true p1014; replace q1014 := eq_true q1014) | ((with_reducible refine gate_callee (f := 4) rfl ?_); refine goesL_ (some 54) rfl rfl Try.func4 zq18 rfl #[.string (((((((⟨#[40]⟩ : ByteArray) ++ a0) ++ (⟨#[41, 32]⟩ : ByteArray)) ++ (rdOf ByteArray.empty y1011 (ji12))) ++ (⟨#[32, 40]⟩ : ByteArray)) ++ a1) ++ (⟨#[41]⟩ : ByteArray))] rfl zq91 ?_; (with_reducible refine (rl_Expr.calls k (((((((⟨#[40]⟩ : ByteArray) ++ a0) ++ (⟨#[41, 32]⟩ : ByteArray)) ++ (rdOf ByteArray.empty y1011 (ji12))) ++ (⟨#[32, 40]⟩ : ByteArray)) ++ a1) ++ (⟨#[41]⟩ : ByteArray)) t1015 t1016 _ A19.out).mono ?_); rintro e w29 ⟨v1017, rfl, ho0, hb⟩; refine ⟨_, rfl, ?_⟩; replace HO1013 := za (Kd.R_below (zr HO1013.out) hb); have HO1018 := za (Kd.R_lower (Kd.R_new' (Kd.R_new' ho0 (Kd.R_lt (zr HO1006.out))) (Kd.R_lt (zr HO1010.out))) (below_size zq4)); replace HO1006 := za (Kd.R_elder' (zr HO1006.out) (Kd.R_base ho0) hb); replace HO1010 := za (Kd.R_elder' (zr HO1010.out) (Kd.R_base ho0) hb); replace HB := za (below_step zq4 hb)) | ((with_reducible refine gate_callee (f := 4) rfl ?_); refine goesL_ (some 61) rfl rfl Try.func4 zq18 rfl #[.string (((⟨#[45, 40]⟩ : ByteArray) ++ a0) ++ (⟨#[41]⟩ : ByteArray))] rfl zq1 ?_; (with_reducible refine (rl_Expr.calls k (((⟨#[45, 40]⟩ : ByteArray) ++ a0) ++ (⟨#[41]⟩ : ByteArray)) t1019 t1020 _ A22.out).mono ?_); rintro e w30 ⟨v1021, rfl, ho0, hb⟩; refine ⟨_, rfl, ?_⟩; replace HO1013 := za (Kd.R_below (zr HO1013.out) hb); have HO1022 := za (Kd.R_lower (Kd.R_new' (Kd.R_new' (Kd.R_new' ho0 (Kd.R_lt (zr HO1006.out))) (Kd.R_lt (zr HO1010.out))) (Kd.R_lt (zr HO1018.out))) (below_size zq4)); replace HO1006 := za (Kd.R_elder' (zr HO1006.out) (Kd.R_base ho0) hb); replace HO1010 := za (Kd.R_elder' (zr HO1010.out) (Kd.R_base ho0) hb); replace HO1018 := za (Kd.R_elder' (zr HO1018.out) (Kd.R_base ho0) hb); replace HB := za (below_step zq4 hb)))
            (try simp only [Act.put, List.setIfInBounds_toArray, List.set_cons_zero, List.set_cons_succ])
            go_cut [82] (fun v82 wc => ∃ (kq : Nat) (x82_22 : Bool), v82 = .bool x82_22 ∧ Aside0 (rl_EvalJoins.j0 kq a2 l4 l5 t1003 t1007 ji12 t1015 t1019 x82_22 = some r) ∧ Aside0 (kq ≤ k) ∧ Aside0 (Kd.R k48 48 wc w.heap.size (fun k_ => some k_ ≠ (v1009 : Value).ownBlock ∧ some k_ ≠ (v1017 : Value).ownBlock ∧ some k_ ≠ (v1021 : Value).ownBlock) v1005 t1003) ∧ Aside0 (Kd.R k48 48 wc w.heap.size (fun k_ => some k_ ≠ (v1005 : Value).ownBlock ∧ some k_ ≠ (v1017 : Value).ownBlock ∧ some k_ ≠ (v1021 : Value).ownBlock) v1009 t1007) ∧ Aside0 (Kd.R k48 48 wc w.heap.size (fun k_ => some k_ ≠ (v1005 : Value).ownBlock ∧ some k_ ≠ (v1009 : Value).ownBlock ∧ some k_ ≠ (v1021 : Value).ownBlock) v1017 t1015) ∧ Aside0 (Kd.R k48 48 wc w.heap.size (fun k_ => some k_ ≠ (v1005 : Value).ownBlock ∧ some k_ ≠ (v1009 : Value).ownBlock ∧ some k_ ≠ (v1017 : Value).ownBlock) v1021 t1019) ∧ Aside0 (Below w.heap.size w wc))
            case first =>
             have H := HC23.out
             clear HC23
             by_cases c31 : t1004 = true
             ·
              subst c31
              rw [if_pos rfl] at H
              by_cases c32 : t1008 = true
              ·
               subst c32
               rw [if_pos rfl] at H
               by_cases c33 : t1016 = true
               ·
                subst c33
                rw [if_pos rfl] at H
                by_cases c34 : t1020 = true
                ·
                 subst c34
                 rw [if_pos rfl] at H
                 replace H := Option.bind_eq_some_iff.mp H
                 obtain ⟨t1023, A350, H⟩ := H
                 (try dsimp only at H)
                 have A35 := za A350
                 clear A350
                 have H' := za H
                 clear H
                 go_wp2_with (first | ((with_reducible refine gate_callee (f := 5) rfl ?_); (with_reducible refine gate_dst (N := 81) rfl ?_); (refine gate_guard (by rfl) ?_; dsimp only); refine goesL_ (some 81) rfl rfl Try.func5 zq18 rfl #[.slice A4 l4.length c4, .slice A5 l5.length c5] rfl zq1 ?_; (with_reducible refine (rl_great.calls _ _ l4 _ _ l5 t1023 _ ?side1 ?side2 ?side3 ?side4 A35.out).mono ?_); (case side1 => exact zq72); (case side2 => exact HC4.out); (case side3 => exact zq73); (case side4 => exact HC5.out); rintro e w' ⟨rfl, ⟨nd, rfl⟩⟩; refine ⟨_, rfl, ?_⟩))
                 go_meet
                 case rel => exact ⟨_, (t1023), zq29, H', ⟨zq78⟩, ⟨zq24⟩, ⟨zq25⟩, ⟨zq26⟩, ⟨zq27⟩, ⟨zq4⟩⟩
                ·
                 replace c34 := Bool.eq_false_iff.mpr c34
                 subst c34
                 rw [if_neg (show ¬ (false = true) by decide)] at H
                 have H' := za H
                 clear H
                 go_wp2
                 go_meet
                 case rel => exact ⟨_, (true), zq29, H', ⟨zq78⟩, ⟨zq24⟩, ⟨zq25⟩, ⟨zq26⟩, ⟨zq27⟩, ⟨zq4⟩⟩
               ·
                replace c33 := Bool.eq_false_iff.mpr c33
                subst c33
                rw [if_neg (show ¬ (false = true) by decide)] at H
                have H' := za H
                clear H
                go_wp2
                go_meet
                case rel => exact ⟨_, (true), zq29, H', ⟨zq78⟩, ⟨zq24⟩, ⟨zq25⟩, ⟨zq26⟩, ⟨zq27⟩, ⟨zq4⟩⟩
              ·
               replace c32 := Bool.eq_false_iff.mpr c32
               subst c32
               rw [if_neg (show ¬ (false = true) by decide)] at H
               have H' := za H
               clear H
               go_wp2
               go_meet
               case rel => exact ⟨_, (true), zq29, H', ⟨zq78⟩, ⟨zq24⟩, ⟨zq25⟩, ⟨zq26⟩, ⟨zq27⟩, ⟨zq4⟩⟩
             ·
              replace c31 := Bool.eq_false_iff.mpr c31
              subst c31
              rw [if_neg (show ¬ (false = true) by decide)] at H
              have H' := za H
              clear H
              go_wp2
              go_meet
              case rel => exact ⟨_, (true), zq29, H', ⟨zq78⟩, ⟨zq24⟩, ⟨zq25⟩, ⟨zq26⟩, ⟨zq27⟩, ⟨zq4⟩⟩
            case rest =>
             clear HC23
             obtain ⟨kq, x82_22, rfl, HA, HJ22, HO_13, HO_15, HO_19, HO_21, HB⟩ := hcut
             cases kq with
             | zero => exact absurd HA.out (by simp [rl_EvalJoins.j0])
             | succ kj22 =>
              have H := HA.out
              clear HA
              simp only [rl_EvalJoins.j0] at H
              by_cases c36 : x82_22 = true
              ·
               subst c36
               rw [if_pos rfl] at H
               replace H := Option.bind_eq_some_iff.mp H
               obtain ⟨t1024, A370, H⟩ := H
               (try dsimp only at H)
               have A37 := za A370
               clear A370
               obtain rfl := Option.some.inj H
               go_wp2_with (first | ((with_reducible refine gate_callee (f := 6) rfl ?_); refine goesL_ (some 83) rfl rfl Try.func6 zq18 rfl #[] rfl zq1 ?_; (with_reducible refine (rl_awake.calls  t1024 _ A37.out).mono ?_); rintro e w' ⟨rfl, ⟨nd, rfl⟩⟩; refine ⟨_, rfl, ?_⟩))
               go_ret
               exact ⟨zq90, zq4⟩
              ·
               replace c36 := Bool.eq_false_iff.mpr c36
               subst c36
               rw [if_neg (show ¬ (false = true) by decide)] at H
               replace H := Option.bind_eq_some_iff.mp H
               obtain ⟨t1025, A380, H⟩ := H
               (try dsimp only at H)
               have A38 := za A380
               clear A380
               replace H := Option.bind_eq_some_iff.mp H
               obtain ⟨t1026, A390, H⟩ := H
               (try dsimp only at H)
               have A39 := za A390
               clear A390
               replace H := Option.bind_eq_some_iff.mp H
               obtain ⟨t1027, A400, H⟩ := H
               (try dsimp only at H)
               have A40 := za A400
               clear A400
               replace H := Option.bind_eq_some_iff.mp H
               obtain ⟨t1028, A410, H⟩ := H
               (try dsimp only at H)
               have A41 := za A410
               clear A410
               by_cases c42 : t1027 = t1028
               ·
                rw [if_pos c42] at H
                have c42b0 := beq_iff_eq.mpr c42
                have c42b1 := bne_eq_false_iff_eq.mpr c42
                clear c42
                replace H := Option.bind_eq_some_iff.mp H
                obtain ⟨t1029, A430, H⟩ := H
                (try dsimp only at H)
                have A43 := za A430
                clear A430
                replace H := Option.bind_eq_some_iff.mp H
                obtain ⟨t1030, A440, H⟩ := H
                (try dsimp only at H)
                have A44 := za A440
                clear A440
                by_cases c45 : t1029 = t1030
                ·
                 rw [if_pos c45] at H
                 have c45b0 := beq_iff_eq.mpr c45
                 have c45b1 := bne_eq_false_iff_eq.mpr c45
                 clear c45
                 replace H := Option.bind_eq_some_iff.mp H
                 obtain ⟨t1031, A460, H⟩ := H
                 (try dsimp only at H)
                 have A46 := za A460
                 clear A460
                 obtain rfl := Option.some.inj H
                 obtain ⟨Ao47, co47, eo47⟩ := Kd.R_slice HO_13.out
                 subst eo47
                 go_wp2_with (first | ((with_reducible refine gate_callee (f := 7) rfl ?_); refine goesL_ (some 91) rfl rfl Try.func7 zq18 rfl #[.slice Ao47 t1003.length co47, .int .i64 (wrap64 ((t1003.length : Int) - 1)), .string a2, .slice A4 l4.length c4, .slice A5 l5.length c5] rfl zq1 ?_; (with_reducible refine (eval_Value.calls kj22 _ _ t1003 (wrap64 ((t1003.length : Int) - 1)) a2 _ _ l4 _ _ l5 t1025 _ ?side1 ?side2 ?side3 ?side4 ?side5 ?side6 A38.out).mono ?_); (case side1 => repeat (first | exact (Kd.R_reads' HO_13.out).2.2 | (with_reducible refine Kd.C_alloc ?_ _) | (with_reducible refine Kd.C_drewN ?_ _) | (with_reducible refine Kd.C_drew ?_))); (case side2 => exact (Kd.R_reads' HO_13.out).2.1); (case side3 => exact zq72); (case side4 => exact HC4.out); (case side5 => exact zq73); (case side6 => exact HC5.out); rintro e w48 ⟨rfl, hb⟩; refine ⟨_, rfl, ?_⟩; replace HO_13 := za (Kd.R_below (zr HO_13.out) hb); replace HO_15 := za (Kd.R_below (zr HO_15.out) hb); replace HO_19 := za (Kd.R_below (zr HO_19.out) hb); replace HO_21 := za (Kd.R_below (zr HO_21.out) hb); replace HB := za (below_step zq4 hb); (try clear hb); obtain ⟨Ao49, co49, eo49⟩ := Kd.R_slice HO_15.out; subst eo49) | ((with_reducible refine gate_callee (f := 7) rfl ?_); refine goesL_ (some 99) rfl rfl Try.func7 zq18 rfl #[.slice Ao49 t1007.length co49, .int .i64 (wrap64 ((t1007.length : Int) - 1)), .string a2, .slice A4 l4.length c4, .slice A5 l5.length c5] rfl zq1 ?_; (with_reducible refine (eval_Value.calls kj22 _ _ t1007 (wrap64 ((t1007.length : Int) - 1)) a2 _ _ l4 _ _ l5 t1026 _ ?side1 ?side2 ?side3 ?side4 ?side5 ?side6 A39.out).mono ?_); (case side1 => repeat (first | exact (Kd.R_reads' HO_15.out).2.2 | (with_reducible refine Kd.C_alloc ?_ _) | (with_reducible refine Kd.C_drewN ?_ _) | (with_reducible refine Kd.C_drew ?_))); (case side2 => exact (Kd.R_reads' HO_15.out).2.1); (case side3 => exact zq72); (case side4 => exact HC4.out); (case side5 => exact zq73); (case side6 => exact HC5.out); rintro e w50 ⟨rfl, hb⟩; refine ⟨_, rfl, ?_⟩; replace HO_13 := za (Kd.R_below (zr HO_13.out) hb); replace HO_15 := za (Kd.R_below (zr HO_15.out) hb); replace HO_19 := za (Kd.R_below (zr HO_19.out) hb); replace HO_21 := za (Kd.R_below (zr HO_21.out) hb); replace HB := za (below_step zq4 hb); (try clear hb); obtain ⟨Ao51, co51, eo51⟩ := Kd.R_slice HO_19.out; subst eo51) | ((with_reducible refine gate_callee (f := 7) rfl ?_); refine goesL_ (some 107) rfl rfl Try.func7 zq18 rfl #[.slice Ao51 t1015.length co51, .int .i64 (wrap64 ((t1015.length : Int) - 1)), .string a2, .slice A4 l4.length c4, .slice A5 l5.length c5] rfl zq1 ?_; (with_reducible refine (eval_Value.calls kj22 _ _ t1015 (wrap64 ((t1015.length : Int) - 1)) a2 _ _ l4 _ _ l5 t1027 _ ?side1 ?side2 ?side3 ?side4 ?side5 ?side6 A40.out).mono ?_); (case side1 => repeat (first | exact (Kd.R_reads' HO_19.out).2.2 | (with_reducible refine Kd.C_alloc ?_ _) | (with_reducible refine Kd.C_drewN ?_ _) | (with_reducible refine Kd.C_drew ?_))); (case side2 => exact (Kd.R_reads' HO_19.out).2.1); (case side3 => exact zq72); (case side4 => exact HC4.out); (case side5 => exact zq73); (case side6 => exact HC5.out); rintro e w52 ⟨rfl, hb⟩; refine ⟨_, rfl, ?_⟩; replace HO_13 := za (Kd.R_below (zr HO_13.out) hb); replace HO_15 := za (Kd.R_below (zr HO_15.out) hb); replace HO_19 := za (Kd.R_below (zr HO_19.out) hb); replace HO_21 := za (Kd.R_below (zr HO_21.out) hb); replace HB := za (below_step zq4 hb)) | ((with_reducible refine gate_callee (f := 8) rfl ?_); refine goesL_ (some 112) rfl rfl Try.func8 zq18 rfl #[.int .i64 (wrap64 (5 + ji12)), .int .i64 t1025, .int .i64 t1026] rfl zq91 ?_; (with_reducible refine (eval_Op.calls (wrap64 (5 + ji12)) t1025 t1026 t1028 _ A41.out).mono ?_); rintro e w' ⟨rfl, ⟨nd, rfl⟩⟩; refine ⟨_, rfl, ?_⟩; obtain ⟨Ao53, co53, eo53⟩ := Kd.R_slice HO_21.out; subst eo53) | ((with_reducible refine gate_callee (f := 7) rfl ?_); (with_reducible refine gate_dst (N := 122) rfl ?_); (refine gate_guard (by rfl) ?_; dsimp only); refine goesL_ (some 122) rfl rfl Try.func7 zq18 rfl #[.slice Ao53 t1019.length co53, .int .i64 (wrap64 ((t1019.length : Int) - 1)), .string a2, .slice A4 l4.length c4, .slice A5 l5.length c5] rfl zq1 ?_; (with_reducible refine (eval_Value.calls kj22 _ _ t1019 (wrap64 ((t1019.length : Int) - 1)) a2 _ _ l4 _ _ l5 t1029 _ ?side1 ?side2 ?side3 ?side4 ?side5 ?side6 A43.out).mono ?_); (case side1 => repeat (first | exact (Kd.R_reads' HO_21.out).2.2 | (with_reducible refine Kd.C_alloc ?_ _) | (with_reducible refine Kd.C_drewN ?_ _) | (with_reducible refine Kd.C_drew ?_))); (case side2 => exact (Kd.R_reads' HO_21.out).2.1); (case side3 => repeat (first | exact (Kd.C_below HR4.out zq4) | (with_reducible refine Kd.C_alloc ?_ _) | (with_reducible refine Kd.C_drewN ?_ _) | (with_reducible refine Kd.C_drew ?_))); (case side4 => exact HC4.out); (case side5 => repeat (first | exact (Kd.C_below HR5.out zq4) | (with_reducible refine Kd.C_alloc ?_ _) | (with_reducible refine Kd.C_drewN ?_ _) | (with_reducible refine Kd.C_drew ?_))); (case side6 => exact HC5.out); rintro e w54 ⟨rfl, hb⟩; refine ⟨_, rfl, ?_⟩; replace HO_13 := za (Kd.R_below (zr HO_13.out) hb); replace HO_15 := za (Kd.R_below (zr HO_15.out) hb); replace HO_19 := za (Kd.R_below (zr HO_19.out) hb); replace HO_21 := za (Kd.R_below (zr HO_21.out) hb); replace HB := za (below_step zq4 hb)) | ((with_reducible refine gate_callee (f := 8) rfl ?_); (with_reducible refine gate_dst (N := 124) rfl ?_); (refine gate_guard (by rfl) ?_; dsimp only); refine goesL_ (some 124) rfl rfl Try.func8 zq18 rfl #[.int .i64 3, .int .i64 t1025, .int .i64 0] rfl zq1 ?_; (with_reducible refine (eval_Op.calls 3 t1025 0 t1030 _ A44.out).mono ?_); rintro e w' ⟨rfl, ⟨nd, rfl⟩⟩; refine ⟨_, rfl, ?_⟩) | ((with_reducible refine gate_callee (f := 6) rfl ?_); (with_reducible refine gate_dst (N := 128) rfl ?_); (refine gate_guard (by rfl) ?_; dsimp only); refine goesL_ (some 128) rfl rfl Try.func6 zq18 rfl #[] rfl zq1 ?_; (with_reducible refine (rl_awake.calls  t1031 _ A46.out).mono ?_); rintro e w' ⟨rfl, ⟨nd, rfl⟩⟩; refine ⟨_, rfl, ?_⟩))
                 go_ret
                 exact ⟨zq90, zq4⟩
                ·
                 rw [if_neg c45] at H
                 have c45b0 := beq_eq_false_iff_ne.mpr c45
                 have c45b1 := bne_iff_ne.mpr c45
                 exact absurd (HLT_.out.symm.trans (Option.some.inj H).symm) (by decide)
               ·
                rw [if_neg c42] at H
                have c42b0 := beq_eq_false_iff_ne.mpr c42
                have c42b1 := bne_iff_ne.mpr c42
                exact absurd (HLT_.out.symm.trans (Option.some.inj H).symm) (by decide)
           ·
            rw [if_neg c21] at H
            exact absurd H (by simp)
          ·
           rw [if_neg c20] at H
           exact absurd H (by simp)
         ·
          rw [if_neg c18] at H
          exact absurd H (by simp)
        ·
         rw [if_neg c17] at H
         exact absurd H (by simp)
       ·
        rw [if_neg c16] at H
        exact absurd H (by simp)
      ·
       rw [if_neg c15] at H
       exact absurd H (by simp)
     ·
      rw [if_neg c14] at H
      exact absurd H (by simp)
    ·
     rw [if_neg c13] at H
     exact absurd H (by simp)
   ·
    rw [if_neg c11] at H
    exact absurd H (by simp)
  ·
   rw [if_neg c10] at H
   exact absurd H (by simp)
def rl_EvalJoins.Pure : Prop := ∀ (a0 : ByteArray) (a1 : ByteArray) (a2 : ByteArray) (a3 : Int) (l4 : List (S63)) (l5 : List (S63)), a0.size ≤ 140737488351232 → a1.size ≤ 140737488351232 → a2.size ≤ 140737488351232 → (Lit.int .u8 a3).wf = true → l4.length * 40 ≤ 140737488351232 → l5.length * 40 ≤ 140737488351232 → ∃ k, rl_EvalJoins.f k a0 a1 a2 a3 l4 l5 = some true
theorem rl_EvalJoins.walk (P : rl_EvalJoins.Pure) (a0 : ByteArray) (a1 : ByteArray) (a2 : ByteArray) (a3 : Int) (a4 : Option Addr) (cap4 : Nat) (l4 : List (S63)) (a5 : Option Addr) (cap5 : Nat) (l5 : List (S63)) (w : World) (w0 : a0.size ≤ 140737488351232) (w1 : a1.size ≤ 140737488351232) (w2 : a2.size ≤ 140737488351232) (w3 : (Lit.int .u8 a3).wf = true) (w4 : Kd.C k63 w a4 l4.length l4) (c4 : l4.length ≤ cap4) (y4 : l4.length * 40 ≤ 140737488351232) (w5 : Kd.C k63 w a5 l5.length l5) (c5 : l5.length ≤ cap5) (y5 : l5.length * 40 ≤ 140737488351232) :
  Calls Try.prog 3 #[.string a0, .string a1, .string a2, .int .u8 a3, .slice a4 l4.length cap4, .slice a5 l5.length cap5] w fun e w' => e = .returned (.bool true) ∧ Below w.heap.size w w' := by
 obtain ⟨k, h⟩ := P a0 a1 a2 a3 l4 l5 w0 w1 w2 w3 y4 y5
 refine (rl_EvalJoins.calls k a0 a1 a2 a3 _ _ l4 _ _ l5 true w ⟨rfl⟩ w4 c4 w5 c5 h).mono ?_
 rintro e w' ⟨rfl, hd⟩
 exact ⟨rfl, hd⟩
end Go.Proofs.Ytcmpmlklednhbaa.QEvalJoins
