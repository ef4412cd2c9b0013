/- The statement EvalParts over numbers: a quotient times the divisor, and the rest, is what was divided; what is compared is as int compares. No further condition. -/
import Derived.Test.YtedoechheeclgaaPEvalPartsx1
import Derived.Test.YtedoechheeclgaaCrc
namespace Go.Proofs.Ytedoechheeclgaa.Pure
open Go.RowKit Go.Proofs.Ytedoechheeclgaa.PEvalParts Go.Proofs.Ytedoechheeclgaa.Crc Go.Proofs.YtedoechheeclgaaW.PrintWords Go.Proofs.YtedoechheeclgaaW.PrintLast
namespace EvalPartsP
/-- What both make of a kind and two numbers. -/
def op (k a b : Int) : Int :=
  if k = 3 then wrap64 (-a) else if k = 4 then (if (a == 0) = true then 1 else 0) else if k = 5 then wrap64 (a + b) else if k = 6 then wrap64 (a - b) else if k = 7 then wrap64 (a * b)
  else if k = 8 then (if b = 0 then 0 else wrap64 (Int.tdiv a b)) else if k = 9 then (if b = 0 then 0 else Int.tmod a b)
  else if k = 10 then (if (a == b) = true then 1 else 0) else if k = 11 then (if decide (a < b) = true then 1 else 0) else if k = 12 then (if decide (a ≤ b) = true then 1 else 0) else 0
theorem some_ite (c : Prop) [Decidable c] (a b : Int) : (if c then some a else some b) = some (if c then a else b) := by split <;> rfl
theorem bind_id (x : Option Int) : (x.bind fun t => some t) = x := by cases x <;> rfl
theorem op_p (k a b : Int) : eval_Op.f k a b = some (op k a b) := by
  unfold eval_Op.f eval_truth.f op
  simp only [bind_id, some_ite]
  congr 1
  by_cases h3 : k = 3
  · subst h3; simp
  by_cases h4 : k = 4
  · subst h4; simp
  simp only [if_neg h3, if_neg h4]
theorem awake_t : aquiferlaw21_awake.f = some true := by
  unfold aquiferlaw21_awake.f
  simp only [op_p]
  decide +kernel
/-- Wrapping a sum and a product once or twice is one. -/
theorem wrap_part (q b r a : Int) (h : q * b + r = a) (h0 : -9223372036854775808 ≤ a) (h1 : a ≤ 9223372036854775807) : wrap64 (wrap64 (wrap64 q * b) + r) = a := by
  have e1 : ∃ u, wrap64 q = q + 18446744073709551616 * u := ⟨-((q + 9223372036854775808) / 18446744073709551616), by unfold wrap64; omega⟩
  obtain ⟨u, hu⟩ := e1
  have e2 : ∃ v, wrap64 (wrap64 q * b) = q * b + 18446744073709551616 * v := by
    refine ⟨u * b - ((wrap64 q * b + 9223372036854775808) / 18446744073709551616), ?_⟩
    have : wrap64 q * b = q * b + 18446744073709551616 * (u * b) := by rw [hu, Int.add_mul, Int.mul_assoc]
    unfold wrap64 at this ⊢
    omega
  obtain ⟨v, hv⟩ := e2
  rw [hv]
  unfold wrap64
  omega
end EvalPartsP
open EvalPartsP
theorem EvalParts : aquiferlaw21_EvalParts.Pure := by
  intro a b wa wb
  have ga := wf_i64 wa
  have gb := wf_i64 wb
  unfold aquiferlaw21_EvalParts.f
  simp only [op_p, Option.bind_some, awake_t]
  by_cases hb : b = 0
  · subst hb
    simp [op]
  · rw [if_neg hb]
    have e8 : op 8 a b = wrap64 (Int.tdiv a b) := by simp [op, hb]
    have e9 : op 9 a b = Int.tmod a b := by simp [op, hb]
    have eb : op 5 (op 7 (op 8 a b) b) (op 9 a b) = a := by
      rw [e8, e9]
      show wrap64 (wrap64 (wrap64 (Int.tdiv a b) * b) + Int.tmod a b) = a
      exact wrap_part _ _ _ _ (by rw [Int.mul_comm]; exact Int.mul_tdiv_add_tmod a b) ga.1 ga.2
    have el : wrap64 (wrap64 (op 11 a b + op 11 b a) + op 10 a b) = 1 := by
      rcases Int.lt_trichotomy a b with h | h | h
      · have h1 : ¬ b < a := by omega
        have h2 : ¬ a = b := by omega
        simp [op, h, h1, h2]; decide +kernel
      · subst h
        simp [op]; decide +kernel
      · have h1 : ¬ a < b := by omega
        have h2 : ¬ a = b := by omega
        simp [op, h, h1, h2]; decide +kernel
    have ee : op 12 a b = op 4 (op 11 b a) 0 := by
      by_cases h : b < a
      · have h1 : ¬ a ≤ b := by omega
        simp [op, h, h1]
      · have h1 : a ≤ b := by omega
        simp [op, h, h1]
    have en : op 3 a b = op 6 0 a := by simp [op]
    rw [if_pos eb, if_pos el, if_pos ee, if_pos en]
end Go.Proofs.Ytedoechheeclgaa.Pure
