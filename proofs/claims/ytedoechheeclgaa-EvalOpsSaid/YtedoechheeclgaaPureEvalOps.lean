/- The statement EvalOps over numbers: what any operator makes of any two numbers is the reference's. No further condition. -/
import Derived.Test.YtedoechheeclgaaPEvalOpsx1
namespace Go.Proofs.Ytedoechheeclgaa.Pure
open Go.RowKit Go.Proofs.Ytedoechheeclgaa.PEvalOps Go.Proofs.YtedoechheeclgaaW.PrintWords Go.Proofs.YtedoechheeclgaaW.PrintLast
namespace EvalOpsP
/-- What both make of a kind and two numbers. -/
def op (k a b : Int) : Int :=
  if k = 3 then wrap64 (-a) else if k = 4 then (if (a == 0) = true then 1 else 0) else if k = 5 then wrap64 (a + b) else if k = 6 then wrap64 (a - b) else if k = 7 then wrap64 (a * b)
  else if k = 8 then (if b = 0 then 0 else wrap64 (Int.tdiv a b)) else if k = 9 then (if b = 0 then 0 else Int.tmod a b)
  else if k = 10 then (if (a == b) = true then 1 else 0) else if k = 11 then (if decide (a < b) = true then 1 else 0) else if k = 12 then (if decide (a ≤ b) = true then 1 else 0) else 0
theorem some_ite (c : Prop) [Decidable c] (a b : Int) : (if c then some a else some b) = some (if c then a else b) := by split <;> rfl
theorem bind_id (x : Option Int) : (x.bind fun t => some t) = x := by cases x <;> rfl
theorem op_r (k a b : Int) : aquiferref20_Op.f k a b = some (op k a b) := by
  unfold aquiferref20_Op.f aquiferref20_bit.f op
  simp only [bind_id, some_ite]
theorem op_p (k a b : Int) : eval_Op.f k a b = some (op k a b) := by
  unfold eval_Op.f eval_truth.f op
  simp only [bind_id, some_ite]
  congr 1
  by_cases h3 : k = 3
  · subst h3; simp
  by_cases h4 : k = 4
  · subst h4; simp
  simp only [if_neg h3, if_neg h4]
theorem awake_t : aquiferlaw21_awake.f = some true := by
  unfold aquiferlaw21_awake.f
  simp only [op_p]
  decide +kernel
theorem loop (a0 a1 a2 : Int) (d : Nat) : ∀ i : Int, i + d = 13 → 0 ≤ i → Ev (fun k => aquiferlaw21_EvalOps.l0 k a0 a1 a2 i) true := by
  induction d with
  | zero =>
    intro i hi h0
    refine Ev.step (f := fun _ => some true) (fun k => ?_) (Ev.now _)
    simp only [aquiferlaw21_EvalOps.l0]
    rw [if_neg (by omega)]
    simp only [op_p, op_r, Option.bind_some, if_true, awake_t]
  | succ d ih =>
    intro i hi h0
    refine Ev.step (fun k => ?_) (ih (i + 1) (by omega) (by omega))
    simp only [aquiferlaw21_EvalOps.l0]
    rw [if_pos (by omega)]
    simp only [op_p, op_r, Option.bind_some, if_true]
    rw [show wrap64 (i + 1) = i + 1 from by unfold wrap64; omega]
end EvalOpsP
open EvalOpsP
theorem EvalOps : aquiferlaw21_EvalOps.Pure := by
  intro a0 a1 a2 _ _ _
  exact Ev.rounds (loop a0 a1 a2 12 1 (by omega) (by omega))
end Go.Proofs.Ytedoechheeclgaa.Pure
