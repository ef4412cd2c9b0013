/- The statement EvalHides over numbers: of the one text's nodes both values, with a local of the name and without. No further condition. -/
import Derived.Test.YtkhalpeiifdfiaaZQEvalHidesx12
namespace Go.Proofs.Ytkhalpeiifdfiaa.Pure
open Go.RowKit Go.Proofs.Ytkhalpeiifdfiaa.QEvalHides Go.Proofs.YtkhalpeiifdfiaaW.PrintWords Go.Proofs.YtkhalpeiifdfiaaW.PrintLast
def hideNodes : List S73 := [⟨2, 0, ⟨#[]⟩, ⟨#[120]⟩, -1, -1, 43⟩, ⟨2, 0, ⟨#[109]⟩, ⟨#[120]⟩, -1, -1, 47⟩, ⟨5, 0, ⟨#[]⟩, ⟨#[]⟩, 0, 1, 45⟩, ⟨2, 0, ⟨#[]⟩, ⟨#[121]⟩, -1, -1, 53⟩, ⟨5, 0, ⟨#[]⟩, ⟨#[]⟩, 2, 3, 51⟩]
theorem hide_text : aquiferlaw21_Expr.f 400 (⟨#[120, 32, 43, 32, 109, 46, 120, 32, 43, 32, 121]⟩ : ByteArray) = some (hideNodes, true) := by kernel_rfl
theorem hide_with (a0 a1 a2 : Int) : eval_Value.f 400 hideNodes 4 (⟨#[109]⟩ : ByteArray) [⟨⟨#[]⟩, ⟨#[120]⟩, 1⟩, ⟨⟨#[]⟩, ⟨#[120]⟩, a2⟩] [⟨⟨#[109]⟩, ⟨#[120]⟩, a0⟩, ⟨⟨#[109]⟩, ⟨#[121]⟩, a1⟩] = some (wrap64 ((wrap64 (a2 + a0)) + a1)) := by kernel_rfl
theorem hide_none (a0 a1 : Int) : eval_Value.f 400 hideNodes 4 (⟨#[109]⟩ : ByteArray) [] [⟨⟨#[109]⟩, ⟨#[120]⟩, a0⟩, ⟨⟨#[109]⟩, ⟨#[121]⟩, a1⟩] = some (wrap64 ((wrap64 (a0 + a0)) + a1)) := by kernel_rfl
theorem EvalHides : aquiferlaw21_EvalHides.Pure := by
  intro a0 a1 a2 _ _ _
  refine ⟨400, ?_⟩
  have haw : aquiferlaw21_awake.f = some true := by decide +kernel
  have hl : wrap64 ((hideNodes.length : Int) - 1) = 4 := by decide +kernel
  unfold aquiferlaw21_EvalHides.f
  rw [hide_text]
  simp only [Option.bind_some]
  rw [hl, hide_with a0 a1 a2, hide_none a0 a1]
  simp only [Option.bind_some]
  rw [haw]
  simp
end Go.Proofs.Ytkhalpeiifdfiaa.Pure
