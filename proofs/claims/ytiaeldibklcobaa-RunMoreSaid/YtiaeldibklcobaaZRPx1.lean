import Derived.Test.YtiaeldibklcobaaZRPx0
namespace Go.Proofs.Ytiaeldibklcobaa.eZ
open Go.RowKit Go.Proofs.YtiaeldibklcobaaW.bL Go.Proofs.YtiaeldibklcobaaW.fV Go.Proofs.YtiaeldibklcobaaW.iZ
attribute [local go_sem] kL kM lX lY jC jD kN kP
set_option linter.unusedVariables false
set_option linter.unusedSimpArgs false
theorem aYu (d : Nat) (w : World) (x0 y0 : ByteArray) (x1 y1 : ByteArray) (x2 y2 : Int) :
  (Op.equalIn (d + 2) 51 (.agg #[.string x0, .string x1, .int .i64 x2]) (.agg #[.string y0, .string y1, .int .i64 y2])).run Try.prog w = .ok (x0.toList == y0.toList && (x1.toList == y1.toList && (x2 == y2))) w := by
 refine aLe Try.underlying51 dU ?_
 refine SI (by rfl) (by go_simp; rfl) (by go_simp; rfl) (by go_simp) ?_
 refine SI (by rfl) (by go_simp; rfl) (by go_simp; rfl) (by go_simp) ?_
 exact yo (by rfl) (by go_simp; rfl) (by go_simp; rfl) (by go_simp)
end Go.Proofs.Ytiaeldibklcobaa.eZ
