/- A cut with its own end as its room. -/
import Derived.Test.YtkhalpeiifdfiaaZMOWMore
namespace Go.Proofs.YtkhalpeiifdfiaaCap
open Go.RowKit Go.Proofs.YtkhalpeiifdfiaaW.PrintWords Go.Proofs.YtkhalpeiifdfiaaW.PrintLast
theorem cut_cap {P : Program} (t e : TypeId) (kh km : IntKind) {i : TypeInfo} (ht : P.underlying t = some (.slice e)) (hi : P.info? e = some i) (A : Option Addr) (n c : Nat) (j : Int) (h0 : 0 ≤ j) (hm : j ≤ n) (hc : n ≤ c) :
    ∀ W : World, (Instr.slice t (.slice A n c) none (some (.int kh j)) (some (.int km j))).run P W = .ok (.slice A j.toNat j.toNat) W := by
  intro W
  have hel : P.elem t = e := by simp [Program.elem, ht]
  have b1 : j ≤ (c : Int) := by omega
  simp [Instr.slice, run_underlying ht, Instr.sliceBounds, Instr.sliceBound, asIntOf, go_sem, h0, b1, sizeOf, typeInfo, hi, Result.andThen, show j ≤ max j 0 by omega]
end Go.Proofs.YtkhalpeiifdfiaaCap
