-- Written by wip/myprint.py of this session's repo, out of the translation. Lean checks it.
import Derived.Test.YtedoechheeclgaaProg
import Derived.Below
import Derived.Deep.Draws
import Derived.Deep.AppendLies
import Derived.Maps.AppendAt
import Derived.OwnWalk
import Derived.Laws.BytesArg
import Derived.Laws.MakeOwn
import Derived.Laws.OwnMore
import Derived.Deep.OwnRows
import Derived.Tactics
import Derived.Lib.ConvBytes
import Derived.Laws.Slices
import Derived.WalkKit
import Derived.KernelRfl
import Derived.RowKit3
import Derived.Deep.LoopGhost
import Derived.Deep.QuietTactic
import Derived.BigQuiet
import Derived.WideLaws
import Derived.Deep.DeepCutAuto
import Derived.Deep.CutBlock
import Derived.Deep.RegionHeld3
import Derived.Laws.Rows
import Derived.Lib.AppendStr
import Derived.ArgAppend
import Derived.Laws.IdiomCopy
import Derived.OrdersHeld
import Derived.Laws.BitsLemmas
import Derived.RowKit
import Derived.Test.YtedoechheeclgaaHand
import Derived.Test.YtedoechheeclgaaWWords
import Derived.Test.YtedoechheeclgaaWLast
import Derived.Test.YtedoechheeclgaaWTab
import Derived.Test.YtedoechheeclgaaWFour
import Derived.Test.YtedoechheeclgaaWQPut
import Derived.Test.YtedoechheeclgaaWApart
import Derived.Test.YtedoechheeclgaaWArr
import Derived.Test.YtedoechheeclgaaWZeros
import Derived.Test.YtedoechheeclgaaWFoot
import Derived.Test.YtedoechheeclgaaWKept
import Derived.Test.YtedoechheeclgaaWShare
import Derived.Test.YtedoechheeclgaaWN
import Derived.Test.YtedoechheeclgaaWFootNe
import Derived.Test.YtedoechheeclgaaWAt
import Derived.Test.YtedoechheeclgaaWEqStruct
import Derived.Test.YtedoechheeclgaaWRepsOne
import Derived.Test.YtedoechheeclgaaWInv
import Derived.Test.YtedoechheeclgaaWInvWords
import Derived.Test.YtedoechheeclgaaWGuard
import Derived.Test.YtedoechheeclgaaWNEv
import Derived.Test.YtedoechheeclgaaWMore
namespace Go.Proofs.Ytedoechheeclgaa.QCodeNumbers
open Go.RowKit Go.Proofs.YtedoechheeclgaaW.PrintWords Go.Proofs.YtedoechheeclgaaW.PrintLast Go.Proofs.YtedoechheeclgaaW.PrintMore
attribute [local go_sem] max2_int min2_int max_two min_two max_three min_three max_four min_four   -- for this text's walks alone
set_option linter.unusedVariables false
set_option linter.unusedSimpArgs false



def errW : Option Int → Value
  | none => .nilIface
  | some c => .iface 0 (.int .i64 c)
theorem errW_none : errW none = .nilIface := rfl
theorem errW_some (c : Int) : errW (some c) = .iface 0 (.int .i64 c) := rfl

theorem info5 : (Try.prog.info? 5).map (fun i => (i.zero, i.size, i.bytes)) = some (some (.int .u8 0), 1, 1) := by kernel_rfl
theorem info9 : (Try.prog.info? 9).map (fun i => (i.zero, i.size, i.bytes)) = some (some (.string ⟨#[]⟩), 1, 16) := by kernel_rfl
-- the values' own types

end Go.Proofs.Ytedoechheeclgaa.QCodeNumbers
