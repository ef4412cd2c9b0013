/-
  No cell of these rows narrows 'for every input' (looked for: loops, veiled, ifaces, maps, wideKeys, modest, calm, conditions, laid).
  DERIVED. THE GIVEN ROWS OF THIS SEAT. 8 by the template 'for every input the law returns true; each argument reads behind the call as it read before'; 0 by the template 'total and deterministic' (their statements: YtkhalpeiifdfiaaTotals.lean).
  GIVEN WITH THE SEED: the statements are not yours to turn. If you find one false, say at which input.
  Laid BY PROGRAM, IN A SANDBOX (cutbox-rows.mjs): the forced cells as the released guide's own fill.sh prints them over the translation 1239cf3478ca9813… (all of the seat's roots in one cut). By AI agents, Wed Nov 11 2026. No macro, syntax, notation, axiom, sorry.
-/
import Derived.Test.YtkhalpeiifdfiaaChecked
import GoSem.Claim
import GoSem.ClaimJoined
import GoSem.ClaimMapViews
import Derived.JoinedTies
import Derived.KernelRfl
namespace Go.Proofs.Ytkhalpeiifdfiaa
/- THE CELL 'sum', in the pinned program and in every row, IS THE sha256 OF THE DUMP (.gsa) THAT YtkhalpeiifdfiaaProg.lean LOADS. Nothing in Lean hashes anything: it is a label: what it is worth is what the hold of that sum in a sandbox is worth. -/
noncomputable def Try.pinned : Pinned := { name := "ytkhalpeiifdfiaa", sum := "1239cf3478ca98131a89fffecb04498419b7df9db61d560fb8f9ff57ed6cd17b", checked := Try.checked }
namespace Rows
def none {H : Type} : Left H := { results := [], args := [] }

/-- 'aquiferlaw21.EvalTexts': WHATEVER THE INPUT: true; the input reads as it did. -/
def evalTextsSpec : ChangeSpec := { name := "evalTexts", fn := fun _ => fun
  | [d1, d2, d3, d4] => { results := [.lit (.bool true)], args := [d1, d2, d3, d4] }
  | _ => none }
def evalTextsRow : OpenClaim := { program := "ytkhalpeiifdfiaa", sum := "1239cf3478ca98131a89fffecb04498419b7df9db61d560fb8f9ff57ed6cd17b", func := "aquifer/aquiferlaw21.EvalTexts", spec := "evalTexts", inPlace := ["internal/bytealg.abigen_runtime_cmpstring"], unfollowed := true, recurses := true, apart := false }
def EvalTextsSaid : Prop := evalTextsRow.holds Try.pinned (OpenSpec.ofChange evalTextsSpec)

/-- ITS FALSE NEIGHBOUR: 'it returns false'. Refute it at one input. -/
def evalTextsWrong : ChangeSpec := { name := "evalTexts", fn := fun _ => fun
  | [d1, d2, d3, d4] => { results := [.lit (.bool false)], args := [d1, d2, d3, d4] }
  | _ => none }
def EvalTextsWrongFalsely : Prop := evalTextsRow.holds Try.pinned (OpenSpec.ofChange evalTextsWrong)

/-- 'aquiferlaw21.EvalNodes': WHATEVER THE INPUT: true; the input reads as it did. -/
def evalNodesSpec : ChangeSpec := { name := "evalNodes", fn := fun _ => fun
  | [d1, d2, d3, d4, d5] => { results := [.lit (.bool true)], args := [d1, d2, d3, d4, d5] }
  | _ => none }
def evalNodesRow : OpenClaim := { program := "ytkhalpeiifdfiaa", sum := "1239cf3478ca98131a89fffecb04498419b7df9db61d560fb8f9ff57ed6cd17b", func := "aquifer/aquiferlaw21.EvalNodes", spec := "evalNodes", inPlace := ["internal/bytealg.abigen_runtime_cmpstring"], unfollowed := true, recurses := true, apart := false }
def EvalNodesSaid : Prop := evalNodesRow.holds Try.pinned (OpenSpec.ofChange evalNodesSpec)

/-- ITS FALSE NEIGHBOUR: 'it returns false'. Refute it at one input. -/
def evalNodesWrong : ChangeSpec := { name := "evalNodes", fn := fun _ => fun
  | [d1, d2, d3, d4, d5] => { results := [.lit (.bool false)], args := [d1, d2, d3, d4, d5] }
  | _ => none }
def EvalNodesWrongFalsely : Prop := evalNodesRow.holds Try.pinned (OpenSpec.ofChange evalNodesWrong)

/-- 'aquiferlaw21.EvalHides': WHATEVER THE INPUT: true; the input reads as it did. -/
def evalHidesSpec : ChangeSpec := { name := "evalHides", fn := fun _ => fun
  | [d1, d2, d3] => { results := [.lit (.bool true)], args := [d1, d2, d3] }
  | _ => none }
def evalHidesRow : OpenClaim := { program := "ytkhalpeiifdfiaa", sum := "1239cf3478ca98131a89fffecb04498419b7df9db61d560fb8f9ff57ed6cd17b", func := "aquifer/aquiferlaw21.EvalHides", spec := "evalHides", inPlace := ["internal/bytealg.abigen_runtime_cmpstring"], unfollowed := true, recurses := true, apart := false }
def EvalHidesSaid : Prop := evalHidesRow.holds Try.pinned (OpenSpec.ofChange evalHidesSpec)

/-- ITS FALSE NEIGHBOUR: 'it returns false'. Refute it at one input. -/
def evalHidesWrong : ChangeSpec := { name := "evalHides", fn := fun _ => fun
  | [d1, d2, d3] => { results := [.lit (.bool false)], args := [d1, d2, d3] }
  | _ => none }
def EvalHidesWrongFalsely : Prop := evalHidesRow.holds Try.pinned (OpenSpec.ofChange evalHidesWrong)

/-- 'aquiferlaw21.EvalJoins': WHATEVER THE INPUT: true; the input reads as it did. -/
def evalJoinsSpec : ChangeSpec := { name := "evalJoins", fn := fun _ => fun
  | [d1, d2, d3, d4, d5, d6] => { results := [.lit (.bool true)], args := [d1, d2, d3, d4, d5, d6] }
  | _ => none }
def evalJoinsRow : OpenClaim := { program := "ytkhalpeiifdfiaa", sum := "1239cf3478ca98131a89fffecb04498419b7df9db61d560fb8f9ff57ed6cd17b", func := "aquifer/aquiferlaw21.EvalJoins", spec := "evalJoins", inPlace := ["internal/bytealg.abigen_runtime_cmpstring"], unfollowed := true, recurses := true, apart := false }
def EvalJoinsSaid : Prop := evalJoinsRow.holds Try.pinned (OpenSpec.ofChange evalJoinsSpec)

/-- ITS FALSE NEIGHBOUR: 'it returns false'. Refute it at one input. -/
def evalJoinsWrong : ChangeSpec := { name := "evalJoins", fn := fun _ => fun
  | [d1, d2, d3, d4, d5, d6] => { results := [.lit (.bool false)], args := [d1, d2, d3, d4, d5, d6] }
  | _ => none }
def EvalJoinsWrongFalsely : Prop := evalJoinsRow.holds Try.pinned (OpenSpec.ofChange evalJoinsWrong)

/-- 'aquiferlaw20.MemorySees': WHATEVER THE INPUT: true; the input reads as it did. -/
def memorySeesSpec : ChangeSpec := { name := "memorySees", fn := fun _ => fun
  | [d1, d2, d3, d4] => { results := [.lit (.bool true)], args := [d1, d2, d3, d4] }
  | _ => none }
def memorySeesRow : OpenClaim := { program := "ytkhalpeiifdfiaa", sum := "1239cf3478ca98131a89fffecb04498419b7df9db61d560fb8f9ff57ed6cd17b", func := "aquifer/aquiferlaw20.MemorySees", spec := "memorySees", inPlace := ["internal/bytealg.abigen_runtime_cmpstring"], unfollowed := true, recurses := true, apart := false }
def MemorySeesSaid : Prop := memorySeesRow.holds Try.pinned (OpenSpec.ofChange memorySeesSpec)

/-- ITS FALSE NEIGHBOUR: 'it returns false'. Refute it at one input. -/
def memorySeesWrong : ChangeSpec := { name := "memorySees", fn := fun _ => fun
  | [d1, d2, d3, d4] => { results := [.lit (.bool false)], args := [d1, d2, d3, d4] }
  | _ => none }
def MemorySeesWrongFalsely : Prop := memorySeesRow.holds Try.pinned (OpenSpec.ofChange memorySeesWrong)

/-- 'aquiferlaw20.MemoryOrders': WHATEVER THE INPUT: true; the input reads as it did. -/
def memoryOrdersSpec : ChangeSpec := { name := "memoryOrders", fn := fun _ => fun
  | [d1, d2, d3, d4, d5] => { results := [.lit (.bool true)], args := [d1, d2, d3, d4, d5] }
  | _ => none }
def memoryOrdersRow : OpenClaim := { program := "ytkhalpeiifdfiaa", sum := "1239cf3478ca98131a89fffecb04498419b7df9db61d560fb8f9ff57ed6cd17b", func := "aquifer/aquiferlaw20.MemoryOrders", spec := "memoryOrders", inPlace := ["internal/bytealg.abigen_runtime_cmpstring"], unfollowed := true, recurses := true, apart := false }
def MemoryOrdersSaid : Prop := memoryOrdersRow.holds Try.pinned (OpenSpec.ofChange memoryOrdersSpec)

/-- ITS FALSE NEIGHBOUR: 'it returns false'. Refute it at one input. -/
def memoryOrdersWrong : ChangeSpec := { name := "memoryOrders", fn := fun _ => fun
  | [d1, d2, d3, d4, d5] => { results := [.lit (.bool false)], args := [d1, d2, d3, d4, d5] }
  | _ => none }
def MemoryOrdersWrongFalsely : Prop := memoryOrdersRow.holds Try.pinned (OpenSpec.ofChange memoryOrdersWrong)

/-- 'aquiferlaw20.MemorySets': WHATEVER THE INPUT: true; the input reads as it did. -/
def memorySetsSpec : ChangeSpec := { name := "memorySets", fn := fun _ => fun
  | [d1, d2, d3] => { results := [.lit (.bool true)], args := [d1, d2, d3] }
  | _ => none }
def memorySetsRow : OpenClaim := { program := "ytkhalpeiifdfiaa", sum := "1239cf3478ca98131a89fffecb04498419b7df9db61d560fb8f9ff57ed6cd17b", func := "aquifer/aquiferlaw20.MemorySets", spec := "memorySets", inPlace := ["internal/bytealg.abigen_runtime_cmpstring"], unfollowed := true, recurses := true, apart := false }
def MemorySetsSaid : Prop := memorySetsRow.holds Try.pinned (OpenSpec.ofChange memorySetsSpec)

/-- ITS FALSE NEIGHBOUR: 'it returns false'. Refute it at one input. -/
def memorySetsWrong : ChangeSpec := { name := "memorySets", fn := fun _ => fun
  | [d1, d2, d3] => { results := [.lit (.bool false)], args := [d1, d2, d3] }
  | _ => none }
def MemorySetsWrongFalsely : Prop := memorySetsRow.holds Try.pinned (OpenSpec.ofChange memorySetsWrong)

/-- 'aquiferlaw20.MemoryAll': WHATEVER THE INPUT: true; the input reads as it did. -/
def memoryAllSpec : ChangeSpec := { name := "memoryAll", fn := fun _ => fun
  | [d1, d2, d3, d4, d5, d6, d7] => { results := [.lit (.bool true)], args := [d1, d2, d3, d4, d5, d6, d7] }
  | _ => none }
def memoryAllRow : OpenClaim := { program := "ytkhalpeiifdfiaa", sum := "1239cf3478ca98131a89fffecb04498419b7df9db61d560fb8f9ff57ed6cd17b", func := "aquifer/aquiferlaw20.MemoryAll", spec := "memoryAll", inPlace := ["internal/bytealg.abigen_runtime_cmpstring"], unfollowed := true, recurses := true, apart := false }
def MemoryAllSaid : Prop := memoryAllRow.holds Try.pinned (OpenSpec.ofChange memoryAllSpec)

/-- ITS FALSE NEIGHBOUR: 'it returns false'. Refute it at one input. -/
def memoryAllWrong : ChangeSpec := { name := "memoryAll", fn := fun _ => fun
  | [d1, d2, d3, d4, d5, d6, d7] => { results := [.lit (.bool false)], args := [d1, d2, d3, d4, d5, d6, d7] }
  | _ => none }
def MemoryAllWrongFalsely : Prop := memoryAllRow.holds Try.pinned (OpenSpec.ofChange memoryAllWrong)

/- THE SECOND FORM. 'bulk': how many values and letters a reading holds, each counted each time it is reached (what is shared counts as often as it is met; a slice's spare places count too). A statement '..UptoSaid' is the law's where the arguments, and the package variables that the reading takes, are together of bulk at most 1048576: NARROWER than '..Said'. Prove '..Said' where nothing that the law and all that it calls make is longer than what came in: it says more and counts as full. Else prove '..UptoSaid'. A law counts once. -/
mutual
def uptoBulk {H : Type} : DataW H → Nat
  | .lit (.string bytes) => bytes.length + 1
  | .lit _ => 1
  | .nil => 1
  | .ptr d => uptoBulk d + 1
  | .slice elems spare => uptoBulkAll elems + uptoBulkAll spare + 1
  | .agg parts => uptoBulkAll parts + 1
  | .iface _ d => uptoBulk d + 1
  | .map entries => uptoBulkEntries entries + 1
  | .held _ => 1
def uptoBulkAll {H : Type} : List (DataW H) → Nat
  | [] => 0
  | d :: r => uptoBulk d + uptoBulkAll r
def uptoBulkEntries {H : Type} : List (Lit × DataW H) → Nat
  | [] => 0
  | x :: r => uptoBulkEntry x + uptoBulkEntries r
def uptoBulkEntry {H : Type} : Lit × DataW H → Nat
  | (.string bytes, d) => bytes.length + uptoBulk d + 1
  | (_, d) => uptoBulk d + 1
 end
def uptoSmall : (H : Type) → List (DataW H) → Bool := fun _ ds => decide (uptoBulkAll ds ≤ 1048576)
def OpenSpec.upto (s : _root_.Go.ChangeSpec) : _root_.Go.OpenSpec := { _root_.Go.OpenSpec.ofChange s with cond := some uptoSmall }

/-- 'aquiferlaw21.EvalTexts', WHERE WHAT IT READS IS OF BULK AT MOST 1048576: true; the input reads as it did. -/
def evalTextsUptoRow : OpenClaim := { program := "ytkhalpeiifdfiaa", sum := "1239cf3478ca98131a89fffecb04498419b7df9db61d560fb8f9ff57ed6cd17b", func := "aquifer/aquiferlaw21.EvalTexts", spec := "evalTexts", inPlace := ["internal/bytealg.abigen_runtime_cmpstring"], unfollowed := true, recurses := true, apart := false, narrowed := true }
def EvalTextsUptoSaid : Prop := evalTextsUptoRow.holds Try.pinned (OpenSpec.upto evalTextsSpec)

/-- 'aquiferlaw21.EvalNodes', WHERE WHAT IT READS IS OF BULK AT MOST 1048576: true; the input reads as it did. -/
def evalNodesUptoRow : OpenClaim := { program := "ytkhalpeiifdfiaa", sum := "1239cf3478ca98131a89fffecb04498419b7df9db61d560fb8f9ff57ed6cd17b", func := "aquifer/aquiferlaw21.EvalNodes", spec := "evalNodes", inPlace := ["internal/bytealg.abigen_runtime_cmpstring"], unfollowed := true, recurses := true, apart := false, narrowed := true }
def EvalNodesUptoSaid : Prop := evalNodesUptoRow.holds Try.pinned (OpenSpec.upto evalNodesSpec)

/-- 'aquiferlaw21.EvalHides', WHERE WHAT IT READS IS OF BULK AT MOST 1048576: true; the input reads as it did. -/
def evalHidesUptoRow : OpenClaim := { program := "ytkhalpeiifdfiaa", sum := "1239cf3478ca98131a89fffecb04498419b7df9db61d560fb8f9ff57ed6cd17b", func := "aquifer/aquiferlaw21.EvalHides", spec := "evalHides", inPlace := ["internal/bytealg.abigen_runtime_cmpstring"], unfollowed := true, recurses := true, apart := false, narrowed := true }
def EvalHidesUptoSaid : Prop := evalHidesUptoRow.holds Try.pinned (OpenSpec.upto evalHidesSpec)

/-- 'aquiferlaw21.EvalJoins', WHERE WHAT IT READS IS OF BULK AT MOST 1048576: true; the input reads as it did. -/
def evalJoinsUptoRow : OpenClaim := { program := "ytkhalpeiifdfiaa", sum := "1239cf3478ca98131a89fffecb04498419b7df9db61d560fb8f9ff57ed6cd17b", func := "aquifer/aquiferlaw21.EvalJoins", spec := "evalJoins", inPlace := ["internal/bytealg.abigen_runtime_cmpstring"], unfollowed := true, recurses := true, apart := false, narrowed := true }
def EvalJoinsUptoSaid : Prop := evalJoinsUptoRow.holds Try.pinned (OpenSpec.upto evalJoinsSpec)

/-- 'aquiferlaw20.MemorySees', WHERE WHAT IT READS IS OF BULK AT MOST 1048576: true; the input reads as it did. -/
def memorySeesUptoRow : OpenClaim := { program := "ytkhalpeiifdfiaa", sum := "1239cf3478ca98131a89fffecb04498419b7df9db61d560fb8f9ff57ed6cd17b", func := "aquifer/aquiferlaw20.MemorySees", spec := "memorySees", inPlace := ["internal/bytealg.abigen_runtime_cmpstring"], unfollowed := true, recurses := true, apart := false, narrowed := true }
def MemorySeesUptoSaid : Prop := memorySeesUptoRow.holds Try.pinned (OpenSpec.upto memorySeesSpec)

/-- 'aquiferlaw20.MemoryOrders', WHERE WHAT IT READS IS OF BULK AT MOST 1048576: true; the input reads as it did. -/
def memoryOrdersUptoRow : OpenClaim := { program := "ytkhalpeiifdfiaa", sum := "1239cf3478ca98131a89fffecb04498419b7df9db61d560fb8f9ff57ed6cd17b", func := "aquifer/aquiferlaw20.MemoryOrders", spec := "memoryOrders", inPlace := ["internal/bytealg.abigen_runtime_cmpstring"], unfollowed := true, recurses := true, apart := false, narrowed := true }
def MemoryOrdersUptoSaid : Prop := memoryOrdersUptoRow.holds Try.pinned (OpenSpec.upto memoryOrdersSpec)

/-- 'aquiferlaw20.MemorySets', WHERE WHAT IT READS IS OF BULK AT MOST 1048576: true; the input reads as it did. -/
def memorySetsUptoRow : OpenClaim := { program := "ytkhalpeiifdfiaa", sum := "1239cf3478ca98131a89fffecb04498419b7df9db61d560fb8f9ff57ed6cd17b", func := "aquifer/aquiferlaw20.MemorySets", spec := "memorySets", inPlace := ["internal/bytealg.abigen_runtime_cmpstring"], unfollowed := true, recurses := true, apart := false, narrowed := true }
def MemorySetsUptoSaid : Prop := memorySetsUptoRow.holds Try.pinned (OpenSpec.upto memorySetsSpec)

/-- 'aquiferlaw20.MemoryAll', WHERE WHAT IT READS IS OF BULK AT MOST 1048576: true; the input reads as it did. -/
def memoryAllUptoRow : OpenClaim := { program := "ytkhalpeiifdfiaa", sum := "1239cf3478ca98131a89fffecb04498419b7df9db61d560fb8f9ff57ed6cd17b", func := "aquifer/aquiferlaw20.MemoryAll", spec := "memoryAll", inPlace := ["internal/bytealg.abigen_runtime_cmpstring"], unfollowed := true, recurses := true, apart := false, narrowed := true }
def MemoryAllUptoSaid : Prop := memoryAllUptoRow.holds Try.pinned (OpenSpec.upto memoryAllSpec)

end Rows
end Go.Proofs.Ytkhalpeiifdfiaa
