/-
  No cell of these rows narrows 'for every input' (looked for: loops, veiled, ifaces, maps, wideKeys, modest, calm, conditions, laid).
  DERIVED. THE GIVEN ROWS OF THIS SEAT. 8 by the template 'for every input the law returns true; each argument reads behind the call as it read before'; 0 by the template 'total and deterministic' (their statements: YtcjnhnnfoadklaaTotals.lean).
  GIVEN WITH THE SEED: the statements are not yours to turn. If you find one false, say at which input.
  Laid BY PROGRAM, IN A SANDBOX (cutbox-rows.mjs): the forced cells as the released guide's own fill.sh prints them over the translation b4cc54a68a8a59eb… (all of the seat's roots in one cut). By AI agents, Wed Nov 11 2026. No macro, syntax, notation, axiom, sorry.
-/
import Derived.Test.YtcjnhnnfoadklaaChecked
import GoSem.Claim
import GoSem.ClaimJoined
import GoSem.ClaimMapViews
import Derived.JoinedTies
import Derived.KernelRfl
namespace Go.Proofs.Ytcjnhnnfoadklaa
/- THE CELL 'sum', in the pinned program and in every row, IS THE sha256 OF THE DUMP (.gsa) THAT YtcjnhnnfoadklaaProg.lean LOADS. Nothing in Lean hashes anything: it is a label: what it is worth is what the hold of that sum in a sandbox is worth. -/
noncomputable def Try.pinned : Pinned := { name := "ytcjnhnnfoadklaa", sum := "b4cc54a68a8a59eba19191a29afc7079ecb956155fbca48071e3ada07508ac05", checked := Try.checked }
namespace Rows
def none {H : Type} : Left H := { results := [], args := [] }

/-- 'aquiferlaw22.RunAll': WHATEVER THE INPUT: true; the input reads as it did. -/
def runAllSpec : ChangeSpec := { name := "runAll", fn := fun _ => fun
  | [d1, d2, d3, d4, d5, d6, d7] => { results := [.lit (.bool true)], args := [d1, d2, d3, d4, d5, d6, d7] }
  | _ => none }
def runAllRow : OpenClaim := { program := "ytcjnhnnfoadklaa", sum := "b4cc54a68a8a59eba19191a29afc7079ecb956155fbca48071e3ada07508ac05", func := "aquifer/aquiferlaw22.RunAll", spec := "runAll", inPlace := ["internal/bytealg.abigen_runtime_cmpstring"], unfollowed := true, recurses := true, apart := false }
def RunAllSaid : Prop := runAllRow.holds Try.pinned (OpenSpec.ofChange runAllSpec)

/-- ITS FALSE NEIGHBOUR: 'it returns false'. Refute it at one input. -/
def runAllWrong : ChangeSpec := { name := "runAll", fn := fun _ => fun
  | [d1, d2, d3, d4, d5, d6, d7] => { results := [.lit (.bool false)], args := [d1, d2, d3, d4, d5, d6, d7] }
  | _ => none }
def RunAllWrongFalsely : Prop := runAllRow.holds Try.pinned (OpenSpec.ofChange runAllWrong)

/-- 'aquiferlaw22.RunMains': WHATEVER THE INPUT: true; the input reads as it did. -/
def runMainsSpec : ChangeSpec := { name := "runMains", fn := fun _ => fun
  | [d1, d2, d3] => { results := [.lit (.bool true)], args := [d1, d2, d3] }
  | _ => none }
def runMainsRow : OpenClaim := { program := "ytcjnhnnfoadklaa", sum := "b4cc54a68a8a59eba19191a29afc7079ecb956155fbca48071e3ada07508ac05", func := "aquifer/aquiferlaw22.RunMains", spec := "runMains", inPlace := ["internal/bytealg.abigen_runtime_cmpstring"], unfollowed := true, recurses := true, apart := false }
def RunMainsSaid : Prop := runMainsRow.holds Try.pinned (OpenSpec.ofChange runMainsSpec)

/-- ITS FALSE NEIGHBOUR: 'it returns false'. Refute it at one input. -/
def runMainsWrong : ChangeSpec := { name := "runMains", fn := fun _ => fun
  | [d1, d2, d3] => { results := [.lit (.bool false)], args := [d1, d2, d3] }
  | _ => none }
def RunMainsWrongFalsely : Prop := runMainsRow.holds Try.pinned (OpenSpec.ofChange runMainsWrong)

/-- 'aquiferlaw22.RunMore': WHATEVER THE INPUT: true; the input reads as it did. -/
def runMoreSpec : ChangeSpec := { name := "runMore", fn := fun _ => fun
  | [d1, d2, d3, d4] => { results := [.lit (.bool true)], args := [d1, d2, d3, d4] }
  | _ => none }
def runMoreRow : OpenClaim := { program := "ytcjnhnnfoadklaa", sum := "b4cc54a68a8a59eba19191a29afc7079ecb956155fbca48071e3ada07508ac05", func := "aquifer/aquiferlaw22.RunMore", spec := "runMore", inPlace := ["internal/bytealg.abigen_runtime_cmpstring"], unfollowed := true, recurses := true, apart := false }
def RunMoreSaid : Prop := runMoreRow.holds Try.pinned (OpenSpec.ofChange runMoreSpec)

/-- ITS FALSE NEIGHBOUR: 'it returns false'. Refute it at one input. -/
def runMoreWrong : ChangeSpec := { name := "runMore", fn := fun _ => fun
  | [d1, d2, d3, d4] => { results := [.lit (.bool false)], args := [d1, d2, d3, d4] }
  | _ => none }
def RunMoreWrongFalsely : Prop := runMoreRow.holds Try.pinned (OpenSpec.ofChange runMoreWrong)

/-- 'aquiferlaw22.RunCounts': WHATEVER THE INPUT: true; the input reads as it did. -/
def runCountsSpec : ChangeSpec := { name := "runCounts", fn := fun _ => fun
  | [d1, d2] => { results := [.lit (.bool true)], args := [d1, d2] }
  | _ => none }
def runCountsRow : OpenClaim := { program := "ytcjnhnnfoadklaa", sum := "b4cc54a68a8a59eba19191a29afc7079ecb956155fbca48071e3ada07508ac05", func := "aquifer/aquiferlaw22.RunCounts", spec := "runCounts", inPlace := ["internal/bytealg.abigen_runtime_cmpstring"], unfollowed := true, recurses := true, apart := false }
def RunCountsSaid : Prop := runCountsRow.holds Try.pinned (OpenSpec.ofChange runCountsSpec)

/-- ITS FALSE NEIGHBOUR: 'it returns false'. Refute it at one input. -/
def runCountsWrong : ChangeSpec := { name := "runCounts", fn := fun _ => fun
  | [d1, d2] => { results := [.lit (.bool false)], args := [d1, d2] }
  | _ => none }
def RunCountsWrongFalsely : Prop := runCountsRow.holds Try.pinned (OpenSpec.ofChange runCountsWrong)

/-- 'aquiferlaw22.RunCalls': WHATEVER THE INPUT: true; the input reads as it did. -/
def runCallsSpec : ChangeSpec := { name := "runCalls", fn := fun _ => fun
  | [d] => { results := [.lit (.bool true)], args := [d] }
  | _ => none }
def runCallsRow : OpenClaim := { program := "ytcjnhnnfoadklaa", sum := "b4cc54a68a8a59eba19191a29afc7079ecb956155fbca48071e3ada07508ac05", func := "aquifer/aquiferlaw22.RunCalls", spec := "runCalls", inPlace := ["internal/bytealg.abigen_runtime_cmpstring"], unfollowed := true, recurses := true, apart := false }
def RunCallsSaid : Prop := runCallsRow.holds Try.pinned (OpenSpec.ofChange runCallsSpec)

/-- ITS FALSE NEIGHBOUR: 'it returns false'. Refute it at one input. -/
def runCallsWrong : ChangeSpec := { name := "runCalls", fn := fun _ => fun
  | [d] => { results := [.lit (.bool false)], args := [d] }
  | _ => none }
def RunCallsWrongFalsely : Prop := runCallsRow.holds Try.pinned (OpenSpec.ofChange runCallsWrong)

/-- 'aquiferlaw22.RunOther': WHATEVER THE INPUT: true; the input reads as it did. -/
def runOtherSpec : ChangeSpec := { name := "runOther", fn := fun _ => fun
  | [d1, d2, d3] => { results := [.lit (.bool true)], args := [d1, d2, d3] }
  | _ => none }
def runOtherRow : OpenClaim := { program := "ytcjnhnnfoadklaa", sum := "b4cc54a68a8a59eba19191a29afc7079ecb956155fbca48071e3ada07508ac05", func := "aquifer/aquiferlaw22.RunOther", spec := "runOther", inPlace := ["internal/bytealg.abigen_runtime_cmpstring"], unfollowed := true, recurses := true, apart := false }
def RunOtherSaid : Prop := runOtherRow.holds Try.pinned (OpenSpec.ofChange runOtherSpec)

/-- ITS FALSE NEIGHBOUR: 'it returns false'. Refute it at one input. -/
def runOtherWrong : ChangeSpec := { name := "runOther", fn := fun _ => fun
  | [d1, d2, d3] => { results := [.lit (.bool false)], args := [d1, d2, d3] }
  | _ => none }
def RunOtherWrongFalsely : Prop := runOtherRow.holds Try.pinned (OpenSpec.ofChange runOtherWrong)

/-- 'aquiferlaw22.RunRows': WHATEVER THE INPUT: true; the input reads as it did. -/
def runRowsSpec : ChangeSpec := { name := "runRows", fn := fun _ => fun
  | [d1, d2, d3] => { results := [.lit (.bool true)], args := [d1, d2, d3] }
  | _ => none }
def runRowsRow : OpenClaim := { program := "ytcjnhnnfoadklaa", sum := "b4cc54a68a8a59eba19191a29afc7079ecb956155fbca48071e3ada07508ac05", func := "aquifer/aquiferlaw22.RunRows", spec := "runRows", inPlace := ["internal/bytealg.abigen_runtime_cmpstring"], unfollowed := true, recurses := true, apart := false }
def RunRowsSaid : Prop := runRowsRow.holds Try.pinned (OpenSpec.ofChange runRowsSpec)

/-- ITS FALSE NEIGHBOUR: 'it returns false'. Refute it at one input. -/
def runRowsWrong : ChangeSpec := { name := "runRows", fn := fun _ => fun
  | [d1, d2, d3] => { results := [.lit (.bool false)], args := [d1, d2, d3] }
  | _ => none }
def RunRowsWrongFalsely : Prop := runRowsRow.holds Try.pinned (OpenSpec.ofChange runRowsWrong)

/-- 'aquiferlaw22.RunBranches': WHATEVER THE INPUT: true; the input reads as it did. -/
def runBranchesSpec : ChangeSpec := { name := "runBranches", fn := fun _ => fun
  | [d1, d2] => { results := [.lit (.bool true)], args := [d1, d2] }
  | _ => none }
def runBranchesRow : OpenClaim := { program := "ytcjnhnnfoadklaa", sum := "b4cc54a68a8a59eba19191a29afc7079ecb956155fbca48071e3ada07508ac05", func := "aquifer/aquiferlaw22.RunBranches", spec := "runBranches", inPlace := ["internal/bytealg.abigen_runtime_cmpstring"], unfollowed := true, recurses := true, apart := false }
def RunBranchesSaid : Prop := runBranchesRow.holds Try.pinned (OpenSpec.ofChange runBranchesSpec)

/-- ITS FALSE NEIGHBOUR: 'it returns false'. Refute it at one input. -/
def runBranchesWrong : ChangeSpec := { name := "runBranches", fn := fun _ => fun
  | [d1, d2] => { results := [.lit (.bool false)], args := [d1, d2] }
  | _ => none }
def RunBranchesWrongFalsely : Prop := runBranchesRow.holds Try.pinned (OpenSpec.ofChange runBranchesWrong)

/- THE SECOND FORM. 'bulk': how many values and letters a reading holds, each counted each time it is reached (what is shared counts as often as it is met; a slice's spare places count too). A statement '..UptoSaid' is the law's where the arguments, and the package variables that the reading takes, are together of bulk at most 1048576: NARROWER than '..Said'. Prove '..Said' where nothing that the law and all that it calls make is longer than what came in: it says more and counts as full. Else prove '..UptoSaid'. A law counts once. -/
mutual
def uptoBulk {H : Type} : DataW H → Nat
  | .lit (.string bytes) => bytes.length + 1
  | .lit _ => 1
  | .nil => 1
  | .ptr d => uptoBulk d + 1
  | .slice elems spare => uptoBulkAll elems + uptoBulkAll spare + 1
  | .agg parts => uptoBulkAll parts + 1
  | .iface _ d => uptoBulk d + 1
  | .map entries => uptoBulkEntries entries + 1
  | .held _ => 1
def uptoBulkAll {H : Type} : List (DataW H) → Nat
  | [] => 0
  | d :: r => uptoBulk d + uptoBulkAll r
def uptoBulkEntries {H : Type} : List (Lit × DataW H) → Nat
  | [] => 0
  | x :: r => uptoBulkEntry x + uptoBulkEntries r
def uptoBulkEntry {H : Type} : Lit × DataW H → Nat
  | (.string bytes, d) => bytes.length + uptoBulk d + 1
  | (_, d) => uptoBulk d + 1
 end
def uptoSmall : (H : Type) → List (DataW H) → Bool := fun _ ds => decide (uptoBulkAll ds ≤ 1048576)
def OpenSpec.upto (s : _root_.Go.ChangeSpec) : _root_.Go.OpenSpec := { _root_.Go.OpenSpec.ofChange s with cond := some uptoSmall }

/-- 'aquiferlaw22.RunAll', WHERE WHAT IT READS IS OF BULK AT MOST 1048576: true; the input reads as it did. -/
def runAllUptoRow : OpenClaim := { program := "ytcjnhnnfoadklaa", sum := "b4cc54a68a8a59eba19191a29afc7079ecb956155fbca48071e3ada07508ac05", func := "aquifer/aquiferlaw22.RunAll", spec := "runAll", inPlace := ["internal/bytealg.abigen_runtime_cmpstring"], unfollowed := true, recurses := true, apart := false, narrowed := true }
def RunAllUptoSaid : Prop := runAllUptoRow.holds Try.pinned (OpenSpec.upto runAllSpec)

/-- 'aquiferlaw22.RunMains', WHERE WHAT IT READS IS OF BULK AT MOST 1048576: true; the input reads as it did. -/
def runMainsUptoRow : OpenClaim := { program := "ytcjnhnnfoadklaa", sum := "b4cc54a68a8a59eba19191a29afc7079ecb956155fbca48071e3ada07508ac05", func := "aquifer/aquiferlaw22.RunMains", spec := "runMains", inPlace := ["internal/bytealg.abigen_runtime_cmpstring"], unfollowed := true, recurses := true, apart := false, narrowed := true }
def RunMainsUptoSaid : Prop := runMainsUptoRow.holds Try.pinned (OpenSpec.upto runMainsSpec)

/-- 'aquiferlaw22.RunMore', WHERE WHAT IT READS IS OF BULK AT MOST 1048576: true; the input reads as it did. -/
def runMoreUptoRow : OpenClaim := { program := "ytcjnhnnfoadklaa", sum := "b4cc54a68a8a59eba19191a29afc7079ecb956155fbca48071e3ada07508ac05", func := "aquifer/aquiferlaw22.RunMore", spec := "runMore", inPlace := ["internal/bytealg.abigen_runtime_cmpstring"], unfollowed := true, recurses := true, apart := false, narrowed := true }
def RunMoreUptoSaid : Prop := runMoreUptoRow.holds Try.pinned (OpenSpec.upto runMoreSpec)

/-- 'aquiferlaw22.RunCounts', WHERE WHAT IT READS IS OF BULK AT MOST 1048576: true; the input reads as it did. -/
def runCountsUptoRow : OpenClaim := { program := "ytcjnhnnfoadklaa", sum := "b4cc54a68a8a59eba19191a29afc7079ecb956155fbca48071e3ada07508ac05", func := "aquifer/aquiferlaw22.RunCounts", spec := "runCounts", inPlace := ["internal/bytealg.abigen_runtime_cmpstring"], unfollowed := true, recurses := true, apart := false, narrowed := true }
def RunCountsUptoSaid : Prop := runCountsUptoRow.holds Try.pinned (OpenSpec.upto runCountsSpec)

/-- 'aquiferlaw22.RunCalls', WHERE WHAT IT READS IS OF BULK AT MOST 1048576: true; the input reads as it did. -/
def runCallsUptoRow : OpenClaim := { program := "ytcjnhnnfoadklaa", sum := "b4cc54a68a8a59eba19191a29afc7079ecb956155fbca48071e3ada07508ac05", func := "aquifer/aquiferlaw22.RunCalls", spec := "runCalls", inPlace := ["internal/bytealg.abigen_runtime_cmpstring"], unfollowed := true, recurses := true, apart := false, narrowed := true }
def RunCallsUptoSaid : Prop := runCallsUptoRow.holds Try.pinned (OpenSpec.upto runCallsSpec)

/-- 'aquiferlaw22.RunOther', WHERE WHAT IT READS IS OF BULK AT MOST 1048576: true; the input reads as it did. -/
def runOtherUptoRow : OpenClaim := { program := "ytcjnhnnfoadklaa", sum := "b4cc54a68a8a59eba19191a29afc7079ecb956155fbca48071e3ada07508ac05", func := "aquifer/aquiferlaw22.RunOther", spec := "runOther", inPlace := ["internal/bytealg.abigen_runtime_cmpstring"], unfollowed := true, recurses := true, apart := false, narrowed := true }
def RunOtherUptoSaid : Prop := runOtherUptoRow.holds Try.pinned (OpenSpec.upto runOtherSpec)

/-- 'aquiferlaw22.RunRows', WHERE WHAT IT READS IS OF BULK AT MOST 1048576: true; the input reads as it did. -/
def runRowsUptoRow : OpenClaim := { program := "ytcjnhnnfoadklaa", sum := "b4cc54a68a8a59eba19191a29afc7079ecb956155fbca48071e3ada07508ac05", func := "aquifer/aquiferlaw22.RunRows", spec := "runRows", inPlace := ["internal/bytealg.abigen_runtime_cmpstring"], unfollowed := true, recurses := true, apart := false, narrowed := true }
def RunRowsUptoSaid : Prop := runRowsUptoRow.holds Try.pinned (OpenSpec.upto runRowsSpec)

/-- 'aquiferlaw22.RunBranches', WHERE WHAT IT READS IS OF BULK AT MOST 1048576: true; the input reads as it did. -/
def runBranchesUptoRow : OpenClaim := { program := "ytcjnhnnfoadklaa", sum := "b4cc54a68a8a59eba19191a29afc7079ecb956155fbca48071e3ada07508ac05", func := "aquifer/aquiferlaw22.RunBranches", spec := "runBranches", inPlace := ["internal/bytealg.abigen_runtime_cmpstring"], unfollowed := true, recurses := true, apart := false, narrowed := true }
def RunBranchesUptoSaid : Prop := runBranchesUptoRow.holds Try.pinned (OpenSpec.upto runBranchesSpec)

end Rows
end Go.Proofs.Ytcjnhnnfoadklaa
