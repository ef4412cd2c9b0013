/- Small facts about memory that the walks by hand use: a row of constant bytes is read as the bytes that were laid. -/
import Derived.Test.YtedoechheeclgaaWMore
import Derived.Lib.SlBytesConst
namespace Go.Proofs.Ytedoechheeclgaa.Hand
open Go.RowKit Go.Proofs.YtedoechheeclgaaW.PrintWords
/-- A block that was just laid reads as its cells. -/
theorem C_cells (k : IntKind) (l : List Int) (w : World) (e : TypeId) (fr : Nat × Nat) (cs : Array Value) (hcs : cs = (l.map (Value.int k)).toArray) (hl : l.length ≤ 9223372036854775807) :
    (Kd.int k).C (w.alloc (.cells cs e fr)) (some ⟨w.heap.size, 0, none⟩) l.length l := by
  subst hcs
  refine ⟨rfl, hl, fun _ => ⟨_, rfl, fun j p hj => ⟨[.int k p], rfl, rfl, fun i u hu => ?_⟩⟩⟩
  cases i with
  | succ i => simp at hu
  | zero =>
    obtain rfl : Value.int k p = u := by simpa using hu
    rw [add_plain, cell_of_row _ _ _ _ _ _ (heap_alloc_new w _)]
    have hs : (Kd.int k).sz = 1 := rfl
    simp [hs, hj]
end Go.Proofs.Ytedoechheeclgaa.Hand
