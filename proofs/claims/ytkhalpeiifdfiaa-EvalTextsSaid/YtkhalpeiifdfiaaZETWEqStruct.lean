import Derived.Test.YtkhalpeiifdfiaaZETWWords
import Derived.Laws.StructEq
namespace Go.Proofs.YtkhalpeiifdfiaaW.PrintWords
open Go.RowKit
end Go.Proofs.YtkhalpeiifdfiaaW.PrintWords
