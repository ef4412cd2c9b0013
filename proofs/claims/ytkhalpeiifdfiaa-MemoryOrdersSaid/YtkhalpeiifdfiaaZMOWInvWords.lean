import Derived.Test.YtkhalpeiifdfiaaZMOWInv
import Derived.Test.YtkhalpeiifdfiaaZMOWFootNe
namespace Go.Proofs.YtkhalpeiifdfiaaW.PrintWords
open Go.RowKit
end Go.Proofs.YtkhalpeiifdfiaaW.PrintWords
namespace Go.Proofs.YtkhalpeiifdfiaaW.PrintLast
end Go.Proofs.YtkhalpeiifdfiaaW.PrintLast
