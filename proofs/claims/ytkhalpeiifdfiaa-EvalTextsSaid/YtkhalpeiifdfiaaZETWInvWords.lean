import Derived.Test.YtkhalpeiifdfiaaZETWInv
import Derived.Test.YtkhalpeiifdfiaaZETWFootNe
namespace Go.Proofs.YtkhalpeiifdfiaaW.PrintWords
open Go.RowKit
end Go.Proofs.YtkhalpeiifdfiaaW.PrintWords
namespace Go.Proofs.YtkhalpeiifdfiaaW.PrintLast
end Go.Proofs.YtkhalpeiifdfiaaW.PrintLast
