import Derived.Test.YtkhalpeiifdfiaaZWWords
import Derived.Test.YtkhalpeiifdfiaaZWLast
namespace Go.Proofs.YtkhalpeiifdfiaaW.PrintWords
open Go.RowKit
namespace Kd
end Kd
end Go.Proofs.YtkhalpeiifdfiaaW.PrintWords
