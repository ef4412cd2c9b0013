import Derived.Test.YtkhalpeiifdfiaaZMOWWords
import Derived.Test.YtkhalpeiifdfiaaZMOWLast
namespace Go.Proofs.YtkhalpeiifdfiaaW.PrintWords
open Go.RowKit
namespace Kd
end Kd
end Go.Proofs.YtkhalpeiifdfiaaW.PrintWords
