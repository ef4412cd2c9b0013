import Derived.Test.YtkhalpeiifdfiaaZETWWords
import Derived.Test.YtkhalpeiifdfiaaZETWLast
namespace Go.Proofs.YtkhalpeiifdfiaaW.PrintWords
open Go.RowKit
namespace Kd
end Kd
end Go.Proofs.YtkhalpeiifdfiaaW.PrintWords
