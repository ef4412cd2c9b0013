import Derived.Test.YtkhalpeiifdfiaaZETWApart
import Derived.Test.YtkhalpeiifdfiaaZETWArr
namespace Go.Proofs.YtkhalpeiifdfiaaW.PrintWords
open Go.RowKit
namespace Kd
end Kd
end Go.Proofs.YtkhalpeiifdfiaaW.PrintWords
