import Derived.Test.YtkhalpeiifdfiaaZETWFootNe
namespace Go.Proofs.YtkhalpeiifdfiaaW.PrintWords
open Go.RowKit
namespace Kd
end Kd
end Go.Proofs.YtkhalpeiifdfiaaW.PrintWords
