import Derived.Test.YtkhalpeiifdfiaaZETWTab
namespace Go.Proofs.YtkhalpeiifdfiaaW.PrintLast
end Go.Proofs.YtkhalpeiifdfiaaW.PrintLast
