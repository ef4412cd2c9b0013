import Derived.Test.YtkhalpeiifdfiaaZWTab
namespace Go.Proofs.YtkhalpeiifdfiaaW.PrintLast
end Go.Proofs.YtkhalpeiifdfiaaW.PrintLast
