import Derived.Test.YtkhalpeiifdfiaaZMOWTab
namespace Go.Proofs.YtkhalpeiifdfiaaW.PrintLast
end Go.Proofs.YtkhalpeiifdfiaaW.PrintLast
