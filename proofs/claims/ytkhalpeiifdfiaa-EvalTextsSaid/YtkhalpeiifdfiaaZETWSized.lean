import Derived.SizedLaws
import Derived.ChangeSlices
namespace Go.Proofs.YtkhalpeiifdfiaaW.PrintWords
open Go.ChangeShapes Go.WideShapes
end Go.Proofs.YtkhalpeiifdfiaaW.PrintWords
