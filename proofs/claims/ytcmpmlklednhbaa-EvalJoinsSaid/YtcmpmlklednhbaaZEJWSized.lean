import Derived.SizedLaws
import Derived.ChangeSlices
namespace Go.Proofs.YtcmpmlklednhbaaW.PrintWords
open Go.ChangeShapes Go.WideShapes
end Go.Proofs.YtcmpmlklednhbaaW.PrintWords
