import Derived.SizedLaws
import Derived.ChangeSlices
namespace Go.Proofs.YtcjnhnnfoadklaaW.PrintWords
open Go.ChangeShapes Go.WideShapes
end Go.Proofs.YtcjnhnnfoadklaaW.PrintWords
