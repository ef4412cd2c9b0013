import Derived.Test.YtcjnhnnfoadklaaZRBWInv
import Derived.Test.YtcjnhnnfoadklaaZRBWFootNe
namespace Go.Proofs.YtcjnhnnfoadklaaW.PrintWords
open Go.RowKit
end Go.Proofs.YtcjnhnnfoadklaaW.PrintWords
namespace Go.Proofs.YtcjnhnnfoadklaaW.PrintLast
end Go.Proofs.YtcjnhnnfoadklaaW.PrintLast
