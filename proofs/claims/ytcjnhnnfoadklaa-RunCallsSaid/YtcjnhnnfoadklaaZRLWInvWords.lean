import Derived.Test.YtcjnhnnfoadklaaZRLWInv
import Derived.Test.YtcjnhnnfoadklaaZRLWFootNe
namespace Go.Proofs.YtcjnhnnfoadklaaW.PrintWords
open Go.RowKit
end Go.Proofs.YtcjnhnnfoadklaaW.PrintWords
namespace Go.Proofs.YtcjnhnnfoadklaaW.PrintLast
end Go.Proofs.YtcjnhnnfoadklaaW.PrintLast
