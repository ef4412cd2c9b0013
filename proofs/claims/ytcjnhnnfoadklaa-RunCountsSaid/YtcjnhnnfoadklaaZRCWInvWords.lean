import Derived.Test.YtcjnhnnfoadklaaZRCWInv
import Derived.Test.YtcjnhnnfoadklaaZRCWFootNe
namespace Go.Proofs.YtcjnhnnfoadklaaW.PrintWords
open Go.RowKit
end Go.Proofs.YtcjnhnnfoadklaaW.PrintWords
namespace Go.Proofs.YtcjnhnnfoadklaaW.PrintLast
end Go.Proofs.YtcjnhnnfoadklaaW.PrintLast
