import Derived.Test.YtcjnhnnfoadklaaZROWInv
import Derived.Test.YtcjnhnnfoadklaaZROWFootNe
namespace Go.Proofs.YtcjnhnnfoadklaaW.PrintWords
open Go.RowKit
end Go.Proofs.YtcjnhnnfoadklaaW.PrintWords
namespace Go.Proofs.YtcjnhnnfoadklaaW.PrintLast
end Go.Proofs.YtcjnhnnfoadklaaW.PrintLast
