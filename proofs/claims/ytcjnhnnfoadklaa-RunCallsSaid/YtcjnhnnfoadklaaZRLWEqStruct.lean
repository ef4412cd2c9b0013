import Derived.Test.YtcjnhnnfoadklaaZRLWWords
import Derived.Laws.StructEq
namespace Go.Proofs.YtcjnhnnfoadklaaW.PrintWords
open Go.RowKit
end Go.Proofs.YtcjnhnnfoadklaaW.PrintWords
