import Derived.Test.YtcjnhnnfoadklaaZROWWords
import Derived.Test.YtcjnhnnfoadklaaZROWLast
namespace Go.Proofs.YtcjnhnnfoadklaaW.PrintWords
open Go.RowKit
namespace Kd
end Kd
end Go.Proofs.YtcjnhnnfoadklaaW.PrintWords
