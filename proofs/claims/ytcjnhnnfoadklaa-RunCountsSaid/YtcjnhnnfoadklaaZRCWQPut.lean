import Derived.Test.YtcjnhnnfoadklaaZRCWWords
import Derived.Test.YtcjnhnnfoadklaaZRCWLast
namespace Go.Proofs.YtcjnhnnfoadklaaW.PrintWords
open Go.RowKit
namespace Kd
end Kd
end Go.Proofs.YtcjnhnnfoadklaaW.PrintWords
