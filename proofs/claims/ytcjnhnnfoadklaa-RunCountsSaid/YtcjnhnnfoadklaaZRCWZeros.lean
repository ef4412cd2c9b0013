import Derived.Test.YtcjnhnnfoadklaaZRCWApart
import Derived.Test.YtcjnhnnfoadklaaZRCWArr
namespace Go.Proofs.YtcjnhnnfoadklaaW.PrintWords
open Go.RowKit
namespace Kd
end Kd
end Go.Proofs.YtcjnhnnfoadklaaW.PrintWords
