import Derived.Test.YtcjnhnnfoadklaaZRLWApart
import Derived.Test.YtcjnhnnfoadklaaZRLWArr
namespace Go.Proofs.YtcjnhnnfoadklaaW.PrintWords
open Go.RowKit
namespace Kd
end Kd
end Go.Proofs.YtcjnhnnfoadklaaW.PrintWords
