import Derived.Test.YtcjnhnnfoadklaaZRCWN
namespace Go.Proofs.YtcjnhnnfoadklaaW.PrintWords
open Go.RowKit
namespace Kd
end Kd
end Go.Proofs.YtcjnhnnfoadklaaW.PrintWords
