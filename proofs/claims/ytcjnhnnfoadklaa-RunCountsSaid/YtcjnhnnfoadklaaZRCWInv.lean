import Derived.Test.YtcjnhnnfoadklaaZRCWTab
namespace Go.Proofs.YtcjnhnnfoadklaaW.PrintLast
end Go.Proofs.YtcjnhnnfoadklaaW.PrintLast
