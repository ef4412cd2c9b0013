import Derived.Test.YtcjnhnnfoadklaaZRBWTab
namespace Go.Proofs.YtcjnhnnfoadklaaW.PrintLast
end Go.Proofs.YtcjnhnnfoadklaaW.PrintLast
