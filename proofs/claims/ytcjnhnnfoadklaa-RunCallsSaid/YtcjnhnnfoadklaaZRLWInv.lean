import Derived.Test.YtcjnhnnfoadklaaZRLWTab
namespace Go.Proofs.YtcjnhnnfoadklaaW.PrintLast
end Go.Proofs.YtcjnhnnfoadklaaW.PrintLast
