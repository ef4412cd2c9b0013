import Derived.Test.YtcjnhnnfoadklaaZROWTab
namespace Go.Proofs.YtcjnhnnfoadklaaW.PrintLast
end Go.Proofs.YtcjnhnnfoadklaaW.PrintLast
