import Derived.Test.YtcjnhnnfoadklaaZRLWWords
import Derived.Test.YtcjnhnnfoadklaaZRLWLast
namespace Go.Proofs.YtcjnhnnfoadklaaW.PrintWords
open Go.RowKit
namespace Kd
end Kd
end Go.Proofs.YtcjnhnnfoadklaaW.PrintWords
