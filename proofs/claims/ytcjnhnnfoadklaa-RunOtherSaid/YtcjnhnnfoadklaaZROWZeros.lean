import Derived.Test.YtcjnhnnfoadklaaZROWApart
import Derived.Test.YtcjnhnnfoadklaaZROWArr
namespace Go.Proofs.YtcjnhnnfoadklaaW.PrintWords
open Go.RowKit
namespace Kd
end Kd
end Go.Proofs.YtcjnhnnfoadklaaW.PrintWords
