import Derived.Test.YtcmpmlklednhbaaZEJWWords
import Derived.Laws.StructEq
namespace Go.Proofs.YtcmpmlklednhbaaW.PrintWords
open Go.RowKit
end Go.Proofs.YtcmpmlklednhbaaW.PrintWords
