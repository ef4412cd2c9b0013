import Derived.Test.YtcmpmlklednhbaaZEJWInv
import Derived.Test.YtcmpmlklednhbaaZEJWFootNe
namespace Go.Proofs.YtcmpmlklednhbaaW.PrintWords
open Go.RowKit
end Go.Proofs.YtcmpmlklednhbaaW.PrintWords
namespace Go.Proofs.YtcmpmlklednhbaaW.PrintLast
end Go.Proofs.YtcmpmlklednhbaaW.PrintLast
