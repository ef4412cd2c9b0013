import Derived.Test.YtcmpmlklednhbaaZEJWApart
import Derived.Test.YtcmpmlklednhbaaZEJWArr
namespace Go.Proofs.YtcmpmlklednhbaaW.PrintWords
open Go.RowKit
namespace Kd
end Kd
end Go.Proofs.YtcmpmlklednhbaaW.PrintWords
