import Derived.Test.YtcmpmlklednhbaaZEJWN
namespace Go.Proofs.YtcmpmlklednhbaaW.PrintWords
open Go.RowKit
namespace Kd
end Kd
end Go.Proofs.YtcmpmlklednhbaaW.PrintWords
