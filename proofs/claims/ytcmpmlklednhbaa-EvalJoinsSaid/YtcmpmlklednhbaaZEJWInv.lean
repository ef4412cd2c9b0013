import Derived.Test.YtcmpmlklednhbaaZEJWTab
namespace Go.Proofs.YtcmpmlklednhbaaW.PrintLast
end Go.Proofs.YtcmpmlklednhbaaW.PrintLast
