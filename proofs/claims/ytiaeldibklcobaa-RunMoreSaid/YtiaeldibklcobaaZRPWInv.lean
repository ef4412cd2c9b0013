import Derived.Test.YtiaeldibklcobaaZRPWTab
namespace Go.Proofs.YtiaeldibklcobaaW.fV
end Go.Proofs.YtiaeldibklcobaaW.fV
