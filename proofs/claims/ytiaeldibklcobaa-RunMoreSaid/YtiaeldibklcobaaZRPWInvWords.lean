import Derived.Test.YtiaeldibklcobaaZRPWInv
import Derived.Test.YtiaeldibklcobaaZRPWFootNe
namespace Go.Proofs.YtiaeldibklcobaaW.bL
open Go.RowKit
end Go.Proofs.YtiaeldibklcobaaW.bL
namespace Go.Proofs.YtiaeldibklcobaaW.fV
end Go.Proofs.YtiaeldibklcobaaW.fV
