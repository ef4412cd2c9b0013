import Derived.Test.YtiaeldibklcobaaZRPWApart
import Derived.Test.YtiaeldibklcobaaZRPWArr
namespace Go.Proofs.YtiaeldibklcobaaW.bL
open Go.RowKit
namespace Kd
end Kd
end Go.Proofs.YtiaeldibklcobaaW.bL
