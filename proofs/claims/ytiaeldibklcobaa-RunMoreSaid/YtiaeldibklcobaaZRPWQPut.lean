import Derived.Test.YtiaeldibklcobaaZRPWWords
import Derived.Test.YtiaeldibklcobaaZRPWLast
namespace Go.Proofs.YtiaeldibklcobaaW.bL
open Go.RowKit
namespace Kd
end Kd
end Go.Proofs.YtiaeldibklcobaaW.bL
