/- Contracts of functions of the program and of the reference. -/
import Derived.Test.YteddfolpmmimiaaCon
namespace Go.Vx
open Go.Proofs
set_option maxRecDepth 4000
set_option maxHeartbeats 4000000
attribute [local irreducible] J JL JQ JA VOp Con Ext XOp ConM
end Go.Vx
