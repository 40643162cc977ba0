/- Contracts of functions of the program and of the reference. -/
import Derived.Test.YteddfolpmmimiaaSq
import Derived.Test.YteddfolpmmimiaaProg
namespace Go.Vx
open Go.Proofs
set_option maxRecDepth 4000
set_option maxHeartbeats 4000000
attribute [local irreducible] J JL JQ JA VOp Con Ext XOp ConM ConW ConW2
set_option maxRecDepth 100000
theorem chk_2_0 : ((List.range 127).all fun i => chkL 2 (2 + i)) = true := by
  decide +kernel
theorem chk_5_0 : ((List.range 270).all fun i => chkL 5 (5 + i)) = true := by
  decide +kernel
theorem chk_6_270 : ((List.range 109).all fun i => chkL 6 (276 + i)) = true := by
  decide +kernel
theorem chk_8_0 : ((List.range 270).all fun i => chkL 8 (8 + i)) = true := by
  decide +kernel
theorem chk_9_270 : ((List.range 270).all fun i => chkL 9 (279 + i)) = true := by
  decide +kernel
theorem chk_10_270 : ((List.range 270).all fun i => chkL 10 (280 + i)) = true := by
  decide +kernel
theorem chk_11_270 : ((List.range 270).all fun i => chkL 11 (281 + i)) = true := by
  decide +kernel
theorem chk_12_270 : ((List.range 270).all fun i => chkL 12 (282 + i)) = true := by
  decide +kernel
theorem chk_13_270 : ((List.range 270).all fun i => chkL 13 (283 + i)) = true := by
  decide +kernel
theorem chk_14_0 : ((List.range 270).all fun i => chkL 14 (14 + i)) = true := by
  decide +kernel
theorem chk_14_810 : ((List.range 73).all fun i => chkL 14 (824 + i)) = true := by
  decide +kernel
theorem chk_15_540 : ((List.range 270).all fun i => chkL 15 (555 + i)) = true := by
  decide +kernel
end Go.Vx
