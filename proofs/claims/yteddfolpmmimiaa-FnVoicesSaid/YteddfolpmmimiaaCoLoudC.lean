/- Contracts of functions of the program and of the reference. -/
import Derived.Test.YteddfolpmmimiaaSq
import Derived.Test.YteddfolpmmimiaaProg
namespace Go.Vx
open Go.Proofs
set_option maxRecDepth 4000
set_option maxHeartbeats 4000000
attribute [local irreducible] J JL JQ JA VOp Con Ext XOp ConM ConW ConW2
set_option maxRecDepth 100000
theorem chk_4_0 : ((List.range 253).all fun i => chkL 4 (4 + i)) = true := by
  decide +kernel
theorem chk_6_0 : ((List.range 270).all fun i => chkL 6 (6 + i)) = true := by
  decide +kernel
theorem chk_7_270 : ((List.range 172).all fun i => chkL 7 (277 + i)) = true := by
  decide +kernel
theorem chk_9_0 : ((List.range 270).all fun i => chkL 9 (9 + i)) = true := by
  decide +kernel
theorem chk_10_0 : ((List.range 270).all fun i => chkL 10 (10 + i)) = true := by
  decide +kernel
theorem chk_11_0 : ((List.range 270).all fun i => chkL 11 (11 + i)) = true := by
  decide +kernel
theorem chk_12_0 : ((List.range 270).all fun i => chkL 12 (12 + i)) = true := by
  decide +kernel
theorem chk_13_0 : ((List.range 270).all fun i => chkL 13 (13 + i)) = true := by
  decide +kernel
theorem chk_13_810 : ((List.range 10).all fun i => chkL 13 (823 + i)) = true := by
  decide +kernel
theorem chk_14_540 : ((List.range 270).all fun i => chkL 14 (554 + i)) = true := by
  decide +kernel
theorem chk_15_270 : ((List.range 270).all fun i => chkL 15 (285 + i)) = true := by
  decide +kernel
end Go.Vx
