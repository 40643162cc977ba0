/- Contracts of functions of the program and of the reference. -/
import Derived.Test.YteddfolpmmimiaaSq
import Derived.Test.YteddfolpmmimiaaProg
namespace Go.Vx
open Go.Proofs
set_option maxRecDepth 4000
set_option maxHeartbeats 4000000
attribute [local irreducible] J JL JQ JA VOp Con Ext XOp ConM ConW ConW2
set_option maxRecDepth 100000
theorem chk_3_0 : ((List.range 190).all fun i => chkL 3 (3 + i)) = true := by
  decide +kernel
theorem chk_5_270 : ((List.range 46).all fun i => chkL 5 (275 + i)) = true := by
  decide +kernel
theorem chk_7_0 : ((List.range 270).all fun i => chkL 7 (7 + i)) = true := by
  decide +kernel
theorem chk_8_270 : ((List.range 235).all fun i => chkL 8 (278 + i)) = true := by
  decide +kernel
theorem chk_9_540 : ((List.range 28).all fun i => chkL 9 (549 + i)) = true := by
  decide +kernel
theorem chk_10_540 : ((List.range 91).all fun i => chkL 10 (550 + i)) = true := by
  decide +kernel
theorem chk_11_540 : ((List.range 154).all fun i => chkL 11 (551 + i)) = true := by
  decide +kernel
theorem chk_12_540 : ((List.range 217).all fun i => chkL 12 (552 + i)) = true := by
  decide +kernel
theorem chk_13_540 : ((List.range 270).all fun i => chkL 13 (553 + i)) = true := by
  decide +kernel
theorem chk_14_270 : ((List.range 270).all fun i => chkL 14 (284 + i)) = true := by
  decide +kernel
theorem chk_15_0 : ((List.range 270).all fun i => chkL 15 (15 + i)) = true := by
  decide +kernel
theorem chk_15_810 : ((List.range 136).all fun i => chkL 15 (825 + i)) = true := by
  decide +kernel
end Go.Vx
