/- Calls of the program, evaluated by the kernel on the abstract machine; no condition. -/
import Derived.Test.YtdidaplfdedcoaaGreatDoorT
import Derived.Test.YtdidaplfdedcoaaGreatDoorD
namespace Go.AM.Xk
set_option maxRecDepth 100000
def tr312 : List (Nat × List (Nat × Row2)) := [(131,[(15,r38)])]
theorem cr312 : r312.chk 11 xp (orcA nms tr312) 2000 92 = true := by kernel_rfl
def tr313 : List (Nat × List (Nat × Row2)) := [(131,[(33,r4),(39,r4),(51,r4),(54,r4),(60,r4)]),(86,[(34,r249),(40,r63),(49,r239),(52,r193),(56,r59)]),(92,[(42,r312)]),(160,[(61,r108)])]
theorem cr313 : r313.chk 11 xp (orcA nms tr313) 2000 373 = true := by kernel_rfl
end Go.AM.Xk
