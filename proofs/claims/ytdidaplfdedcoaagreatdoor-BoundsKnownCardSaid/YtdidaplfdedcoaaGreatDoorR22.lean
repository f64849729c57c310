/- Calls of the program, evaluated by the kernel on the abstract machine; no condition. -/
import Derived.Test.YtdidaplfdedcoaaGreatDoorT
import Derived.Test.YtdidaplfdedcoaaGreatDoorD
namespace Go.AM.Xk
set_option maxRecDepth 100000
theorem cr374 : r374.chk 11 xp orc0 2000 86 = true := by kernel_rfl
def tr375 : List (Nat × List (Nat × Row2)) := [(131,[(14,r38)])]
theorem cr375 : r375.chk 11 xp (orcA nms tr375) 2000 160 = true := by kernel_rfl
def tr376 : List (Nat × List (Nat × Row2)) := [(131,[(14,r9)]),(160,[(15,r375)])]
theorem cr376 : r376.chk 11 xp (orcA nms tr376) 2000 133 = true := by kernel_rfl
def tr377 : List (Nat × List (Nat × Row2)) := [(131,[(14,r38)])]
theorem cr377 : r377.chk 11 xp (orcA nms tr377) 2000 160 = true := by kernel_rfl
def tr378 : List (Nat × List (Nat × Row2)) := [(86,[(21,r281),(24,r239)]),(133,[(27,r376)]),(160,[(31,r375),(33,r377)])]
theorem cr378 : r378.chk 11 xp (orcA nms tr378) 2000 41 = true := by kernel_rfl
def tr379 : List (Nat × List (Nat × Row2)) := [(131,[(19,r4)])]
theorem cr379 : r379.chk 11 xp (orcA nms tr379) 2000 38 = true := by kernel_rfl
end Go.AM.Xk
