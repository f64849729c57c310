/- Calls of the program, evaluated by the kernel on the abstract machine; no condition. -/
import Derived.Test.YtdidaplfdedcoaaGreatDoorT
import Derived.Test.YtdidaplfdedcoaaGreatDoorD
namespace Go.AM.Xk
set_option maxRecDepth 100000
def tr328 : List (Nat × List (Nat × Row2)) := [(169,[(45,r317),(106,r318),(113,r317),(168,r319),(175,r317),(185,r318),(259,r319),(269,r319),(286,r318),(338,r319),(348,r320),(369,r321),(558,r322),(578,r323),(596,r324),(729,r326),(747,r327)]),(131,[(383,r38),(384,r4)]),(134,[(389,r12)]),(71,[(398,r7),(412,r7)]),(87,[(430,r13),(433,r13)]),(86,[(432,r17),(435,r17)]),(72,[(439,r20)]),(42,[(542,r99)]),(121,[(606,r325),(663,r325)]),(95,[(649,r123),(706,r123)])]
theorem cr328 : r328.chk 11 xp (orcA nms tr328) 2000 7 = true := by kernel_rfl
end Go.AM.Xk
