/- Calls of the program, evaluated by the kernel on the abstract machine; no condition. -/
import Derived.Test.YtdidaplfdedcoaaGreatDoorT
import Derived.Test.YtdidaplfdedcoaaGreatDoorD
namespace Go.AM.Xk
set_option maxRecDepth 100000
def tr368 : List (Nat × List (Nat × Row2)) := [(235,[(23,r367)]),(202,[(67,r149)]),(131,[(74,r38),(76,r38),(78,r38)]),(308,[(79,r42)]),(159,[(87,r288)]),(95,[(101,r46),(107,r46),(112,r151),(144,r46),(150,r151)]),(270,[(119,r52),(128,r49)])]
theorem cr368 : r368.chk 11 xp (orcA nms tr368) 2000 199 = true := by kernel_rfl
def tr369 : List (Nat × List (Nat × Row2)) := [(71,[(14,r54),(29,r54),(54,r7),(69,r7),(94,r291),(119,r54)]),(38,[(43,r347),(83,r132)])]
theorem cr369 : r369.chk 11 xp (orcA nms tr369) 2000 197 = true := by kernel_rfl
def tr370 : List (Nat × List (Nat × Row2)) := [(131,[(28,r38),(30,r38),(32,r38)]),(308,[(33,r42)]),(159,[(41,r82)])]
theorem cr370 : r370.chk 11 xp (orcA nms tr370) 2000 235 = true := by kernel_rfl
def tr371 : List (Nat × List (Nat × Row2)) := [(131,[(19,r4)])]
theorem cr371 : r371.chk 11 xp (orcA nms tr371) 2000 38 = true := by kernel_rfl
def tr372 : List (Nat × List (Nat × Row2)) := [(131,[(19,r4)])]
theorem cr372 : r372.chk 11 xp (orcA nms tr372) 2000 38 = true := by kernel_rfl
end Go.AM.Xk
