/- Calls of the program, evaluated by the kernel on the abstract machine; no condition. -/
import Derived.Test.YtdidaplfdedcoaaGreatDoorT
import Derived.Test.YtdidaplfdedcoaaGreatDoorD
namespace Go.AM.Xk
set_option maxRecDepth 100000
def tr191 : List (Nat × List (Nat × Row2)) := [(303,[(0,r60),(0,r183),(0,r185),(0,r188)]),(325,[(0,r182),(0,r184),(0,r187),(0,r190)])]
theorem cr191 : r191.chkL 11 [11, 12, 13, 14, 15, 16] xp (orcA nms tr191) 2000 290 f290 = true := by kernel_rfl
def tr192 : List (Nat × List (Nat × Row2)) := [(87,[(17,r13)]),(131,[(20,r4)]),(86,[(21,r17)])]
theorem cr192 : r192.chk 11 xp (orcA nms tr192) 2000 303 = true := by kernel_rfl
theorem cr193 : r193.chk 11 xp orc0 2000 86 = true := by kernel_rfl
def tr194 : List (Nat × List (Nat × Row2)) := [(87,[(18,r51),(26,r51)]),(86,[(20,r193),(23,r66),(28,r17)]),(131,[(22,r4),(25,r4)])]
theorem cr194 : r194.chk 11 xp (orcA nms tr194) 2000 325 = true := by kernel_rfl
def tr195 : List (Nat × List (Nat × Row2)) := [(41,[(16,r159)])]
theorem cr195 : r195.chk 11 xp (orcA nms tr195) 2000 325 = true := by kernel_rfl
def tr196 : List (Nat × List (Nat × Row2)) := [(87,[(17,r13)]),(131,[(20,r4)]),(86,[(21,r17)])]
theorem cr196 : r196.chk 11 xp (orcA nms tr196) 2000 303 = true := by kernel_rfl
def tr197 : List (Nat × List (Nat × Row2)) := [(41,[(17,r186)])]
theorem cr197 : r197.chk 11 xp (orcA nms tr197) 2000 325 = true := by kernel_rfl
def tr198 : List (Nat × List (Nat × Row2)) := [(303,[(0,r192),(0,r183),(0,r196)]),(325,[(0,r194),(0,r195),(0,r197)])]
theorem cr198 : r198.chkL 11 [11, 12, 13, 14, 15, 16] xp (orcA nms tr198) 2000 290 f290 = true := by kernel_rfl
end Go.AM.Xk
