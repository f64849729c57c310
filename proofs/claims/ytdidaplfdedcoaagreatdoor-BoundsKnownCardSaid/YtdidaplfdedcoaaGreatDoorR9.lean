/- Calls of the program, evaluated by the kernel on the abstract machine; no condition. -/
import Derived.Test.YtdidaplfdedcoaaGreatDoorT
import Derived.Test.YtdidaplfdedcoaaGreatDoorD
namespace Go.AM.Xk
set_option maxRecDepth 100000
def tr254 : List (Nat × List (Nat × Row2)) := [(131,[(22,r4),(25,r4),(28,r4),(30,r4)]),(86,[(23,r127),(26,r241),(31,r17)])]
theorem cr254 : r254.chk 11 xp (orcA nms tr254) 2000 325 = true := by kernel_rfl
def tr255 : List (Nat × List (Nat × Row2)) := [(303,[(0,r248),(0,r251),(0,r253)]),(325,[(0,r250),(0,r252),(0,r254)])]
theorem cr255 : r255.chkL 11 [11, 12, 13, 14, 15, 16, 17, 18, 19] xp (orcA nms tr255) 2000 289 f289 = true := by kernel_rfl
def tr256 : List (Nat × List (Nat × Row2)) := [(326,[(0,r174),(0,r89),(0,r96)])]
theorem cr256 : r256.chkL 11 [11, 12, 13, 14] xp (orcA nms tr256) 2000 291 f291 = true := by kernel_rfl
def tr257 : List (Nat × List (Nat × Row2)) := [(86,[(16,r26),(21,r17)]),(87,[(17,r21)]),(131,[(20,r4)])]
theorem cr257 : r257.chk 11 xp (orcA nms tr257) 2000 303 = true := by kernel_rfl
def tr258 : List (Nat × List (Nat × Row2)) := [(131,[(22,r4),(25,r4),(28,r4),(30,r4)]),(86,[(23,r26),(26,r125),(31,r17)])]
theorem cr258 : r258.chk 11 xp (orcA nms tr258) 2000 325 = true := by kernel_rfl
def tr259 : List (Nat × List (Nat × Row2)) := [(41,[(17,r221)])]
theorem cr259 : r259.chk 11 xp (orcA nms tr259) 2000 325 = true := by kernel_rfl
def tr260 : List (Nat × List (Nat × Row2)) := [(41,[(16,r218)])]
theorem cr260 : r260.chk 11 xp (orcA nms tr260) 2000 325 = true := by kernel_rfl
def tr261 : List (Nat × List (Nat × Row2)) := [(303,[(0,r257),(0,r220),(0,r121)]),(325,[(0,r258),(0,r259),(0,r260)])]
theorem cr261 : r261.chkL 11 [11, 12, 13, 14, 15, 16, 17, 18, 19] xp (orcA nms tr261) 2000 289 f289 = true := by kernel_rfl
def tr262 : List (Nat × List (Nat × Row2)) := [(131,[(19,r4)])]
theorem cr262 : r262.chk 11 xp (orcA nms tr262) 2000 38 = true := by kernel_rfl
theorem cr263 : r263.chk 11 xp orc0 2000 130 = true := by kernel_rfl
def tr264 : List (Nat × List (Nat × Row2)) := [(129,[(13,r227)]),(222,[(15,r0)]),(130,[(17,r228),(25,r263)]),(131,[(34,r4),(36,r38)])]
theorem cr264 : r264.chk 11 xp (orcA nms tr264) 2000 35 = true := by kernel_rfl
theorem cr265 : r265.chk 11 xp orc0 2000 86 = true := by kernel_rfl
def tr266 : List (Nat × List (Nat × Row2)) := [(71,[(14,r229),(29,r166)]),(87,[(51,r13),(59,r13)]),(86,[(53,r193),(56,r17),(61,r17)]),(131,[(55,r4),(58,r4)])]
theorem cr266 : r266.chk 11 xp (orcA nms tr266) 2000 233 = true := by kernel_rfl
end Go.AM.Xk
