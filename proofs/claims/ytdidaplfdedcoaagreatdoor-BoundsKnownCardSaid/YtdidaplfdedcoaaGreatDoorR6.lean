/- Calls of the program, evaluated by the kernel on the abstract machine; no condition. -/
import Derived.Test.YtdidaplfdedcoaaGreatDoorT
import Derived.Test.YtdidaplfdedcoaaGreatDoorD
namespace Go.AM.Xk
set_option maxRecDepth 100000
def tr199 : List (Nat × List (Nat × Row2)) := [(326,[(0,r89),(0,r96),(0,r174)])]
theorem cr199 : r199.chkL 11 [11, 12, 13, 14] xp (orcA nms tr199) 2000 291 f291 = true := by kernel_rfl
def tr200 : List (Nat × List (Nat × Row2)) := [(86,[(16,r193),(21,r17)]),(131,[(18,r4)]),(87,[(19,r13)])]
theorem cr200 : r200.chk 11 xp (orcA nms tr200) 2000 303 = true := by kernel_rfl
def tr201 : List (Nat × List (Nat × Row2)) := [(86,[(16,r112),(21,r17)]),(131,[(18,r4)]),(87,[(19,r13)])]
theorem cr201 : r201.chk 11 xp (orcA nms tr201) 2000 303 = true := by kernel_rfl
def tr202 : List (Nat × List (Nat × Row2)) := [(86,[(16,r125),(21,r17)]),(131,[(18,r4)]),(87,[(19,r13)])]
theorem cr202 : r202.chk 11 xp (orcA nms tr202) 2000 303 = true := by kernel_rfl
def tr203 : List (Nat × List (Nat × Row2)) := [(303,[(0,r200),(0,r201),(0,r202)]),(325,[(0,r194),(0,r195),(0,r197)])]
theorem cr203 : r203.chkL 11 [11, 12, 13, 14, 15, 16] xp (orcA nms tr203) 2000 289 f289 = true := by kernel_rfl
def tr204 : List (Nat × List (Nat × Row2)) := [(326,[(0,r174),(0,r89)])]
theorem cr204 : r204.chkL 11 [11, 12, 13] xp (orcA nms tr204) 2000 291 f291 = true := by kernel_rfl
def tr205 : List (Nat × List (Nat × Row2)) := [(131,[(17,r4),(19,r4)]),(86,[(20,r17)])]
theorem cr205 : r205.chk 11 xp (orcA nms tr205) 2000 303 = true := by kernel_rfl
def tr206 : List (Nat × List (Nat × Row2)) := [(41,[(16,r159)])]
theorem cr206 : r206.chk 11 xp (orcA nms tr206) 2000 325 = true := by kernel_rfl
def tr207 : List (Nat × List (Nat × Row2)) := [(131,[(21,r4),(24,r4),(27,r4),(29,r4)]),(86,[(22,r17),(25,r112),(30,r17)]),(93,[(31,r102)])]
theorem cr207 : r207.chk 11 xp (orcA nms tr207) 2000 325 = true := by kernel_rfl
def tr208 : List (Nat × List (Nat × Row2)) := [(41,[(17,r93)])]
theorem cr208 : r208.chk 11 xp (orcA nms tr208) 2000 325 = true := by kernel_rfl
def tr209 : List (Nat × List (Nat × Row2)) := [(303,[(0,r205),(0,r201),(0,r183),(0,r91)]),(325,[(0,r175),(0,r206),(0,r207),(0,r208)])]
theorem cr209 : r209.chkL 11 [11, 12, 13] xp (orcA nms tr209) 2000 290 f290 = true := by kernel_rfl
def tr210 : List (Nat × List (Nat × Row2)) := [(326,[(0,r174),(0,r89),(0,r96)])]
theorem cr210 : r210.chkL 11 [11, 12, 13, 14] xp (orcA nms tr210) 2000 291 f291 = true := by kernel_rfl
def tr211 : List (Nat × List (Nat × Row2)) := [(131,[(17,r4),(25,r4)]),(86,[(18,r26),(21,r125),(26,r17)]),(87,[(19,r21),(22,r21)])]
theorem cr211 : r211.chk 11 xp (orcA nms tr211) 2000 41 = true := by kernel_rfl
def tr212 : List (Nat × List (Nat × Row2)) := [(41,[(18,r211)])]
theorem cr212 : r212.chk 11 xp (orcA nms tr212) 2000 325 = true := by kernel_rfl
def tr213 : List (Nat × List (Nat × Row2)) := [(86,[(16,r61),(21,r17)]),(131,[(18,r4)]),(87,[(19,r21)])]
theorem cr213 : r213.chk 11 xp (orcA nms tr213) 2000 303 = true := by kernel_rfl
def tr214 : List (Nat × List (Nat × Row2)) := [(131,[(21,r4),(24,r4),(27,r4),(29,r4)]),(86,[(22,r63),(25,r193),(30,r17)])]
theorem cr214 : r214.chk 11 xp (orcA nms tr214) 2000 325 = true := by kernel_rfl
end Go.AM.Xk
