/- Calls of the program, evaluated by the kernel on the abstract machine; no condition. -/
import Derived.Test.YtdidaplfdedcoaaGreatDoorT
import Derived.Test.YtdidaplfdedcoaaGreatDoorD
namespace Go.AM.Xk
set_option maxRecDepth 100000
def tr237 : List (Nat × List (Nat × Row2)) := [(303,[(0,r231),(0,r233),(0,r185),(0,r205)]),(325,[(0,r232),(0,r234),(0,r235),(0,r236)])]
theorem cr237 : r237.chkL 11 [11, 12, 13] xp (orcA nms tr237) 2000 290 f290 = true := by kernel_rfl
def tr238 : List (Nat × List (Nat × Row2)) := [(326,[(0,r174),(0,r89),(0,r96)])]
theorem cr238 : r238.chkL 11 [11, 12, 13, 14] xp (orcA nms tr238) 2000 291 f291 = true := by kernel_rfl
theorem cr239 : r239.chk 11 xp orc0 2000 86 = true := by kernel_rfl
def tr240 : List (Nat × List (Nat × Row2)) := [(86,[(16,r239),(21,r17)]),(131,[(18,r4)]),(87,[(19,r21)])]
theorem cr240 : r240.chk 11 xp (orcA nms tr240) 2000 303 = true := by kernel_rfl
theorem cr241 : r241.chk 11 xp orc0 2000 86 = true := by kernel_rfl
def tr242 : List (Nat × List (Nat × Row2)) := [(87,[(18,r51),(26,r51)]),(86,[(20,r241),(23,r66),(28,r17)]),(131,[(22,r4),(25,r4)])]
theorem cr242 : r242.chk 11 xp (orcA nms tr242) 2000 325 = true := by kernel_rfl
def tr243 : List (Nat × List (Nat × Row2)) := [(86,[(16,r239),(21,r17)]),(131,[(18,r4)]),(87,[(19,r21)])]
theorem cr243 : r243.chk 11 xp (orcA nms tr243) 2000 303 = true := by kernel_rfl
def tr244 : List (Nat × List (Nat × Row2)) := [(87,[(19,r51),(27,r51)]),(86,[(21,r241),(24,r66),(29,r17)]),(131,[(23,r4),(26,r4)])]
theorem cr244 : r244.chk 11 xp (orcA nms tr244) 2000 325 = true := by kernel_rfl
def tr245 : List (Nat × List (Nat × Row2)) := [(41,[(17,r155)])]
theorem cr245 : r245.chk 11 xp (orcA nms tr245) 2000 325 = true := by kernel_rfl
def tr246 : List (Nat × List (Nat × Row2)) := [(303,[(0,r240),(0,r243),(0,r60)]),(325,[(0,r242),(0,r244),(0,r245)])]
theorem cr246 : r246.chkL 11 [11, 12, 13, 14, 15, 16] xp (orcA nms tr246) 2000 289 f289 = true := by kernel_rfl
def tr247 : List (Nat × List (Nat × Row2)) := [(326,[(0,r174),(0,r89),(0,r96)])]
theorem cr247 : r247.chkL 11 [11, 12, 13, 14] xp (orcA nms tr247) 2000 291 f291 = true := by kernel_rfl
def tr248 : List (Nat × List (Nat × Row2)) := [(131,[(18,r4),(20,r4)]),(86,[(21,r17)])]
theorem cr248 : r248.chk 11 xp (orcA nms tr248) 2000 303 = true := by kernel_rfl
theorem cr249 : r249.chk 11 xp orc0 2000 86 = true := by kernel_rfl
def tr250 : List (Nat × List (Nat × Row2)) := [(131,[(22,r4),(25,r4),(28,r4),(30,r4)]),(86,[(23,r249),(31,r17)])]
theorem cr250 : r250.chk 11 xp (orcA nms tr250) 2000 325 = true := by kernel_rfl
def tr251 : List (Nat × List (Nat × Row2)) := [(131,[(18,r4),(20,r4)]),(86,[(21,r17)])]
theorem cr251 : r251.chk 11 xp (orcA nms tr251) 2000 303 = true := by kernel_rfl
def tr252 : List (Nat × List (Nat × Row2)) := [(87,[(21,r21),(29,r21)]),(86,[(23,r193),(26,r26),(31,r17)]),(131,[(25,r4),(28,r4)])]
theorem cr252 : r252.chk 11 xp (orcA nms tr252) 2000 325 = true := by kernel_rfl
def tr253 : List (Nat × List (Nat × Row2)) := [(131,[(18,r4),(20,r4)]),(86,[(21,r17)])]
theorem cr253 : r253.chk 11 xp (orcA nms tr253) 2000 303 = true := by kernel_rfl
end Go.AM.Xk
