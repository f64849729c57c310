/- Calls of the program, evaluated by the kernel on the abstract machine; no condition. -/
import Derived.Test.YtdidaplfdedcoaaGreatDoorT
import Derived.Test.YtdidaplfdedcoaaGreatDoorD
namespace Go.AM.Xk
set_option maxRecDepth 100000
def tr215 : List (Nat × List (Nat × Row2)) := [(131,[(21,r4),(29,r4)]),(86,[(22,r26),(25,r112),(30,r17)]),(87,[(23,r21),(26,r21)])]
theorem cr215 : r215.chk 11 xp (orcA nms tr215) 2000 325 = true := by kernel_rfl
def tr216 : List (Nat × List (Nat × Row2)) := [(303,[(0,r60),(0,r213)]),(325,[(0,r212),(0,r214),(0,r215)])]
theorem cr216 : r216.chkL 11 [11, 12, 13, 14, 15, 16, 17, 18, 19] xp (orcA nms tr216) 2000 289 f289 = true := by kernel_rfl
def tr217 : List (Nat × List (Nat × Row2)) := [(326,[(0,r89),(0,r96)])]
theorem cr217 : r217.chkL 11 [11, 12, 13] xp (orcA nms tr217) 2000 291 f291 = true := by kernel_rfl
def tr218 : List (Nat × List (Nat × Row2)) := [(131,[(17,r4),(20,r4),(23,r4),(25,r4)]),(86,[(18,r17),(21,r112),(26,r17)]),(94,[(27,r115)])]
theorem cr218 : r218.chk 11 xp (orcA nms tr218) 2000 41 = true := by kernel_rfl
def tr219 : List (Nat × List (Nat × Row2)) := [(41,[(17,r218)])]
theorem cr219 : r219.chk 11 xp (orcA nms tr219) 2000 325 = true := by kernel_rfl
def tr220 : List (Nat × List (Nat × Row2)) := [(86,[(16,r112),(21,r17)]),(131,[(18,r4),(20,r4)])]
theorem cr220 : r220.chk 11 xp (orcA nms tr220) 2000 303 = true := by kernel_rfl
def tr221 : List (Nat × List (Nat × Row2)) := [(131,[(17,r4),(25,r4)]),(86,[(18,r17),(21,r112),(26,r17)]),(87,[(19,r13),(22,r13)]),(94,[(27,r115)])]
theorem cr221 : r221.chk 11 xp (orcA nms tr221) 2000 41 = true := by kernel_rfl
def tr222 : List (Nat × List (Nat × Row2)) := [(41,[(16,r221)])]
theorem cr222 : r222.chk 11 xp (orcA nms tr222) 2000 325 = true := by kernel_rfl
def tr223 : List (Nat × List (Nat × Row2)) := [(303,[(0,r121),(0,r220)]),(325,[(0,r219),(0,r222)])]
theorem cr223 : r223.chkL 11 [11, 12, 13, 14, 15, 16, 17] xp (orcA nms tr223) 2000 289 f289 = true := by kernel_rfl
def tr224 : List (Nat × List (Nat × Row2)) := [(41,[(16,r159)])]
theorem cr224 : r224.chk 11 xp (orcA nms tr224) 2000 325 = true := by kernel_rfl
def tr225 : List (Nat × List (Nat × Row2)) := [(41,[(17,r93)])]
theorem cr225 : r225.chk 11 xp (orcA nms tr225) 2000 325 = true := by kernel_rfl
def tr226 : List (Nat × List (Nat × Row2)) := [(303,[(0,r121),(0,r220)]),(325,[(0,r224),(0,r225)])]
theorem cr226 : r226.chkL 11 [11, 12, 13, 14, 15, 16] xp (orcA nms tr226) 2000 289 f289 = true := by kernel_rfl
def tr227 : List (Nat × List (Nat × Row2)) := [(222,[(11,r0)])]
theorem cr227 : r227.chk 11 xp (orcA nms tr227) 2000 129 = true := by kernel_rfl
def tr228 : List (Nat × List (Nat × Row2)) := [(131,[(15,r2)]),(86,[(16,r3)])]
theorem cr228 : r228.chk 11 xp (orcA nms tr228) 2000 130 = true := by kernel_rfl
def tr229 : List (Nat × List (Nat × Row2)) := [(129,[(12,r227)]),(130,[(14,r228)]),(131,[(22,r4)])]
theorem cr229 : r229.chk 11 xp (orcA nms tr229) 2000 71 = true := by kernel_rfl
def tr230 : List (Nat × List (Nat × Row2)) := [(326,[(0,r174),(0,r89)])]
theorem cr230 : r230.chkL 11 [11, 12, 13] xp (orcA nms tr230) 2000 291 f291 = true := by kernel_rfl
def tr231 : List (Nat × List (Nat × Row2)) := [(87,[(16,r21),(18,r21)]),(86,[(20,r17)])]
theorem cr231 : r231.chk 11 xp (orcA nms tr231) 2000 303 = true := by kernel_rfl
def tr232 : List (Nat × List (Nat × Row2)) := [(41,[(15,r69)])]
theorem cr232 : r232.chk 11 xp (orcA nms tr232) 2000 325 = true := by kernel_rfl
def tr233 : List (Nat × List (Nat × Row2)) := [(87,[(17,r21)]),(131,[(20,r4)]),(86,[(21,r17)])]
theorem cr233 : r233.chk 11 xp (orcA nms tr233) 2000 303 = true := by kernel_rfl
def tr234 : List (Nat × List (Nat × Row2)) := [(41,[(16,r186)])]
theorem cr234 : r234.chk 11 xp (orcA nms tr234) 2000 325 = true := by kernel_rfl
def tr235 : List (Nat × List (Nat × Row2)) := [(131,[(21,r4),(24,r4),(27,r4),(29,r4)]),(86,[(22,r26),(25,r125),(30,r17)])]
theorem cr235 : r235.chk 11 xp (orcA nms tr235) 2000 325 = true := by kernel_rfl
def tr236 : List (Nat × List (Nat × Row2)) := [(41,[(17,r93)])]
theorem cr236 : r236.chk 11 xp (orcA nms tr236) 2000 325 = true := by kernel_rfl
end Go.AM.Xk
