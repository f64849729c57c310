/- Calls of the program, evaluated by the kernel on the abstract machine; no condition. -/
import Derived.Test.YtdidaplfdedcoaaGreatDoorT
import Derived.Test.YtdidaplfdedcoaaGreatDoorD
namespace Go.AM.Xk
set_option maxRecDepth 100000
def tr286 : List (Nat × List (Nat × Row2)) := [(131,[(15,r4),(21,r38),(23,r38),(25,r38)]),(202,[(16,r43)])]
theorem cr286 : r286.chk 11 xp (orcA nms tr286) 2000 159 = true := by kernel_rfl
theorem cr287 : r287.chk 11 xp orc0 2000 202 = true := by kernel_rfl
def tr288 : List (Nat × List (Nat × Row2)) := [(131,[(15,r4),(19,r38),(23,r38)]),(202,[(16,r287)]),(160,[(20,r81)])]
theorem cr288 : r288.chk 11 xp (orcA nms tr288) 2000 159 = true := by kernel_rfl
theorem cr289 : r289.chk 11 xp orc0 2000 95 = true := by kernel_rfl
def tr290 : List (Nat × List (Nat × Row2)) := [(222,[(12,r0)]),(129,[(14,r133)]),(131,[(20,r2)]),(86,[(21,r3)]),(130,[(24,r134)]),(133,[(32,r280)])]
theorem cr290 : r290.chk 11 xp (orcA nms tr290) 2000 71 = true := by kernel_rfl
def tr291 : List (Nat × List (Nat × Row2)) := [(129,[(12,r1)]),(222,[(14,r0)]),(130,[(16,r6),(24,r263)]),(131,[(33,r38)])]
theorem cr291 : r291.chk 11 xp (orcA nms tr291) 2000 71 = true := by kernel_rfl
def tr292 : List (Nat × List (Nat × Row2)) := [(86,[(33,r59),(36,r193),(40,r59),(50,r249),(52,r282),(56,r63)]),(87,[(34,r13),(37,r13)]),(131,[(44,r38),(49,r4),(55,r4),(60,r4)]),(160,[(61,r279)])]
theorem cr292 : r292.chk 11 xp (orcA nms tr292) 2000 373 = true := by kernel_rfl
theorem cr293 : r293.chk 11 xp orc0 2000 86 = true := by kernel_rfl
def tr294 : List (Nat × List (Nat × Row2)) := [(87,[(16,r51),(22,r51)]),(86,[(18,r17),(24,r293)]),(93,[(25,r92)]),(92,[(26,r142)])]
theorem cr294 : r294.chk 11 xp (orcA nms tr294) 2000 41 = true := by kernel_rfl
def tr295 : List (Nat × List (Nat × Row2)) := [(131,[(14,r38)])]
theorem cr295 : r295.chk 11 xp (orcA nms tr295) 2000 160 = true := by kernel_rfl
def tr296 : List (Nat × List (Nat × Row2)) := [(157,[(13,r16)]),(87,[(21,r13)]),(92,[(24,r142)])]
theorem cr296 : r296.chk 11 xp (orcA nms tr296) 2000 187 = true := by kernel_rfl
def tr297 : List (Nat × List (Nat × Row2)) := [(131,[(21,r38)])]
theorem cr297 : r297.chk 11 xp (orcA nms tr297) 2000 91 = true := by kernel_rfl
def tr298 : List (Nat × List (Nat × Row2)) := [(131,[(14,r38)])]
theorem cr298 : r298.chk 11 xp (orcA nms tr298) 2000 160 = true := by kernel_rfl
def tr299 : List (Nat × List (Nat × Row2)) := [(131,[(14,r38)])]
theorem cr299 : r299.chk 11 xp (orcA nms tr299) 2000 160 = true := by kernel_rfl
theorem cr300 : r300.chk 11 xp orc0 2000 202 = true := by kernel_rfl
def tr301 : List (Nat × List (Nat × Row2)) := [(131,[(14,r38)])]
theorem cr301 : r301.chk 11 xp (orcA nms tr301) 2000 160 = true := by kernel_rfl
def tr302 : List (Nat × List (Nat × Row2)) := [(131,[(15,r4),(17,r38),(18,r4)])]
theorem cr302 : r302.chk 11 xp (orcA nms tr302) 2000 308 = true := by kernel_rfl
def tr303 : List (Nat × List (Nat × Row2)) := [(131,[(14,r38)])]
theorem cr303 : r303.chk 11 xp (orcA nms tr303) 2000 160 = true := by kernel_rfl
theorem cr304 : r304.chk 11 xp orc0 2000 95 = true := by kernel_rfl
theorem cr305 : r305.chk 11 xp orc0 2000 95 = true := by kernel_rfl
end Go.AM.Xk
