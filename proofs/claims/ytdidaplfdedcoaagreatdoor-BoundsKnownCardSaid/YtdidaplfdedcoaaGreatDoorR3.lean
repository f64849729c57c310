/- Calls of the program, evaluated by the kernel on the abstract machine; no condition. -/
import Derived.Test.YtdidaplfdedcoaaGreatDoorT
import Derived.Test.YtdidaplfdedcoaaGreatDoorD
namespace Go.AM.Xk
set_option maxRecDepth 100000
def tr130 : List (Nat × List (Nat × Row2)) := [(131,[(16,r4),(24,r4)]),(86,[(17,r66),(20,r17),(25,r17)]),(87,[(18,r51),(21,r51)])]
theorem cr130 : r130.chk 11 xp (orcA nms tr130) 2000 41 = true := by kernel_rfl
def tr131 : List (Nat × List (Nat × Row2)) := [(95,[(13,r46)])]
theorem cr131 : r131.chk 11 xp (orcA nms tr131) 2000 42 = true := by kernel_rfl
def tr132 : List (Nat × List (Nat × Row2)) := [(87,[(17,r13),(20,r13)]),(86,[(19,r17),(22,r17)])]
theorem cr132 : r132.chk 11 xp (orcA nms tr132) 2000 38 = true := by kernel_rfl
def tr133 : List (Nat × List (Nat × Row2)) := [(222,[(11,r0)])]
theorem cr133 : r133.chk 11 xp (orcA nms tr133) 2000 129 = true := by kernel_rfl
def tr134 : List (Nat × List (Nat × Row2)) := [(131,[(15,r2)]),(86,[(16,r3)])]
theorem cr134 : r134.chk 11 xp (orcA nms tr134) 2000 130 = true := by kernel_rfl
def tr135 : List (Nat × List (Nat × Row2)) := [(129,[(12,r133)]),(130,[(14,r134)]),(131,[(22,r4)])]
theorem cr135 : r135.chk 11 xp (orcA nms tr135) 2000 71 = true := by kernel_rfl
def tr136 : List (Nat × List (Nat × Row2)) := [(129,[(12,r1)]),(222,[(14,r0)]),(130,[(16,r6)]),(160,[(32,r73)])]
theorem cr136 : r136.chk 11 xp (orcA nms tr136) 2000 71 = true := by kernel_rfl
def tr137 : List (Nat × List (Nat × Row2)) := [(288,[(16,r33)]),(71,[(32,r135),(47,r136)]),(131,[(77,r4)]),(86,[(78,r17),(81,r63)]),(87,[(79,r13)])]
theorem cr137 : r137.chk 11 xp (orcA nms tr137) 2000 331 = true := by kernel_rfl
def tr138 : List (Nat × List (Nat × Row2)) := [(131,[(31,r4),(39,r4)]),(86,[(32,r17),(35,r26),(40,r17)]),(87,[(33,r13),(36,r13)]),(41,[(43,r116)])]
theorem cr138 : r138.chk 11 xp (orcA nms tr138) 2000 373 = true := by kernel_rfl
def tr139 : List (Nat × List (Nat × Row2)) := [(87,[(16,r51),(22,r51)]),(86,[(18,r17)]),(93,[(25,r92)]),(160,[(27,r73)])]
theorem cr139 : r139.chk 11 xp (orcA nms tr139) 2000 41 = true := by kernel_rfl
def tr140 : List (Nat × List (Nat × Row2)) := [(131,[(19,r4)])]
theorem cr140 : r140.chk 11 xp (orcA nms tr140) 2000 38 = true := by kernel_rfl
def tr141 : List (Nat × List (Nat × Row2)) := [(157,[(13,r16)]),(87,[(21,r13)]),(202,[(23,r79)]),(160,[(25,r73)])]
theorem cr141 : r141.chk 11 xp (orcA nms tr141) 2000 187 = true := by kernel_rfl
def tr142 : List (Nat × List (Nat × Row2)) := [(131,[(15,r38)])]
theorem cr142 : r142.chk 11 xp (orcA nms tr142) 2000 92 = true := by kernel_rfl
def tr143 : List (Nat × List (Nat × Row2)) := [(92,[(19,r142)])]
theorem cr143 : r143.chk 11 xp (orcA nms tr143) 2000 91 = true := by kernel_rfl
theorem cr144 : r144.chk 11 xp orc0 2000 86 = true := by kernel_rfl
def tr145 : List (Nat × List (Nat × Row2)) := [(86,[(19,r144),(21,r75)]),(131,[(30,r38),(32,r38),(34,r38)])]
theorem cr145 : r145.chk 11 xp (orcA nms tr145) 2000 41 = true := by kernel_rfl
def tr146 : List (Nat × List (Nat × Row2)) := [(80,[(29,r32)]),(315,[(324,r35)]),(76,[(372,r30)]),(331,[(376,r137),(451,r56)]),(373,[(520,r138)]),(41,[(564,r139),(805,r145)]),(131,[(597,r4),(600,r4),(608,r4),(611,r4),(617,r4)]),(86,[(598,r112),(601,r118),(609,r17),(613,r75)]),(160,[(618,r73)]),(354,[(623,r70)]),(38,[(685,r140),(758,r140)]),(134,[(698,r12)]),(140,[(705,r18)]),(187,[(777,r141)]),(91,[(795,r143)])]
theorem cr146 : r146.chk 11 xp (orcA nms tr146) 2000 253 = true := by kernel_rfl
def tr147 : List (Nat × List (Nat × Row2)) := [(131,[(15,r4),(17,r38),(18,r4)])]
theorem cr147 : r147.chk 11 xp (orcA nms tr147) 2000 308 = true := by kernel_rfl
def tr148 : List (Nat × List (Nat × Row2)) := [(131,[(14,r38)])]
theorem cr148 : r148.chk 11 xp (orcA nms tr148) 2000 160 = true := by kernel_rfl
theorem cr149 : r149.chk 11 xp orc0 2000 202 = true := by kernel_rfl
def tr150 : List (Nat × List (Nat × Row2)) := [(202,[(21,r149)]),(131,[(28,r38),(30,r38),(32,r38),(44,r4),(54,r38)]),(308,[(33,r147)]),(160,[(49,r148),(51,r148)])]
theorem cr150 : r150.chk 11 xp (orcA nms tr150) 2000 235 = true := by kernel_rfl
theorem cr151 : r151.chk 11 xp orc0 2000 95 = true := by kernel_rfl
def tr152 : List (Nat × List (Nat × Row2)) := [(131,[(26,r4),(33,r4),(38,r4),(41,r4),(46,r4),(50,r38),(52,r38),(54,r38),(62,r4),(69,r4),(82,r4),(90,r38),(166,r4),(180,r4)]),(202,[(28,r14),(47,r37),(64,r23),(83,r43)]),(160,[(39,r39),(85,r148),(87,r148)]),(308,[(71,r147)]),(235,[(91,r150)]),(42,[(133,r131)]),(95,[(140,r129),(146,r129),(151,r151),(160,r46),(167,r48),(174,r129),(181,r48),(188,r129),(194,r151)])]
theorem cr152 : r152.chk 11 xp (orcA nms tr152) 2000 199 = true := by kernel_rfl
def tr153 : List (Nat × List (Nat × Row2)) := [(134,[(13,r12),(18,r12)]),(140,[(25,r18),(78,r18)]),(131,[(136,r4),(139,r4)]),(86,[(137,r19),(140,r19)])]
theorem cr153 : r153.chk 11 xp (orcA nms tr153) 2000 379 = true := by kernel_rfl
def tr154 : List (Nat × List (Nat × Row2)) := [(131,[(20,r4),(23,r4),(29,r4)]),(86,[(21,r17),(25,r75)]),(160,[(30,r73)])]
theorem cr154 : r154.chk 11 xp (orcA nms tr154) 2000 41 = true := by kernel_rfl
def tr155 : List (Nat × List (Nat × Row2)) := [(87,[(15,r51),(18,r21),(21,r21),(23,r51)]),(86,[(17,r26),(20,r66),(25,r17)])]
theorem cr155 : r155.chk 11 xp (orcA nms tr155) 2000 41 = true := by kernel_rfl
theorem cr156 : r156.chk 11 xp orc0 2000 86 = true := by kernel_rfl
theorem cr157 : r157.chk 11 xp orc0 2000 86 = true := by kernel_rfl
def tr158 : List (Nat × List (Nat × Row2)) := [(80,[(29,r32)]),(315,[(324,r35)]),(76,[(372,r30)]),(331,[(376,r137),(451,r56)]),(373,[(520,r138)]),(41,[(564,r139),(869,r154),(894,r93),(910,r155)]),(379,[(584,r153),(714,r153)]),(86,[(855,r75),(858,r17),(862,r75),(951,r156),(953,r157)]),(87,[(856,r13),(859,r13),(949,r21)]),(131,[(866,r4),(868,r38)]),(157,[(928,r107)]),(303,[(935,r58)])]
theorem cr158 : r158.chk 11 xp (orcA nms tr158) 2000 253 = true := by kernel_rfl
end Go.AM.Xk
