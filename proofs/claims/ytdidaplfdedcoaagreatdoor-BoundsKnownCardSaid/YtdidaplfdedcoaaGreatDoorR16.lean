/- Calls of the program, evaluated by the kernel on the abstract machine; no condition. -/
import Derived.Test.YtdidaplfdedcoaaGreatDoorT
import Derived.Test.YtdidaplfdedcoaaGreatDoorD
namespace Go.AM.Xk
set_option maxRecDepth 100000
def tr315 : List (Nat × List (Nat × Row2)) := [(131,[(15,r2)]),(86,[(16,r3)])]
theorem cr315 : r315.chk 11 xp (orcA nms tr315) 2000 130 = true := by kernel_rfl
def tr316 : List (Nat × List (Nat × Row2)) := [(10,[(18,r31)]),(80,[(304,r32),(4520,r32),(4841,r32),(5375,r32)]),(253,[(613,r36),(1126,r77),(2297,r146),(3300,r158)]),(199,[(979,r53),(2099,r87),(3106,r152)]),(71,[(4268,r7),(4282,r11),(4347,r7),(4362,r11),(4421,r7),(4435,r11),(4465,r269)]),(38,[(4299,r27),(4452,r27),(4500,r270),(5923,r271),(5935,r271),(6002,r271),(6034,r271),(6061,r271),(6225,r283),(6298,r283)]),(131,[(4313,r38),(4314,r4),(4399,r4),(5269,r4),(5272,r4),(6425,r4),(6427,r38),(6428,r4),(6459,r38),(6461,r38),(6463,r38),(12878,r4),(12905,r4),(12954,r9)]),(188,[(4320,r105)]),(41,[(4376,r189),(6079,r67),(6105,r67)]),(202,[(4400,r23),(6455,r287)]),(92,[(4401,r168),(5913,r168),(5955,r168),(6358,r142)]),(95,[(4408,r120),(4413,r123),(5294,r46),(5300,r129),(5305,r47),(5328,r129),(5334,r47),(6485,r46),(6491,r289),(6496,r84),(6502,r46),(6507,r151),(6530,r289),(6536,r84),(6543,r46),(6549,r151),(12845,r48),(12850,r123),(12926,r123),(12999,r120),(13004,r151)]),(87,[(4495,r13),(5910,r13),(5951,r13),(6048,r51),(6075,r51),(6139,r13),(6145,r51),(6151,r51),(6350,r51),(6353,r51)]),(86,[(4497,r193),(4499,r59),(5908,r193),(5912,r26),(5954,r59),(5966,r61),(5982,r281),(5993,r281),(6019,r281),(6050,r26),(6077,r26),(6138,r282),(6141,r249),(6147,r249),(6153,r63),(6352,r17),(6356,r144),(12995,r265)]),(315,[(5136,r272),(5670,r272)]),(76,[(5195,r28),(5729,r29)]),(234,[(5210,r41),(6366,r41)]),(228,[(5251,r273),(6311,r284),(6407,r284)]),(159,[(5255,r274),(5274,r277),(6411,r285),(6430,r286),(6472,r288)]),(160,[(5270,r275),(12809,r108),(12834,r279),(12879,r279),(12906,r108),(12955,r167),(12957,r108)]),(270,[(5312,r49),(5339,r52),(6514,r49)]),(331,[(5733,r278),(5809,r278)]),(303,[(5895,r57),(6095,r68)]),(133,[(5968,r280),(6156,r280)]),(354,[(6163,r70)]),(134,[(6238,r12)]),(140,[(6245,r18)]),(187,[(6317,r141)]),(91,[(6335,r143)]),(93,[(6357,r5)]),(308,[(6464,r42)]),(147,[(6561,r306)]),(11,[(8638,r314)]),(129,[(12789,r1),(12791,r8),(12814,r1),(12816,r133),(12859,r133),(12886,r8),(12933,r227)]),(130,[(12793,r6),(12801,r10),(12818,r6),(12826,r134),(12861,r315),(12869,r134),(12888,r315),(12896,r10),(12937,r228)]),(222,[(12857,r0),(12884,r0),(12935,r0)]),(35,[(12960,r264)])]
theorem cr316 : r316.chk 11 xp (orcA nms tr316) 2000 5 = true := by kernel_rfl
theorem cr317a : r317.chkU 11 3 3 8 xp orc0 2000 169 = true := by kernel_rfl
theorem cr317b : r317.chkU 11 3 3 9 xp orc0 2000 169 = true := by kernel_rfl
theorem cr318a : r318.chkU 11 3 3 8 xp orc0 2000 169 = true := by kernel_rfl
theorem cr318b : r318.chkU 11 3 3 9 xp orc0 2000 169 = true := by kernel_rfl
theorem cr319a : r319.chkU 11 3 3 8 xp orc0 2000 169 = true := by kernel_rfl
theorem cr319b : r319.chkU 11 3 3 9 xp orc0 2000 169 = true := by kernel_rfl
theorem cr320a : r320.chkU 11 3 3 18 xp orc0 2000 169 = true := by kernel_rfl
theorem cr320b : r320.chkU 11 3 3 19 xp orc0 2000 169 = true := by kernel_rfl
theorem cr321a : r321.chkU 11 3 3 16 xp orc0 2000 169 = true := by kernel_rfl
theorem cr321b : r321.chkU 11 3 3 17 xp orc0 2000 169 = true := by kernel_rfl
theorem cr322a : r322.chkU 11 3 3 16 xp orc0 2000 169 = true := by kernel_rfl
theorem cr322b : r322.chkU 11 3 3 17 xp orc0 2000 169 = true := by kernel_rfl
theorem cr323a : r323.chkU 11 3 3 14 xp orc0 2000 169 = true := by kernel_rfl
theorem cr323b : r323.chkU 11 3 3 15 xp orc0 2000 169 = true := by kernel_rfl
theorem cr324a : r324.chkU 11 3 3 14 xp orc0 2000 169 = true := by kernel_rfl
theorem cr324b : r324.chkU 11 3 3 15 xp orc0 2000 169 = true := by kernel_rfl
def tr325 : List (Nat × List (Nat × Row2)) := [(71,[(13,r11),(27,r7)]),(87,[(45,r13),(48,r21)]),(86,[(47,r26),(50,r17)])]
theorem cr325 : r325.chk 11 xp (orcA nms tr325) 2000 121 = true := by kernel_rfl
theorem cr326a : r326.chkU 11 3 3 12 xp orc0 2000 169 = true := by kernel_rfl
theorem cr326b : r326.chkU 11 3 3 13 xp orc0 2000 169 = true := by kernel_rfl
theorem cr327a : r327.chkU 11 3 3 18 xp orc0 2000 169 = true := by kernel_rfl
theorem cr327b : r327.chkU 11 3 3 19 xp orc0 2000 169 = true := by kernel_rfl
end Go.AM.Xk
