/- Calls of the program, evaluated by the kernel on the abstract machine; no condition. -/
import Derived.Test.YtdidaplfdedcoaaGreatDoorT
import Derived.Test.YtdidaplfdedcoaaGreatDoorD
namespace Go.AM.Xk
set_option maxRecDepth 100000
def tr350 : List (Nat × List (Nat × Row2)) := [(131,[(14,r38)])]
theorem cr350 : r350.chk 11 xp (orcA nms tr350) 2000 133 = true := by kernel_rfl
def tr351 : List (Nat × List (Nat × Row2)) := [(354,[(16,r70)]),(38,[(78,r349),(151,r349)]),(134,[(91,r12)]),(140,[(98,r18)]),(202,[(166,r23),(167,r22)]),(157,[(172,r16)]),(87,[(180,r13)]),(131,[(185,r38)]),(133,[(195,r350)])]
theorem cr351 : r351.chk 11 xp (orcA nms tr351) 2000 322 = true := by kernel_rfl
theorem cr352 : r352.chk 11 xp orc0 2000 86 = true := by kernel_rfl
def tr353 : List (Nat × List (Nat × Row2)) := [(87,[(18,r51),(21,r51)]),(86,[(20,r17),(24,r352)]),(93,[(25,r5)]),(133,[(27,r350)])]
theorem cr353 : r353.chk 11 xp (orcA nms tr353) 2000 41 = true := by kernel_rfl
def tr354 : List (Nat × List (Nat × Row2)) := [(80,[(30,r330)]),(315,[(332,r331)]),(331,[(378,r341),(437,r343)]),(41,[(515,r155),(531,r155),(606,r67),(849,r169),(1050,r353)]),(303,[(567,r344),(596,r65),(667,r62)]),(38,[(586,r342)]),(369,[(623,r345),(645,r345)]),(179,[(677,r346)]),(377,[(689,r348)]),(322,[(865,r351)])]
theorem cr354 : r354.chk 11 xp (orcA nms tr354) 2000 253 = true := by kernel_rfl
def tr355 : List (Nat × List (Nat × Row2)) := [(202,[(20,r23),(21,r22),(24,r300),(45,r300)]),(160,[(27,r298),(29,r298),(31,r111),(37,r299),(47,r301),(49,r81),(51,r301)]),(131,[(36,r4),(39,r4),(44,r4)])]
theorem cr355 : r355.chk 11 xp (orcA nms tr355) 2000 235 = true := by kernel_rfl
theorem cr356 : r356.chk 11 xp orc0 2000 95 = true := by kernel_rfl
def tr357 : List (Nat × List (Nat × Row2)) := [(235,[(24,r355)]),(131,[(79,r38),(81,r38),(83,r38),(95,r4),(99,r38),(103,r38)]),(308,[(84,r42)]),(160,[(100,r81)]),(95,[(106,r46),(111,r47),(117,r46),(122,r356),(140,r46),(146,r47),(153,r46),(159,r356)]),(270,[(129,r52)])]
theorem cr357 : r357.chk 11 xp (orcA nms tr357) 2000 199 = true := by kernel_rfl
def tr358 : List (Nat × List (Nat × Row2)) := [(80,[(30,r330)]),(315,[(332,r331)]),(288,[(381,r34)]),(367,[(397,r338)]),(41,[(1025,r211)])]
theorem cr358 : r358.chk 11 xp (orcA nms tr358) 2000 253 = true := by kernel_rfl
def tr359 : List (Nat × List (Nat × Row2)) := [(80,[(30,r330)]),(315,[(332,r331)]),(331,[(378,r341),(437,r343)]),(41,[(515,r155),(531,r155),(606,r67),(849,r169),(1050,r353)]),(303,[(567,r344),(596,r65),(667,r62)]),(38,[(586,r342)]),(369,[(623,r345),(645,r345)]),(179,[(677,r346)]),(377,[(689,r348)]),(322,[(865,r351)])]
theorem cr359 : r359.chk 11 xp (orcA nms tr359) 2000 253 = true := by kernel_rfl
def tr360 : List (Nat × List (Nat × Row2)) := [(129,[(13,r1),(15,r8)]),(130,[(17,r6),(25,r10)]),(160,[(33,r108)])]
theorem cr360 : r360.chk 11 xp (orcA nms tr360) 2000 288 = true := by kernel_rfl
theorem cr361 : r361.chk 11 xp orc0 2000 130 = true := by kernel_rfl
def tr362 : List (Nat × List (Nat × Row2)) := [(288,[(16,r55),(31,r360)]),(129,[(58,r1)]),(222,[(60,r0)]),(130,[(62,r6),(70,r361)]),(133,[(78,r350)])]
theorem cr362 : r362.chk 11 xp (orcA nms tr362) 2000 331 = true := by kernel_rfl
def tr363 : List (Nat × List (Nat × Row2)) := [(41,[(18,r67)]),(86,[(38,r59),(40,r59),(43,r61)]),(131,[(47,r38),(49,r38)]),(160,[(50,r170)])]
theorem cr363 : r363.chk 11 xp (orcA nms tr363) 2000 351 = true := by kernel_rfl
def tr364 : List (Nat × List (Nat × Row2)) := [(131,[(14,r38)])]
theorem cr364 : r364.chk 11 xp (orcA nms tr364) 2000 160 = true := by kernel_rfl
theorem cr365 : r365.chk 11 xp orc0 2000 86 = true := by kernel_rfl
def tr366 : List (Nat × List (Nat × Row2)) := [(80,[(30,r330)]),(315,[(332,r331)]),(331,[(378,r362),(457,r362)]),(351,[(540,r363)]),(86,[(581,r352),(583,r352),(618,r112),(622,r365),(700,r156),(773,r156),(820,r365)]),(160,[(589,r364),(593,r364)]),(131,[(592,r38),(617,r4),(620,r4),(626,r4),(628,r38),(699,r4),(772,r4),(827,r38),(829,r38),(831,r38)]),(354,[(632,r70)]),(134,[(707,r12)]),(140,[(714,r18)]),(187,[(786,r296)]),(91,[(804,r297)])]
theorem cr366 : r366.chk 11 xp (orcA nms tr366) 2000 253 = true := by kernel_rfl
def tr367 : List (Nat × List (Nat × Row2)) := [(131,[(19,r4),(26,r4)]),(202,[(21,r14)]),(308,[(28,r42)]),(159,[(36,r40)])]
theorem cr367 : r367.chk 11 xp (orcA nms tr367) 2000 235 = true := by kernel_rfl
end Go.AM.Xk
