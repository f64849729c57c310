/- Calls of the program, evaluated by the kernel on the abstract machine; no condition. -/
import Derived.Test.YtdidaplfdedcoaaGreatDoorT
import Derived.Test.YtdidaplfdedcoaaGreatDoorD
namespace Go.AM.Xk
set_option maxRecDepth 100000
def tr329 : List (Nat × List (Nat × Row2)) := [(71,[(27,r54),(41,r7),(182,r11),(214,r11)]),(134,[(58,r12)]),(72,[(64,r20)]),(76,[(168,r28)])]
theorem cr329 : r329.chk 11 xp (orcA nms tr329) 2000 10 = true := by kernel_rfl
def tr330 : List (Nat × List (Nat × Row2)) := [(10,[(17,r329)]),(76,[(287,r28)])]
theorem cr330 : r330.chk 11 xp (orcA nms tr330) 2000 80 = true := by kernel_rfl
def tr331 : List (Nat × List (Nat × Row2)) := [(288,[(18,r55),(33,r33)])]
theorem cr331 : r331.chk 11 xp (orcA nms tr331) 2000 315 = true := by kernel_rfl
def tr332 : List (Nat × List (Nat × Row2)) := [(80,[(30,r330)]),(315,[(332,r331)]),(76,[(374,r28)])]
theorem cr332 : r332.chk 11 xp (orcA nms tr332) 2000 253 = true := by kernel_rfl
def tr333 : List (Nat × List (Nat × Row2)) := [(228,[(17,r15)]),(202,[(24,r37)]),(87,[(25,r13)]),(308,[(28,r42)]),(159,[(36,r40)])]
theorem cr333 : r333.chk 11 xp (orcA nms tr333) 2000 235 = true := by kernel_rfl
def tr334 : List (Nat × List (Nat × Row2)) := [(235,[(21,r333)]),(95,[(64,r46)]),(270,[(71,r52),(80,r49),(94,r52)])]
theorem cr334 : r334.chk 11 xp (orcA nms tr334) 2000 199 = true := by kernel_rfl
def tr335 : List (Nat × List (Nat × Row2)) := [(80,[(30,r330)]),(315,[(332,r331)]),(288,[(382,r55),(397,r33),(412,r55)])]
theorem cr335 : r335.chk 11 xp (orcA nms tr335) 2000 253 = true := by kernel_rfl
def tr336 : List (Nat × List (Nat × Row2)) := [(87,[(17,r51)])]
theorem cr336 : r336.chk 11 xp (orcA nms tr336) 2000 135 = true := by kernel_rfl
def tr337 : List (Nat × List (Nat × Row2)) := [(131,[(16,r4),(24,r4)]),(86,[(17,r66),(20,r293),(25,r17)]),(87,[(18,r51),(21,r51)])]
theorem cr337 : r337.chk 11 xp (orcA nms tr337) 2000 41 = true := by kernel_rfl
def tr338 : List (Nat × List (Nat × Row2)) := [(134,[(18,r12)]),(228,[(33,r24)]),(135,[(40,r25),(254,r336),(313,r336),(372,r336),(431,r336),(523,r336),(568,r336)]),(131,[(57,r4),(59,r38),(60,r4),(74,r4),(77,r4),(80,r4),(82,r4),(115,r4),(119,r38),(121,r38),(183,r4),(186,r4),(194,r4),(204,r4),(211,r4),(214,r4),(217,r4),(219,r4),(236,r4),(240,r38),(242,r38),(244,r38),(251,r4),(276,r4),(279,r4),(310,r4),(369,r4),(428,r4),(520,r38),(521,r4),(534,r38),(535,r4),(565,r38),(566,r4),(580,r4),(622,r4),(626,r38),(628,r38)]),(86,[(75,r293),(83,r17),(184,r125),(187,r19),(220,r17),(277,r66),(282,r17)]),(87,[(92,r51),(272,r51),(280,r51),(299,r51),(308,r51),(358,r51),(367,r51),(417,r51),(426,r51),(559,r51)]),(157,[(96,r16)]),(202,[(116,r79),(623,r79)]),(160,[(122,r80),(629,r80)]),(140,[(125,r18)]),(41,[(328,r67),(387,r67),(446,r67),(537,r67),(582,r337),(598,r337)])]
theorem cr338 : r338.chk 11 xp (orcA nms tr338) 2000 367 = true := by kernel_rfl
def tr339 : List (Nat × List (Nat × Row2)) := [(80,[(30,r330)]),(315,[(332,r331)]),(288,[(381,r34)]),(367,[(397,r338)]),(41,[(1025,r211)])]
theorem cr339 : r339.chk 11 xp (orcA nms tr339) 2000 253 = true := by kernel_rfl
def tr340 : List (Nat × List (Nat × Row2)) := [(228,[(21,r24)]),(87,[(29,r21)]),(131,[(35,r4),(38,r4)]),(160,[(36,r39)]),(159,[(40,r44)]),(235,[(52,r45)]),(95,[(94,r47),(100,r47)]),(270,[(107,r50),(121,r50),(135,r52)])]
theorem cr340 : r340.chk 11 xp (orcA nms tr340) 2000 199 = true := by kernel_rfl
def tr341 : List (Nat × List (Nat × Row2)) := [(288,[(16,r55),(31,r33),(46,r55)])]
theorem cr341 : r341.chk 11 xp (orcA nms tr341) 2000 331 = true := by kernel_rfl
def tr342 : List (Nat × List (Nat × Row2)) := [(87,[(17,r21),(20,r21)]),(86,[(19,r26),(22,r26)])]
theorem cr342 : r342.chk 11 xp (orcA nms tr342) 2000 38 = true := by kernel_rfl
def tr343 : List (Nat × List (Nat × Row2)) := [(288,[(16,r34),(31,r34),(46,r55)]),(38,[(62,r342)])]
theorem cr343 : r343.chk 11 xp (orcA nms tr343) 2000 331 = true := by kernel_rfl
def tr344 : List (Nat × List (Nat × Row2)) := [(87,[(16,r13),(18,r51)]),(86,[(20,r17)])]
theorem cr344 : r344.chk 11 xp (orcA nms tr344) 2000 303 = true := by kernel_rfl
def tr345 : List (Nat × List (Nat × Row2)) := [(38,[(25,r342)])]
theorem cr345 : r345.chk 11 xp (orcA nms tr345) 2000 369 = true := by kernel_rfl
def tr346 : List (Nat × List (Nat × Row2)) := [(131,[(17,r4)]),(86,[(18,r66),(21,r282)]),(87,[(19,r51)])]
theorem cr346 : r346.chk 11 xp (orcA nms tr346) 2000 179 = true := by kernel_rfl
def tr347 : List (Nat × List (Nat × Row2)) := [(87,[(15,r51),(18,r51)]),(86,[(17,r66),(20,r66)])]
theorem cr347 : r347.chk 11 xp (orcA nms tr347) 2000 38 = true := by kernel_rfl
def tr348 : List (Nat × List (Nat × Row2)) := [(157,[(17,r16),(35,r16)]),(179,[(21,r110),(39,r110)]),(86,[(59,r66),(63,r59),(68,r17),(72,r59),(98,r66),(102,r59),(107,r17),(111,r59),(155,r59),(157,r59)]),(87,[(60,r51),(69,r13),(99,r51),(108,r13)]),(92,[(73,r109),(112,r109)]),(38,[(137,r347)])]
theorem cr348 : r348.chk 11 xp (orcA nms tr348) 2000 377 = true := by kernel_rfl
def tr349 : List (Nat × List (Nat × Row2)) := [(131,[(19,r4)]),(86,[(20,r17)])]
theorem cr349 : r349.chk 11 xp (orcA nms tr349) 2000 38 = true := by kernel_rfl
end Go.AM.Xk
