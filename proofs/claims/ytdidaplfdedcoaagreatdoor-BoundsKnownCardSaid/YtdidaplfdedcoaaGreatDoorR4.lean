/- Calls of the program, evaluated by the kernel on the abstract machine; no condition. -/
import Derived.Test.YtdidaplfdedcoaaGreatDoorT
import Derived.Test.YtdidaplfdedcoaaGreatDoorD
namespace Go.AM.Xk
set_option maxRecDepth 100000
def tr159 : List (Nat × List (Nat × Row2)) := [(87,[(15,r51),(23,r51)]),(86,[(17,r17),(20,r66),(25,r17)]),(131,[(19,r4),(22,r4)])]
theorem cr159 : r159.chk 11 xp (orcA nms tr159) 2000 41 = true := by kernel_rfl
def tr160 : List (Nat × List (Nat × Row2)) := [(41,[(16,r159)])]
theorem cr160 : r160.chk 11 xp (orcA nms tr160) 2000 325 = true := by kernel_rfl
def tr161 : List (Nat × List (Nat × Row2)) := [(303,[(0,r121)]),(325,[(0,r160)])]
theorem cr161 : r161.chkL 11 [11, 12, 13, 14, 15] xp (orcA nms tr161) 2000 289 f289 = true := by kernel_rfl
def tr162 : List (Nat × List (Nat × Row2)) := [(326,[(0,r96),(0,r89)])]
theorem cr162 : r162.chkL 11 [11, 12, 13] xp (orcA nms tr162) 2000 291 f291 = true := by kernel_rfl
def tr163 : List (Nat × List (Nat × Row2)) := [(76,[(19,r30),(23,r29),(27,r28)]),(157,[(31,r16),(35,r88),(43,r16)]),(291,[(48,r90),(88,r97),(128,r162)]),(290,[(51,r95)]),(289,[(91,r161)])]
theorem cr163 : r163.chk 11 xp (orcA nms tr163) 2000 258 = true := by kernel_rfl
theorem cr164 : r164.chk 11 xp orc0 2000 292 = true := by kernel_rfl
def tr165 : List (Nat × List (Nat × Row2)) := [(292,[(0,r164)]),(42,[(0,r131),(0,r99)])]
theorem cr165 : r165.chkL 11 [11, 12, 13] xp (orcA nms tr165) 2000 259 f259 = true := by kernel_rfl
def tr166 : List (Nat × List (Nat × Row2)) := [(129,[(12,r1)]),(130,[(14,r6)]),(131,[(22,r4)])]
theorem cr166 : r166.chk 11 xp (orcA nms tr166) 2000 71 = true := by kernel_rfl
def tr167 : List (Nat × List (Nat × Row2)) := [(131,[(14,r4)])]
theorem cr167 : r167.chk 11 xp (orcA nms tr167) 2000 160 = true := by kernel_rfl
def tr168 : List (Nat × List (Nat × Row2)) := [(160,[(14,r167),(16,r108)])]
theorem cr168 : r168.chk 11 xp (orcA nms tr168) 2000 92 = true := by kernel_rfl
def tr169 : List (Nat × List (Nat × Row2)) := [(87,[(16,r51),(22,r51)]),(86,[(18,r17),(24,r26)]),(93,[(25,r92)]),(92,[(26,r109)])]
theorem cr169 : r169.chk 11 xp (orcA nms tr169) 2000 41 = true := by kernel_rfl
def tr170 : List (Nat × List (Nat × Row2)) := [(131,[(13,r38)])]
theorem cr170 : r170.chk 11 xp (orcA nms tr170) 2000 160 = true := by kernel_rfl
def tr171 : List (Nat × List (Nat × Row2)) := [(87,[(20,r51),(28,r51)]),(86,[(22,r125),(25,r66),(30,r17)]),(131,[(24,r4),(27,r4)])]
theorem cr171 : r171.chk 11 xp (orcA nms tr171) 2000 188 = true := by kernel_rfl
def tr172 : List (Nat × List (Nat × Row2)) := [(131,[(14,r38)])]
theorem cr172 : r172.chk 11 xp (orcA nms tr172) 2000 160 = true := by kernel_rfl
theorem cr173 : r173.chkL 11 [11, 12, 13, 14, 15] xp orc0 2000 289 f289 = true := by kernel_rfl
theorem cr174 : r174.chk 11 xp orc0 2000 326 = true := by kernel_rfl
def tr175 : List (Nat × List (Nat × Row2)) := [(41,[(15,r93)])]
theorem cr175 : r175.chk 11 xp (orcA nms tr175) 2000 325 = true := by kernel_rfl
def tr176 : List (Nat × List (Nat × Row2)) := [(326,[(0,r174)])]
theorem cr176 : r176.chkL 11 [11, 12] xp (orcA nms tr176) 2000 291 f291 = true := by kernel_rfl
def tr177 : List (Nat × List (Nat × Row2)) := [(303,[(0,r91)]),(325,[(0,r175)])]
theorem cr177 : r177.chkL 11 [11, 12] xp (orcA nms tr177) 2000 290 f290 = true := by kernel_rfl
def tr178 : List (Nat × List (Nat × Row2)) := [(41,[(16,r159)])]
theorem cr178 : r178.chk 11 xp (orcA nms tr178) 2000 325 = true := by kernel_rfl
def tr179 : List (Nat × List (Nat × Row2)) := [(303,[(0,r121)]),(325,[(0,r178)])]
theorem cr179 : r179.chkL 11 [11, 12, 13, 14, 15] xp (orcA nms tr179) 2000 289 f289 = true := by kernel_rfl
def tr180 : List (Nat × List (Nat × Row2)) := [(41,[(16,r159)])]
theorem cr180 : r180.chk 11 xp (orcA nms tr180) 2000 325 = true := by kernel_rfl
def tr181 : List (Nat × List (Nat × Row2)) := [(303,[(0,r121)]),(325,[(0,r180)])]
theorem cr181 : r181.chkL 11 [11, 12, 13, 14, 15] xp (orcA nms tr181) 2000 289 f289 = true := by kernel_rfl
def tr182 : List (Nat × List (Nat × Row2)) := [(41,[(15,r155)])]
theorem cr182 : r182.chk 11 xp (orcA nms tr182) 2000 325 = true := by kernel_rfl
def tr183 : List (Nat × List (Nat × Row2)) := [(86,[(16,r106),(21,r17)]),(87,[(17,r13)]),(131,[(20,r4)])]
theorem cr183 : r183.chk 11 xp (orcA nms tr183) 2000 303 = true := by kernel_rfl
def tr184 : List (Nat × List (Nat × Row2)) := [(41,[(16,r159)])]
theorem cr184 : r184.chk 11 xp (orcA nms tr184) 2000 325 = true := by kernel_rfl
def tr185 : List (Nat × List (Nat × Row2)) := [(131,[(18,r4)]),(87,[(19,r21)]),(86,[(21,r17)])]
theorem cr185 : r185.chk 11 xp (orcA nms tr185) 2000 303 = true := by kernel_rfl
def tr186 : List (Nat × List (Nat × Row2)) := [(87,[(15,r51),(23,r51)]),(86,[(17,r26),(20,r66),(25,r17)]),(131,[(19,r4),(22,r4)])]
theorem cr186 : r186.chk 11 xp (orcA nms tr186) 2000 41 = true := by kernel_rfl
def tr187 : List (Nat × List (Nat × Row2)) := [(41,[(17,r186)])]
theorem cr187 : r187.chk 11 xp (orcA nms tr187) 2000 325 = true := by kernel_rfl
def tr188 : List (Nat × List (Nat × Row2)) := [(131,[(18,r4),(20,r4)]),(86,[(21,r17)])]
theorem cr188 : r188.chk 11 xp (orcA nms tr188) 2000 303 = true := by kernel_rfl
def tr189 : List (Nat × List (Nat × Row2)) := [(87,[(16,r21),(19,r13),(22,r13),(24,r21)]),(86,[(18,r17),(21,r26),(26,r17)])]
theorem cr189 : r189.chk 11 xp (orcA nms tr189) 2000 41 = true := by kernel_rfl
def tr190 : List (Nat × List (Nat × Row2)) := [(41,[(18,r189)])]
theorem cr190 : r190.chk 11 xp (orcA nms tr190) 2000 325 = true := by kernel_rfl
end Go.AM.Xk
