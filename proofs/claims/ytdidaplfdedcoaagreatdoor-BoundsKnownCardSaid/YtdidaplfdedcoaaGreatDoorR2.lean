/- Calls of the program, evaluated by the kernel on the abstract machine; no condition. -/
import Derived.Test.YtdidaplfdedcoaaGreatDoorT
import Derived.Test.YtdidaplfdedcoaaGreatDoorD
namespace Go.AM.Xk
set_option maxRecDepth 100000
def tr77 : List (Nat × List (Nat × Row2)) := [(80,[(29,r32)]),(315,[(324,r35)]),(76,[(372,r29)]),(331,[(376,r56),(441,r56)]),(303,[(516,r57),(526,r58),(567,r60),(577,r62),(666,r65),(695,r65),(721,r68)]),(38,[(541,r27),(554,r27),(592,r64),(605,r64),(621,r27),(634,r64),(656,r27),(685,r27)]),(41,[(705,r67),(731,r67),(769,r69),(973,r76)]),(131,[(764,r4)]),(86,[(765,r17),(768,r63)]),(87,[(766,r13)]),(322,[(785,r74)])]
theorem cr77 : r77.chk 11 xp (orcA nms tr77) 2000 253 = true := by kernel_rfl
def tr78 : List (Nat × List (Nat × Row2)) := [(228,[(17,r71)]),(131,[(26,r4),(39,r4),(43,r38),(45,r38),(47,r38)]),(308,[(28,r42)])]
theorem cr78 : r78.chk 11 xp (orcA nms tr78) 2000 235 = true := by kernel_rfl
theorem cr79 : r79.chk 11 xp orc0 2000 202 = true := by kernel_rfl
def tr80 : List (Nat × List (Nat × Row2)) := [(131,[(13,r38)])]
theorem cr80 : r80.chk 11 xp (orcA nms tr80) 2000 160 = true := by kernel_rfl
def tr81 : List (Nat × List (Nat × Row2)) := [(131,[(13,r38)])]
theorem cr81 : r81.chk 11 xp (orcA nms tr81) 2000 160 = true := by kernel_rfl
def tr82 : List (Nat × List (Nat × Row2)) := [(131,[(15,r4),(19,r38),(23,r38)]),(160,[(20,r81)])]
theorem cr82 : r82.chk 11 xp (orcA nms tr82) 2000 159 = true := by kernel_rfl
def tr83 : List (Nat × List (Nat × Row2)) := [(202,[(20,r79)]),(131,[(28,r38),(30,r38)]),(160,[(31,r80)]),(308,[(33,r42)]),(159,[(41,r82)])]
theorem cr83 : r83.chk 11 xp (orcA nms tr83) 2000 235 = true := by kernel_rfl
theorem cr84 : r84.chk 11 xp orc0 2000 95 = true := by kernel_rfl
theorem cr85 : r85.chk 11 xp orc0 2000 95 = true := by kernel_rfl
def tr86 : List (Nat × List (Nat × Row2)) := [(95,[(14,r46),(19,r85)])]
theorem cr86 : r86.chk 11 xp (orcA nms tr86) 2000 42 = true := by kernel_rfl
def tr87 : List (Nat × List (Nat × Row2)) := [(234,[(19,r41)]),(235,[(55,r78),(91,r83)]),(95,[(132,r46),(138,r84),(172,r84),(179,r48),(186,r46),(192,r85)]),(42,[(143,r86)]),(270,[(156,r49)]),(131,[(178,r4)])]
theorem cr87 : r87.chk 11 xp (orcA nms tr87) 2000 199 = true := by kernel_rfl
def tr88 : List (Nat × List (Nat × Row2)) := [(131,[(12,r4),(13,r4)])]
theorem cr88 : r88.chk 11 xp (orcA nms tr88) 2000 157 = true := by kernel_rfl
theorem cr89 : r89.chk 11 xp orc0 2000 326 = true := by kernel_rfl
def tr90 : List (Nat × List (Nat × Row2)) := [(326,[(0,r89)])]
theorem cr90 : r90.chkL 11 [11, 12] xp (orcA nms tr90) 2000 291 f291 = true := by kernel_rfl
def tr91 : List (Nat × List (Nat × Row2)) := [(87,[(16,r13),(18,r13)]),(86,[(20,r17)])]
theorem cr91 : r91.chk 11 xp (orcA nms tr91) 2000 303 = true := by kernel_rfl
theorem cr92 : r92.chk 11 xp orc0 2000 93 = true := by kernel_rfl
def tr93 : List (Nat × List (Nat × Row2)) := [(87,[(15,r51),(18,r13),(21,r13),(23,r51)]),(86,[(17,r17),(20,r66),(25,r17)]),(93,[(26,r92)])]
theorem cr93 : r93.chk 11 xp (orcA nms tr93) 2000 41 = true := by kernel_rfl
def tr94 : List (Nat × List (Nat × Row2)) := [(41,[(15,r93)])]
theorem cr94 : r94.chk 11 xp (orcA nms tr94) 2000 325 = true := by kernel_rfl
def tr95 : List (Nat × List (Nat × Row2)) := [(303,[(0,r91)]),(325,[(0,r94)])]
theorem cr95 : r95.chkL 11 [11, 12] xp (orcA nms tr95) 2000 290 f290 = true := by kernel_rfl
theorem cr96 : r96.chk 11 xp orc0 2000 326 = true := by kernel_rfl
def tr97 : List (Nat × List (Nat × Row2)) := [(326,[(0,r96)])]
theorem cr97 : r97.chkL 11 [11, 12] xp (orcA nms tr97) 2000 291 f291 = true := by kernel_rfl
theorem cr98 : r98.chk 11 xp orc0 2000 292 = true := by kernel_rfl
def tr99 : List (Nat × List (Nat × Row2)) := [(95,[(13,r48)])]
theorem cr99 : r99.chk 11 xp (orcA nms tr99) 2000 42 = true := by kernel_rfl
def tr100 : List (Nat × List (Nat × Row2)) := [(292,[(0,r98)]),(42,[(0,r99)])]
theorem cr100 : r100.chkL 11 [11, 12] xp (orcA nms tr100) 2000 259 f259 = true := by kernel_rfl
def tr101 : List (Nat × List (Nat × Row2)) := [(87,[(15,r13),(18,r51),(21,r51),(23,r13)]),(86,[(17,r66),(20,r17),(25,r17)]),(93,[(26,r5)])]
theorem cr101 : r101.chk 11 xp (orcA nms tr101) 2000 41 = true := by kernel_rfl
theorem cr102 : r102.chk 11 xp orc0 2000 93 = true := by kernel_rfl
def tr103 : List (Nat × List (Nat × Row2)) := [(87,[(16,r13),(19,r13),(22,r13),(24,r13)]),(86,[(18,r17),(21,r17),(26,r17)]),(93,[(27,r102)])]
theorem cr103 : r103.chk 11 xp (orcA nms tr103) 2000 41 = true := by kernel_rfl
def tr104 : List (Nat × List (Nat × Row2)) := [(131,[(17,r4),(25,r4)]),(86,[(18,r26),(21,r17),(26,r17)]),(87,[(19,r21),(22,r21)])]
theorem cr104 : r104.chk 11 xp (orcA nms tr104) 2000 41 = true := by kernel_rfl
def tr105 : List (Nat × List (Nat × Row2)) := [(41,[(18,r104)])]
theorem cr105 : r105.chk 11 xp (orcA nms tr105) 2000 188 = true := by kernel_rfl
theorem cr106 : r106.chk 11 xp orc0 2000 86 = true := by kernel_rfl
def tr107 : List (Nat × List (Nat × Row2)) := [(131,[(12,r9),(13,r4)])]
theorem cr107 : r107.chk 11 xp (orcA nms tr107) 2000 157 = true := by kernel_rfl
def tr108 : List (Nat × List (Nat × Row2)) := [(131,[(14,r38)])]
theorem cr108 : r108.chk 11 xp (orcA nms tr108) 2000 160 = true := by kernel_rfl
def tr109 : List (Nat × List (Nat × Row2)) := [(160,[(14,r108)])]
theorem cr109 : r109.chk 11 xp (orcA nms tr109) 2000 92 = true := by kernel_rfl
def tr110 : List (Nat × List (Nat × Row2)) := [(87,[(17,r21),(20,r13)]),(86,[(19,r17),(22,r59)]),(92,[(23,r109)])]
theorem cr110 : r110.chk 11 xp (orcA nms tr110) 2000 179 = true := by kernel_rfl
def tr111 : List (Nat × List (Nat × Row2)) := [(131,[(13,r38)])]
theorem cr111 : r111.chk 11 xp (orcA nms tr111) 2000 160 = true := by kernel_rfl
theorem cr112 : r112.chk 11 xp orc0 2000 86 = true := by kernel_rfl
def tr113 : List (Nat × List (Nat × Row2)) := [(87,[(16,r21),(19,r21),(22,r21),(24,r21)]),(86,[(18,r26),(21,r26),(26,r17)])]
theorem cr113 : r113.chk 11 xp (orcA nms tr113) 2000 41 = true := by kernel_rfl
theorem cr114 : r114.chk 11 xp orc0 2000 95 = true := by kernel_rfl
theorem cr115 : r115.chk 11 xp orc0 2000 94 = true := by kernel_rfl
def tr116 : List (Nat × List (Nat × Row2)) := [(131,[(17,r4),(20,r4),(23,r4),(25,r4)]),(86,[(18,r63),(21,r17),(26,r17)])]
theorem cr116 : r116.chk 11 xp (orcA nms tr116) 2000 41 = true := by kernel_rfl
def tr117 : List (Nat × List (Nat × Row2)) := [(131,[(14,r4),(15,r4),(18,r4),(22,r4)]),(86,[(16,r106),(19,r17),(20,r106),(23,r17)])]
theorem cr117 : r117.chk 11 xp (orcA nms tr117) 2000 304 = true := by kernel_rfl
theorem cr118 : r118.chk 11 xp orc0 2000 86 = true := by kernel_rfl
def tr119 : List (Nat × List (Nat × Row2)) := [(87,[(20,r13)]),(86,[(22,r118),(25,r17)]),(131,[(24,r4)])]
theorem cr119 : r119.chk 11 xp (orcA nms tr119) 2000 305 = true := by kernel_rfl
theorem cr120 : r120.chk 11 xp orc0 2000 95 = true := by kernel_rfl
def tr121 : List (Nat × List (Nat × Row2)) := [(86,[(16,r17),(21,r17)]),(87,[(17,r13)]),(131,[(20,r4)])]
theorem cr121 : r121.chk 11 xp (orcA nms tr121) 2000 303 = true := by kernel_rfl
def tr122 : List (Nat × List (Nat × Row2)) := [(303,[(19,r60),(45,r121)]),(87,[(32,r21),(35,r51),(38,r51),(40,r21)]),(86,[(34,r66),(37,r26),(42,r17)])]
theorem cr122 : r122.chk 11 xp (orcA nms tr122) 2000 306 = true := by kernel_rfl
theorem cr123 : r123.chk 11 xp orc0 2000 95 = true := by kernel_rfl
def tr124 : List (Nat × List (Nat × Row2)) := [(95,[(15,r123),(22,r48)]),(87,[(20,r21)])]
theorem cr124 : r124.chk 11 xp (orcA nms tr124) 2000 236 = true := by kernel_rfl
theorem cr125 : r125.chk 11 xp orc0 2000 86 = true := by kernel_rfl
theorem cr126 : r126.chk 11 xp orc0 2000 86 = true := by kernel_rfl
theorem cr127 : r127.chk 11 xp orc0 2000 86 = true := by kernel_rfl
def tr128 : List (Nat × List (Nat × Row2)) := [(131,[(15,r38),(17,r38)]),(160,[(18,r111)])]
theorem cr128 : r128.chk 11 xp (orcA nms tr128) 2000 92 = true := by kernel_rfl
theorem cr129 : r129.chk 11 xp orc0 2000 95 = true := by kernel_rfl
end Go.AM.Xk
