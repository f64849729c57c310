/- Calls of the program, evaluated by the kernel on the abstract machine; no condition. -/
import Derived.Test.YtdidaplfdedcoaaGreatDoorT
import Derived.Test.YtdidaplfdedcoaaGreatDoorD
namespace Go.AM.Xk
set_option maxRecDepth 100000
theorem cr0 : r0.chk 11 xp orc0 2000 222 = true := by kernel_rfl
def tr1 : List (Nat × List (Nat × Row2)) := [(222,[(11,r0)])]
theorem cr1 : r1.chk 11 xp (orcA nms tr1) 2000 129 = true := by kernel_rfl
theorem cr2 : r2.chk 11 xp orc0 2000 131 = true := by kernel_rfl
theorem cr3 : r3.chk 11 xp orc0 2000 86 = true := by kernel_rfl
theorem cr4 : r4.chk 11 xp orc0 2000 131 = true := by kernel_rfl
theorem cr5 : r5.chk 11 xp orc0 2000 93 = true := by kernel_rfl
def tr6 : List (Nat × List (Nat × Row2)) := [(131,[(15,r2),(17,r4)]),(86,[(16,r3)]),(93,[(18,r5)])]
theorem cr6 : r6.chk 11 xp (orcA nms tr6) 2000 130 = true := by kernel_rfl
def tr7 : List (Nat × List (Nat × Row2)) := [(129,[(12,r1)]),(130,[(14,r6)]),(131,[(22,r4)])]
theorem cr7 : r7.chk 11 xp (orcA nms tr7) 2000 71 = true := by kernel_rfl
def tr8 : List (Nat × List (Nat × Row2)) := [(222,[(11,r0)])]
theorem cr8 : r8.chk 11 xp (orcA nms tr8) 2000 129 = true := by kernel_rfl
theorem cr9 : r9.chk 11 xp orc0 2000 131 = true := by kernel_rfl
def tr10 : List (Nat × List (Nat × Row2)) := [(131,[(15,r2),(17,r9)]),(86,[(16,r3)])]
theorem cr10 : r10.chk 11 xp (orcA nms tr10) 2000 130 = true := by kernel_rfl
def tr11 : List (Nat × List (Nat × Row2)) := [(129,[(12,r8)]),(130,[(14,r10)]),(131,[(22,r4)])]
theorem cr11 : r11.chk 11 xp (orcA nms tr11) 2000 71 = true := by kernel_rfl
theorem cr12 : r12.chk 11 xp orc0 2000 134 = true := by kernel_rfl
def tr13 : List (Nat × List (Nat × Row2)) := [(131,[(13,r4)])]
theorem cr13 : r13.chk 11 xp (orcA nms tr13) 2000 87 = true := by kernel_rfl
theorem cr14 : r14.chk 11 xp orc0 2000 202 = true := by kernel_rfl
def tr15 : List (Nat × List (Nat × Row2)) := [(87,[(13,r13)]),(202,[(15,r14),(16,r14)])]
theorem cr15 : r15.chk 11 xp (orcA nms tr15) 2000 228 = true := by kernel_rfl
def tr16 : List (Nat × List (Nat × Row2)) := [(131,[(12,r4),(13,r4)])]
theorem cr16 : r16.chk 11 xp (orcA nms tr16) 2000 157 = true := by kernel_rfl
theorem cr17 : r17.chk 11 xp orc0 2000 86 = true := by kernel_rfl
def tr18 : List (Nat × List (Nat × Row2)) := [(157,[(15,r16),(28,r16)]),(87,[(24,r13)]),(131,[(41,r4),(44,r4),(47,r4),(49,r4),(61,r4)]),(86,[(45,r17),(50,r17)])]
theorem cr18 : r18.chk 11 xp (orcA nms tr18) 2000 140 = true := by kernel_rfl
theorem cr19 : r19.chk 11 xp orc0 2000 86 = true := by kernel_rfl
def tr20 : List (Nat × List (Nat × Row2)) := [(134,[(14,r12)]),(228,[(23,r15)]),(87,[(37,r13),(104,r13)]),(140,[(44,r18)]),(131,[(102,r4)]),(86,[(103,r17),(106,r19)])]
theorem cr20 : r20.chk 11 xp (orcA nms tr20) 2000 72 = true := by kernel_rfl
def tr21 : List (Nat × List (Nat × Row2)) := [(131,[(13,r4)])]
theorem cr21 : r21.chk 11 xp (orcA nms tr21) 2000 87 = true := by kernel_rfl
theorem cr22 : r22.chk 11 xp orc0 2000 202 = true := by kernel_rfl
theorem cr23 : r23.chk 11 xp orc0 2000 202 = true := by kernel_rfl
def tr24 : List (Nat × List (Nat × Row2)) := [(87,[(13,r21)]),(202,[(15,r22),(16,r23)])]
theorem cr24 : r24.chk 11 xp (orcA nms tr24) 2000 228 = true := by kernel_rfl
def tr25 : List (Nat × List (Nat × Row2)) := [(87,[(19,r21)])]
theorem cr25 : r25.chk 11 xp (orcA nms tr25) 2000 135 = true := by kernel_rfl
theorem cr26 : r26.chk 11 xp orc0 2000 86 = true := by kernel_rfl
def tr27 : List (Nat × List (Nat × Row2)) := [(87,[(17,r21),(20,r13)]),(86,[(19,r17),(22,r26)])]
theorem cr27 : r27.chk 11 xp (orcA nms tr27) 2000 38 = true := by kernel_rfl
theorem cr28 : r28.chk 11 xp orc0 2000 76 = true := by kernel_rfl
theorem cr29 : r29.chk 11 xp orc0 2000 76 = true := by kernel_rfl
theorem cr30 : r30.chk 11 xp orc0 2000 76 = true := by kernel_rfl
def tr31 : List (Nat × List (Nat × Row2)) := [(71,[(26,r7),(40,r11)]),(72,[(55,r20)]),(134,[(152,r12)]),(228,[(161,r24)]),(135,[(168,r25)]),(140,[(182,r18)]),(131,[(240,r4)]),(86,[(241,r26),(244,r19)]),(87,[(242,r21)]),(38,[(245,r27)]),(76,[(260,r28),(267,r29),(279,r30)])]
theorem cr31 : r31.chk 11 xp (orcA nms tr31) 2000 10 = true := by kernel_rfl
def tr32 : List (Nat × List (Nat × Row2)) := [(10,[(16,r31)]),(76,[(296,r30),(301,r29),(306,r28)])]
theorem cr32 : r32.chk 11 xp (orcA nms tr32) 2000 80 = true := by kernel_rfl
def tr33 : List (Nat × List (Nat × Row2)) := [(71,[(12,r7)])]
theorem cr33 : r33.chk 11 xp (orcA nms tr33) 2000 288 = true := by kernel_rfl
def tr34 : List (Nat × List (Nat × Row2)) := [(71,[(12,r11)])]
theorem cr34 : r34.chk 11 xp (orcA nms tr34) 2000 288 = true := by kernel_rfl
def tr35 : List (Nat × List (Nat × Row2)) := [(288,[(17,r33),(32,r34)]),(38,[(50,r27)])]
theorem cr35 : r35.chk 11 xp (orcA nms tr35) 2000 315 = true := by kernel_rfl
def tr36 : List (Nat × List (Nat × Row2)) := [(80,[(29,r32)]),(315,[(324,r35)]),(76,[(372,r28)])]
theorem cr36 : r36.chk 11 xp (orcA nms tr36) 2000 253 = true := by kernel_rfl
theorem cr37 : r37.chk 11 xp orc0 2000 202 = true := by kernel_rfl
theorem cr38 : r38.chk 11 xp orc0 2000 131 = true := by kernel_rfl
def tr39 : List (Nat × List (Nat × Row2)) := [(131,[(14,r38)])]
theorem cr39 : r39.chk 11 xp (orcA nms tr39) 2000 160 = true := by kernel_rfl
def tr40 : List (Nat × List (Nat × Row2)) := [(131,[(15,r4),(19,r38),(21,r38),(23,r38)]),(202,[(16,r37)])]
theorem cr40 : r40.chk 11 xp (orcA nms tr40) 2000 159 = true := by kernel_rfl
def tr41 : List (Nat × List (Nat × Row2)) := [(228,[(17,r15)]),(202,[(24,r37)]),(87,[(25,r13)]),(131,[(31,r4),(34,r4)]),(160,[(32,r39)]),(159,[(36,r40)])]
theorem cr41 : r41.chk 11 xp (orcA nms tr41) 2000 234 = true := by kernel_rfl
def tr42 : List (Nat × List (Nat × Row2)) := [(131,[(15,r4),(18,r4)]),(160,[(16,r39)])]
theorem cr42 : r42.chk 11 xp (orcA nms tr42) 2000 308 = true := by kernel_rfl
theorem cr43 : r43.chk 11 xp orc0 2000 202 = true := by kernel_rfl
def tr44 : List (Nat × List (Nat × Row2)) := [(131,[(15,r4),(19,r38),(21,r38),(23,r38)]),(202,[(16,r43)])]
theorem cr44 : r44.chk 11 xp (orcA nms tr44) 2000 159 = true := by kernel_rfl
def tr45 : List (Nat × List (Nat × Row2)) := [(228,[(17,r24)]),(87,[(25,r21)]),(308,[(28,r42)]),(159,[(36,r44)])]
theorem cr45 : r45.chk 11 xp (orcA nms tr45) 2000 235 = true := by kernel_rfl
theorem cr46 : r46.chk 11 xp orc0 2000 95 = true := by kernel_rfl
theorem cr47 : r47.chk 11 xp orc0 2000 95 = true := by kernel_rfl
theorem cr48 : r48.chk 11 xp orc0 2000 95 = true := by kernel_rfl
def tr49 : List (Nat × List (Nat × Row2)) := [(95,[(14,r46),(21,r48)]),(131,[(20,r4)])]
theorem cr49 : r49.chk 11 xp (orcA nms tr49) 2000 270 = true := by kernel_rfl
def tr50 : List (Nat × List (Nat × Row2)) := [(95,[(14,r47),(21,r48)]),(131,[(20,r4)])]
theorem cr50 : r50.chk 11 xp (orcA nms tr50) 2000 270 = true := by kernel_rfl
def tr51 : List (Nat × List (Nat × Row2)) := [(131,[(12,r4)])]
theorem cr51 : r51.chk 11 xp (orcA nms tr51) 2000 87 = true := by kernel_rfl
def tr52 : List (Nat × List (Nat × Row2)) := [(87,[(13,r51)]),(95,[(15,r48)])]
theorem cr52 : r52.chk 11 xp (orcA nms tr52) 2000 270 = true := by kernel_rfl
def tr53 : List (Nat × List (Nat × Row2)) := [(234,[(17,r41)]),(235,[(53,r45)]),(95,[(95,r46),(101,r47)]),(270,[(108,r49),(122,r50),(136,r52)])]
theorem cr53 : r53.chk 11 xp (orcA nms tr53) 2000 199 = true := by kernel_rfl
def tr54 : List (Nat × List (Nat × Row2)) := [(222,[(12,r0)]),(131,[(18,r2),(20,r38),(22,r4)]),(86,[(19,r3)])]
theorem cr54 : r54.chk 11 xp (orcA nms tr54) 2000 71 = true := by kernel_rfl
def tr55 : List (Nat × List (Nat × Row2)) := [(71,[(12,r54)])]
theorem cr55 : r55.chk 11 xp (orcA nms tr55) 2000 288 = true := by kernel_rfl
def tr56 : List (Nat × List (Nat × Row2)) := [(288,[(16,r33),(31,r34),(46,r55)]),(38,[(62,r27)])]
theorem cr56 : r56.chk 11 xp (orcA nms tr56) 2000 331 = true := by kernel_rfl
def tr57 : List (Nat × List (Nat × Row2)) := [(86,[(16,r17),(21,r17)]),(87,[(17,r13),(19,r13)])]
theorem cr57 : r57.chk 11 xp (orcA nms tr57) 2000 303 = true := by kernel_rfl
def tr58 : List (Nat × List (Nat × Row2)) := [(86,[(16,r26),(21,r17)]),(87,[(17,r21),(19,r13)])]
theorem cr58 : r58.chk 11 xp (orcA nms tr58) 2000 303 = true := by kernel_rfl
theorem cr59 : r59.chk 11 xp orc0 2000 86 = true := by kernel_rfl
def tr60 : List (Nat × List (Nat × Row2)) := [(86,[(16,r59),(21,r17)]),(87,[(17,r13),(19,r21)])]
theorem cr60 : r60.chk 11 xp (orcA nms tr60) 2000 303 = true := by kernel_rfl
theorem cr61 : r61.chk 11 xp orc0 2000 86 = true := by kernel_rfl
def tr62 : List (Nat × List (Nat × Row2)) := [(86,[(16,r61),(21,r17)]),(87,[(17,r21),(19,r21)])]
theorem cr62 : r62.chk 11 xp (orcA nms tr62) 2000 303 = true := by kernel_rfl
theorem cr63 : r63.chk 11 xp orc0 2000 86 = true := by kernel_rfl
def tr64 : List (Nat × List (Nat × Row2)) := [(131,[(18,r4)]),(86,[(19,r26),(22,r63)]),(87,[(20,r21)])]
theorem cr64 : r64.chk 11 xp (orcA nms tr64) 2000 38 = true := by kernel_rfl
def tr65 : List (Nat × List (Nat × Row2)) := [(87,[(16,r21),(18,r51)]),(86,[(20,r17)])]
theorem cr65 : r65.chk 11 xp (orcA nms tr65) 2000 303 = true := by kernel_rfl
theorem cr66 : r66.chk 11 xp orc0 2000 86 = true := by kernel_rfl
def tr67 : List (Nat × List (Nat × Row2)) := [(87,[(14,r51),(17,r51),(20,r51),(22,r51)]),(86,[(16,r66),(19,r66),(24,r17)])]
theorem cr67 : r67.chk 11 xp (orcA nms tr67) 2000 41 = true := by kernel_rfl
def tr68 : List (Nat × List (Nat × Row2)) := [(87,[(15,r51),(17,r51)]),(86,[(19,r17)])]
theorem cr68 : r68.chk 11 xp (orcA nms tr68) 2000 303 = true := by kernel_rfl
def tr69 : List (Nat × List (Nat × Row2)) := [(87,[(15,r51),(23,r51)]),(86,[(17,r63),(20,r66),(25,r17)]),(131,[(19,r4),(22,r4)])]
theorem cr69 : r69.chk 11 xp (orcA nms tr69) 2000 41 = true := by kernel_rfl
def tr70 : List (Nat × List (Nat × Row2)) := [(134,[(13,r12)]),(140,[(18,r18)])]
theorem cr70 : r70.chk 11 xp (orcA nms tr70) 2000 354 = true := by kernel_rfl
def tr71 : List (Nat × List (Nat × Row2)) := [(131,[(14,r4)])]
theorem cr71 : r71.chk 11 xp (orcA nms tr71) 2000 228 = true := by kernel_rfl
def tr72 : List (Nat × List (Nat × Row2)) := [(131,[(15,r38)])]
theorem cr72 : r72.chk 11 xp (orcA nms tr72) 2000 92 = true := by kernel_rfl
def tr73 : List (Nat × List (Nat × Row2)) := [(131,[(14,r38)])]
theorem cr73 : r73.chk 11 xp (orcA nms tr73) 2000 160 = true := by kernel_rfl
def tr74 : List (Nat × List (Nat × Row2)) := [(354,[(15,r70)]),(131,[(82,r4),(85,r4),(156,r4),(159,r4)]),(86,[(83,r63),(86,r19),(157,r63),(160,r19)]),(134,[(91,r12)]),(140,[(98,r18)]),(228,[(165,r71)]),(157,[(174,r16)]),(87,[(182,r13)]),(92,[(185,r72)]),(160,[(197,r73)])]
theorem cr74 : r74.chk 11 xp (orcA nms tr74) 2000 322 = true := by kernel_rfl
theorem cr75 : r75.chk 11 xp orc0 2000 86 = true := by kernel_rfl
def tr76 : List (Nat × List (Nat × Row2)) := [(87,[(18,r51),(21,r51)]),(86,[(20,r17),(24,r75)]),(93,[(25,r5)]),(160,[(27,r73)])]
theorem cr76 : r76.chk 11 xp (orcA nms tr76) 2000 41 = true := by kernel_rfl
end Go.AM.Xk
