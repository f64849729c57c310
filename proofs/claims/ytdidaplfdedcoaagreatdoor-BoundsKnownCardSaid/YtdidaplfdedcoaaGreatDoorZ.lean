/- Every evaluated call holds of the model; no condition. -/
import Derived.Test.YtdidaplfdedcoaaGreatDoorR1
import Derived.Test.YtdidaplfdedcoaaGreatDoorR2
import Derived.Test.YtdidaplfdedcoaaGreatDoorR3
import Derived.Test.YtdidaplfdedcoaaGreatDoorR4
import Derived.Test.YtdidaplfdedcoaaGreatDoorR5
import Derived.Test.YtdidaplfdedcoaaGreatDoorR6
import Derived.Test.YtdidaplfdedcoaaGreatDoorR7
import Derived.Test.YtdidaplfdedcoaaGreatDoorR8
import Derived.Test.YtdidaplfdedcoaaGreatDoorR9
import Derived.Test.YtdidaplfdedcoaaGreatDoorR10
import Derived.Test.YtdidaplfdedcoaaGreatDoorR11
import Derived.Test.YtdidaplfdedcoaaGreatDoorR12
import Derived.Test.YtdidaplfdedcoaaGreatDoorR13
import Derived.Test.YtdidaplfdedcoaaGreatDoorR14
import Derived.Test.YtdidaplfdedcoaaGreatDoorR15
import Derived.Test.YtdidaplfdedcoaaGreatDoorR16
import Derived.Test.YtdidaplfdedcoaaGreatDoorR17
import Derived.Test.YtdidaplfdedcoaaGreatDoorR18
import Derived.Test.YtdidaplfdedcoaaGreatDoorR19
import Derived.Test.YtdidaplfdedcoaaGreatDoorR20
import Derived.Test.YtdidaplfdedcoaaGreatDoorR21
import Derived.Test.YtdidaplfdedcoaaGreatDoorR22
import Derived.Test.YtdidaplfdedcoaaGreatDoorR23
import Derived.Test.YtdidaplfdedcoaaGreatDoorR24
import Derived.Test.YtdidaplfdedcoaaGreatDoorR25
namespace Go.AM.Xk
set_option maxRecDepth 100000
theorem nmsOk : nms.Ok ∧ nms.cnt = Xa.ctx.ng ∧ ∀ g, g < Xa.ctx.ng → nms.rho.get g = some g := ren_id (n := 11) (by kernel_rfl) (by kernel_rfl) rfl
theorem ar0 : RowOk Xa.ctx 222 (r0.row 11) :=
 row2_ok Xa.good xp_ok (orc0_ok _) cr0
theorem ar1 : RowOk Xa.ctx 129 (r1.row 11) :=
 row2_ok Xa.good xp_ok (orcA_ok (t := tr1) nmsOk (kc (jc ar0 j0) k0)) cr1
theorem ar2 : RowOk Xa.ctx 131 (r2.row 11) :=
 row2_ok Xa.good xp_ok (orc0_ok _) cr2
theorem ar3 : RowOk Xa.ctx 86 (r3.row 11) :=
 row2_ok Xa.good xp_ok (orc0_ok _) cr3
theorem ar4 : RowOk Xa.ctx 131 (r4.row 11) :=
 row2_ok Xa.good xp_ok (orc0_ok _) cr4
theorem ar5 : RowOk Xa.ctx 93 (r5.row 11) :=
 row2_ok Xa.good xp_ok (orc0_ok _) cr5
theorem ar6 : RowOk Xa.ctx 130 (r6.row 11) :=
 row2_ok Xa.good xp_ok (orcA_ok (t := tr6) nmsOk (kc (jc ar2 (jc ar4 j0)) (kc (jc ar3 j0) (kc (jc ar5 j0) k0)))) cr6
theorem ar7 : RowOk Xa.ctx 71 (r7.row 11) :=
 row2_ok Xa.good xp_ok (orcA_ok (t := tr7) nmsOk (kc (jc ar1 j0) (kc (jc ar6 j0) (kc (jc ar4 j0) k0)))) cr7
theorem ar8 : RowOk Xa.ctx 129 (r8.row 11) :=
 row2_ok Xa.good xp_ok (orcA_ok (t := tr8) nmsOk (kc (jc ar0 j0) k0)) cr8
theorem ar9 : RowOk Xa.ctx 131 (r9.row 11) :=
 row2_ok Xa.good xp_ok (orc0_ok _) cr9
theorem ar10 : RowOk Xa.ctx 130 (r10.row 11) :=
 row2_ok Xa.good xp_ok (orcA_ok (t := tr10) nmsOk (kc (jc ar2 (jc ar9 j0)) (kc (jc ar3 j0) k0))) cr10
theorem ar11 : RowOk Xa.ctx 71 (r11.row 11) :=
 row2_ok Xa.good xp_ok (orcA_ok (t := tr11) nmsOk (kc (jc ar8 j0) (kc (jc ar10 j0) (kc (jc ar4 j0) k0)))) cr11
theorem ar12 : RowOk Xa.ctx 134 (r12.row 11) :=
 row2_ok Xa.good xp_ok (orc0_ok _) cr12
theorem ar13 : RowOk Xa.ctx 87 (r13.row 11) :=
 row2_ok Xa.good xp_ok (orcA_ok (t := tr13) nmsOk (kc (jc ar4 j0) k0)) cr13
theorem ar14 : RowOk Xa.ctx 202 (r14.row 11) :=
 row2_ok Xa.good xp_ok (orc0_ok _) cr14
theorem ar15 : RowOk Xa.ctx 228 (r15.row 11) :=
 row2_ok Xa.good xp_ok (orcA_ok (t := tr15) nmsOk (kc (jc ar13 j0) (kc (jc ar14 (jc ar14 j0)) k0))) cr15
theorem ar16 : RowOk Xa.ctx 157 (r16.row 11) :=
 row2_ok Xa.good xp_ok (orcA_ok (t := tr16) nmsOk (kc (jc ar4 (jc ar4 j0)) k0)) cr16
theorem ar17 : RowOk Xa.ctx 86 (r17.row 11) :=
 row2_ok Xa.good xp_ok (orc0_ok _) cr17
theorem ar18 : RowOk Xa.ctx 140 (r18.row 11) :=
 row2_ok Xa.good xp_ok (orcA_ok (t := tr18) nmsOk (kc (jc ar16 (jc ar16 j0)) (kc (jc ar13 j0) (kc (jc ar4 (jc ar4 (jc ar4 (jc ar4 (jc ar4 j0))))) (kc (jc ar17 (jc ar17 j0)) k0))))) cr18
theorem ar19 : RowOk Xa.ctx 86 (r19.row 11) :=
 row2_ok Xa.good xp_ok (orc0_ok _) cr19
theorem ar20 : RowOk Xa.ctx 72 (r20.row 11) :=
 row2_ok Xa.good xp_ok (orcA_ok (t := tr20) nmsOk (kc (jc ar12 j0) (kc (jc ar15 j0) (kc (jc ar13 (jc ar13 j0)) (kc (jc ar18 j0) (kc (jc ar4 j0) (kc (jc ar17 (jc ar19 j0)) k0))))))) cr20
theorem ar21 : RowOk Xa.ctx 87 (r21.row 11) :=
 row2_ok Xa.good xp_ok (orcA_ok (t := tr21) nmsOk (kc (jc ar4 j0) k0)) cr21
theorem ar22 : RowOk Xa.ctx 202 (r22.row 11) :=
 row2_ok Xa.good xp_ok (orc0_ok _) cr22
theorem ar23 : RowOk Xa.ctx 202 (r23.row 11) :=
 row2_ok Xa.good xp_ok (orc0_ok _) cr23
theorem ar24 : RowOk Xa.ctx 228 (r24.row 11) :=
 row2_ok Xa.good xp_ok (orcA_ok (t := tr24) nmsOk (kc (jc ar21 j0) (kc (jc ar22 (jc ar23 j0)) k0))) cr24
theorem ar25 : RowOk Xa.ctx 135 (r25.row 11) :=
 row2_ok Xa.good xp_ok (orcA_ok (t := tr25) nmsOk (kc (jc ar21 j0) k0)) cr25
theorem ar26 : RowOk Xa.ctx 86 (r26.row 11) :=
 row2_ok Xa.good xp_ok (orc0_ok _) cr26
theorem ar27 : RowOk Xa.ctx 38 (r27.row 11) :=
 row2_ok Xa.good xp_ok (orcA_ok (t := tr27) nmsOk (kc (jc ar21 (jc ar13 j0)) (kc (jc ar17 (jc ar26 j0)) k0))) cr27
theorem ar28 : RowOk Xa.ctx 76 (r28.row 11) :=
 row2_ok Xa.good xp_ok (orc0_ok _) cr28
theorem ar29 : RowOk Xa.ctx 76 (r29.row 11) :=
 row2_ok Xa.good xp_ok (orc0_ok _) cr29
theorem ar30 : RowOk Xa.ctx 76 (r30.row 11) :=
 row2_ok Xa.good xp_ok (orc0_ok _) cr30
theorem ar31 : RowOk Xa.ctx 10 (r31.row 11) :=
 row2_ok Xa.good xp_ok (orcA_ok (t := tr31) nmsOk (kc (jc ar7 (jc ar11 j0)) (kc (jc ar20 j0) (kc (jc ar12 j0) (kc (jc ar24 j0) (kc (jc ar25 j0) (kc (jc ar18 j0) (kc (jc ar4 j0) (kc (jc ar26 (jc ar19 j0)) (kc (jc ar21 j0) (kc (jc ar27 j0) (kc (jc ar28 (jc ar29 (jc ar30 j0))) k0)))))))))))) cr31
theorem ar32 : RowOk Xa.ctx 80 (r32.row 11) :=
 row2_ok Xa.good xp_ok (orcA_ok (t := tr32) nmsOk (kc (jc ar31 j0) (kc (jc ar30 (jc ar29 (jc ar28 j0))) k0))) cr32
theorem ar33 : RowOk Xa.ctx 288 (r33.row 11) :=
 row2_ok Xa.good xp_ok (orcA_ok (t := tr33) nmsOk (kc (jc ar7 j0) k0)) cr33
theorem ar34 : RowOk Xa.ctx 288 (r34.row 11) :=
 row2_ok Xa.good xp_ok (orcA_ok (t := tr34) nmsOk (kc (jc ar11 j0) k0)) cr34
theorem ar35 : RowOk Xa.ctx 315 (r35.row 11) :=
 row2_ok Xa.good xp_ok (orcA_ok (t := tr35) nmsOk (kc (jc ar33 (jc ar34 j0)) (kc (jc ar27 j0) k0))) cr35
theorem ar36 : RowOk Xa.ctx 253 (r36.row 11) :=
 row2_ok Xa.good xp_ok (orcA_ok (t := tr36) nmsOk (kc (jc ar32 j0) (kc (jc ar35 j0) (kc (jc ar28 j0) k0)))) cr36
theorem ar37 : RowOk Xa.ctx 202 (r37.row 11) :=
 row2_ok Xa.good xp_ok (orc0_ok _) cr37
theorem ar38 : RowOk Xa.ctx 131 (r38.row 11) :=
 row2_ok Xa.good xp_ok (orc0_ok _) cr38
theorem ar39 : RowOk Xa.ctx 160 (r39.row 11) :=
 row2_ok Xa.good xp_ok (orcA_ok (t := tr39) nmsOk (kc (jc ar38 j0) k0)) cr39
theorem ar40 : RowOk Xa.ctx 159 (r40.row 11) :=
 row2_ok Xa.good xp_ok (orcA_ok (t := tr40) nmsOk (kc (jc ar4 (jc ar38 (jc ar38 (jc ar38 j0)))) (kc (jc ar37 j0) k0))) cr40
theorem ar41 : RowOk Xa.ctx 234 (r41.row 11) :=
 row2_ok Xa.good xp_ok (orcA_ok (t := tr41) nmsOk (kc (jc ar15 j0) (kc (jc ar37 j0) (kc (jc ar13 j0) (kc (jc ar4 (jc ar4 j0)) (kc (jc ar39 j0) (kc (jc ar40 j0) k0))))))) cr41
theorem ar42 : RowOk Xa.ctx 308 (r42.row 11) :=
 row2_ok Xa.good xp_ok (orcA_ok (t := tr42) nmsOk (kc (jc ar4 (jc ar4 j0)) (kc (jc ar39 j0) k0))) cr42
theorem ar43 : RowOk Xa.ctx 202 (r43.row 11) :=
 row2_ok Xa.good xp_ok (orc0_ok _) cr43
theorem ar44 : RowOk Xa.ctx 159 (r44.row 11) :=
 row2_ok Xa.good xp_ok (orcA_ok (t := tr44) nmsOk (kc (jc ar4 (jc ar38 (jc ar38 (jc ar38 j0)))) (kc (jc ar43 j0) k0))) cr44
theorem ar45 : RowOk Xa.ctx 235 (r45.row 11) :=
 row2_ok Xa.good xp_ok (orcA_ok (t := tr45) nmsOk (kc (jc ar24 j0) (kc (jc ar21 j0) (kc (jc ar42 j0) (kc (jc ar44 j0) k0))))) cr45
theorem ar46 : RowOk Xa.ctx 95 (r46.row 11) :=
 row2_ok Xa.good xp_ok (orc0_ok _) cr46
theorem ar47 : RowOk Xa.ctx 95 (r47.row 11) :=
 row2_ok Xa.good xp_ok (orc0_ok _) cr47
theorem ar48 : RowOk Xa.ctx 95 (r48.row 11) :=
 row2_ok Xa.good xp_ok (orc0_ok _) cr48
theorem ar49 : RowOk Xa.ctx 270 (r49.row 11) :=
 row2_ok Xa.good xp_ok (orcA_ok (t := tr49) nmsOk (kc (jc ar46 (jc ar48 j0)) (kc (jc ar4 j0) k0))) cr49
theorem ar50 : RowOk Xa.ctx 270 (r50.row 11) :=
 row2_ok Xa.good xp_ok (orcA_ok (t := tr50) nmsOk (kc (jc ar47 (jc ar48 j0)) (kc (jc ar4 j0) k0))) cr50
theorem ar51 : RowOk Xa.ctx 87 (r51.row 11) :=
 row2_ok Xa.good xp_ok (orcA_ok (t := tr51) nmsOk (kc (jc ar4 j0) k0)) cr51
theorem ar52 : RowOk Xa.ctx 270 (r52.row 11) :=
 row2_ok Xa.good xp_ok (orcA_ok (t := tr52) nmsOk (kc (jc ar51 j0) (kc (jc ar48 j0) k0))) cr52
theorem ar53 : RowOk Xa.ctx 199 (r53.row 11) :=
 row2_ok Xa.good xp_ok (orcA_ok (t := tr53) nmsOk (kc (jc ar41 j0) (kc (jc ar45 j0) (kc (jc ar46 (jc ar47 j0)) (kc (jc ar49 (jc ar50 (jc ar52 j0))) k0))))) cr53
theorem ar54 : RowOk Xa.ctx 71 (r54.row 11) :=
 row2_ok Xa.good xp_ok (orcA_ok (t := tr54) nmsOk (kc (jc ar0 j0) (kc (jc ar2 (jc ar38 (jc ar4 j0))) (kc (jc ar3 j0) k0)))) cr54
theorem ar55 : RowOk Xa.ctx 288 (r55.row 11) :=
 row2_ok Xa.good xp_ok (orcA_ok (t := tr55) nmsOk (kc (jc ar54 j0) k0)) cr55
theorem ar56 : RowOk Xa.ctx 331 (r56.row 11) :=
 row2_ok Xa.good xp_ok (orcA_ok (t := tr56) nmsOk (kc (jc ar33 (jc ar34 (jc ar55 j0))) (kc (jc ar27 j0) k0))) cr56
theorem ar57 : RowOk Xa.ctx 303 (r57.row 11) :=
 row2_ok Xa.good xp_ok (orcA_ok (t := tr57) nmsOk (kc (jc ar17 (jc ar17 j0)) (kc (jc ar13 (jc ar13 j0)) k0))) cr57
theorem ar58 : RowOk Xa.ctx 303 (r58.row 11) :=
 row2_ok Xa.good xp_ok (orcA_ok (t := tr58) nmsOk (kc (jc ar26 (jc ar17 j0)) (kc (jc ar21 (jc ar13 j0)) k0))) cr58
theorem ar59 : RowOk Xa.ctx 86 (r59.row 11) :=
 row2_ok Xa.good xp_ok (orc0_ok _) cr59
theorem ar60 : RowOk Xa.ctx 303 (r60.row 11) :=
 row2_ok Xa.good xp_ok (orcA_ok (t := tr60) nmsOk (kc (jc ar59 (jc ar17 j0)) (kc (jc ar13 (jc ar21 j0)) k0))) cr60
theorem ar61 : RowOk Xa.ctx 86 (r61.row 11) :=
 row2_ok Xa.good xp_ok (orc0_ok _) cr61
theorem ar62 : RowOk Xa.ctx 303 (r62.row 11) :=
 row2_ok Xa.good xp_ok (orcA_ok (t := tr62) nmsOk (kc (jc ar61 (jc ar17 j0)) (kc (jc ar21 (jc ar21 j0)) k0))) cr62
theorem ar63 : RowOk Xa.ctx 86 (r63.row 11) :=
 row2_ok Xa.good xp_ok (orc0_ok _) cr63
theorem ar64 : RowOk Xa.ctx 38 (r64.row 11) :=
 row2_ok Xa.good xp_ok (orcA_ok (t := tr64) nmsOk (kc (jc ar4 j0) (kc (jc ar26 (jc ar63 j0)) (kc (jc ar21 j0) k0)))) cr64
theorem ar65 : RowOk Xa.ctx 303 (r65.row 11) :=
 row2_ok Xa.good xp_ok (orcA_ok (t := tr65) nmsOk (kc (jc ar21 (jc ar51 j0)) (kc (jc ar17 j0) k0))) cr65
theorem ar66 : RowOk Xa.ctx 86 (r66.row 11) :=
 row2_ok Xa.good xp_ok (orc0_ok _) cr66
theorem ar67 : RowOk Xa.ctx 41 (r67.row 11) :=
 row2_ok Xa.good xp_ok (orcA_ok (t := tr67) nmsOk (kc (jc ar51 (jc ar51 (jc ar51 (jc ar51 j0)))) (kc (jc ar66 (jc ar66 (jc ar17 j0))) k0))) cr67
theorem ar68 : RowOk Xa.ctx 303 (r68.row 11) :=
 row2_ok Xa.good xp_ok (orcA_ok (t := tr68) nmsOk (kc (jc ar51 (jc ar51 j0)) (kc (jc ar17 j0) k0))) cr68
theorem ar69 : RowOk Xa.ctx 41 (r69.row 11) :=
 row2_ok Xa.good xp_ok (orcA_ok (t := tr69) nmsOk (kc (jc ar51 (jc ar51 j0)) (kc (jc ar63 (jc ar66 (jc ar17 j0))) (kc (jc ar4 (jc ar4 j0)) k0)))) cr69
theorem ar70 : RowOk Xa.ctx 354 (r70.row 11) :=
 row2_ok Xa.good xp_ok (orcA_ok (t := tr70) nmsOk (kc (jc ar12 j0) (kc (jc ar18 j0) k0))) cr70
theorem ar71 : RowOk Xa.ctx 228 (r71.row 11) :=
 row2_ok Xa.good xp_ok (orcA_ok (t := tr71) nmsOk (kc (jc ar4 j0) k0)) cr71
theorem ar72 : RowOk Xa.ctx 92 (r72.row 11) :=
 row2_ok Xa.good xp_ok (orcA_ok (t := tr72) nmsOk (kc (jc ar38 j0) k0)) cr72
theorem ar73 : RowOk Xa.ctx 160 (r73.row 11) :=
 row2_ok Xa.good xp_ok (orcA_ok (t := tr73) nmsOk (kc (jc ar38 j0) k0)) cr73
theorem ar74 : RowOk Xa.ctx 322 (r74.row 11) :=
 row2_ok Xa.good xp_ok (orcA_ok (t := tr74) nmsOk (kc (jc ar70 j0) (kc (jc ar4 (jc ar4 (jc ar4 (jc ar4 j0)))) (kc (jc ar63 (jc ar19 (jc ar63 (jc ar19 j0)))) (kc (jc ar12 j0) (kc (jc ar18 j0) (kc (jc ar71 j0) (kc (jc ar16 j0) (kc (jc ar13 j0) (kc (jc ar72 j0) (kc (jc ar73 j0) k0))))))))))) cr74
theorem ar75 : RowOk Xa.ctx 86 (r75.row 11) :=
 row2_ok Xa.good xp_ok (orc0_ok _) cr75
theorem ar76 : RowOk Xa.ctx 41 (r76.row 11) :=
 row2_ok Xa.good xp_ok (orcA_ok (t := tr76) nmsOk (kc (jc ar51 (jc ar51 j0)) (kc (jc ar17 (jc ar75 j0)) (kc (jc ar5 j0) (kc (jc ar73 j0) k0))))) cr76
theorem ar77 : RowOk Xa.ctx 253 (r77.row 11) :=
 row2_ok Xa.good xp_ok (orcA_ok (t := tr77) nmsOk (kc (jc ar32 j0) (kc (jc ar35 j0) (kc (jc ar29 j0) (kc (jc ar56 (jc ar56 j0)) (kc (jc ar57 (jc ar58 (jc ar60 (jc ar62 (jc ar65 (jc ar65 (jc ar68 j0))))))) (kc (jc ar27 (jc ar27 (jc ar64 (jc ar64 (jc ar27 (jc ar64 (jc ar27 (jc ar27 j0)))))))) (kc (jc ar67 (jc ar67 (jc ar69 (jc ar76 j0)))) (kc (jc ar4 j0) (kc (jc ar17 (jc ar63 j0)) (kc (jc ar13 j0) (kc (jc ar74 j0) k0)))))))))))) cr77
theorem ar78 : RowOk Xa.ctx 235 (r78.row 11) :=
 row2_ok Xa.good xp_ok (orcA_ok (t := tr78) nmsOk (kc (jc ar71 j0) (kc (jc ar4 (jc ar4 (jc ar38 (jc ar38 (jc ar38 j0))))) (kc (jc ar42 j0) k0)))) cr78
theorem ar79 : RowOk Xa.ctx 202 (r79.row 11) :=
 row2_ok Xa.good xp_ok (orc0_ok _) cr79
theorem ar80 : RowOk Xa.ctx 160 (r80.row 11) :=
 row2_ok Xa.good xp_ok (orcA_ok (t := tr80) nmsOk (kc (jc ar38 j0) k0)) cr80
theorem ar81 : RowOk Xa.ctx 160 (r81.row 11) :=
 row2_ok Xa.good xp_ok (orcA_ok (t := tr81) nmsOk (kc (jc ar38 j0) k0)) cr81
theorem ar82 : RowOk Xa.ctx 159 (r82.row 11) :=
 row2_ok Xa.good xp_ok (orcA_ok (t := tr82) nmsOk (kc (jc ar4 (jc ar38 (jc ar38 j0))) (kc (jc ar81 j0) k0))) cr82
theorem ar83 : RowOk Xa.ctx 235 (r83.row 11) :=
 row2_ok Xa.good xp_ok (orcA_ok (t := tr83) nmsOk (kc (jc ar79 j0) (kc (jc ar38 (jc ar38 j0)) (kc (jc ar80 j0) (kc (jc ar42 j0) (kc (jc ar82 j0) k0)))))) cr83
theorem ar84 : RowOk Xa.ctx 95 (r84.row 11) :=
 row2_ok Xa.good xp_ok (orc0_ok _) cr84
theorem ar85 : RowOk Xa.ctx 95 (r85.row 11) :=
 row2_ok Xa.good xp_ok (orc0_ok _) cr85
theorem ar86 : RowOk Xa.ctx 42 (r86.row 11) :=
 row2_ok Xa.good xp_ok (orcA_ok (t := tr86) nmsOk (kc (jc ar46 (jc ar85 j0)) k0)) cr86
theorem ar87 : RowOk Xa.ctx 199 (r87.row 11) :=
 row2_ok Xa.good xp_ok (orcA_ok (t := tr87) nmsOk (kc (jc ar41 j0) (kc (jc ar78 (jc ar83 j0)) (kc (jc ar46 (jc ar84 (jc ar84 (jc ar48 (jc ar46 (jc ar85 j0)))))) (kc (jc ar86 j0) (kc (jc ar49 j0) (kc (jc ar4 j0) k0))))))) cr87
theorem ar88 : RowOk Xa.ctx 157 (r88.row 11) :=
 row2_ok Xa.good xp_ok (orcA_ok (t := tr88) nmsOk (kc (jc ar4 (jc ar4 j0)) k0)) cr88
theorem ar89 : RowOk Xa.ctx 326 (r89.row 11) :=
 row2_ok Xa.good xp_ok (orc0_ok _) cr89
theorem ar90 : RowOk Xa.ctx 291 (r90.row 11) :=
 row2_okL Xa.good xp_ok (orcA_ok (t := tr90) nmsOk (kc (jc ar89 j0) k0)) (xf := f291) (by kernel_rfl) cr90
theorem ar91 : RowOk Xa.ctx 303 (r91.row 11) :=
 row2_ok Xa.good xp_ok (orcA_ok (t := tr91) nmsOk (kc (jc ar13 (jc ar13 j0)) (kc (jc ar17 j0) k0))) cr91
theorem ar92 : RowOk Xa.ctx 93 (r92.row 11) :=
 row2_ok Xa.good xp_ok (orc0_ok _) cr92
theorem ar93 : RowOk Xa.ctx 41 (r93.row 11) :=
 row2_ok Xa.good xp_ok (orcA_ok (t := tr93) nmsOk (kc (jc ar51 (jc ar13 (jc ar13 (jc ar51 j0)))) (kc (jc ar17 (jc ar66 (jc ar17 j0))) (kc (jc ar92 j0) k0)))) cr93
theorem ar94 : RowOk Xa.ctx 325 (r94.row 11) :=
 row2_ok Xa.good xp_ok (orcA_ok (t := tr94) nmsOk (kc (jc ar93 j0) k0)) cr94
theorem ar95 : RowOk Xa.ctx 290 (r95.row 11) :=
 row2_okL Xa.good xp_ok (orcA_ok (t := tr95) nmsOk (kc (jc ar91 j0) (kc (jc ar94 j0) k0))) (xf := f290) (by kernel_rfl) cr95
theorem ar96 : RowOk Xa.ctx 326 (r96.row 11) :=
 row2_ok Xa.good xp_ok (orc0_ok _) cr96
theorem ar97 : RowOk Xa.ctx 291 (r97.row 11) :=
 row2_okL Xa.good xp_ok (orcA_ok (t := tr97) nmsOk (kc (jc ar96 j0) k0)) (xf := f291) (by kernel_rfl) cr97
theorem ar98 : RowOk Xa.ctx 292 (r98.row 11) :=
 row2_ok Xa.good xp_ok (orc0_ok _) cr98
theorem ar99 : RowOk Xa.ctx 42 (r99.row 11) :=
 row2_ok Xa.good xp_ok (orcA_ok (t := tr99) nmsOk (kc (jc ar48 j0) k0)) cr99
theorem ar100 : RowOk Xa.ctx 259 (r100.row 11) :=
 row2_okL Xa.good xp_ok (orcA_ok (t := tr100) nmsOk (kc (jc ar98 j0) (kc (jc ar99 j0) k0))) (xf := f259) (by kernel_rfl) cr100
theorem ar101 : RowOk Xa.ctx 41 (r101.row 11) :=
 row2_ok Xa.good xp_ok (orcA_ok (t := tr101) nmsOk (kc (jc ar13 (jc ar51 (jc ar51 (jc ar13 j0)))) (kc (jc ar66 (jc ar17 (jc ar17 j0))) (kc (jc ar5 j0) k0)))) cr101
theorem ar102 : RowOk Xa.ctx 93 (r102.row 11) :=
 row2_ok Xa.good xp_ok (orc0_ok _) cr102
theorem ar103 : RowOk Xa.ctx 41 (r103.row 11) :=
 row2_ok Xa.good xp_ok (orcA_ok (t := tr103) nmsOk (kc (jc ar13 (jc ar13 (jc ar13 (jc ar13 j0)))) (kc (jc ar17 (jc ar17 (jc ar17 j0))) (kc (jc ar102 j0) k0)))) cr103
theorem ar104 : RowOk Xa.ctx 41 (r104.row 11) :=
 row2_ok Xa.good xp_ok (orcA_ok (t := tr104) nmsOk (kc (jc ar4 (jc ar4 j0)) (kc (jc ar26 (jc ar17 (jc ar17 j0))) (kc (jc ar21 (jc ar21 j0)) k0)))) cr104
theorem ar105 : RowOk Xa.ctx 188 (r105.row 11) :=
 row2_ok Xa.good xp_ok (orcA_ok (t := tr105) nmsOk (kc (jc ar104 j0) k0)) cr105
theorem ar106 : RowOk Xa.ctx 86 (r106.row 11) :=
 row2_ok Xa.good xp_ok (orc0_ok _) cr106
theorem ar107 : RowOk Xa.ctx 157 (r107.row 11) :=
 row2_ok Xa.good xp_ok (orcA_ok (t := tr107) nmsOk (kc (jc ar9 (jc ar4 j0)) k0)) cr107
theorem ar108 : RowOk Xa.ctx 160 (r108.row 11) :=
 row2_ok Xa.good xp_ok (orcA_ok (t := tr108) nmsOk (kc (jc ar38 j0) k0)) cr108
theorem ar109 : RowOk Xa.ctx 92 (r109.row 11) :=
 row2_ok Xa.good xp_ok (orcA_ok (t := tr109) nmsOk (kc (jc ar108 j0) k0)) cr109
theorem ar110 : RowOk Xa.ctx 179 (r110.row 11) :=
 row2_ok Xa.good xp_ok (orcA_ok (t := tr110) nmsOk (kc (jc ar21 (jc ar13 j0)) (kc (jc ar17 (jc ar59 j0)) (kc (jc ar109 j0) k0)))) cr110
theorem ar111 : RowOk Xa.ctx 160 (r111.row 11) :=
 row2_ok Xa.good xp_ok (orcA_ok (t := tr111) nmsOk (kc (jc ar38 j0) k0)) cr111
theorem ar112 : RowOk Xa.ctx 86 (r112.row 11) :=
 row2_ok Xa.good xp_ok (orc0_ok _) cr112
theorem ar113 : RowOk Xa.ctx 41 (r113.row 11) :=
 row2_ok Xa.good xp_ok (orcA_ok (t := tr113) nmsOk (kc (jc ar21 (jc ar21 (jc ar21 (jc ar21 j0)))) (kc (jc ar26 (jc ar26 (jc ar17 j0))) k0))) cr113
theorem ar114 : RowOk Xa.ctx 95 (r114.row 11) :=
 row2_ok Xa.good xp_ok (orc0_ok _) cr114
theorem ar115 : RowOk Xa.ctx 94 (r115.row 11) :=
 row2_ok Xa.good xp_ok (orc0_ok _) cr115
theorem ar116 : RowOk Xa.ctx 41 (r116.row 11) :=
 row2_ok Xa.good xp_ok (orcA_ok (t := tr116) nmsOk (kc (jc ar4 (jc ar4 (jc ar4 (jc ar4 j0)))) (kc (jc ar63 (jc ar17 (jc ar17 j0))) k0))) cr116
theorem ar117 : RowOk Xa.ctx 304 (r117.row 11) :=
 row2_ok Xa.good xp_ok (orcA_ok (t := tr117) nmsOk (kc (jc ar4 (jc ar4 (jc ar4 (jc ar4 j0)))) (kc (jc ar106 (jc ar17 (jc ar106 (jc ar17 j0)))) k0))) cr117
theorem ar118 : RowOk Xa.ctx 86 (r118.row 11) :=
 row2_ok Xa.good xp_ok (orc0_ok _) cr118
theorem ar119 : RowOk Xa.ctx 305 (r119.row 11) :=
 row2_ok Xa.good xp_ok (orcA_ok (t := tr119) nmsOk (kc (jc ar13 j0) (kc (jc ar118 (jc ar17 j0)) (kc (jc ar4 j0) k0)))) cr119
theorem ar120 : RowOk Xa.ctx 95 (r120.row 11) :=
 row2_ok Xa.good xp_ok (orc0_ok _) cr120
theorem ar121 : RowOk Xa.ctx 303 (r121.row 11) :=
 row2_ok Xa.good xp_ok (orcA_ok (t := tr121) nmsOk (kc (jc ar17 (jc ar17 j0)) (kc (jc ar13 j0) (kc (jc ar4 j0) k0)))) cr121
theorem ar122 : RowOk Xa.ctx 306 (r122.row 11) :=
 row2_ok Xa.good xp_ok (orcA_ok (t := tr122) nmsOk (kc (jc ar60 (jc ar121 j0)) (kc (jc ar21 (jc ar51 (jc ar51 (jc ar21 j0)))) (kc (jc ar66 (jc ar26 (jc ar17 j0))) k0)))) cr122
theorem ar123 : RowOk Xa.ctx 95 (r123.row 11) :=
 row2_ok Xa.good xp_ok (orc0_ok _) cr123
theorem ar124 : RowOk Xa.ctx 236 (r124.row 11) :=
 row2_ok Xa.good xp_ok (orcA_ok (t := tr124) nmsOk (kc (jc ar123 (jc ar48 j0)) (kc (jc ar21 j0) k0))) cr124
theorem ar125 : RowOk Xa.ctx 86 (r125.row 11) :=
 row2_ok Xa.good xp_ok (orc0_ok _) cr125
theorem ar126 : RowOk Xa.ctx 86 (r126.row 11) :=
 row2_ok Xa.good xp_ok (orc0_ok _) cr126
theorem ar127 : RowOk Xa.ctx 86 (r127.row 11) :=
 row2_ok Xa.good xp_ok (orc0_ok _) cr127
theorem ar128 : RowOk Xa.ctx 92 (r128.row 11) :=
 row2_ok Xa.good xp_ok (orcA_ok (t := tr128) nmsOk (kc (jc ar38 (jc ar38 j0)) (kc (jc ar111 j0) k0))) cr128
theorem ar129 : RowOk Xa.ctx 95 (r129.row 11) :=
 row2_ok Xa.good xp_ok (orc0_ok _) cr129
theorem ar130 : RowOk Xa.ctx 41 (r130.row 11) :=
 row2_ok Xa.good xp_ok (orcA_ok (t := tr130) nmsOk (kc (jc ar4 (jc ar4 j0)) (kc (jc ar66 (jc ar17 (jc ar17 j0))) (kc (jc ar51 (jc ar51 j0)) k0)))) cr130
theorem ar131 : RowOk Xa.ctx 42 (r131.row 11) :=
 row2_ok Xa.good xp_ok (orcA_ok (t := tr131) nmsOk (kc (jc ar46 j0) k0)) cr131
theorem ar132 : RowOk Xa.ctx 38 (r132.row 11) :=
 row2_ok Xa.good xp_ok (orcA_ok (t := tr132) nmsOk (kc (jc ar13 (jc ar13 j0)) (kc (jc ar17 (jc ar17 j0)) k0))) cr132
theorem ar133 : RowOk Xa.ctx 129 (r133.row 11) :=
 row2_ok Xa.good xp_ok (orcA_ok (t := tr133) nmsOk (kc (jc ar0 j0) k0)) cr133
theorem ar134 : RowOk Xa.ctx 130 (r134.row 11) :=
 row2_ok Xa.good xp_ok (orcA_ok (t := tr134) nmsOk (kc (jc ar2 j0) (kc (jc ar3 j0) k0))) cr134
theorem ar135 : RowOk Xa.ctx 71 (r135.row 11) :=
 row2_ok Xa.good xp_ok (orcA_ok (t := tr135) nmsOk (kc (jc ar133 j0) (kc (jc ar134 j0) (kc (jc ar4 j0) k0)))) cr135
theorem ar136 : RowOk Xa.ctx 71 (r136.row 11) :=
 row2_ok Xa.good xp_ok (orcA_ok (t := tr136) nmsOk (kc (jc ar1 j0) (kc (jc ar0 j0) (kc (jc ar6 j0) (kc (jc ar73 j0) k0))))) cr136
theorem ar137 : RowOk Xa.ctx 331 (r137.row 11) :=
 row2_ok Xa.good xp_ok (orcA_ok (t := tr137) nmsOk (kc (jc ar33 j0) (kc (jc ar135 (jc ar136 j0)) (kc (jc ar4 j0) (kc (jc ar17 (jc ar63 j0)) (kc (jc ar13 j0) k0)))))) cr137
theorem ar138 : RowOk Xa.ctx 373 (r138.row 11) :=
 row2_ok Xa.good xp_ok (orcA_ok (t := tr138) nmsOk (kc (jc ar4 (jc ar4 j0)) (kc (jc ar17 (jc ar26 (jc ar17 j0))) (kc (jc ar13 (jc ar13 j0)) (kc (jc ar116 j0) k0))))) cr138
theorem ar139 : RowOk Xa.ctx 41 (r139.row 11) :=
 row2_ok Xa.good xp_ok (orcA_ok (t := tr139) nmsOk (kc (jc ar51 (jc ar51 j0)) (kc (jc ar17 j0) (kc (jc ar92 j0) (kc (jc ar73 j0) k0))))) cr139
theorem ar140 : RowOk Xa.ctx 38 (r140.row 11) :=
 row2_ok Xa.good xp_ok (orcA_ok (t := tr140) nmsOk (kc (jc ar4 j0) k0)) cr140
theorem ar141 : RowOk Xa.ctx 187 (r141.row 11) :=
 row2_ok Xa.good xp_ok (orcA_ok (t := tr141) nmsOk (kc (jc ar16 j0) (kc (jc ar13 j0) (kc (jc ar79 j0) (kc (jc ar73 j0) k0))))) cr141
theorem ar142 : RowOk Xa.ctx 92 (r142.row 11) :=
 row2_ok Xa.good xp_ok (orcA_ok (t := tr142) nmsOk (kc (jc ar38 j0) k0)) cr142
theorem ar143 : RowOk Xa.ctx 91 (r143.row 11) :=
 row2_ok Xa.good xp_ok (orcA_ok (t := tr143) nmsOk (kc (jc ar142 j0) k0)) cr143
theorem ar144 : RowOk Xa.ctx 86 (r144.row 11) :=
 row2_ok Xa.good xp_ok (orc0_ok _) cr144
theorem ar145 : RowOk Xa.ctx 41 (r145.row 11) :=
 row2_ok Xa.good xp_ok (orcA_ok (t := tr145) nmsOk (kc (jc ar144 (jc ar75 j0)) (kc (jc ar38 (jc ar38 (jc ar38 j0))) k0))) cr145
theorem ar146 : RowOk Xa.ctx 253 (r146.row 11) :=
 row2_ok Xa.good xp_ok (orcA_ok (t := tr146) nmsOk (kc (jc ar32 j0) (kc (jc ar35 j0) (kc (jc ar30 j0) (kc (jc ar137 (jc ar56 j0)) (kc (jc ar138 j0) (kc (jc ar139 (jc ar145 j0)) (kc (jc ar4 (jc ar4 (jc ar4 (jc ar4 (jc ar4 j0))))) (kc (jc ar112 (jc ar118 (jc ar17 (jc ar75 j0)))) (kc (jc ar73 j0) (kc (jc ar70 j0) (kc (jc ar140 (jc ar140 j0)) (kc (jc ar12 j0) (kc (jc ar18 j0) (kc (jc ar141 j0) (kc (jc ar143 j0) k0)))))))))))))))) cr146
theorem ar147 : RowOk Xa.ctx 308 (r147.row 11) :=
 row2_ok Xa.good xp_ok (orcA_ok (t := tr147) nmsOk (kc (jc ar4 (jc ar38 (jc ar4 j0))) k0)) cr147
theorem ar148 : RowOk Xa.ctx 160 (r148.row 11) :=
 row2_ok Xa.good xp_ok (orcA_ok (t := tr148) nmsOk (kc (jc ar38 j0) k0)) cr148
theorem ar149 : RowOk Xa.ctx 202 (r149.row 11) :=
 row2_ok Xa.good xp_ok (orc0_ok _) cr149
theorem ar150 : RowOk Xa.ctx 235 (r150.row 11) :=
 row2_ok Xa.good xp_ok (orcA_ok (t := tr150) nmsOk (kc (jc ar149 j0) (kc (jc ar38 (jc ar38 (jc ar38 (jc ar4 (jc ar38 j0))))) (kc (jc ar147 j0) (kc (jc ar148 (jc ar148 j0)) k0))))) cr150
theorem ar151 : RowOk Xa.ctx 95 (r151.row 11) :=
 row2_ok Xa.good xp_ok (orc0_ok _) cr151
theorem ar152 : RowOk Xa.ctx 199 (r152.row 11) :=
 row2_ok Xa.good xp_ok (orcA_ok (t := tr152) nmsOk (kc (jc ar4 (jc ar4 (jc ar4 (jc ar4 (jc ar4 (jc ar38 (jc ar38 (jc ar38 (jc ar4 (jc ar4 (jc ar4 (jc ar38 (jc ar4 (jc ar4 j0)))))))))))))) (kc (jc ar14 (jc ar37 (jc ar23 (jc ar43 j0)))) (kc (jc ar39 (jc ar148 (jc ar148 j0))) (kc (jc ar147 j0) (kc (jc ar150 j0) (kc (jc ar131 j0) (kc (jc ar129 (jc ar129 (jc ar151 (jc ar46 (jc ar48 (jc ar129 (jc ar48 (jc ar129 (jc ar151 j0))))))))) k0)))))))) cr152
theorem ar153 : RowOk Xa.ctx 379 (r153.row 11) :=
 row2_ok Xa.good xp_ok (orcA_ok (t := tr153) nmsOk (kc (jc ar12 (jc ar12 j0)) (kc (jc ar18 (jc ar18 j0)) (kc (jc ar4 (jc ar4 j0)) (kc (jc ar19 (jc ar19 j0)) k0))))) cr153
theorem ar154 : RowOk Xa.ctx 41 (r154.row 11) :=
 row2_ok Xa.good xp_ok (orcA_ok (t := tr154) nmsOk (kc (jc ar4 (jc ar4 (jc ar4 j0))) (kc (jc ar17 (jc ar75 j0)) (kc (jc ar73 j0) k0)))) cr154
theorem ar155 : RowOk Xa.ctx 41 (r155.row 11) :=
 row2_ok Xa.good xp_ok (orcA_ok (t := tr155) nmsOk (kc (jc ar51 (jc ar21 (jc ar21 (jc ar51 j0)))) (kc (jc ar26 (jc ar66 (jc ar17 j0))) k0))) cr155
theorem ar156 : RowOk Xa.ctx 86 (r156.row 11) :=
 row2_ok Xa.good xp_ok (orc0_ok _) cr156
theorem ar157 : RowOk Xa.ctx 86 (r157.row 11) :=
 row2_ok Xa.good xp_ok (orc0_ok _) cr157
theorem ar158 : RowOk Xa.ctx 253 (r158.row 11) :=
 row2_ok Xa.good xp_ok (orcA_ok (t := tr158) nmsOk (kc (jc ar32 j0) (kc (jc ar35 j0) (kc (jc ar30 j0) (kc (jc ar137 (jc ar56 j0)) (kc (jc ar138 j0) (kc (jc ar139 (jc ar154 (jc ar93 (jc ar155 j0)))) (kc (jc ar153 (jc ar153 j0)) (kc (jc ar75 (jc ar17 (jc ar75 (jc ar156 (jc ar157 j0))))) (kc (jc ar13 (jc ar13 (jc ar21 j0))) (kc (jc ar4 (jc ar38 j0)) (kc (jc ar107 j0) (kc (jc ar58 j0) k0))))))))))))) cr158
theorem ar159 : RowOk Xa.ctx 41 (r159.row 11) :=
 row2_ok Xa.good xp_ok (orcA_ok (t := tr159) nmsOk (kc (jc ar51 (jc ar51 j0)) (kc (jc ar17 (jc ar66 (jc ar17 j0))) (kc (jc ar4 (jc ar4 j0)) k0)))) cr159
theorem ar160 : RowOk Xa.ctx 325 (r160.row 11) :=
 row2_ok Xa.good xp_ok (orcA_ok (t := tr160) nmsOk (kc (jc ar159 j0) k0)) cr160
theorem ar161 : RowOk Xa.ctx 289 (r161.row 11) :=
 row2_okL Xa.good xp_ok (orcA_ok (t := tr161) nmsOk (kc (jc ar121 j0) (kc (jc ar160 j0) k0))) (xf := f289) (by kernel_rfl) cr161
theorem ar162 : RowOk Xa.ctx 291 (r162.row 11) :=
 row2_okL Xa.good xp_ok (orcA_ok (t := tr162) nmsOk (kc (jc ar96 (jc ar89 j0)) k0)) (xf := f291) (by kernel_rfl) cr162
theorem ar163 : RowOk Xa.ctx 258 (r163.row 11) :=
 row2_ok Xa.good xp_ok (orcA_ok (t := tr163) nmsOk (kc (jc ar30 (jc ar29 (jc ar28 j0))) (kc (jc ar16 (jc ar88 (jc ar16 j0))) (kc (jc ar90 (jc ar97 (jc ar162 j0))) (kc (jc ar95 j0) (kc (jc ar161 j0) k0)))))) cr163
theorem ar164 : RowOk Xa.ctx 292 (r164.row 11) :=
 row2_ok Xa.good xp_ok (orc0_ok _) cr164
theorem ar165 : RowOk Xa.ctx 259 (r165.row 11) :=
 row2_okL Xa.good xp_ok (orcA_ok (t := tr165) nmsOk (kc (jc ar164 j0) (kc (jc ar131 (jc ar99 j0)) k0))) (xf := f259) (by kernel_rfl) cr165
theorem ar166 : RowOk Xa.ctx 71 (r166.row 11) :=
 row2_ok Xa.good xp_ok (orcA_ok (t := tr166) nmsOk (kc (jc ar1 j0) (kc (jc ar6 j0) (kc (jc ar4 j0) k0)))) cr166
theorem ar167 : RowOk Xa.ctx 160 (r167.row 11) :=
 row2_ok Xa.good xp_ok (orcA_ok (t := tr167) nmsOk (kc (jc ar4 j0) k0)) cr167
theorem ar168 : RowOk Xa.ctx 92 (r168.row 11) :=
 row2_ok Xa.good xp_ok (orcA_ok (t := tr168) nmsOk (kc (jc ar167 (jc ar108 j0)) k0)) cr168
theorem ar169 : RowOk Xa.ctx 41 (r169.row 11) :=
 row2_ok Xa.good xp_ok (orcA_ok (t := tr169) nmsOk (kc (jc ar51 (jc ar51 j0)) (kc (jc ar17 (jc ar26 j0)) (kc (jc ar92 j0) (kc (jc ar109 j0) k0))))) cr169
theorem ar170 : RowOk Xa.ctx 160 (r170.row 11) :=
 row2_ok Xa.good xp_ok (orcA_ok (t := tr170) nmsOk (kc (jc ar38 j0) k0)) cr170
theorem ar171 : RowOk Xa.ctx 188 (r171.row 11) :=
 row2_ok Xa.good xp_ok (orcA_ok (t := tr171) nmsOk (kc (jc ar51 (jc ar51 j0)) (kc (jc ar125 (jc ar66 (jc ar17 j0))) (kc (jc ar4 (jc ar4 j0)) k0)))) cr171
theorem ar172 : RowOk Xa.ctx 160 (r172.row 11) :=
 row2_ok Xa.good xp_ok (orcA_ok (t := tr172) nmsOk (kc (jc ar38 j0) k0)) cr172
theorem ar173 : RowOk Xa.ctx 289 (r173.row 11) :=
 row2_okL Xa.good xp_ok (orc0_ok _) (xf := f289) (by kernel_rfl) cr173
theorem ar174 : RowOk Xa.ctx 326 (r174.row 11) :=
 row2_ok Xa.good xp_ok (orc0_ok _) cr174
theorem ar175 : RowOk Xa.ctx 325 (r175.row 11) :=
 row2_ok Xa.good xp_ok (orcA_ok (t := tr175) nmsOk (kc (jc ar93 j0) k0)) cr175
theorem ar176 : RowOk Xa.ctx 291 (r176.row 11) :=
 row2_okL Xa.good xp_ok (orcA_ok (t := tr176) nmsOk (kc (jc ar174 j0) k0)) (xf := f291) (by kernel_rfl) cr176
theorem ar177 : RowOk Xa.ctx 290 (r177.row 11) :=
 row2_okL Xa.good xp_ok (orcA_ok (t := tr177) nmsOk (kc (jc ar91 j0) (kc (jc ar175 j0) k0))) (xf := f290) (by kernel_rfl) cr177
theorem ar178 : RowOk Xa.ctx 325 (r178.row 11) :=
 row2_ok Xa.good xp_ok (orcA_ok (t := tr178) nmsOk (kc (jc ar159 j0) k0)) cr178
theorem ar179 : RowOk Xa.ctx 289 (r179.row 11) :=
 row2_okL Xa.good xp_ok (orcA_ok (t := tr179) nmsOk (kc (jc ar121 j0) (kc (jc ar178 j0) k0))) (xf := f289) (by kernel_rfl) cr179
theorem ar180 : RowOk Xa.ctx 325 (r180.row 11) :=
 row2_ok Xa.good xp_ok (orcA_ok (t := tr180) nmsOk (kc (jc ar159 j0) k0)) cr180
theorem ar181 : RowOk Xa.ctx 289 (r181.row 11) :=
 row2_okL Xa.good xp_ok (orcA_ok (t := tr181) nmsOk (kc (jc ar121 j0) (kc (jc ar180 j0) k0))) (xf := f289) (by kernel_rfl) cr181
theorem ar182 : RowOk Xa.ctx 325 (r182.row 11) :=
 row2_ok Xa.good xp_ok (orcA_ok (t := tr182) nmsOk (kc (jc ar155 j0) k0)) cr182
theorem ar183 : RowOk Xa.ctx 303 (r183.row 11) :=
 row2_ok Xa.good xp_ok (orcA_ok (t := tr183) nmsOk (kc (jc ar106 (jc ar17 j0)) (kc (jc ar13 j0) (kc (jc ar4 j0) k0)))) cr183
theorem ar184 : RowOk Xa.ctx 325 (r184.row 11) :=
 row2_ok Xa.good xp_ok (orcA_ok (t := tr184) nmsOk (kc (jc ar159 j0) k0)) cr184
theorem ar185 : RowOk Xa.ctx 303 (r185.row 11) :=
 row2_ok Xa.good xp_ok (orcA_ok (t := tr185) nmsOk (kc (jc ar4 j0) (kc (jc ar21 j0) (kc (jc ar17 j0) k0)))) cr185
theorem ar186 : RowOk Xa.ctx 41 (r186.row 11) :=
 row2_ok Xa.good xp_ok (orcA_ok (t := tr186) nmsOk (kc (jc ar51 (jc ar51 j0)) (kc (jc ar26 (jc ar66 (jc ar17 j0))) (kc (jc ar4 (jc ar4 j0)) k0)))) cr186
theorem ar187 : RowOk Xa.ctx 325 (r187.row 11) :=
 row2_ok Xa.good xp_ok (orcA_ok (t := tr187) nmsOk (kc (jc ar186 j0) k0)) cr187
theorem ar188 : RowOk Xa.ctx 303 (r188.row 11) :=
 row2_ok Xa.good xp_ok (orcA_ok (t := tr188) nmsOk (kc (jc ar4 (jc ar4 j0)) (kc (jc ar17 j0) k0))) cr188
theorem ar189 : RowOk Xa.ctx 41 (r189.row 11) :=
 row2_ok Xa.good xp_ok (orcA_ok (t := tr189) nmsOk (kc (jc ar21 (jc ar13 (jc ar13 (jc ar21 j0)))) (kc (jc ar17 (jc ar26 (jc ar17 j0))) k0))) cr189
theorem ar190 : RowOk Xa.ctx 325 (r190.row 11) :=
 row2_ok Xa.good xp_ok (orcA_ok (t := tr190) nmsOk (kc (jc ar189 j0) k0)) cr190
theorem ar191 : RowOk Xa.ctx 290 (r191.row 11) :=
 row2_okL Xa.good xp_ok (orcA_ok (t := tr191) nmsOk (kc (jc ar60 (jc ar183 (jc ar185 (jc ar188 j0)))) (kc (jc ar182 (jc ar184 (jc ar187 (jc ar190 j0)))) k0))) (xf := f290) (by kernel_rfl) cr191
theorem ar192 : RowOk Xa.ctx 303 (r192.row 11) :=
 row2_ok Xa.good xp_ok (orcA_ok (t := tr192) nmsOk (kc (jc ar13 j0) (kc (jc ar4 j0) (kc (jc ar17 j0) k0)))) cr192
theorem ar193 : RowOk Xa.ctx 86 (r193.row 11) :=
 row2_ok Xa.good xp_ok (orc0_ok _) cr193
theorem ar194 : RowOk Xa.ctx 325 (r194.row 11) :=
 row2_ok Xa.good xp_ok (orcA_ok (t := tr194) nmsOk (kc (jc ar51 (jc ar51 j0)) (kc (jc ar193 (jc ar66 (jc ar17 j0))) (kc (jc ar4 (jc ar4 j0)) k0)))) cr194
theorem ar195 : RowOk Xa.ctx 325 (r195.row 11) :=
 row2_ok Xa.good xp_ok (orcA_ok (t := tr195) nmsOk (kc (jc ar159 j0) k0)) cr195
theorem ar196 : RowOk Xa.ctx 303 (r196.row 11) :=
 row2_ok Xa.good xp_ok (orcA_ok (t := tr196) nmsOk (kc (jc ar13 j0) (kc (jc ar4 j0) (kc (jc ar17 j0) k0)))) cr196
theorem ar197 : RowOk Xa.ctx 325 (r197.row 11) :=
 row2_ok Xa.good xp_ok (orcA_ok (t := tr197) nmsOk (kc (jc ar186 j0) k0)) cr197
theorem ar198 : RowOk Xa.ctx 290 (r198.row 11) :=
 row2_okL Xa.good xp_ok (orcA_ok (t := tr198) nmsOk (kc (jc ar192 (jc ar183 (jc ar196 j0))) (kc (jc ar194 (jc ar195 (jc ar197 j0))) k0))) (xf := f290) (by kernel_rfl) cr198
theorem ar199 : RowOk Xa.ctx 291 (r199.row 11) :=
 row2_okL Xa.good xp_ok (orcA_ok (t := tr199) nmsOk (kc (jc ar89 (jc ar96 (jc ar174 j0))) k0)) (xf := f291) (by kernel_rfl) cr199
theorem ar200 : RowOk Xa.ctx 303 (r200.row 11) :=
 row2_ok Xa.good xp_ok (orcA_ok (t := tr200) nmsOk (kc (jc ar193 (jc ar17 j0)) (kc (jc ar4 j0) (kc (jc ar13 j0) k0)))) cr200
theorem ar201 : RowOk Xa.ctx 303 (r201.row 11) :=
 row2_ok Xa.good xp_ok (orcA_ok (t := tr201) nmsOk (kc (jc ar112 (jc ar17 j0)) (kc (jc ar4 j0) (kc (jc ar13 j0) k0)))) cr201
theorem ar202 : RowOk Xa.ctx 303 (r202.row 11) :=
 row2_ok Xa.good xp_ok (orcA_ok (t := tr202) nmsOk (kc (jc ar125 (jc ar17 j0)) (kc (jc ar4 j0) (kc (jc ar13 j0) k0)))) cr202
theorem ar203 : RowOk Xa.ctx 289 (r203.row 11) :=
 row2_okL Xa.good xp_ok (orcA_ok (t := tr203) nmsOk (kc (jc ar200 (jc ar201 (jc ar202 j0))) (kc (jc ar194 (jc ar195 (jc ar197 j0))) k0))) (xf := f289) (by kernel_rfl) cr203
theorem ar204 : RowOk Xa.ctx 291 (r204.row 11) :=
 row2_okL Xa.good xp_ok (orcA_ok (t := tr204) nmsOk (kc (jc ar174 (jc ar89 j0)) k0)) (xf := f291) (by kernel_rfl) cr204
theorem ar205 : RowOk Xa.ctx 303 (r205.row 11) :=
 row2_ok Xa.good xp_ok (orcA_ok (t := tr205) nmsOk (kc (jc ar4 (jc ar4 j0)) (kc (jc ar17 j0) k0))) cr205
theorem ar206 : RowOk Xa.ctx 325 (r206.row 11) :=
 row2_ok Xa.good xp_ok (orcA_ok (t := tr206) nmsOk (kc (jc ar159 j0) k0)) cr206
theorem ar207 : RowOk Xa.ctx 325 (r207.row 11) :=
 row2_ok Xa.good xp_ok (orcA_ok (t := tr207) nmsOk (kc (jc ar4 (jc ar4 (jc ar4 (jc ar4 j0)))) (kc (jc ar17 (jc ar112 (jc ar17 j0))) (kc (jc ar102 j0) k0)))) cr207
theorem ar208 : RowOk Xa.ctx 325 (r208.row 11) :=
 row2_ok Xa.good xp_ok (orcA_ok (t := tr208) nmsOk (kc (jc ar93 j0) k0)) cr208
theorem ar209 : RowOk Xa.ctx 290 (r209.row 11) :=
 row2_okL Xa.good xp_ok (orcA_ok (t := tr209) nmsOk (kc (jc ar205 (jc ar201 (jc ar183 (jc ar91 j0)))) (kc (jc ar175 (jc ar206 (jc ar207 (jc ar208 j0)))) k0))) (xf := f290) (by kernel_rfl) cr209
theorem ar210 : RowOk Xa.ctx 291 (r210.row 11) :=
 row2_okL Xa.good xp_ok (orcA_ok (t := tr210) nmsOk (kc (jc ar174 (jc ar89 (jc ar96 j0))) k0)) (xf := f291) (by kernel_rfl) cr210
theorem ar211 : RowOk Xa.ctx 41 (r211.row 11) :=
 row2_ok Xa.good xp_ok (orcA_ok (t := tr211) nmsOk (kc (jc ar4 (jc ar4 j0)) (kc (jc ar26 (jc ar125 (jc ar17 j0))) (kc (jc ar21 (jc ar21 j0)) k0)))) cr211
theorem ar212 : RowOk Xa.ctx 325 (r212.row 11) :=
 row2_ok Xa.good xp_ok (orcA_ok (t := tr212) nmsOk (kc (jc ar211 j0) k0)) cr212
theorem ar213 : RowOk Xa.ctx 303 (r213.row 11) :=
 row2_ok Xa.good xp_ok (orcA_ok (t := tr213) nmsOk (kc (jc ar61 (jc ar17 j0)) (kc (jc ar4 j0) (kc (jc ar21 j0) k0)))) cr213
theorem ar214 : RowOk Xa.ctx 325 (r214.row 11) :=
 row2_ok Xa.good xp_ok (orcA_ok (t := tr214) nmsOk (kc (jc ar4 (jc ar4 (jc ar4 (jc ar4 j0)))) (kc (jc ar63 (jc ar193 (jc ar17 j0))) k0))) cr214
theorem ar215 : RowOk Xa.ctx 325 (r215.row 11) :=
 row2_ok Xa.good xp_ok (orcA_ok (t := tr215) nmsOk (kc (jc ar4 (jc ar4 j0)) (kc (jc ar26 (jc ar112 (jc ar17 j0))) (kc (jc ar21 (jc ar21 j0)) k0)))) cr215
theorem ar216 : RowOk Xa.ctx 289 (r216.row 11) :=
 row2_okL Xa.good xp_ok (orcA_ok (t := tr216) nmsOk (kc (jc ar60 (jc ar213 j0)) (kc (jc ar212 (jc ar214 (jc ar215 j0))) k0))) (xf := f289) (by kernel_rfl) cr216
theorem ar217 : RowOk Xa.ctx 291 (r217.row 11) :=
 row2_okL Xa.good xp_ok (orcA_ok (t := tr217) nmsOk (kc (jc ar89 (jc ar96 j0)) k0)) (xf := f291) (by kernel_rfl) cr217
theorem ar218 : RowOk Xa.ctx 41 (r218.row 11) :=
 row2_ok Xa.good xp_ok (orcA_ok (t := tr218) nmsOk (kc (jc ar4 (jc ar4 (jc ar4 (jc ar4 j0)))) (kc (jc ar17 (jc ar112 (jc ar17 j0))) (kc (jc ar115 j0) k0)))) cr218
theorem ar219 : RowOk Xa.ctx 325 (r219.row 11) :=
 row2_ok Xa.good xp_ok (orcA_ok (t := tr219) nmsOk (kc (jc ar218 j0) k0)) cr219
theorem ar220 : RowOk Xa.ctx 303 (r220.row 11) :=
 row2_ok Xa.good xp_ok (orcA_ok (t := tr220) nmsOk (kc (jc ar112 (jc ar17 j0)) (kc (jc ar4 (jc ar4 j0)) k0))) cr220
theorem ar221 : RowOk Xa.ctx 41 (r221.row 11) :=
 row2_ok Xa.good xp_ok (orcA_ok (t := tr221) nmsOk (kc (jc ar4 (jc ar4 j0)) (kc (jc ar17 (jc ar112 (jc ar17 j0))) (kc (jc ar13 (jc ar13 j0)) (kc (jc ar115 j0) k0))))) cr221
theorem ar222 : RowOk Xa.ctx 325 (r222.row 11) :=
 row2_ok Xa.good xp_ok (orcA_ok (t := tr222) nmsOk (kc (jc ar221 j0) k0)) cr222
theorem ar223 : RowOk Xa.ctx 289 (r223.row 11) :=
 row2_okL Xa.good xp_ok (orcA_ok (t := tr223) nmsOk (kc (jc ar121 (jc ar220 j0)) (kc (jc ar219 (jc ar222 j0)) k0))) (xf := f289) (by kernel_rfl) cr223
theorem ar224 : RowOk Xa.ctx 325 (r224.row 11) :=
 row2_ok Xa.good xp_ok (orcA_ok (t := tr224) nmsOk (kc (jc ar159 j0) k0)) cr224
theorem ar225 : RowOk Xa.ctx 325 (r225.row 11) :=
 row2_ok Xa.good xp_ok (orcA_ok (t := tr225) nmsOk (kc (jc ar93 j0) k0)) cr225
theorem ar226 : RowOk Xa.ctx 289 (r226.row 11) :=
 row2_okL Xa.good xp_ok (orcA_ok (t := tr226) nmsOk (kc (jc ar121 (jc ar220 j0)) (kc (jc ar224 (jc ar225 j0)) k0))) (xf := f289) (by kernel_rfl) cr226
theorem ar227 : RowOk Xa.ctx 129 (r227.row 11) :=
 row2_ok Xa.good xp_ok (orcA_ok (t := tr227) nmsOk (kc (jc ar0 j0) k0)) cr227
theorem ar228 : RowOk Xa.ctx 130 (r228.row 11) :=
 row2_ok Xa.good xp_ok (orcA_ok (t := tr228) nmsOk (kc (jc ar2 j0) (kc (jc ar3 j0) k0))) cr228
theorem ar229 : RowOk Xa.ctx 71 (r229.row 11) :=
 row2_ok Xa.good xp_ok (orcA_ok (t := tr229) nmsOk (kc (jc ar227 j0) (kc (jc ar228 j0) (kc (jc ar4 j0) k0)))) cr229
theorem ar230 : RowOk Xa.ctx 291 (r230.row 11) :=
 row2_okL Xa.good xp_ok (orcA_ok (t := tr230) nmsOk (kc (jc ar174 (jc ar89 j0)) k0)) (xf := f291) (by kernel_rfl) cr230
theorem ar231 : RowOk Xa.ctx 303 (r231.row 11) :=
 row2_ok Xa.good xp_ok (orcA_ok (t := tr231) nmsOk (kc (jc ar21 (jc ar21 j0)) (kc (jc ar17 j0) k0))) cr231
theorem ar232 : RowOk Xa.ctx 325 (r232.row 11) :=
 row2_ok Xa.good xp_ok (orcA_ok (t := tr232) nmsOk (kc (jc ar69 j0) k0)) cr232
theorem ar233 : RowOk Xa.ctx 303 (r233.row 11) :=
 row2_ok Xa.good xp_ok (orcA_ok (t := tr233) nmsOk (kc (jc ar21 j0) (kc (jc ar4 j0) (kc (jc ar17 j0) k0)))) cr233
theorem ar234 : RowOk Xa.ctx 325 (r234.row 11) :=
 row2_ok Xa.good xp_ok (orcA_ok (t := tr234) nmsOk (kc (jc ar186 j0) k0)) cr234
theorem ar235 : RowOk Xa.ctx 325 (r235.row 11) :=
 row2_ok Xa.good xp_ok (orcA_ok (t := tr235) nmsOk (kc (jc ar4 (jc ar4 (jc ar4 (jc ar4 j0)))) (kc (jc ar26 (jc ar125 (jc ar17 j0))) k0))) cr235
theorem ar236 : RowOk Xa.ctx 325 (r236.row 11) :=
 row2_ok Xa.good xp_ok (orcA_ok (t := tr236) nmsOk (kc (jc ar93 j0) k0)) cr236
theorem ar237 : RowOk Xa.ctx 290 (r237.row 11) :=
 row2_okL Xa.good xp_ok (orcA_ok (t := tr237) nmsOk (kc (jc ar231 (jc ar233 (jc ar185 (jc ar205 j0)))) (kc (jc ar232 (jc ar234 (jc ar235 (jc ar236 j0)))) k0))) (xf := f290) (by kernel_rfl) cr237
theorem ar238 : RowOk Xa.ctx 291 (r238.row 11) :=
 row2_okL Xa.good xp_ok (orcA_ok (t := tr238) nmsOk (kc (jc ar174 (jc ar89 (jc ar96 j0))) k0)) (xf := f291) (by kernel_rfl) cr238
theorem ar239 : RowOk Xa.ctx 86 (r239.row 11) :=
 row2_ok Xa.good xp_ok (orc0_ok _) cr239
theorem ar240 : RowOk Xa.ctx 303 (r240.row 11) :=
 row2_ok Xa.good xp_ok (orcA_ok (t := tr240) nmsOk (kc (jc ar239 (jc ar17 j0)) (kc (jc ar4 j0) (kc (jc ar21 j0) k0)))) cr240
theorem ar241 : RowOk Xa.ctx 86 (r241.row 11) :=
 row2_ok Xa.good xp_ok (orc0_ok _) cr241
theorem ar242 : RowOk Xa.ctx 325 (r242.row 11) :=
 row2_ok Xa.good xp_ok (orcA_ok (t := tr242) nmsOk (kc (jc ar51 (jc ar51 j0)) (kc (jc ar241 (jc ar66 (jc ar17 j0))) (kc (jc ar4 (jc ar4 j0)) k0)))) cr242
theorem ar243 : RowOk Xa.ctx 303 (r243.row 11) :=
 row2_ok Xa.good xp_ok (orcA_ok (t := tr243) nmsOk (kc (jc ar239 (jc ar17 j0)) (kc (jc ar4 j0) (kc (jc ar21 j0) k0)))) cr243
theorem ar244 : RowOk Xa.ctx 325 (r244.row 11) :=
 row2_ok Xa.good xp_ok (orcA_ok (t := tr244) nmsOk (kc (jc ar51 (jc ar51 j0)) (kc (jc ar241 (jc ar66 (jc ar17 j0))) (kc (jc ar4 (jc ar4 j0)) k0)))) cr244
theorem ar245 : RowOk Xa.ctx 325 (r245.row 11) :=
 row2_ok Xa.good xp_ok (orcA_ok (t := tr245) nmsOk (kc (jc ar155 j0) k0)) cr245
theorem ar246 : RowOk Xa.ctx 289 (r246.row 11) :=
 row2_okL Xa.good xp_ok (orcA_ok (t := tr246) nmsOk (kc (jc ar240 (jc ar243 (jc ar60 j0))) (kc (jc ar242 (jc ar244 (jc ar245 j0))) k0))) (xf := f289) (by kernel_rfl) cr246
theorem ar247 : RowOk Xa.ctx 291 (r247.row 11) :=
 row2_okL Xa.good xp_ok (orcA_ok (t := tr247) nmsOk (kc (jc ar174 (jc ar89 (jc ar96 j0))) k0)) (xf := f291) (by kernel_rfl) cr247
theorem ar248 : RowOk Xa.ctx 303 (r248.row 11) :=
 row2_ok Xa.good xp_ok (orcA_ok (t := tr248) nmsOk (kc (jc ar4 (jc ar4 j0)) (kc (jc ar17 j0) k0))) cr248
theorem ar249 : RowOk Xa.ctx 86 (r249.row 11) :=
 row2_ok Xa.good xp_ok (orc0_ok _) cr249
theorem ar250 : RowOk Xa.ctx 325 (r250.row 11) :=
 row2_ok Xa.good xp_ok (orcA_ok (t := tr250) nmsOk (kc (jc ar4 (jc ar4 (jc ar4 (jc ar4 j0)))) (kc (jc ar249 (jc ar17 j0)) k0))) cr250
theorem ar251 : RowOk Xa.ctx 303 (r251.row 11) :=
 row2_ok Xa.good xp_ok (orcA_ok (t := tr251) nmsOk (kc (jc ar4 (jc ar4 j0)) (kc (jc ar17 j0) k0))) cr251
theorem ar252 : RowOk Xa.ctx 325 (r252.row 11) :=
 row2_ok Xa.good xp_ok (orcA_ok (t := tr252) nmsOk (kc (jc ar21 (jc ar21 j0)) (kc (jc ar193 (jc ar26 (jc ar17 j0))) (kc (jc ar4 (jc ar4 j0)) k0)))) cr252
theorem ar253 : RowOk Xa.ctx 303 (r253.row 11) :=
 row2_ok Xa.good xp_ok (orcA_ok (t := tr253) nmsOk (kc (jc ar4 (jc ar4 j0)) (kc (jc ar17 j0) k0))) cr253
theorem ar254 : RowOk Xa.ctx 325 (r254.row 11) :=
 row2_ok Xa.good xp_ok (orcA_ok (t := tr254) nmsOk (kc (jc ar4 (jc ar4 (jc ar4 (jc ar4 j0)))) (kc (jc ar127 (jc ar241 (jc ar17 j0))) k0))) cr254
theorem ar255 : RowOk Xa.ctx 289 (r255.row 11) :=
 row2_okL Xa.good xp_ok (orcA_ok (t := tr255) nmsOk (kc (jc ar248 (jc ar251 (jc ar253 j0))) (kc (jc ar250 (jc ar252 (jc ar254 j0))) k0))) (xf := f289) (by kernel_rfl) cr255
theorem ar256 : RowOk Xa.ctx 291 (r256.row 11) :=
 row2_okL Xa.good xp_ok (orcA_ok (t := tr256) nmsOk (kc (jc ar174 (jc ar89 (jc ar96 j0))) k0)) (xf := f291) (by kernel_rfl) cr256
theorem ar257 : RowOk Xa.ctx 303 (r257.row 11) :=
 row2_ok Xa.good xp_ok (orcA_ok (t := tr257) nmsOk (kc (jc ar26 (jc ar17 j0)) (kc (jc ar21 j0) (kc (jc ar4 j0) k0)))) cr257
theorem ar258 : RowOk Xa.ctx 325 (r258.row 11) :=
 row2_ok Xa.good xp_ok (orcA_ok (t := tr258) nmsOk (kc (jc ar4 (jc ar4 (jc ar4 (jc ar4 j0)))) (kc (jc ar26 (jc ar125 (jc ar17 j0))) k0))) cr258
theorem ar259 : RowOk Xa.ctx 325 (r259.row 11) :=
 row2_ok Xa.good xp_ok (orcA_ok (t := tr259) nmsOk (kc (jc ar221 j0) k0)) cr259
theorem ar260 : RowOk Xa.ctx 325 (r260.row 11) :=
 row2_ok Xa.good xp_ok (orcA_ok (t := tr260) nmsOk (kc (jc ar218 j0) k0)) cr260
theorem ar261 : RowOk Xa.ctx 289 (r261.row 11) :=
 row2_okL Xa.good xp_ok (orcA_ok (t := tr261) nmsOk (kc (jc ar257 (jc ar220 (jc ar121 j0))) (kc (jc ar258 (jc ar259 (jc ar260 j0))) k0))) (xf := f289) (by kernel_rfl) cr261
theorem ar262 : RowOk Xa.ctx 38 (r262.row 11) :=
 row2_ok Xa.good xp_ok (orcA_ok (t := tr262) nmsOk (kc (jc ar4 j0) k0)) cr262
theorem ar263 : RowOk Xa.ctx 130 (r263.row 11) :=
 row2_ok Xa.good xp_ok (orc0_ok _) cr263
theorem ar264 : RowOk Xa.ctx 35 (r264.row 11) :=
 row2_ok Xa.good xp_ok (orcA_ok (t := tr264) nmsOk (kc (jc ar227 j0) (kc (jc ar0 j0) (kc (jc ar228 (jc ar263 j0)) (kc (jc ar4 (jc ar38 j0)) k0))))) cr264
theorem ar265 : RowOk Xa.ctx 86 (r265.row 11) :=
 row2_ok Xa.good xp_ok (orc0_ok _) cr265
theorem ar266 : RowOk Xa.ctx 233 (r266.row 11) :=
 row2_ok Xa.good xp_ok (orcA_ok (t := tr266) nmsOk (kc (jc ar229 (jc ar166 j0)) (kc (jc ar13 (jc ar13 j0)) (kc (jc ar193 (jc ar17 (jc ar17 j0))) (kc (jc ar4 (jc ar4 j0)) k0))))) cr266
theorem ar267 : RowOk Xa.ctx 147 (r267.row 11) :=
 row2_ok Xa.good xp_ok (orcA_ok (t := tr267) nmsOk (kc (jc ar146 (jc ar158 j0)) (kc (jc ar152 j0) (kc (jc ar31 j0) (kc (jc ar163 (jc ar163 j0)) (kc (jc ar165 j0) (kc (jc ar7 (jc ar11 (jc ar166 (jc ar7 (jc ar166 (jc ar7 (jc ar7 (jc ar11 (jc ar166 (jc ar166 (jc ar229 (jc ar11 (jc ar54 j0))))))))))))) (kc (jc ar27 (jc ar27 (jc ar27 (jc ar262 (jc ar262 (jc ar64 j0)))))) (kc (jc ar130 (jc ar101 (jc ar67 (jc ar101 (jc ar169 (jc ar67 (jc ar169 (jc ar130 (jc ar139 (jc ar67 (jc ar159 (jc ar93 (jc ar155 (jc ar155 (jc ar155 (jc ar155 (jc ar145 (jc ar155 j0)))))))))))))))))) (kc (jc ar57 (jc ar57 (jc ar57 (jc ar57 (jc ar62 (jc ar121 (jc ar57 j0))))))) (kc (jc ar13 (jc ar13 (jc ar51 (jc ar13 (jc ar13 (jc ar13 (jc ar21 (jc ar13 (jc ar13 (jc ar13 (jc ar13 (jc ar21 (jc ar13 (jc ar21 (jc ar13 (jc ar13 (jc ar13 (jc ar13 (jc ar21 (jc ar13 (jc ar13 (jc ar21 (jc ar13 (jc ar13 (jc ar21 (jc ar13 (jc ar21 (jc ar21 j0)))))))))))))))))))))))))))) (kc (jc ar112 (jc ar17 (jc ar17 (jc ar66 (jc ar17 (jc ar106 (jc ar17 (jc ar17 (jc ar59 (jc ar106 (jc ar26 (jc ar59 (jc ar26 (jc ar112 (jc ar17 (jc ar59 (jc ar17 (jc ar59 (jc ar126 (jc ar59 (jc ar61 (jc ar17 (jc ar26 (jc ar17 (jc ar17 (jc ar59 (jc ar17 (jc ar26 (jc ar59 (jc ar26 (jc ar112 (jc ar17 (jc ar118 (jc ar26 (jc ar126 (jc ar26 (jc ar125 (jc ar125 (jc ar17 (jc ar26 (jc ar17 (jc ar63 (jc ar17 (jc ar63 (jc ar17 (jc ar63 (jc ar59 (jc ar125 (jc ar118 (jc ar157 (jc ar17 (jc ar75 (jc ar265 (jc ar265 j0)))))))))))))))))))))))))))))))))))))))))))))))))))))) (kc (jc ar4 (jc ar4 (jc ar4 (jc ar4 (jc ar38 (jc ar38 (jc ar4 (jc ar38 (jc ar38 (jc ar4 (jc ar4 (jc ar4 (jc ar4 (jc ar4 (jc ar38 (jc ar38 (jc ar4 (jc ar4 (jc ar4 (jc ar4 (jc ar4 (jc ar4 (jc ar4 (jc ar4 (jc ar4 (jc ar4 (jc ar4 (jc ar4 (jc ar4 j0))))))))))))))))))))))))))))) (kc (jc ar115 j0) (kc (jc ar16 (jc ar16 (jc ar107 (jc ar107 (jc ar16 (jc ar16 (jc ar88 (jc ar107 (jc ar16 (jc ar16 (jc ar107 (jc ar16 (jc ar16 (jc ar107 (jc ar16 (jc ar16 (jc ar107 (jc ar16 (jc ar16 (jc ar88 (jc ar88 (jc ar16 (jc ar88 (jc ar88 (jc ar88 (jc ar16 (jc ar88 j0))))))))))))))))))))))))))) (kc (jc ar105 (jc ar105 (jc ar171 (jc ar105 (jc ar105 (jc ar105 (jc ar171 (jc ar105 j0)))))))) (kc (jc ar110 j0) (kc (jc ar109 (jc ar109 (jc ar168 (jc ar109 (jc ar168 (jc ar128 j0)))))) (kc (jc ar111 (jc ar170 (jc ar108 (jc ar111 (jc ar172 (jc ar172 (jc ar111 (jc ar73 j0)))))))) (kc (jc ar52 (jc ar50 (jc ar50 (jc ar52 (jc ar50 j0))))) (kc (jc ar117 (jc ar117 (jc ar117 (jc ar117 j0)))) (kc (jc ar123 (jc ar123 (jc ar48 (jc ar48 (jc ar48 (jc ar48 (jc ar48 (jc ar48 (jc ar48 (jc ar120 (jc ar120 (jc ar48 (jc ar48 (jc ar48 (jc ar47 (jc ar46 (jc ar48 (jc ar48 (jc ar48 (jc ar47 (jc ar47 (jc ar129 (jc ar151 (jc ar129 (jc ar151 j0))))))))))))))))))))))))) (kc (jc ar124 (jc ar124 j0)) (kc (jc ar122 j0) (kc (jc ar99 (jc ar99 (jc ar99 (jc ar131 (jc ar99 j0))))) (kc (jc ar119 j0) (kc (jc ar32 j0) (kc (jc ar35 j0) (kc (jc ar30 j0) (kc (jc ar137 (jc ar56 j0)) (kc (jc ar138 j0) (kc (jc ar55 (jc ar33 (jc ar33 (jc ar34 (jc ar33 (jc ar34 (jc ar34 (jc ar34 (jc ar33 j0))))))))) (kc (jc ar173 (jc ar179 (jc ar181 (jc ar203 (jc ar216 (jc ar223 (jc ar226 (jc ar246 (jc ar179 (jc ar181 (jc ar255 (jc ar261 j0)))))))))))) (kc (jc ar174 (jc ar174 (jc ar89 (jc ar174 (jc ar89 (jc ar174 j0)))))) (kc (jc ar175 (jc ar175 (jc ar180 (jc ar175 (jc ar175 j0))))) (kc (jc ar176 (jc ar176 (jc ar199 (jc ar199 (jc ar204 (jc ar210 (jc ar217 (jc ar230 (jc ar238 (jc ar247 (jc ar176 (jc ar176 (jc ar199 (jc ar256 j0)))))))))))))) (kc (jc ar177 (jc ar191 (jc ar198 (jc ar209 (jc ar237 (jc ar177 (jc ar191 (jc ar198 j0)))))))) (kc (jc ar70 j0) (kc (jc ar12 j0) (kc (jc ar18 j0) (kc (jc ar141 j0) (kc (jc ar143 j0) (kc (jc ar45 (jc ar150 j0)) (kc (jc ar264 (jc ar264 j0)) (kc (jc ar266 j0) k0))))))))))))))))))))))))))))))))))))))))))))) cr267
theorem ar268 : RowOk Xa.ctx 5 (r268.row 11) :=
 row2_ok Xa.good xp_ok (orcA_ok (t := tr268) nmsOk (kc (jc ar31 (jc ar31 j0)) (kc (jc ar32 j0) (kc (jc ar36 (jc ar77 j0)) (kc (jc ar53 (jc ar87 j0)) (kc (jc ar29 (jc ar28 j0)) (kc (jc ar16 (jc ar88 (jc ar16 (jc ar16 (jc ar16 (jc ar107 (jc ar107 (jc ar16 (jc ar16 (jc ar88 (jc ar107 (jc ar16 (jc ar16 (jc ar107 (jc ar16 (jc ar16 (jc ar107 (jc ar16 (jc ar16 (jc ar107 (jc ar16 (jc ar16 j0)))))))))))))))))))))) (kc (jc ar90 (jc ar97 j0)) (kc (jc ar95 j0) (kc (jc ar100 j0) (kc (jc ar7 (jc ar11 (jc ar7 (jc ar7 (jc ar7 (jc ar11 j0)))))) (kc (jc ar27 (jc ar27 (jc ar27 (jc ar132 j0)))) (kc (jc ar101 (jc ar101 (jc ar101 (jc ar103 (jc ar113 (jc ar116 (jc ar116 (jc ar130 j0)))))))) (kc (jc ar57 (jc ar57 (jc ar57 (jc ar57 (jc ar57 (jc ar60 (jc ar62 (jc ar121 (jc ar57 j0))))))))) (kc (jc ar105 (jc ar105 (jc ar105 (jc ar105 (jc ar105 (jc ar105 (jc ar105 j0))))))) (kc (jc ar106 (jc ar17 (jc ar26 (jc ar59 (jc ar106 (jc ar26 (jc ar59 (jc ar26 (jc ar112 (jc ar17 (jc ar17 (jc ar112 (jc ar17 (jc ar112 (jc ar17 (jc ar17 (jc ar26 (jc ar17 (jc ar63 (jc ar17 (jc ar26 (jc ar17 (jc ar63 (jc ar26 (jc ar17 (jc ar17 (jc ar17 (jc ar63 (jc ar26 (jc ar17 (jc ar112 (jc ar17 (jc ar26 (jc ar17 (jc ar125 (jc ar17 (jc ar63 (jc ar17 (jc ar63 (jc ar63 (jc ar17 (jc ar126 (jc ar17 (jc ar127 (jc ar17 (jc ar127 (jc ar17 (jc ar127 (jc ar59 (jc ar63 (jc ar63 j0))))))))))))))))))))))))))))))))))))))))))))))))))) (kc (jc ar13 (jc ar21 (jc ar21 (jc ar13 (jc ar13 (jc ar13 (jc ar13 (jc ar13 (jc ar13 (jc ar21 (jc ar13 (jc ar13 (jc ar21 (jc ar21 (jc ar13 (jc ar13 (jc ar13 (jc ar13 (jc ar13 (jc ar21 (jc ar13 (jc ar13 (jc ar13 (jc ar13 (jc ar21 (jc ar13 (jc ar13 (jc ar21 (jc ar13 j0))))))))))))))))))))))))))))) (kc (jc ar4 (jc ar38 (jc ar38 (jc ar4 (jc ar38 (jc ar38 (jc ar4 (jc ar4 (jc ar4 (jc ar4 (jc ar4 (jc ar4 (jc ar4 (jc ar4 (jc ar4 (jc ar4 (jc ar4 (jc ar4 (jc ar4 (jc ar4 (jc ar4 (jc ar4 (jc ar4 (jc ar4 (jc ar4 (jc ar4 (jc ar4 (jc ar4 (jc ar4 (jc ar4 (jc ar4 (jc ar4 (jc ar4 (jc ar4 (jc ar4 (jc ar4 (jc ar4 (jc ar4 j0)))))))))))))))))))))))))))))))))))))) (kc (jc ar110 j0) (kc (jc ar111 (jc ar111 j0)) (kc (jc ar109 (jc ar128 j0)) (kc (jc ar102 (jc ar102 j0)) (kc (jc ar48 (jc ar48 (jc ar114 (jc ar48 (jc ar120 (jc ar120 (jc ar48 (jc ar123 (jc ar48 (jc ar48 (jc ar48 (jc ar123 (jc ar48 (jc ar48 (jc ar114 (jc ar114 (jc ar48 (jc ar48 (jc ar48 (jc ar129 (jc ar129 (jc ar48 (jc ar46 (jc ar48 (jc ar48 (jc ar48 j0)))))))))))))))))))))))))) (kc (jc ar115 j0) (kc (jc ar117 (jc ar117 (jc ar117 (jc ar117 j0)))) (kc (jc ar119 (jc ar119 j0)) (kc (jc ar122 j0) (kc (jc ar124 (jc ar124 j0)) (kc (jc ar99 (jc ar99 (jc ar131 (jc ar99 j0)))) (kc (jc ar267 j0) k0)))))))))))))))))))))))))))))) cr268
theorem ar269 : RowOk Xa.ctx 71 (r269.row 11) :=
 row2_ok Xa.good xp_ok (orcA_ok (t := tr269) nmsOk (kc (jc ar227 (jc ar8 j0)) (kc (jc ar228 (jc ar10 j0)) (kc (jc ar167 (jc ar108 j0)) k0)))) cr269
theorem ar270 : RowOk Xa.ctx 38 (r270.row 11) :=
 row2_ok Xa.good xp_ok (orcA_ok (t := tr270) nmsOk (kc (jc ar21 j0) (kc (jc ar193 (jc ar61 j0)) k0))) cr270
theorem ar271 : RowOk Xa.ctx 38 (r271.row 11) :=
 row2_ok Xa.good xp_ok (orcA_ok (t := tr271) nmsOk (kc (jc ar59 (jc ar193 j0)) (kc (jc ar13 j0) k0))) cr271
theorem ar272 : RowOk Xa.ctx 315 (r272.row 11) :=
 row2_ok Xa.good xp_ok (orcA_ok (t := tr272) nmsOk (kc (jc ar33 j0) (kc (jc ar269 j0) (kc (jc ar271 j0) k0)))) cr272
theorem ar273 : RowOk Xa.ctx 228 (r273.row 11) :=
 row2_ok Xa.good xp_ok (orcA_ok (t := tr273) nmsOk (kc (jc ar22 j0) k0)) cr273
theorem ar274 : RowOk Xa.ctx 159 (r274.row 11) :=
 row2_ok Xa.good xp_ok (orcA_ok (t := tr274) nmsOk (kc (jc ar38 (jc ar38 j0)) (kc (jc ar111 j0) k0))) cr274
theorem ar275 : RowOk Xa.ctx 160 (r275.row 11) :=
 row2_ok Xa.good xp_ok (orcA_ok (t := tr275) nmsOk (kc (jc ar38 j0) k0)) cr275
theorem ar276 : RowOk Xa.ctx 160 (r276.row 11) :=
 row2_ok Xa.good xp_ok (orcA_ok (t := tr276) nmsOk (kc (jc ar38 j0) k0)) cr276
theorem ar277 : RowOk Xa.ctx 159 (r277.row 11) :=
 row2_ok Xa.good xp_ok (orcA_ok (t := tr277) nmsOk (kc (jc ar4 j0) (kc (jc ar37 j0) (kc (jc ar276 (jc ar148 (jc ar276 j0))) k0)))) cr277
theorem ar278 : RowOk Xa.ctx 331 (r278.row 11) :=
 row2_ok Xa.good xp_ok (orcA_ok (t := tr278) nmsOk (kc (jc ar33 (jc ar55 j0)) (kc (jc ar269 j0) (kc (jc ar271 j0) k0)))) cr278
theorem ar279 : RowOk Xa.ctx 160 (r279.row 11) :=
 row2_ok Xa.good xp_ok (orcA_ok (t := tr279) nmsOk (kc (jc ar38 j0) k0)) cr279
theorem ar280 : RowOk Xa.ctx 133 (r280.row 11) :=
 row2_ok Xa.good xp_ok (orcA_ok (t := tr280) nmsOk (kc (jc ar4 j0) (kc (jc ar279 j0) k0))) cr280
theorem ar281 : RowOk Xa.ctx 86 (r281.row 11) :=
 row2_ok Xa.good xp_ok (orc0_ok _) cr281
theorem ar282 : RowOk Xa.ctx 86 (r282.row 11) :=
 row2_ok Xa.good xp_ok (orc0_ok _) cr282
theorem ar283 : RowOk Xa.ctx 38 (r283.row 11) :=
 row2_ok Xa.good xp_ok (orcA_ok (t := tr283) nmsOk (kc (jc ar4 j0) (kc (jc ar249 j0) k0))) cr283
theorem ar284 : RowOk Xa.ctx 228 (r284.row 11) :=
 row2_ok Xa.good xp_ok (orc0_ok _) cr284
theorem ar285 : RowOk Xa.ctx 159 (r285.row 11) :=
 row2_ok Xa.good xp_ok (orcA_ok (t := tr285) nmsOk (kc (jc ar38 (jc ar38 j0)) (kc (jc ar170 j0) k0))) cr285
theorem ar286 : RowOk Xa.ctx 159 (r286.row 11) :=
 row2_ok Xa.good xp_ok (orcA_ok (t := tr286) nmsOk (kc (jc ar4 (jc ar38 (jc ar38 (jc ar38 j0)))) (kc (jc ar43 j0) k0))) cr286
theorem ar287 : RowOk Xa.ctx 202 (r287.row 11) :=
 row2_ok Xa.good xp_ok (orc0_ok _) cr287
theorem ar288 : RowOk Xa.ctx 159 (r288.row 11) :=
 row2_ok Xa.good xp_ok (orcA_ok (t := tr288) nmsOk (kc (jc ar4 (jc ar38 (jc ar38 j0))) (kc (jc ar287 j0) (kc (jc ar81 j0) k0)))) cr288
theorem ar289 : RowOk Xa.ctx 95 (r289.row 11) :=
 row2_ok Xa.good xp_ok (orc0_ok _) cr289
theorem ar290 : RowOk Xa.ctx 71 (r290.row 11) :=
 row2_ok Xa.good xp_ok (orcA_ok (t := tr290) nmsOk (kc (jc ar0 j0) (kc (jc ar133 j0) (kc (jc ar2 j0) (kc (jc ar3 j0) (kc (jc ar134 j0) (kc (jc ar280 j0) k0))))))) cr290
theorem ar291 : RowOk Xa.ctx 71 (r291.row 11) :=
 row2_ok Xa.good xp_ok (orcA_ok (t := tr291) nmsOk (kc (jc ar1 j0) (kc (jc ar0 j0) (kc (jc ar6 (jc ar263 j0)) (kc (jc ar38 j0) k0))))) cr291
theorem ar292 : RowOk Xa.ctx 373 (r292.row 11) :=
 row2_ok Xa.good xp_ok (orcA_ok (t := tr292) nmsOk (kc (jc ar59 (jc ar193 (jc ar59 (jc ar249 (jc ar282 (jc ar63 j0)))))) (kc (jc ar13 (jc ar13 j0)) (kc (jc ar38 (jc ar4 (jc ar4 (jc ar4 j0)))) (kc (jc ar279 j0) k0))))) cr292
theorem ar293 : RowOk Xa.ctx 86 (r293.row 11) :=
 row2_ok Xa.good xp_ok (orc0_ok _) cr293
theorem ar294 : RowOk Xa.ctx 41 (r294.row 11) :=
 row2_ok Xa.good xp_ok (orcA_ok (t := tr294) nmsOk (kc (jc ar51 (jc ar51 j0)) (kc (jc ar17 (jc ar293 j0)) (kc (jc ar92 j0) (kc (jc ar142 j0) k0))))) cr294
theorem ar295 : RowOk Xa.ctx 160 (r295.row 11) :=
 row2_ok Xa.good xp_ok (orcA_ok (t := tr295) nmsOk (kc (jc ar38 j0) k0)) cr295
theorem ar296 : RowOk Xa.ctx 187 (r296.row 11) :=
 row2_ok Xa.good xp_ok (orcA_ok (t := tr296) nmsOk (kc (jc ar16 j0) (kc (jc ar13 j0) (kc (jc ar142 j0) k0)))) cr296
theorem ar297 : RowOk Xa.ctx 91 (r297.row 11) :=
 row2_ok Xa.good xp_ok (orcA_ok (t := tr297) nmsOk (kc (jc ar38 j0) k0)) cr297
theorem ar298 : RowOk Xa.ctx 160 (r298.row 11) :=
 row2_ok Xa.good xp_ok (orcA_ok (t := tr298) nmsOk (kc (jc ar38 j0) k0)) cr298
theorem ar299 : RowOk Xa.ctx 160 (r299.row 11) :=
 row2_ok Xa.good xp_ok (orcA_ok (t := tr299) nmsOk (kc (jc ar38 j0) k0)) cr299
theorem ar300 : RowOk Xa.ctx 202 (r300.row 11) :=
 row2_ok Xa.good xp_ok (orc0_ok _) cr300
theorem ar301 : RowOk Xa.ctx 160 (r301.row 11) :=
 row2_ok Xa.good xp_ok (orcA_ok (t := tr301) nmsOk (kc (jc ar38 j0) k0)) cr301
theorem ar302 : RowOk Xa.ctx 308 (r302.row 11) :=
 row2_ok Xa.good xp_ok (orcA_ok (t := tr302) nmsOk (kc (jc ar4 (jc ar38 (jc ar4 j0))) k0)) cr302
theorem ar303 : RowOk Xa.ctx 160 (r303.row 11) :=
 row2_ok Xa.good xp_ok (orcA_ok (t := tr303) nmsOk (kc (jc ar38 j0) k0)) cr303
theorem ar304 : RowOk Xa.ctx 95 (r304.row 11) :=
 row2_ok Xa.good xp_ok (orc0_ok _) cr304
theorem ar305 : RowOk Xa.ctx 95 (r305.row 11) :=
 row2_ok Xa.good xp_ok (orc0_ok _) cr305
theorem ar306 : RowOk Xa.ctx 147 (r306.row 11) :=
 row2_ok Xa.good xp_ok (orcA_ok (t := tr306) nmsOk (kc (jc ar32 (jc ar32 j0)) (kc (jc ar272 (jc ar272 j0)) (kc (jc ar30 (jc ar30 j0)) (kc (jc ar33 (jc ar33 j0)) (kc (jc ar290 (jc ar291 (jc ar290 (jc ar291 j0)))) (kc (jc ar282 (jc ar249 (jc ar282 (jc ar144 (jc ar282 (jc ar249 (jc ar144 (jc ar17 (jc ar144 (jc ar282 (jc ar193 (jc ar26 j0)))))))))))) (kc (jc ar13 (jc ar13 (jc ar13 (jc ar13 (jc ar51 (jc ar51 (jc ar21 j0))))))) (kc (jc ar278 (jc ar278 j0)) (kc (jc ar292 (jc ar292 j0)) (kc (jc ar294 (jc ar294 (jc ar93 j0))) (kc (jc ar295 (jc ar298 (jc ar298 (jc ar111 (jc ar299 (jc ar301 (jc ar81 (jc ar301 (jc ar170 (jc ar303 (jc ar276 (jc ar148 (jc ar295 j0))))))))))))) (kc (jc ar38 (jc ar38 (jc ar4 (jc ar4 (jc ar38 (jc ar38 (jc ar38 (jc ar4 (jc ar4 (jc ar4 (jc ar38 (jc ar38 (jc ar4 (jc ar38 (jc ar38 (jc ar38 (jc ar38 (jc ar38 (jc ar4 (jc ar38 (jc ar4 (jc ar38 (jc ar38 (jc ar38 j0)))))))))))))))))))))))) (kc (jc ar70 j0) (kc (jc ar12 j0) (kc (jc ar18 j0) (kc (jc ar149 (jc ar22 (jc ar300 (jc ar37 (jc ar287 j0))))) (kc (jc ar296 j0) (kc (jc ar297 j0) (kc (jc ar302 (jc ar147 j0)) (kc (jc ar46 (jc ar47 (jc ar304 (jc ar84 (jc ar129 (jc ar305 (jc ar46 (jc ar47 (jc ar304 (jc ar84 (jc ar129 (jc ar305 j0)))))))))))) (kc (jc ar153 (jc ar153 j0)) (kc (jc ar168 j0) (kc (jc ar107 j0) (kc (jc ar58 j0) k0))))))))))))))))))))))))) cr306
theorem ar307 : RowOk Xa.ctx 315 (r307.row 11) :=
 row2_ok Xa.good xp_ok (orcA_ok (t := tr307) nmsOk (kc (jc ar269 j0) (kc (jc ar34 j0) (kc (jc ar270 j0) k0)))) cr307
theorem ar308 : RowOk Xa.ctx 331 (r308.row 11) :=
 row2_ok Xa.good xp_ok (orcA_ok (t := tr308) nmsOk (kc (jc ar269 j0) (kc (jc ar34 (jc ar55 j0)) (kc (jc ar270 j0) k0)))) cr308
theorem ar309 : RowOk Xa.ctx 38 (r309.row 11) :=
 row2_ok Xa.good xp_ok (orcA_ok (t := tr309) nmsOk (kc (jc ar4 j0) (kc (jc ar249 j0) k0))) cr309
theorem ar310 : RowOk Xa.ctx 38 (r310.row 11) :=
 row2_ok Xa.good xp_ok (orcA_ok (t := tr310) nmsOk (kc (jc ar4 (jc ar4 j0)) (kc (jc ar118 (jc ar63 j0)) k0))) cr310
theorem ar311 : RowOk Xa.ctx 86 (r311.row 11) :=
 row2_ok Xa.good xp_ok (orc0_ok _) cr311
theorem ar312 : RowOk Xa.ctx 92 (r312.row 11) :=
 row2_ok Xa.good xp_ok (orcA_ok (t := tr312) nmsOk (kc (jc ar38 j0) k0)) cr312
theorem ar313 : RowOk Xa.ctx 373 (r313.row 11) :=
 row2_ok Xa.good xp_ok (orcA_ok (t := tr313) nmsOk (kc (jc ar4 (jc ar4 (jc ar4 (jc ar4 (jc ar4 j0))))) (kc (jc ar249 (jc ar63 (jc ar239 (jc ar193 (jc ar59 j0))))) (kc (jc ar312 j0) (kc (jc ar108 j0) k0))))) cr313
theorem ar314 : RowOk Xa.ctx 11 (r314.row 11) :=
 row2_ok Xa.good xp_ok (orcA_ok (t := tr314) nmsOk (kc (jc ar32 (jc ar32 (jc ar32 (jc ar32 (jc ar32 j0))))) (kc (jc ar307 (jc ar307 (jc ar307 (jc ar307 j0)))) (kc (jc ar28 (jc ar29 (jc ar30 (jc ar30 j0)))) (kc (jc ar273 (jc ar284 j0)) (kc (jc ar274 (jc ar277 (jc ar285 (jc ar286 j0)))) (kc (jc ar4 (jc ar4 (jc ar4 (jc ar4 (jc ar38 (jc ar4 (jc ar4 (jc ar4 (jc ar9 (jc ar38 (jc ar38 (jc ar4 (jc ar4 (jc ar38 (jc ar38 (jc ar4 (jc ar4 (jc ar4 (jc ar38 (jc ar38 (jc ar38 (jc ar38 (jc ar4 (jc ar38 (jc ar38 (jc ar4 (jc ar38 (jc ar38 (jc ar38 (jc ar4 j0)))))))))))))))))))))))))))))) (kc (jc ar275 (jc ar172 (jc ar170 (jc ar299 (jc ar81 (jc ar111 (jc ar303 j0))))))) (kc (jc ar45 (jc ar78 (jc ar83 (jc ar150 j0)))) (kc (jc ar129 (jc ar47 (jc ar47 (jc ar129 (jc ar47 (jc ar289 (jc ar84 (jc ar84 (jc ar289 (jc ar84 (jc ar84 (jc ar48 (jc ar46 (jc ar85 (jc ar46 (jc ar84 (jc ar304 (jc ar47 (jc ar129 (jc ar151 (jc ar46 (jc ar84 (jc ar304 (jc ar47 (jc ar129 (jc ar151 j0)))))))))))))))))))))))))) (kc (jc ar50 (jc ar52 j0)) (kc (jc ar308 (jc ar308 (jc ar308 (jc ar308 j0)))) (kc (jc ar61 (jc ar59 (jc ar126 (jc ar26 (jc ar249 (jc ar311 (jc ar249 (jc ar311 (jc ar59 (jc ar157 (jc ar249 (jc ar311 (jc ar282 (jc ar193 (jc ar26 (jc ar59 (jc ar156 j0))))))))))))))))) (kc (jc ar280 j0) (kc (jc ar21 (jc ar21 (jc ar51 (jc ar51 (jc ar21 j0))))) (kc (jc ar128 (jc ar128 (jc ar168 (jc ar128 j0)))) (kc (jc ar309 (jc ar309 (jc ar310 (jc ar310 (jc ar309 (jc ar310 (jc ar270 (jc ar270 j0)))))))) (kc (jc ar62 (jc ar65 (jc ar65 (jc ar68 j0)))) (kc (jc ar67 (jc ar67 (jc ar69 (jc ar76 (jc ar139 (jc ar145 (jc ar139 (jc ar154 (jc ar155 j0))))))))) (kc (jc ar74 j0) (kc (jc ar86 j0) (kc (jc ar290 (jc ar135 (jc ar136 (jc ar290 (jc ar135 (jc ar136 j0)))))) (kc (jc ar313 (jc ar313 j0)) (kc (jc ar70 j0) (kc (jc ar12 j0) (kc (jc ar18 j0) (kc (jc ar141 j0) (kc (jc ar143 j0) (kc (jc ar302 j0) (kc (jc ar43 j0) (kc (jc ar153 (jc ar153 j0)) (kc (jc ar107 j0) k0)))))))))))))))))))))))))))))))) cr314
theorem ar315 : RowOk Xa.ctx 130 (r315.row 11) :=
 row2_ok Xa.good xp_ok (orcA_ok (t := tr315) nmsOk (kc (jc ar2 j0) (kc (jc ar3 j0) k0))) cr315
theorem ar316 : RowOk Xa.ctx 5 (r316.row 11) :=
 row2_ok Xa.good xp_ok (orcA_ok (t := tr316) nmsOk (kc (jc ar31 j0) (kc (jc ar32 (jc ar32 (jc ar32 (jc ar32 j0)))) (kc (jc ar36 (jc ar77 (jc ar146 (jc ar158 j0)))) (kc (jc ar53 (jc ar87 (jc ar152 j0))) (kc (jc ar7 (jc ar11 (jc ar7 (jc ar11 (jc ar7 (jc ar11 (jc ar269 j0))))))) (kc (jc ar27 (jc ar27 (jc ar270 (jc ar271 (jc ar271 (jc ar271 (jc ar271 (jc ar271 (jc ar283 (jc ar283 j0)))))))))) (kc (jc ar38 (jc ar4 (jc ar4 (jc ar4 (jc ar4 (jc ar4 (jc ar38 (jc ar4 (jc ar38 (jc ar38 (jc ar38 (jc ar4 (jc ar4 (jc ar9 j0)))))))))))))) (kc (jc ar105 j0) (kc (jc ar189 (jc ar67 (jc ar67 j0))) (kc (jc ar23 (jc ar287 j0)) (kc (jc ar168 (jc ar168 (jc ar168 (jc ar142 j0)))) (kc (jc ar120 (jc ar123 (jc ar46 (jc ar129 (jc ar47 (jc ar129 (jc ar47 (jc ar46 (jc ar289 (jc ar84 (jc ar46 (jc ar151 (jc ar289 (jc ar84 (jc ar46 (jc ar151 (jc ar48 (jc ar123 (jc ar123 (jc ar120 (jc ar151 j0))))))))))))))))))))) (kc (jc ar13 (jc ar13 (jc ar13 (jc ar51 (jc ar51 (jc ar13 (jc ar51 (jc ar51 (jc ar51 (jc ar51 j0)))))))))) (kc (jc ar193 (jc ar59 (jc ar193 (jc ar26 (jc ar59 (jc ar61 (jc ar281 (jc ar281 (jc ar281 (jc ar26 (jc ar26 (jc ar282 (jc ar249 (jc ar249 (jc ar63 (jc ar17 (jc ar144 (jc ar265 j0)))))))))))))))))) (kc (jc ar272 (jc ar272 j0)) (kc (jc ar28 (jc ar29 j0)) (kc (jc ar41 (jc ar41 j0)) (kc (jc ar273 (jc ar284 (jc ar284 j0))) (kc (jc ar274 (jc ar277 (jc ar285 (jc ar286 (jc ar288 j0))))) (kc (jc ar275 (jc ar108 (jc ar279 (jc ar279 (jc ar108 (jc ar167 (jc ar108 j0))))))) (kc (jc ar49 (jc ar52 (jc ar49 j0))) (kc (jc ar278 (jc ar278 j0)) (kc (jc ar57 (jc ar68 j0)) (kc (jc ar280 (jc ar280 j0)) (kc (jc ar70 j0) (kc (jc ar12 j0) (kc (jc ar18 j0) (kc (jc ar141 j0) (kc (jc ar143 j0) (kc (jc ar5 j0) (kc (jc ar42 j0) (kc (jc ar306 j0) (kc (jc ar314 j0) (kc (jc ar1 (jc ar8 (jc ar1 (jc ar133 (jc ar133 (jc ar8 (jc ar227 j0))))))) (kc (jc ar6 (jc ar10 (jc ar6 (jc ar134 (jc ar315 (jc ar134 (jc ar315 (jc ar10 (jc ar228 j0))))))))) (kc (jc ar0 (jc ar0 (jc ar0 j0))) (kc (jc ar264 j0) k0)))))))))))))))))))))))))))))))))))))) cr316
theorem ar317 : RowOk Xa.ctx 169 (r317.row 11) :=
 row_cases (g := 3) (el := 3) (n := 3) (by kernel_rfl) (by kernel_rfl) (row2_know Xa.good xp_ok (orc0_ok _) cr317a) (row2_know Xa.good xp_ok (orc0_ok _) cr317b)
theorem ar318 : RowOk Xa.ctx 169 (r318.row 11) :=
 row_cases (g := 3) (el := 3) (n := 3) (by kernel_rfl) (by kernel_rfl) (row2_know Xa.good xp_ok (orc0_ok _) cr318a) (row2_know Xa.good xp_ok (orc0_ok _) cr318b)
theorem ar319 : RowOk Xa.ctx 169 (r319.row 11) :=
 row_cases (g := 3) (el := 3) (n := 3) (by kernel_rfl) (by kernel_rfl) (row2_know Xa.good xp_ok (orc0_ok _) cr319a) (row2_know Xa.good xp_ok (orc0_ok _) cr319b)
theorem ar320 : RowOk Xa.ctx 169 (r320.row 11) :=
 row_cases (g := 3) (el := 3) (n := 8) (by kernel_rfl) (by kernel_rfl) (row2_know Xa.good xp_ok (orc0_ok _) cr320a) (row2_know Xa.good xp_ok (orc0_ok _) cr320b)
theorem ar321 : RowOk Xa.ctx 169 (r321.row 11) :=
 row_cases (g := 3) (el := 3) (n := 7) (by kernel_rfl) (by kernel_rfl) (row2_know Xa.good xp_ok (orc0_ok _) cr321a) (row2_know Xa.good xp_ok (orc0_ok _) cr321b)
theorem ar322 : RowOk Xa.ctx 169 (r322.row 11) :=
 row_cases (g := 3) (el := 3) (n := 7) (by kernel_rfl) (by kernel_rfl) (row2_know Xa.good xp_ok (orc0_ok _) cr322a) (row2_know Xa.good xp_ok (orc0_ok _) cr322b)
theorem ar323 : RowOk Xa.ctx 169 (r323.row 11) :=
 row_cases (g := 3) (el := 3) (n := 6) (by kernel_rfl) (by kernel_rfl) (row2_know Xa.good xp_ok (orc0_ok _) cr323a) (row2_know Xa.good xp_ok (orc0_ok _) cr323b)
theorem ar324 : RowOk Xa.ctx 169 (r324.row 11) :=
 row_cases (g := 3) (el := 3) (n := 6) (by kernel_rfl) (by kernel_rfl) (row2_know Xa.good xp_ok (orc0_ok _) cr324a) (row2_know Xa.good xp_ok (orc0_ok _) cr324b)
theorem ar325 : RowOk Xa.ctx 121 (r325.row 11) :=
 row2_ok Xa.good xp_ok (orcA_ok (t := tr325) nmsOk (kc (jc ar11 (jc ar7 j0)) (kc (jc ar13 (jc ar21 j0)) (kc (jc ar26 (jc ar17 j0)) k0)))) cr325
theorem ar326 : RowOk Xa.ctx 169 (r326.row 11) :=
 row_cases (g := 3) (el := 3) (n := 5) (by kernel_rfl) (by kernel_rfl) (row2_know Xa.good xp_ok (orc0_ok _) cr326a) (row2_know Xa.good xp_ok (orc0_ok _) cr326b)
theorem ar327 : RowOk Xa.ctx 169 (r327.row 11) :=
 row_cases (g := 3) (el := 3) (n := 8) (by kernel_rfl) (by kernel_rfl) (row2_know Xa.good xp_ok (orc0_ok _) cr327a) (row2_know Xa.good xp_ok (orc0_ok _) cr327b)
theorem ar328 : RowOk Xa.ctx 7 (r328.row 11) :=
 row2_ok Xa.good xp_ok (orcA_ok (t := tr328) nmsOk (kc (jc ar317 (jc ar318 (jc ar317 (jc ar319 (jc ar317 (jc ar318 (jc ar319 (jc ar319 (jc ar318 (jc ar319 (jc ar320 (jc ar321 (jc ar322 (jc ar323 (jc ar324 (jc ar326 (jc ar327 j0))))))))))))))))) (kc (jc ar38 (jc ar4 j0)) (kc (jc ar12 j0) (kc (jc ar7 (jc ar7 j0)) (kc (jc ar13 (jc ar13 j0)) (kc (jc ar17 (jc ar17 j0)) (kc (jc ar20 j0) (kc (jc ar99 j0) (kc (jc ar325 (jc ar325 j0)) (kc (jc ar123 (jc ar123 j0)) k0))))))))))) cr328
theorem ar329 : RowOk Xa.ctx 10 (r329.row 11) :=
 row2_ok Xa.good xp_ok (orcA_ok (t := tr329) nmsOk (kc (jc ar54 (jc ar7 (jc ar11 (jc ar11 j0)))) (kc (jc ar12 j0) (kc (jc ar20 j0) (kc (jc ar28 j0) k0))))) cr329
theorem ar330 : RowOk Xa.ctx 80 (r330.row 11) :=
 row2_ok Xa.good xp_ok (orcA_ok (t := tr330) nmsOk (kc (jc ar329 j0) (kc (jc ar28 j0) k0))) cr330
theorem ar331 : RowOk Xa.ctx 315 (r331.row 11) :=
 row2_ok Xa.good xp_ok (orcA_ok (t := tr331) nmsOk (kc (jc ar55 (jc ar33 j0)) k0)) cr331
theorem ar332 : RowOk Xa.ctx 253 (r332.row 11) :=
 row2_ok Xa.good xp_ok (orcA_ok (t := tr332) nmsOk (kc (jc ar330 j0) (kc (jc ar331 j0) (kc (jc ar28 j0) k0)))) cr332
theorem ar333 : RowOk Xa.ctx 235 (r333.row 11) :=
 row2_ok Xa.good xp_ok (orcA_ok (t := tr333) nmsOk (kc (jc ar15 j0) (kc (jc ar37 j0) (kc (jc ar13 j0) (kc (jc ar42 j0) (kc (jc ar40 j0) k0)))))) cr333
theorem ar334 : RowOk Xa.ctx 199 (r334.row 11) :=
 row2_ok Xa.good xp_ok (orcA_ok (t := tr334) nmsOk (kc (jc ar333 j0) (kc (jc ar46 j0) (kc (jc ar52 (jc ar49 (jc ar52 j0))) k0)))) cr334
theorem ar335 : RowOk Xa.ctx 253 (r335.row 11) :=
 row2_ok Xa.good xp_ok (orcA_ok (t := tr335) nmsOk (kc (jc ar330 j0) (kc (jc ar331 j0) (kc (jc ar55 (jc ar33 (jc ar55 j0))) k0)))) cr335
theorem ar336 : RowOk Xa.ctx 135 (r336.row 11) :=
 row2_ok Xa.good xp_ok (orcA_ok (t := tr336) nmsOk (kc (jc ar51 j0) k0)) cr336
theorem ar337 : RowOk Xa.ctx 41 (r337.row 11) :=
 row2_ok Xa.good xp_ok (orcA_ok (t := tr337) nmsOk (kc (jc ar4 (jc ar4 j0)) (kc (jc ar66 (jc ar293 (jc ar17 j0))) (kc (jc ar51 (jc ar51 j0)) k0)))) cr337
theorem ar338 : RowOk Xa.ctx 367 (r338.row 11) :=
 row2_ok Xa.good xp_ok (orcA_ok (t := tr338) nmsOk (kc (jc ar12 j0) (kc (jc ar24 j0) (kc (jc ar25 (jc ar336 (jc ar336 (jc ar336 (jc ar336 (jc ar336 (jc ar336 j0))))))) (kc (jc ar4 (jc ar38 (jc ar4 (jc ar4 (jc ar4 (jc ar4 (jc ar4 (jc ar4 (jc ar38 (jc ar38 (jc ar4 (jc ar4 (jc ar4 (jc ar4 (jc ar4 (jc ar4 (jc ar4 (jc ar4 (jc ar4 (jc ar38 (jc ar38 (jc ar38 (jc ar4 (jc ar4 (jc ar4 (jc ar4 (jc ar4 (jc ar4 (jc ar38 (jc ar4 (jc ar38 (jc ar4 (jc ar38 (jc ar4 (jc ar4 (jc ar4 (jc ar38 (jc ar38 j0)))))))))))))))))))))))))))))))))))))) (kc (jc ar293 (jc ar17 (jc ar125 (jc ar19 (jc ar17 (jc ar66 (jc ar17 j0))))))) (kc (jc ar51 (jc ar51 (jc ar51 (jc ar51 (jc ar51 (jc ar51 (jc ar51 (jc ar51 (jc ar51 (jc ar51 j0)))))))))) (kc (jc ar16 j0) (kc (jc ar79 (jc ar79 j0)) (kc (jc ar80 (jc ar80 j0)) (kc (jc ar18 j0) (kc (jc ar67 (jc ar67 (jc ar67 (jc ar67 (jc ar337 (jc ar337 j0)))))) k0)))))))))))) cr338
theorem ar339 : RowOk Xa.ctx 253 (r339.row 11) :=
 row2_ok Xa.good xp_ok (orcA_ok (t := tr339) nmsOk (kc (jc ar330 j0) (kc (jc ar331 j0) (kc (jc ar34 j0) (kc (jc ar338 j0) (kc (jc ar211 j0) k0)))))) cr339
theorem ar340 : RowOk Xa.ctx 199 (r340.row 11) :=
 row2_ok Xa.good xp_ok (orcA_ok (t := tr340) nmsOk (kc (jc ar24 j0) (kc (jc ar21 j0) (kc (jc ar4 (jc ar4 j0)) (kc (jc ar39 j0) (kc (jc ar44 j0) (kc (jc ar45 j0) (kc (jc ar47 (jc ar47 j0)) (kc (jc ar50 (jc ar50 (jc ar52 j0))) k0))))))))) cr340
theorem ar341 : RowOk Xa.ctx 331 (r341.row 11) :=
 row2_ok Xa.good xp_ok (orcA_ok (t := tr341) nmsOk (kc (jc ar55 (jc ar33 (jc ar55 j0))) k0)) cr341
theorem ar342 : RowOk Xa.ctx 38 (r342.row 11) :=
 row2_ok Xa.good xp_ok (orcA_ok (t := tr342) nmsOk (kc (jc ar21 (jc ar21 j0)) (kc (jc ar26 (jc ar26 j0)) k0))) cr342
theorem ar343 : RowOk Xa.ctx 331 (r343.row 11) :=
 row2_ok Xa.good xp_ok (orcA_ok (t := tr343) nmsOk (kc (jc ar34 (jc ar34 (jc ar55 j0))) (kc (jc ar342 j0) k0))) cr343
theorem ar344 : RowOk Xa.ctx 303 (r344.row 11) :=
 row2_ok Xa.good xp_ok (orcA_ok (t := tr344) nmsOk (kc (jc ar13 (jc ar51 j0)) (kc (jc ar17 j0) k0))) cr344
theorem ar345 : RowOk Xa.ctx 369 (r345.row 11) :=
 row2_ok Xa.good xp_ok (orcA_ok (t := tr345) nmsOk (kc (jc ar342 j0) k0)) cr345
theorem ar346 : RowOk Xa.ctx 179 (r346.row 11) :=
 row2_ok Xa.good xp_ok (orcA_ok (t := tr346) nmsOk (kc (jc ar4 j0) (kc (jc ar66 (jc ar282 j0)) (kc (jc ar51 j0) k0)))) cr346
theorem ar347 : RowOk Xa.ctx 38 (r347.row 11) :=
 row2_ok Xa.good xp_ok (orcA_ok (t := tr347) nmsOk (kc (jc ar51 (jc ar51 j0)) (kc (jc ar66 (jc ar66 j0)) k0))) cr347
theorem ar348 : RowOk Xa.ctx 377 (r348.row 11) :=
 row2_ok Xa.good xp_ok (orcA_ok (t := tr348) nmsOk (kc (jc ar16 (jc ar16 j0)) (kc (jc ar110 (jc ar110 j0)) (kc (jc ar66 (jc ar59 (jc ar17 (jc ar59 (jc ar66 (jc ar59 (jc ar17 (jc ar59 (jc ar59 (jc ar59 j0)))))))))) (kc (jc ar51 (jc ar13 (jc ar51 (jc ar13 j0)))) (kc (jc ar109 (jc ar109 j0)) (kc (jc ar347 j0) k0))))))) cr348
theorem ar349 : RowOk Xa.ctx 38 (r349.row 11) :=
 row2_ok Xa.good xp_ok (orcA_ok (t := tr349) nmsOk (kc (jc ar4 j0) (kc (jc ar17 j0) k0))) cr349
theorem ar350 : RowOk Xa.ctx 133 (r350.row 11) :=
 row2_ok Xa.good xp_ok (orcA_ok (t := tr350) nmsOk (kc (jc ar38 j0) k0)) cr350
theorem ar351 : RowOk Xa.ctx 322 (r351.row 11) :=
 row2_ok Xa.good xp_ok (orcA_ok (t := tr351) nmsOk (kc (jc ar70 j0) (kc (jc ar349 (jc ar349 j0)) (kc (jc ar12 j0) (kc (jc ar18 j0) (kc (jc ar23 (jc ar22 j0)) (kc (jc ar16 j0) (kc (jc ar13 j0) (kc (jc ar38 j0) (kc (jc ar350 j0) k0)))))))))) cr351
theorem ar352 : RowOk Xa.ctx 86 (r352.row 11) :=
 row2_ok Xa.good xp_ok (orc0_ok _) cr352
theorem ar353 : RowOk Xa.ctx 41 (r353.row 11) :=
 row2_ok Xa.good xp_ok (orcA_ok (t := tr353) nmsOk (kc (jc ar51 (jc ar51 j0)) (kc (jc ar17 (jc ar352 j0)) (kc (jc ar5 j0) (kc (jc ar350 j0) k0))))) cr353
theorem ar354 : RowOk Xa.ctx 253 (r354.row 11) :=
 row2_ok Xa.good xp_ok (orcA_ok (t := tr354) nmsOk (kc (jc ar330 j0) (kc (jc ar331 j0) (kc (jc ar341 (jc ar343 j0)) (kc (jc ar155 (jc ar155 (jc ar67 (jc ar169 (jc ar353 j0))))) (kc (jc ar344 (jc ar65 (jc ar62 j0))) (kc (jc ar342 j0) (kc (jc ar345 (jc ar345 j0)) (kc (jc ar346 j0) (kc (jc ar348 j0) (kc (jc ar351 j0) k0))))))))))) cr354
theorem ar355 : RowOk Xa.ctx 235 (r355.row 11) :=
 row2_ok Xa.good xp_ok (orcA_ok (t := tr355) nmsOk (kc (jc ar23 (jc ar22 (jc ar300 (jc ar300 j0)))) (kc (jc ar298 (jc ar298 (jc ar111 (jc ar299 (jc ar301 (jc ar81 (jc ar301 j0))))))) (kc (jc ar4 (jc ar4 (jc ar4 j0))) k0)))) cr355
theorem ar356 : RowOk Xa.ctx 95 (r356.row 11) :=
 row2_ok Xa.good xp_ok (orc0_ok _) cr356
theorem ar357 : RowOk Xa.ctx 199 (r357.row 11) :=
 row2_ok Xa.good xp_ok (orcA_ok (t := tr357) nmsOk (kc (jc ar355 j0) (kc (jc ar38 (jc ar38 (jc ar38 (jc ar4 (jc ar38 (jc ar38 j0)))))) (kc (jc ar42 j0) (kc (jc ar81 j0) (kc (jc ar46 (jc ar47 (jc ar46 (jc ar356 (jc ar46 (jc ar47 (jc ar46 (jc ar356 j0)))))))) (kc (jc ar52 j0) k0))))))) cr357
theorem ar358 : RowOk Xa.ctx 253 (r358.row 11) :=
 row2_ok Xa.good xp_ok (orcA_ok (t := tr358) nmsOk (kc (jc ar330 j0) (kc (jc ar331 j0) (kc (jc ar34 j0) (kc (jc ar338 j0) (kc (jc ar211 j0) k0)))))) cr358
theorem ar359 : RowOk Xa.ctx 253 (r359.row 11) :=
 row2_ok Xa.good xp_ok (orcA_ok (t := tr359) nmsOk (kc (jc ar330 j0) (kc (jc ar331 j0) (kc (jc ar341 (jc ar343 j0)) (kc (jc ar155 (jc ar155 (jc ar67 (jc ar169 (jc ar353 j0))))) (kc (jc ar344 (jc ar65 (jc ar62 j0))) (kc (jc ar342 j0) (kc (jc ar345 (jc ar345 j0)) (kc (jc ar346 j0) (kc (jc ar348 j0) (kc (jc ar351 j0) k0))))))))))) cr359
theorem ar360 : RowOk Xa.ctx 288 (r360.row 11) :=
 row2_ok Xa.good xp_ok (orcA_ok (t := tr360) nmsOk (kc (jc ar1 (jc ar8 j0)) (kc (jc ar6 (jc ar10 j0)) (kc (jc ar108 j0) k0)))) cr360
theorem ar361 : RowOk Xa.ctx 130 (r361.row 11) :=
 row2_ok Xa.good xp_ok (orc0_ok _) cr361
theorem ar362 : RowOk Xa.ctx 331 (r362.row 11) :=
 row2_ok Xa.good xp_ok (orcA_ok (t := tr362) nmsOk (kc (jc ar55 (jc ar360 j0)) (kc (jc ar1 j0) (kc (jc ar0 j0) (kc (jc ar6 (jc ar361 j0)) (kc (jc ar350 j0) k0)))))) cr362
theorem ar363 : RowOk Xa.ctx 351 (r363.row 11) :=
 row2_ok Xa.good xp_ok (orcA_ok (t := tr363) nmsOk (kc (jc ar67 j0) (kc (jc ar59 (jc ar59 (jc ar61 j0))) (kc (jc ar38 (jc ar38 j0)) (kc (jc ar170 j0) k0))))) cr363
theorem ar364 : RowOk Xa.ctx 160 (r364.row 11) :=
 row2_ok Xa.good xp_ok (orcA_ok (t := tr364) nmsOk (kc (jc ar38 j0) k0)) cr364
theorem ar365 : RowOk Xa.ctx 86 (r365.row 11) :=
 row2_ok Xa.good xp_ok (orc0_ok _) cr365
theorem ar366 : RowOk Xa.ctx 253 (r366.row 11) :=
 row2_ok Xa.good xp_ok (orcA_ok (t := tr366) nmsOk (kc (jc ar330 j0) (kc (jc ar331 j0) (kc (jc ar362 (jc ar362 j0)) (kc (jc ar363 j0) (kc (jc ar352 (jc ar352 (jc ar112 (jc ar365 (jc ar156 (jc ar156 (jc ar365 j0))))))) (kc (jc ar364 (jc ar364 j0)) (kc (jc ar38 (jc ar4 (jc ar4 (jc ar4 (jc ar38 (jc ar4 (jc ar4 (jc ar38 (jc ar38 (jc ar38 j0)))))))))) (kc (jc ar70 j0) (kc (jc ar12 j0) (kc (jc ar18 j0) (kc (jc ar296 j0) (kc (jc ar297 j0) k0))))))))))))) cr366
theorem ar367 : RowOk Xa.ctx 235 (r367.row 11) :=
 row2_ok Xa.good xp_ok (orcA_ok (t := tr367) nmsOk (kc (jc ar4 (jc ar4 j0)) (kc (jc ar14 j0) (kc (jc ar42 j0) (kc (jc ar40 j0) k0))))) cr367
theorem ar368 : RowOk Xa.ctx 199 (r368.row 11) :=
 row2_ok Xa.good xp_ok (orcA_ok (t := tr368) nmsOk (kc (jc ar367 j0) (kc (jc ar149 j0) (kc (jc ar38 (jc ar38 (jc ar38 j0))) (kc (jc ar42 j0) (kc (jc ar288 j0) (kc (jc ar46 (jc ar46 (jc ar151 (jc ar46 (jc ar151 j0))))) (kc (jc ar52 (jc ar49 j0)) k0)))))))) cr368
theorem ar369 : RowOk Xa.ctx 197 (r369.row 11) :=
 row2_ok Xa.good xp_ok (orcA_ok (t := tr369) nmsOk (kc (jc ar54 (jc ar54 (jc ar7 (jc ar7 (jc ar291 (jc ar54 j0)))))) (kc (jc ar347 (jc ar132 j0)) k0))) cr369
theorem ar370 : RowOk Xa.ctx 235 (r370.row 11) :=
 row2_ok Xa.good xp_ok (orcA_ok (t := tr370) nmsOk (kc (jc ar38 (jc ar38 (jc ar38 j0))) (kc (jc ar42 j0) (kc (jc ar82 j0) k0)))) cr370
theorem ar371 : RowOk Xa.ctx 38 (r371.row 11) :=
 row2_ok Xa.good xp_ok (orcA_ok (t := tr371) nmsOk (kc (jc ar4 j0) k0)) cr371
theorem ar372 : RowOk Xa.ctx 38 (r372.row 11) :=
 row2_ok Xa.good xp_ok (orcA_ok (t := tr372) nmsOk (kc (jc ar4 j0) k0)) cr372
theorem ar373 : RowOk Xa.ctx 150 (r373.row 11) :=
 row2_ok Xa.good xp_ok (orcA_ok (t := tr373) nmsOk (kc (jc ar330 (jc ar330 (jc ar330 (jc ar330 (jc ar330 (jc ar330 j0)))))) (kc (jc ar331 (jc ar331 (jc ar331 (jc ar331 (jc ar331 (jc ar331 j0)))))) (kc (jc ar55 (jc ar33 (jc ar34 (jc ar55 (jc ar33 (jc ar34 (jc ar55 (jc ar360 j0)))))))) (kc (jc ar136 (jc ar136 j0)) (kc (jc ar333 (jc ar83 (jc ar355 (jc ar367 (jc ar370 j0))))) (kc (jc ar46 (jc ar46 (jc ar85 (jc ar46 (jc ar47 (jc ar304 (jc ar356 (jc ar46 (jc ar47 (jc ar304 (jc ar356 (jc ar46 (jc ar46 (jc ar85 j0)))))))))))))) (kc (jc ar86 (jc ar86 j0)) (kc (jc ar52 (jc ar49 (jc ar52 (jc ar52 (jc ar49 j0))))) (kc (jc ar338 (jc ar338 j0)) (kc (jc ar211 (jc ar155 (jc ar155 (jc ar211 (jc ar155 (jc ar155 (jc ar67 (jc ar169 (jc ar353 j0))))))))) (kc (jc ar340 (jc ar340 (jc ar357 j0))) (kc (jc ar343 (jc ar341 (jc ar343 (jc ar362 j0)))) (kc (jc ar344 (jc ar62 (jc ar344 (jc ar65 (jc ar62 j0))))) (kc (jc ar342 (jc ar371 (jc ar371 (jc ar342 (jc ar372 (jc ar372 j0)))))) (kc (jc ar26 (jc ar75 (jc ar112 (jc ar17 (jc ar144 (jc ar59 (jc ar352 (jc ar144 (jc ar352 (jc ar118 (jc ar365 (jc ar365 j0)))))))))))) (kc (jc ar21 (jc ar51 (jc ar51 (jc ar13 j0)))) (kc (jc ar38 (jc ar38 (jc ar4 (jc ar9 (jc ar38 (jc ar38 (jc ar38 (jc ar38 (jc ar38 (jc ar38 (jc ar38 (jc ar38 (jc ar38 (jc ar4 (jc ar38 (jc ar4 (jc ar4 (jc ar38 (jc ar4 (jc ar38 (jc ar38 (jc ar38 (jc ar4 (jc ar4 (jc ar9 (jc ar38 (jc ar38 (jc ar38 j0)))))))))))))))))))))))))))) (kc (jc ar111 (jc ar172 (jc ar303 (jc ar303 (jc ar364 (jc ar167 (jc ar108 j0))))))) (kc (jc ar5 j0) (kc (jc ar72 (jc ar142 j0)) (kc (jc ar345 (jc ar345 (jc ar345 (jc ar345 j0)))) (kc (jc ar348 (jc ar348 j0)) (kc (jc ar70 (jc ar70 j0)) (kc (jc ar12 (jc ar12 j0)) (kc (jc ar18 (jc ar18 j0)) (kc (jc ar149 (jc ar287 j0)) (kc (jc ar16 j0) (kc (jc ar350 j0) (kc (jc ar346 j0) (kc (jc ar351 j0) (kc (jc ar0 (jc ar0 j0)) (kc (jc ar315 (jc ar361 j0)) (kc (jc ar363 j0) (kc (jc ar296 j0) (kc (jc ar297 j0) k0)))))))))))))))))))))))))))))))))))) cr373
theorem ar374 : RowOk Xa.ctx 86 (r374.row 11) :=
 row2_ok Xa.good xp_ok (orc0_ok _) cr374
theorem ar375 : RowOk Xa.ctx 160 (r375.row 11) :=
 row2_ok Xa.good xp_ok (orcA_ok (t := tr375) nmsOk (kc (jc ar38 j0) k0)) cr375
theorem ar376 : RowOk Xa.ctx 133 (r376.row 11) :=
 row2_ok Xa.good xp_ok (orcA_ok (t := tr376) nmsOk (kc (jc ar9 j0) (kc (jc ar375 j0) k0))) cr376
theorem ar377 : RowOk Xa.ctx 160 (r377.row 11) :=
 row2_ok Xa.good xp_ok (orcA_ok (t := tr377) nmsOk (kc (jc ar38 j0) k0)) cr377
theorem ar378 : RowOk Xa.ctx 41 (r378.row 11) :=
 row2_ok Xa.good xp_ok (orcA_ok (t := tr378) nmsOk (kc (jc ar281 (jc ar239 j0)) (kc (jc ar376 j0) (kc (jc ar375 (jc ar377 j0)) k0)))) cr378
theorem ar379 : RowOk Xa.ctx 38 (r379.row 11) :=
 row2_ok Xa.good xp_ok (orcA_ok (t := tr379) nmsOk (kc (jc ar4 j0) k0)) cr379
theorem ar380 : RowOk Xa.ctx 147 (r380.row 11) :=
 row2_ok Xa.good xp_ok (orcA_ok (t := tr380) nmsOk (kc (jc ar146 (jc ar158 j0)) (kc (jc ar152 j0) (kc (jc ar32 j0) (kc (jc ar35 j0) (kc (jc ar30 (jc ar30 (jc ar29 (jc ar28 (jc ar28 (jc ar29 (jc ar30 j0))))))) (kc (jc ar137 (jc ar56 (jc ar56 (jc ar137 j0)))) (kc (jc ar138 j0) (kc (jc ar139 (jc ar189 (jc ar103 (jc ar113 (jc ar378 (jc ar378 (jc ar104 (jc ar116 (jc ar145 j0))))))))) (kc (jc ar4 (jc ar4 (jc ar38 (jc ar4 (jc ar4 (jc ar4 (jc ar9 (jc ar38 (jc ar4 (jc ar4 (jc ar38 (jc ar38 (jc ar38 (jc ar38 (jc ar38 (jc ar4 (jc ar4 (jc ar4 (jc ar38 (jc ar38 (jc ar38 (jc ar38 (jc ar4 (jc ar38 (jc ar4 (jc ar4 (jc ar38 (jc ar38 (jc ar38 (jc ar38 j0)))))))))))))))))))))))))))))) (kc (jc ar23 (jc ar23 (jc ar300 j0))) (kc (jc ar168 (jc ar168 j0)) (kc (jc ar16 j0) (kc (jc ar280 (jc ar280 (jc ar280 (jc ar280 (jc ar376 j0))))) (kc (jc ar374 (jc ar374 (jc ar374 (jc ar374 (jc ar374 (jc ar374 (jc ar374 (jc ar374 (jc ar374 (jc ar374 (jc ar374 (jc ar374 (jc ar112 (jc ar118 (jc ar59 (jc ar118 (jc ar265 (jc ar265 (jc ar374 (jc ar281 (jc ar311 j0))))))))))))))))))))) (kc (jc ar57 (jc ar58 (jc ar57 (jc ar58 (jc ar57 (jc ar58 (jc ar57 (jc ar58 j0)))))))) (kc (jc ar27 (jc ar27 (jc ar27 (jc ar27 (jc ar132 (jc ar342 (jc ar27 (jc ar27 (jc ar27 (jc ar27 (jc ar132 (jc ar342 (jc ar379 (jc ar379 (jc ar310 j0))))))))))))))) (kc (jc ar105 j0) (kc (jc ar375 (jc ar377 (jc ar377 (jc ar377 (jc ar295 (jc ar275 (jc ar148 (jc ar148 j0)))))))) (kc (jc ar70 j0) (kc (jc ar12 j0) (kc (jc ar18 j0) (kc (jc ar141 j0) (kc (jc ar143 j0) (kc (jc ar286 j0) (kc (jc ar150 j0) (kc (jc ar129 (jc ar84 (jc ar289 (jc ar84 (jc ar129 (jc ar151 (jc ar129 (jc ar84 (jc ar289 (jc ar84 (jc ar129 (jc ar151 j0)))))))))))) (kc (jc ar264 (jc ar264 j0)) (kc (jc ar290 j0) (kc (jc ar227 (jc ar133 j0)) (kc (jc ar228 (jc ar134 j0)) (kc (jc ar266 j0) k0)))))))))))))))))))))))))))))))) cr380
theorem ar381 : RowOk Xa.ctx 8 (r381.row 11) :=
 row2_ok Xa.good xp_ok (orcA_ok (t := tr381) nmsOk (kc (jc ar31 (jc ar31 j0)) (kc (jc ar32 (jc ar32 (jc ar32 j0))) (kc (jc ar36 (jc ar77 (jc ar146 (jc ar158 (jc ar36 (jc ar77 j0)))))) (kc (jc ar53 (jc ar87 (jc ar152 (jc ar53 (jc ar87 j0))))) (kc (jc ar35 j0) (kc (jc ar29 (jc ar29 (jc ar28 (jc ar28 (jc ar29 j0))))) (kc (jc ar56 (jc ar56 (jc ar56 j0))) (kc (jc ar57 (jc ar58 (jc ar60 (jc ar62 (jc ar65 (jc ar65 (jc ar68 (jc ar57 (jc ar58 (jc ar57 (jc ar58 (jc ar57 (jc ar58 (jc ar57 (jc ar58 j0))))))))))))))) (kc (jc ar27 (jc ar27 (jc ar64 (jc ar64 (jc ar27 (jc ar64 (jc ar27 (jc ar27 (jc ar27 (jc ar27 (jc ar27 (jc ar27 (jc ar132 (jc ar342 (jc ar27 (jc ar27 (jc ar27 (jc ar27 (jc ar132 (jc ar342 (jc ar64 j0))))))))))))))))))))) (kc (jc ar67 (jc ar67 (jc ar189 (jc ar103 (jc ar113 (jc ar69 (jc ar76 (jc ar116 (jc ar116 j0))))))))) (kc (jc ar4 (jc ar4 (jc ar38 (jc ar4 (jc ar4 (jc ar4 (jc ar4 (jc ar4 (jc ar4 (jc ar4 (jc ar4 (jc ar4 (jc ar4 (jc ar4 j0)))))))))))))) (kc (jc ar23 (jc ar23 j0)) (kc (jc ar168 (jc ar312 j0)) (kc (jc ar16 j0) (kc (jc ar280 (jc ar280 (jc ar280 (jc ar280 j0)))) (kc (jc ar374 (jc ar374 (jc ar374 (jc ar374 (jc ar374 (jc ar374 (jc ar374 (jc ar374 (jc ar374 (jc ar374 (jc ar374 (jc ar374 (jc ar59 (jc ar249 (jc ar63 (jc ar249 (jc ar63 (jc ar282 (jc ar112 (jc ar311 (jc ar17 (jc ar63 (jc ar75 (jc ar75 (jc ar118 (jc ar118 j0)))))))))))))))))))))))))) (kc (jc ar105 j0) (kc (jc ar172 (jc ar172 (jc ar111 (jc ar279 j0)))) (kc (jc ar13 (jc ar13 j0)) (kc (jc ar74 j0) (kc (jc ar41 j0) (kc (jc ar78 (jc ar83 j0)) (kc (jc ar46 (jc ar84 (jc ar84 (jc ar48 (jc ar46 (jc ar85 j0)))))) (kc (jc ar86 j0) (kc (jc ar49 j0) (kc (jc ar136 (jc ar136 (jc ar135 (jc ar7 (jc ar135 (jc ar7 j0)))))) (kc (jc ar380 j0) k0)))))))))))))))))))))))))))) cr381
theorem ar382 : RowOk Xa.ctx 3 (r382.row 11) :=
 row2_ok Xa.good xp_ok (orcA_ok (t := tr382) nmsOk (kc (jc ar268 (jc ar316 j0)) (kc (jc ar328 j0) (kc (jc ar329 (jc ar329 j0)) (kc (jc ar330 (jc ar330 (jc ar330 j0))) (kc (jc ar332 (jc ar335 (jc ar339 (jc ar354 (jc ar358 (jc ar359 (jc ar366 (jc ar332 (jc ar335 (jc ar339 (jc ar354 (jc ar358 (jc ar359 (jc ar366 j0)))))))))))))) (kc (jc ar334 (jc ar334 (jc ar340 (jc ar357 (jc ar340 (jc ar357 (jc ar368 (jc ar334 (jc ar334 (jc ar340 (jc ar357 (jc ar340 (jc ar357 (jc ar368 j0)))))))))))))) (kc (jc ar369 (jc ar369 j0)) (kc (jc ar54 (jc ar54 (jc ar7 (jc ar7 (jc ar54 (jc ar291 (jc ar54 (jc ar7 (jc ar291 (jc ar54 (jc ar7 (jc ar54 (jc ar54 (jc ar54 (jc ar7 (jc ar7 (jc ar136 (jc ar136 (jc ar54 (jc ar54 (jc ar7 (jc ar7 (jc ar54 (jc ar136 (jc ar136 j0))))))))))))))))))))))))) (kc (jc ar347 (jc ar132 (jc ar347 (jc ar132 (jc ar347 (jc ar132 j0)))))) (kc (jc ar99 (jc ar86 (jc ar99 (jc ar86 j0)))) (kc (jc ar48 (jc ar151 (jc ar46 (jc ar46 (jc ar85 (jc ar48 (jc ar85 (jc ar46 (jc ar46 (jc ar85 j0)))))))))) (kc (jc ar67 (jc ar67 (jc ar93 (jc ar294 j0)))) (kc (jc ar51 (jc ar13 (jc ar13 (jc ar51 j0)))) (kc (jc ar4 (jc ar4 (jc ar38 (jc ar38 (jc ar38 j0))))) (kc (jc ar17 (jc ar17 (jc ar17 (jc ar144 (jc ar144 (jc ar75 (jc ar75 j0))))))) (kc (jc ar115 j0) (kc (jc ar14 j0) (kc (jc ar142 j0) (kc (jc ar333 (jc ar370 (jc ar333 (jc ar83 j0)))) (kc (jc ar52 (jc ar49 (jc ar52 (jc ar49 j0)))) (kc (jc ar373 j0) (kc (jc ar331 j0) (kc (jc ar55 (jc ar33 j0)) (kc (jc ar381 j0) k0))))))))))))))))))))))))) cr382
end Go.AM.Xk
