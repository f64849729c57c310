/- Every evaluated call holds of the model; no condition. -/
import Derived.Test.YtnbgimpdclpgbaaGreatDoorR1
import Derived.Test.YtnbgimpdclpgbaaGreatDoorR2
set_option linter.all false
namespace Go.bA.jO
open Go.bA.c3
set_option maxRecDepth 100000
def oK:kt.Ok/\kt.aX=bS.ctx.a3/\∀g,g<bS.ctx.a3->kt.cx.get g=some g:=acV br br j
def Gd:ef bS.ctx 208 (iU.row 11):=
 sH (n:=3) br br (lu bS.ea eo (gv _) ajm)<|lu bS.ea eo (gv _) ajn
def Ge:ef bS.ctx 208 (ew.row 11):=
 sH (n:=3) br br (lu bS.ea eo (gv _) ajo)<|lu bS.ea eo (gv _) ajp
def Ln:ef bS.ctx 208 (ft.row 11):=
 sH (n:=3) br br (lu bS.ea eo (gv _) ajq)<|lu bS.ea eo (gv _) ajr
def VJ:ef bS.ctx 208 (mA.row 11):=
 sH (n:=3) br br (lu bS.ea eo (gv _) ajs)<|lu bS.ea eo (gv _) ajt
def aki:ef bS.ctx 208 (sU.row 11):=
 sH (n:=8) br br (lu bS.ea eo (gv _) aju)<|lu bS.ea eo (gv _) ajv
def akj:ef bS.ctx 208 (wZ.row 11):=
 sH (n:=7) br br (lu bS.ea eo (gv _) ajw)<|lu bS.ea eo (gv _) ajx
def VK:ef bS.ctx 179 (zh.row 11):=
 jw bS.ea eo (gv _) ajy
def VL:ef bS.ctx 179 (zi.row 11):=
 jw bS.ea eo (gv _) ajz
def VM:ef bS.ctx 26 (F1.row 11):=
 jw bS.ea eo (gv _) ajA
def akk:ef bS.ctx 208 (F2.row 11):=
 sH (n:=5) br br (lu bS.ea eo (gv _) ajB)<|lu bS.ea eo (gv _) ajC
def akl:ef bS.ctx 208 (F3.row 11):=
 sH (n:=5) br br (lu bS.ea eo (gv _) ajD)<|lu bS.ea eo (gv _) ajE
def akm:ef bS.ctx 208 (F4.row 11):=
 sH (n:=8) br br (lu bS.ea eo (gv _) ajF)<|lu bS.ea eo (gv _) ajG
def Gf:ef bS.ctx 30 (zj.row 11):=
 jw bS.ea eo (rS oK<|hT (c8 VK<|c8 VL hI) a9) ajI
def VN:ef bS.ctx 154 (F5.row 11):=
 jw bS.ea eo (gv _) ajJ
def uG:ef bS.ctx 158 (r8.row 11):=
 jw bS.ea eo (rS oK<|hT (c8 Gf hI) a9) ajL
def sV:ef bS.ctx 154 (qI.row 11):=
 jw bS.ea eo (gv _) ajM
def B9:ef bS.ctx 33 (w0.row 11):=
 jw bS.ea eo (gv _) ajN
def Gg:ef bS.ctx 154 (zk.row 11):=
 jw bS.ea eo (gv _) ajO
def VO:ef bS.ctx 345 (F6.row 11):=
 jw bS.ea eo (gv _) ajP
def VP:ef bS.ctx 346 (F7.row 11):=
 jw bS.ea eo (gv _) ajQ
def VQ:ef bS.ctx 170 (F8.row 11):=
 jw bS.ea eo (gv _) ajR
def VR:ef bS.ctx 397 (F9.row 11):=
 jw bS.ea eo (gv _) ajS
def VS:ef bS.ctx 345 (Ga.row 11):=
 jw bS.ea eo (gv _) ajT
def akn:ef bS.ctx 25 (LF.row 11):=
 jw bS.ea eo (rS oK<|hT (c8 uG hI)<|hT (c8 Gg<|c8 sV<|c8 sV<|c8 Gg hI)<|hT (c8 VR<|c8 VR hI)<|hT (c8 VS<|c8 VS hI) a9) ajV
def VT:ef bS.ctx 186 (Gb.row 11):=
 jw bS.ea eo (gv _) ajW
def ako:ef bS.ctx 101 (LG.row 11):=
 yI bS.ea eo (rS oK<|hT (c8 VT hI) a9) br ajY
def akp:ef bS.ctx 15 (LH.row 11):=
 jw bS.ea eo (gv _) ajZ
def akq:ef bS.ctx 99 (LI.row 11):=
 jw bS.ea eo (gv _) aj0
def akr:ef bS.ctx 102 (LJ.row 11):=
 yI bS.ea eo (rS oK<|hT (c8 akp hI)<|hT (c8 akq hI) a9) br aj2
def VU:ef bS.ctx 186 (Gc.row 11):=
 jw bS.ea eo (gv _) aj3
def aks:ef bS.ctx 101 (LK.row 11):=
 yI bS.ea eo (rS oK<|hT (c8 VU hI) a9) br aj5
def akt:ef bS.ctx 15 (LL.row 11):=
 jw bS.ea eo (gv _) aj6
def aku:ef bS.ctx 99 (LM.row 11):=
 jw bS.ea eo (gv _) aj7
def akv:ef bS.ctx 104 (LN.row 11):=
 yI bS.ea eo (rS oK<|hT (c8 akt hI)<|hT (c8 aku hI) a9) br aj9
def akw:ef bS.ctx 101 (LO.row 11):=
 yI bS.ea eo (rS oK<|hT (c8 VU<|c8 VT hI) a9) br akb
def akx:ef bS.ctx 107 (LP.row 11):=
 jw bS.ea eo (gv _) akc
def aky:ef bS.ctx 26 (LQ.row 11):=
 jw bS.ea eo (gv _) akd
def akz:ef bS.ctx 34 (LR.row 11):=
 yI bS.ea eo (rS oK<|hT (c8 akx hI)<|hT (c8 aky<|c8 VM hI) a9) br akf
def akA:ef bS.ctx 6 (j8.row 11):=
 jw bS.ea eo (rS oK<|hT (c8 Gd<|c8 Ge<|c8 Gd<|c8 Ln<|c8 Gd<|c8 Ge<|c8 Ge<|c8 VJ<|c8 Gd<|c8 Ln<|c8 Ge<|c8 VJ<|c8 aki<|c8 akj<|c8 akk<|c8 akl<|c8 akm hI)<|hT (c8 VK<|c8 VL hI)<|hT (c8 VM hI)<|hT (c8 Gf<|c8 Gf<|c8 Gf hI)<|hT (c8 VN<|c8 sV<|c8 Gg<|c8 sV<|c8 sV<|c8 Gg<|c8 sV<|c8 VN<|c8 sV<|c8 sV<|c8 sV hI)<|hT (c8 uG<|c8 uG<|c8 uG<|c8 uG<|c8 uG<|c8 uG<|c8 uG hI)<|hT (c8 B9<|c8 B9<|c8 B9<|c8 B9<|c8 B9 hI)<|hT (c8 VO<|c8 VO hI)<|hT (c8 VP<|c8 VP hI)<|hT (c8 VQ<|c8 VQ hI)<|hT (c8 akn hI)<|hT (c8 ako<|c8 aks<|c8 akw hI)<|hT (c8 akr hI)<|hT (c8 akv hI)<|hT (c8 akz hI) a9) akh
