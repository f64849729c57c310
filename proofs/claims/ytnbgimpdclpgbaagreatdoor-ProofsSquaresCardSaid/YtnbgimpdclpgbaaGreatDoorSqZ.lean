/- Every evaluated call holds of the model; no condition. -/
import Derived.Test.YtnbgimpdclpgbaaGreatDoorSqR1
import Derived.Test.YtnbgimpdclpgbaaGreatDoorSqR2
set_option linter.all false
namespace Go.bC.kL
open Go.bC.dg
set_option maxRecDepth 100000
def pk:k6.Ok/\k6.aT=b5.ctx.a3/\∀g,g<b5.ctx.a3->k6.cB.get g=some g:=ada bu bu j
def Gy:e8 b5.ctx 208 (jK.row 11):=
 th (n:=3) bu bu (lZ b5.eh ez (gF _) ajg)<|lZ b5.eh ez (gF _) ajh
def Gz:e8 b5.ctx 208 (eG.row 11):=
 th (n:=3) bu bu (lZ b5.eh ez (gF _) aji)<|lZ b5.eh ez (gF _) ajj
def Ws:e8 b5.ctx 208 (fD.row 11):=
 th (n:=3) bu bu (lZ b5.eh ez (gF _) ajk)<|lZ b5.eh ez (gF _) ajl
def Wt:e8 b5.ctx 208 (m5.row 11):=
 th (n:=3) bu bu (lZ b5.eh ez (gF _) ajm)<|lZ b5.eh ez (gF _) ajn
def Wu:e8 b5.ctx 179 (zE.row 11):=
 jP b5.eh ez (gF _) ajs
def Wv:e8 b5.ctx 179 (zF.row 11):=
 jP b5.eh ez (gF _) ajt
def Ww:e8 b5.ctx 26 (Gp.row 11):=
 jP b5.eh ez (gF _) aju
def GA:e8 b5.ctx 30 (zG.row 11):=
 jP b5.eh ez (sl pk<|ih (di Wu<|di Wv h3) a8) ajC
def Wx:e8 b5.ctx 154 (Gq.row 11):=
 jP b5.eh ez (gF _) ajD
def u9:e8 b5.ctx 158 (sA.row 11):=
 jP b5.eh ez (sl pk<|ih (di GA h3) a8) ajF
def tt:e8 b5.ctx 154 (rh.row 11):=
 jP b5.eh ez (gF _) ajG
def CC:e8 b5.ctx 33 (xr.row 11):=
 jP b5.eh ez (gF _) ajH
def GB:e8 b5.ctx 154 (zH.row 11):=
 jP b5.eh ez (gF _) ajI
def Wy:e8 b5.ctx 345 (Gr.row 11):=
 jP b5.eh ez (gF _) ajJ
def Wz:e8 b5.ctx 346 (Gs.row 11):=
 jP b5.eh ez (gF _) ajK
def WA:e8 b5.ctx 170 (Gt.row 11):=
 jP b5.eh ez (gF _) ajL
def WB:e8 b5.ctx 397 (Gu.row 11):=
 jP b5.eh ez (gF _) ajM
def WC:e8 b5.ctx 345 (Gv.row 11):=
 jP b5.eh ez (gF _) ajN
def WD:e8 b5.ctx 186 (Gw.row 11):=
 jP b5.eh ez (gF _) ajQ
def akc:e8 b5.ctx 15 (Mb.row 11):=
 jP b5.eh ez (gF _) ajT
def akd:e8 b5.ctx 99 (Mc.row 11):=
 jP b5.eh ez (gF _) ajU
def WE:e8 b5.ctx 186 (Gx.row 11):=
 jP b5.eh ez (gF _) ajX
def ake:e8 b5.ctx 15 (Md.row 11):=
 jP b5.eh ez (gF _) aj0
def akf:e8 b5.ctx 99 (Me.row 11):=
 jP b5.eh ez (gF _) aj1
def akg:e8 b5.ctx 107 (Mf.row 11):=
 jP b5.eh ez (gF _) aj6
def akh:e8 b5.ctx 26 (Mg.row 11):=
 jP b5.eh ez (gF _) aj7
def aki:e8 b5.ctx 6 (k7.row 11):=
 jP b5.eh ez (sl pk<|ih (di Gy<|di Gz<|di Gy<|di Ws<|di Gy<|di Gz<|di Gz<|di Wt<|di Gy<|di Ws<|di Gz<|di Wt<|di (th (n:=8) bu bu (lZ b5.eh ez (gF _) ajo)<|lZ b5.eh ez (gF _) ajp)<|di (th (n:=7) bu bu (lZ b5.eh ez (gF _) ajq)<|lZ b5.eh ez (gF _) ajr)<|di (th (n:=5) bu bu (lZ b5.eh ez (gF _) ajv)<|lZ b5.eh ez (gF _) ajw)<|di (th (n:=5) bu bu (lZ b5.eh ez (gF _) ajx)<|lZ b5.eh ez (gF _) ajy)<|di (th (n:=8) bu bu (lZ b5.eh ez (gF _) ajz)<|lZ b5.eh ez (gF _) ajA) h3)<|ih (di Wu<|di Wv h3)<|ih (di Ww h3)<|ih (di GA<|di GA<|di GA h3)<|ih (di Wx<|di tt<|di GB<|di tt<|di tt<|di GB<|di tt<|di Wx<|di tt<|di tt<|di tt h3)<|ih (di u9<|di u9<|di u9<|di u9<|di u9<|di u9<|di u9 h3)<|ih (di CC<|di CC<|di CC<|di CC<|di CC h3)<|ih (di Wy<|di Wy h3)<|ih (di Wz<|di Wz h3)<|ih (di WA<|di WA h3)<|ih (di (jP b5.eh ez (sl pk<|ih (di u9 h3)<|ih (di GB<|di tt<|di tt<|di GB h3)<|ih (di WB<|di WB h3)<|ih (di WC<|di WC h3) a8) ajP) h3)<|ih (di (y5 b5.eh ez (sl pk<|ih (di WD h3) a8) bu ajS)<|di (y5 b5.eh ez (sl pk<|ih (di WE h3) a8) bu ajZ)<|di (y5 b5.eh ez (sl pk<|ih (di WE<|di WD h3) a8) bu aj5) h3)<|ih (di (y5 b5.eh ez (sl pk<|ih (di akc h3)<|ih (di akd h3) a8) bu ajW) h3)<|ih (di (y5 b5.eh ez (sl pk<|ih (di ake h3)<|ih (di akf h3) a8) bu aj3) h3)<|ih (di (y5 b5.eh ez (sl pk<|ih (di akg h3)<|ih (di akh<|di Ww h3) a8) bu aj9) h3) a8) akb
