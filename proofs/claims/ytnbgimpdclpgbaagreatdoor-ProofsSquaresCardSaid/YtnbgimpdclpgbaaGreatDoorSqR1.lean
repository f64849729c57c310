/- Calls of the program, evaluated by the kernel on the abstract machine; no condition. -/
import Derived.Test.YtnbgimpdclpgbaaGreatDoorSqT
import Derived.Test.YtnbgimpdclpgbaaGreatDoorSqD
set_option linter.all false
namespace Go.bC.kL
open Go.bC.dg
set_option maxRecDepth 100000
def ajg:jK.k1 11 4 3 8 aL gm 2000 208=true:=bu
def ajh:jK.k1 11 4 3 9 aL gm 2000 208=true:=bu
def aji:eG.k1 11 4 3 8 aL gm 2000 208=true:=bu
def ajj:eG.k1 11 4 3 9 aL gm 2000 208=true:=bu
def ajk:fD.k1 11 4 3 8 aL gm 2000 208=true:=bu
def ajl:fD.k1 11 4 3 9 aL gm 2000 208=true:=bu
def ajm:m5.k1 11 4 3 8 aL gm 2000 208=true:=bu
def ajn:m5.k1 11 4 3 9 aL gm 2000 208=true:=bu
def ajo:u7.k1 11 4 3 18 aL gm 2000 208=true:=bu
def ajp:u7.k1 11 4 3 19 aL gm 2000 208=true:=bu
def ajq:zD.k1 11 4 3 16 aL gm 2000 208=true:=bu
def ajr:zD.k1 11 4 3 17 aL gm 2000 208=true:=bu
def ajs:zE.ew 11 aL gm 2000 179=true:=bu
def ajt:zF.ew 11 aL gm 2000 179=true:=bu
def aju:Gp.ew 11 aL gm 2000 26=true:=bu
def ajv:L8.k1 11 4 3 12 aL gm 2000 208=true:=bu
def ajw:L8.k1 11 4 3 13 aL gm 2000 208=true:=bu
def ajx:L9.k1 11 4 3 12 aL gm 2000 208=true:=bu
def ajy:L9.k1 11 4 3 13 aL gm 2000 208=true:=bu
def ajz:Ma.k1 11 4 3 18 aL gm 2000 208=true:=bu
def ajA:Ma.k1 11 4 3 19 aL gm 2000 208=true:=bu
def ajB:ac (Nat×ac (Nat×dr)):=[(179,[(55,zE),(150,zF)])]
def ajC:zG.ew 11 aL (qU k6 ajB) 2000 30=true:=bu
def ajD:Gq.ew 11 aL gm 2000 154=true:=bu
def ajE:ac (Nat×ac (Nat×dr)):=[(30,[(16,zG)])]
def ajF:sA.ew 11 aL (qU k6 ajE) 2000 158=true:=bu
def ajG:rh.ew 11 aL gm 2000 154=true:=bu
def ajH:xr.ew 11 aL gm 2000 33=true:=bu
def ajI:zH.ew 11 aL gm 2000 154=true:=bu
def ajJ:Gr.ew 11 aL gm 2000 345=true:=bu
def ajK:Gs.ew 11 aL gm 2000 346=true:=bu
def ajL:Gt.ew 11 aL gm 2000 170=true:=bu
def ajM:Gu.ew 11 aL gm 2000 397=true:=bu
def ajN:Gv.ew 11 aL gm 2000 345=true:=bu
def ajO:ac (Nat×ac (Nat×dr)):=[(158,[(28,sA)]),(154,[(378,zH),(453,rh),(600,rh),(663,zH)]),(397,[(805,Gu),(856,Gu)]),(345,[(933,Gv),(1067,Gv)])]
def ajP:Wl.ew 11 aL (qU k6 ajO) 2000 25=true:=bu
def ajQ:Gw.ew 11 aL gm 2000 186=true:=bu
def ajR:ac (Nat×ac (Nat×dr)):=[(186,[(0,Gw)])]
def ajS:Wm.p2 11 [11,12] aL (qU k6 ajR) 2000 101 Cx.1=true:=bu
def ajT:Mb.ew 11 aL gm 2000 15=true:=bu
def ajU:Mc.ew 11 aL gm 2000 99=true:=bu
def ajV:ac (Nat×ac (Nat×dr)):=[(15,[(0,Mb)]),(99,[(0,Mc)])]
def ajW:Wn.p2 11 [11,12] aL (qU k6 ajV) 2000 102 LX.1=true:=bu
def ajX:Gx.ew 11 aL gm 2000 186=true:=bu
def ajY:ac (Nat×ac (Nat×dr)):=[(186,[(0,Gx)])]
def ajZ:Wo.p2 11 [11,12] aL (qU k6 ajY) 2000 101 Cx.1=true:=bu
def aj0:Md.ew 11 aL gm 2000 15=true:=bu
def aj1:Me.ew 11 aL gm 2000 99=true:=bu
def aj2:ac (Nat×ac (Nat×dr)):=[(15,[(0,Md)]),(99,[(0,Me)])]
def aj3:Wp.p2 11 [11,12,13,14,15] aL (qU k6 aj2) 2000 104 LY.1=true:=bu
def aj4:ac (Nat×ac (Nat×dr)):=[(186,[(0,Gx),(0,Gw)])]
def aj5:Wq.p2 11 [11,12,13] aL (qU k6 aj4) 2000 101 Cx.1=true:=bu
def aj6:Mf.ew 11 aL gm 2000 107=true:=bu
def aj7:Mg.ew 11 aL gm 2000 26=true:=bu
def aj8:ac (Nat×ac (Nat×dr)):=[(107,[(0,Mf)]),(26,[(0,Mg),(0,Gp)])]
def aj9:Wr.p2 11 [11,12,13] aL (qU k6 aj8) 2000 34 Gl.1=true:=bu
