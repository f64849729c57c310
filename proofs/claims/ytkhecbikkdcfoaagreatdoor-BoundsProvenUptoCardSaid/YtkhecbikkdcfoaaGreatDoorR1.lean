/- Calls of the program, evaluated by the kernel on the abstract machine; no condition. -/
import Derived.Test.YtkhecbikkdcfoaaGreatDoorT
import Derived.Test.YtkhecbikkdcfoaaGreatDoorD
set_option linter.all false
namespace Go.bI.kR
open Go.bI.ds
set_option maxRecDepth 100000
def ah8:kH.fq 9 aV oL 2000 35=true:=cw
def VC:ac (Nat×ac (Nat×eu)):=[(35,[(14,kH)])]
def ah9:dX.fq 9 aV (qs kS VC) 2000 138=true:=cw
def aia:e5.fq 9 aV oL 2000 38=true:=cw
def VD:ac (Nat×ac (Nat×eu)):=[(138,[(27,dX)]),(38,[(322,e5)])]
def aib:ni.fq 9 aV (qs kS VD) 2000 258=true:=cw
def aic:rR.fq 9 aV oL 2000 234=true:=cw
def aid:oS.fq 9 aV oL 2000 277=true:=cw
def aie:zr.fq 9 aV oL 2000 310=true:=cw
def aif:zs.fq 9 aV oL 2000 311=true:=cw
def aih:Gt.fq 9 aV oL 2000 274=true:=cw
def VE:ac (Nat×ac (Nat×eu)):=[(138,[(27,dX)]),(38,[(322,e5)]),(277,[(374,oS),(439,oS)]),(310,[(508,zr)]),(311,[(642,zs)]),(274,[(783,Gt)])]
def aii:Gu.fq 9 aV (qs kS VE) 2000 258=true:=cw
def aij:Gv.fq 9 aV oL 2000 252=true:=cw
def VF:ac (Nat×ac (Nat×eu)):=[(252,[(89,Gv)])]
def aik:Gw.fq 9 aV (qs kS VF) 2000 234=true:=cw
def ail:zt.fq 9 aV oL 2000 277=true:=cw
def VG:ac (Nat×ac (Nat×eu)):=[(138,[(27,dX)]),(38,[(322,e5)]),(277,[(374,zt),(449,oS)])]
def aim:Gx.fq 9 aV (qs kS VG) 2000 258=true:=cw
def ain:Gy.fq 9 aV oL 2000 252=true:=cw
def VH:ac (Nat×ac (Nat×eu)):=[(252,[(89,Gy)])]
def aio:Gz.fq 9 aV (qs kS VH) 2000 234=true:=cw
def aip:GA.fq 9 aV oL 2000 315=true:=cw
def VI:ac (Nat×ac (Nat×eu)):=[(138,[(27,dX)]),(38,[(322,e5)]),(277,[(374,zt),(449,oS)]),(315,[(582,GA),(712,GA)])]
def aiq:GB.fq 9 aV (qs kS VI) 2000 258=true:=cw
def air:GC.fq 9 aV oL 2000 331=true:=cw
def VJ:ac (Nat×ac (Nat×eu)):=[(331,[(14,GC),(65,GC)])]
def ais:GD.fq 9 aV (qs kS VJ) 2000 310=true:=cw
def ait:GF.fq 9 aV oL 2000 310=true:=cw
def VK:ac (Nat×ac (Nat×eu)):=[(310,[(20,GF),(154,GF)])]
def aiu:GG.fq 9 aV (qs kS VK) 2000 323=true:=cw
def VL:ac (Nat×ac (Nat×eu)):=[(258,[(27,Gx),(1030,GB)]),(234,[(836,Gz)]),(138,[(1987,dX)]),(38,[(2282,e5)]),(277,[(2334,zt),(2409,oS),(2556,oS),(2619,zt)]),(310,[(2761,GD)]),(323,[(2891,GG)]),(252,[(3786,Gy)])]
def aiv:LX.fq 9 aV (qs kS VL) 2000 190=true:=cw
