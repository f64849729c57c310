/- Every evaluated call holds of the model; no condition. -/
import Derived.Test.YtkhecbikkdcfoaaGreatDoorR1
import Derived.Test.YtkhecbikkdcfoaaGreatDoorR2
set_option linter.all false
namespace Go.bI.kR
open Go.bI.ds
set_option maxRecDepth 100000
def oT:kS.Ok/\kS.a4=cv.ctx.a6/\∀g,g<cv.ctx.a6->kS.cC.get g=some g:=acA (n:=9) cw cw o
def LY:gD cv.ctx 35 (kH.row 9):=
 jP cv.gP hv (pB _) ah8
def vI:gD cv.ctx 138 (dX.row 9):=
 jP cv.gP hv (rA (t:=VC) oT<|gp (dS LY gd) a5) ah9
def zu:gD cv.ctx 38 (e5.row 9):=
 jP cv.gP hv (pB _) aia
def VN:gD cv.ctx 258 (ni.row 9):=
 jP cv.gP hv (rA (t:=VD) oT<|gp (dS vI gd)<|gp (dS zu gd) a5) aib
def VO:gD cv.ctx 234 (rR.row 9):=
 jP cv.gP hv (pB _) aic
def tX:gD cv.ctx 277 (oS.row 9):=
 jP cv.gP hv (pB _) aid
def VP:gD cv.ctx 310 (zr.row 9):=
 jP cv.gP hv (pB _) aie
def VQ:gD cv.ctx 311 (zs.row 9):=
 jP cv.gP hv (pB _) aif
def VR:gD cv.ctx 274 (Gt.row 9):=
 jP cv.gP hv (pB _) aih
def VS:gD cv.ctx 258 (Gu.row 9):=
 jP cv.gP hv (rA (t:=VE) oT<|gp (dS vI gd)<|gp (dS zu gd)<|gp (dS tX<|dS tX gd)<|gp (dS VP gd)<|gp (dS VQ gd)<|gp (dS VR gd) a5) aii
def VT:gD cv.ctx 252 (Gv.row 9):=
 jP cv.gP hv (pB _) aij
def VU:gD cv.ctx 234 (Gw.row 9):=
 jP cv.gP hv (rA (t:=VF) oT<|gp (dS VT gd) a5) aik
def GH:gD cv.ctx 277 (zt.row 9):=
 jP cv.gP hv (pB _) ail
def VV:gD cv.ctx 258 (Gx.row 9):=
 jP cv.gP hv (rA (t:=VG) oT<|gp (dS vI gd)<|gp (dS zu gd)<|gp (dS GH<|dS tX gd) a5) aim
def VW:gD cv.ctx 252 (Gy.row 9):=
 jP cv.gP hv (pB _) ain
def VX:gD cv.ctx 234 (Gz.row 9):=
 jP cv.gP hv (rA (t:=VH) oT<|gp (dS VW gd) a5) aio
def VY:gD cv.ctx 315 (GA.row 9):=
 jP cv.gP hv (pB _) aip
def VZ:gD cv.ctx 258 (GB.row 9):=
 jP cv.gP hv (rA (t:=VI) oT<|gp (dS vI gd)<|gp (dS zu gd)<|gp (dS GH<|dS tX gd)<|gp (dS VY<|dS VY gd) a5) aiq
def V0:gD cv.ctx 331 (GC.row 9):=
 jP cv.gP hv (pB _) air
def V1:gD cv.ctx 310 (GD.row 9):=
 jP cv.gP hv (rA (t:=VJ) oT<|gp (dS V0<|dS V0 gd) a5) ais
def V2:gD cv.ctx 310 (GF.row 9):=
 jP cv.gP hv (pB _) ait
def V3:gD cv.ctx 323 (GG.row 9):=
 jP cv.gP hv (rA (t:=VK) oT<|gp (dS V2<|dS V2 gd) a5) aiu
def aix:gD cv.ctx 190 (LX.row 9):=
 jP cv.gP hv (rA (t:=VL) oT<|gp (dS VV<|dS VZ gd)<|gp (dS VX gd)<|gp (dS vI gd)<|gp (dS zu gd)<|gp (dS GH<|dS tX<|dS tX<|dS GH gd)<|gp (dS V1 gd)<|gp (dS V3 gd)<|gp (dS VW gd) a5) aiv
def aiy:gD cv.ctx 5 (kr.row 9):=
 jP cv.gP hv (rA (t:=VM) oT<|gp (dS LY<|dS LY gd)<|gp (dS vI<|dS vI<|dS vI gd)<|gp (dS VN<|dS VS<|dS VV<|dS VZ<|dS VN<|dS VS gd)<|gp (dS VO<|dS VU<|dS VX<|dS VO<|dS VU gd)<|gp (dS zu gd)<|gp (dS tX<|dS tX<|dS tX gd)<|gp (dS VP<|dS V1 gd)<|gp (dS VQ gd)<|gp (dS V3 gd)<|gp (dS VR gd)<|gp (dS VT gd)<|gp (dS aix gd) a5) aiw
