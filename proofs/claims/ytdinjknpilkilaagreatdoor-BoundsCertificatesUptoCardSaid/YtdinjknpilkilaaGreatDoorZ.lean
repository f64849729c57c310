/- Every evaluated call holds of the model; no condition. -/
import Derived.Test.YtdinjknpilkilaaGreatDoorR1
import Derived.Test.YtdinjknpilkilaaGreatDoorR2
set_option linter.all false
namespace Go.ah.gk
open Go.ah.aW
set_option maxRecDepth 100000
def oK:k8.cY∧k8.a6=a4.ctx.az∧∀g,g<a4.ctx.az->k8.cO.get g=some g:=arn (n:=9) (by kernel_rfl) (by kernel_rfl) rfl
def Lk:hf a4.ctx 54 (Fj.row 9):=
 kp a4.hO jf (qe _) afs
def vS:hf a4.ctx 208 (lh.row 9):=
 kp a4.hO jf (si (t:=ac4) oK (gD (dK Lk gm) k0)) aft
def Am:hf a4.ctx 57 (n7.row 9):=
 kp a4.hO jf (qe _) afE
def R5:hf a4.ctx 325 (xh.row 9):=
 kp a4.hO jf (si (t:=adf) oK (gD (dK vS gm) (gD (dK Am gm) k0))) afJ
def R6:hf a4.ctx 306 (J3.row 9):=
 kp a4.hO jf (qe _) afK
def tT:hf a4.ctx 344 (so.row 9):=
 kp a4.hO jf (qe _) afL
def R7:hf a4.ctx 377 (J4.row 9):=
 kp a4.hO jf (qe _) afM
def R8:hf a4.ctx 378 (J5.row 9):=
 kp a4.hO jf (qe _) afN
def R9:hf a4.ctx 341 (J6.row 9):=
 kp a4.hO jf (qe _) afO
def Sa:hf a4.ctx 325 (J7.row 9):=
 kp a4.hO jf (si (t:=adg) oK (gD (dK vS gm) (gD (dK Am gm) (gD (dK tT (dK tT gm)) (gD (dK R7 gm) (gD (dK R8 gm) (gD (dK R9 gm) k0))))))) afP
def RT:hf a4.ctx 321 (JS.row 9):=
 kp a4.hO jf (qe _) afu
def RU:hf a4.ctx 306 (JT.row 9):=
 kp a4.hO jf (si (t:=ac5) oK (gD (dK RT gm) k0)) afv
def Gg:hf a4.ctx 344 (B2.row 9):=
 kp a4.hO jf (qe _) afw
def RV:hf a4.ctx 325 (JU.row 9):=
 kp a4.hO jf (si (t:=ac6) oK (gD (dK vS gm) (gD (dK Am gm) (gD (dK Gg (dK tT gm)) k0)))) afx
def RW:hf a4.ctx 321 (JV.row 9):=
 kp a4.hO jf (qe _) afy
def RX:hf a4.ctx 306 (JW.row 9):=
 kp a4.hO jf (si (t:=ac7) oK (gD (dK RW gm) k0)) afz
def RY:hf a4.ctx 382 (JX.row 9):=
 kp a4.hO jf (qe _) afA
def RZ:hf a4.ctx 325 (JY.row 9):=
 kp a4.hO jf (si (t:=ac8) oK (gD (dK vS gm) (gD (dK Am gm) (gD (dK Gg (dK tT gm)) (gD (dK RY (dK RY gm)) k0))))) afB
def R0:hf a4.ctx 398 (JZ.row 9):=
 kp a4.hO jf (qe _) afC
def R1:hf a4.ctx 377 (J0.row 9):=
 kp a4.hO jf (si (t:=ac9) oK (gD (dK R0 (dK R0 gm)) k0)) afD
def R2:hf a4.ctx 377 (J1.row 9):=
 kp a4.hO jf (qe _) afF
def R3:hf a4.ctx 390 (J2.row 9):=
 kp a4.hO jf (si (t:=ada) oK (gD (dK R2 (dK R2 gm)) k0)) afG
def aet:hf a4.ctx 265 (Qd.row 9):=
 kp a4.hO jf (si (t:=adb) oK (gD (dK RV (dK RZ gm)) (gD (dK RX gm) (gD (dK vS gm) (gD (dK Am gm) (gD (dK Gg (dK tT (dK tT (dK Gg gm)))) (gD (dK R1 gm) (gD (dK R3 gm) (gD (dK RW gm) k0))))))))) afH
def R4:hf a4.ctx 10 (kK.row 9):=
 kp a4.hO jf (si (t:=ade) oK (gD (dK Lk (dK Lk gm)) (gD (dK vS (dK vS (dK vS gm))) (gD (dK R5 (dK Sa (dK RV (dK RZ (dK R5 (dK Sa gm)))))) (gD (dK R6 (dK RU (dK RX (dK R6 (dK RU gm))))) (gD (dK Am gm) (gD (dK tT (dK tT (dK tT gm))) (gD (dK R7 (dK R1 gm)) (gD (dK R8 gm) (gD (dK R3 gm) (gD (dK R9 gm) (gD (dK RT gm) (gD (dK aet gm) k0))))))))))))) afI
