/- Every evaluated call holds of the model; no condition. -/
import Derived.Test.YtlnaeofgmkmfdaaGreatDoorR1
set_option linter.all false
namespace Go.an.hf
open Go.an.a7
set_option maxRecDepth 100000
def py:lE.dg∧lE.bj=aX.ctx.aH∧∀g,g<aX.ctx.aH->lE.cb.get g=some g:=asO (n:=11) (by kernel_rfl) (by kernel_rfl) rfl
def GN:ei aX.ctx 280 (zJ.row 11):=
 vA (g:=4) (el:=3) (n:=3) (by kernel_rfl) (by kernel_rfl) (m5 aX.ek eM (gT _) af1) (m5 aX.ek eM (gT _) af2)
def GO:ei aX.ctx 280 (g2.row 11):=
 vA (g:=4) (el:=3) (n:=3) (by kernel_rfl) (by kernel_rfl) (m5 aX.ek eM (gT _) agf) (m5 aX.ek eM (gT _) agh)
def RG:ei aX.ctx 280 (kO.row 11):=
 vA (g:=4) (el:=3) (n:=3) (by kernel_rfl) (by kernel_rfl) (m5 aX.ek eM (gT _) ags) (m5 aX.ek eM (gT _) agt)
def RM:ei aX.ctx 280 (vv.row 11):=
 vA (g:=4) (el:=3) (n:=3) (by kernel_rfl) (by kernel_rfl) (m5 aX.ek eM (gT _) agD) (m5 aX.ek eM (gT _) agE)
def aeO:ei aX.ctx 280 (xC.row 11):=
 vA (g:=4) (el:=3) (n:=8) (by kernel_rfl) (by kernel_rfl) (m5 aX.ek eM (gT _) agF) (m5 aX.ek eM (gT _) agG)
def aeP:ei aX.ctx 280 (xD.row 11):=
 vA (g:=4) (el:=3) (n:=7) (by kernel_rfl) (by kernel_rfl) (m5 aX.ek eM (gT _) agH) (m5 aX.ek eM (gT _) agI)
def RO:ei aX.ctx 202 (J3.row 11):=
 ku aX.ek eM (gT _) agJ
def RP:ei aX.ctx 202 (J4.row 11):=
 ku aX.ek eM (gT _) agK
def RQ:ei aX.ctx 19 (J5.row 11):=
 ku aX.ek eM (gT _) agL
def aeQ:ei aX.ctx 280 (J6.row 11):=
 vA (g:=4) (el:=3) (n:=5) (by kernel_rfl) (by kernel_rfl) (m5 aX.ek eM (gT _) agM) (m5 aX.ek eM (gT _) agN)
def aez:ei aX.ctx 280 (Ch.row 11):=
 vA (g:=4) (el:=3) (n:=5) (by kernel_rfl) (by kernel_rfl) (m5 aX.ek eM (gT _) af3) (m5 aX.ek eM (gT _) af4)
def aeA:ei aX.ctx 280 (JU.row 11):=
 vA (g:=4) (el:=3) (n:=8) (by kernel_rfl) (by kernel_rfl) (m5 aX.ek eM (gT _) af5) (m5 aX.ek eM (gT _) af6)
def GP:ei aX.ctx 57 (Ci.row 11):=
 ku aX.ek eM (tD (t:=adi) py (iJ (c7 RO (c7 RP iq)) bV)) af7
def RD:ei aX.ctx 63 (JV.row 11):=
 ku aX.ek eM (gT _) af8
def v8:ei aX.ctx 103 (tM.row 11):=
 ku aX.ek eM (tD (t:=adj) py (iJ (c7 GP iq) bV)) af9
def uh:ei aX.ctx 63 (sw.row 11):=
 ku aX.ek eM (gT _) aga
def Df:ei aX.ctx 107 (zK.row 11):=
 ku aX.ek eM (gT _) agb
def GQ:ei aX.ctx 63 (Cj.row 11):=
 ku aX.ek eM (gT _) agc
def RE:ei aX.ctx 306 (JW.row 11):=
 ku aX.ek eM (gT _) agd
def RF:ei aX.ctx 307 (JX.row 11):=
 ku aX.ek eM (gT _) age
def RH:ei aX.ctx 119 (JY.row 11):=
 ku aX.ek eM (gT _) agi
def RI:ei aX.ctx 380 (JZ.row 11):=
 ku aX.ek eM (gT _) agj
def RJ:ei aX.ctx 306 (J0.row 11):=
 ku aX.ek eM (gT _) agk
def aeB:ei aX.ctx 18 (PL.row 11):=
 ku aX.ek eM (tD (t:=adk) py (iJ (c7 v8 iq) (iJ (c7 GQ (c7 uh (c7 uh (c7 GQ iq)))) (iJ (c7 RI (c7 RI iq)) (iJ (c7 RJ (c7 RJ iq)) bV))))) agl
def RK:ei aX.ctx 255 (J1.row 11):=
 ku aX.ek eM (gT _) agm
def aeC:ei aX.ctx 137 (PM.row 11):=
 Cx aX.ek eM (tD (t:=adl) py (iJ (c7 RK iq) bV)) (xf:=yz.1) (by kernel_rfl) agn
def aeD:ei aX.ctx 228 (PN.row 11):=
 ku aX.ek eM (gT _) ago
def aeE:ei aX.ctx 236 (PO.row 11):=
 ku aX.ek eM (gT _) agp
def aeF:ei aX.ctx 136 (PQ.row 11):=
 Cx aX.ek eM (tD (t:=adm) py (iJ (c7 aeD iq) (iJ (c7 aeE iq) bV))) (xf:=MC.1) (by kernel_rfl) agq
def RL:ei aX.ctx 255 (J2.row 11):=
 ku aX.ek eM (gT _) agr
def aeG:ei aX.ctx 137 (PR.row 11):=
 Cx aX.ek eM (tD (t:=adn) py (iJ (c7 RL iq) bV)) (xf:=yz.1) (by kernel_rfl) agu
def aeH:ei aX.ctx 228 (PS.row 11):=
 ku aX.ek eM (gT _) agv
def aeI:ei aX.ctx 236 (PT.row 11):=
 ku aX.ek eM (gT _) agw
def aeJ:ei aX.ctx 115 (PU.row 11):=
 Cx aX.ek eM (tD (t:=ado) py (iJ (c7 aeH iq) (iJ (c7 aeI iq) bV))) (xf:=MB.1) (by kernel_rfl) agx
def aeK:ei aX.ctx 137 (PV.row 11):=
 Cx aX.ek eM (tD (t:=adp) py (iJ (c7 RL (c7 RK iq)) bV)) (xf:=yz.1) (by kernel_rfl) agy
def aeL:ei aX.ctx 138 (PW.row 11):=
 ku aX.ek eM (gT _) agz
def aeM:ei aX.ctx 19 (PX.row 11):=
 ku aX.ek eM (gT _) agA
def aeN:ei aX.ctx 60 (PY.row 11):=
 Cx aX.ek eM (tD (t:=adq) py (iJ (c7 aeL iq) (iJ (c7 aeM (c7 RQ iq)) bV))) (xf:=MF.1) (by kernel_rfl) agB
def RN:ei aX.ctx 5 (kP.row 11):=
 ku aX.ek eM (tD (t:=adr) py (iJ (c7 GN (c7 GO (c7 GN (c7 RG (c7 GN (c7 GO (c7 GO (c7 RM (c7 GN (c7 RG (c7 GO (c7 RM (c7 aeO (c7 aeP (c7 aeQ (c7 aez (c7 aeA iq))))))))))))))))) (iJ (c7 RO (c7 RP iq)) (iJ (c7 RQ iq) (iJ (c7 GP (c7 GP (c7 GP iq))) (iJ (c7 RD (c7 uh (c7 GQ (c7 uh (c7 uh (c7 GQ (c7 uh (c7 RD (c7 uh (c7 uh (c7 uh iq))))))))))) (iJ (c7 v8 (c7 v8 (c7 v8 (c7 v8 (c7 v8 (c7 v8 (c7 v8 iq))))))) (iJ (c7 Df (c7 Df (c7 Df (c7 Df (c7 Df iq))))) (iJ (c7 RE (c7 RE iq)) (iJ (c7 RF (c7 RF iq)) (iJ (c7 RH (c7 RH iq)) (iJ (c7 aeB iq) (iJ (c7 aeC (c7 aeG (c7 aeK iq))) (iJ (c7 aeF iq) (iJ (c7 aeJ iq) (iJ (c7 aeN iq) bV)))))))))))))))) agC
