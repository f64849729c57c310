/- Every evaluated call holds of the model; no condition. -/
import Derived.Test.YtoepefenkpijoaaGreatDoorR1
import Derived.Test.YtoepefenkpijoaaGreatDoorR2
set_option linter.all false
namespace Go.ar.jq
open Go.ar.a9
set_option maxRecDepth 100000
def po:ll.cV∧ll.bd=aT.ctx.aF∧∀g,g<aT.ctx.aF->ll.b6.get g=some g:=ash (n:=11) (by kernel_rfl) (by kernel_rfl) rfl
def F6:eo aT.ctx 292 (zi.row 11):=
 vn (g:=4) (el:=3) (n:=3) (by kernel_rfl) (by kernel_rfl) (mV aT.dY eR (gW _) afu) (mV aT.dY eR (gW _) afv)
def F7:eo aT.ctx 292 (n1.row 11):=
 vn (g:=4) (el:=3) (n:=3) (by kernel_rfl) (by kernel_rfl) (mV aT.dY eR (gW _) afI) (mV aT.dY eR (gW _) afJ)
def Q6:eo aT.ctx 292 (qj.row 11):=
 vn (g:=4) (el:=3) (n:=3) (by kernel_rfl) (by kernel_rfl) (mV aT.dY eR (gW _) afU) (mV aT.dY eR (gW _) afV)
def Rc:eo aT.ctx 292 (vf.row 11):=
 vn (g:=4) (el:=3) (n:=3) (by kernel_rfl) (by kernel_rfl) (mV aT.dY eR (gW _) af5) (mV aT.dY eR (gW _) af6)
def aes:eo aT.ctx 292 (xk.row 11):=
 vn (g:=4) (el:=3) (n:=8) (by kernel_rfl) (by kernel_rfl) (mV aT.dY eR (gW _) af7) (mV aT.dY eR (gW _) af8)
def aet:eo aT.ctx 292 (xl.row 11):=
 vn (g:=4) (el:=3) (n:=7) (by kernel_rfl) (by kernel_rfl) (mV aT.dY eR (gW _) af9) (mV aT.dY eR (gW _) aga)
def Re:eo aT.ctx 150 (JO.row 11):=
 kr aT.dY eR (gW _) agb
def Rf:eo aT.ctx 150 (JP.row 11):=
 kr aT.dY eR (gW _) agc
def Rg:eo aT.ctx 17 (JQ.row 11):=
 kr aT.dY eR (gW _) agd
def aeu:eo aT.ctx 292 (JR.row 11):=
 vn (g:=4) (el:=3) (n:=5) (by kernel_rfl) (by kernel_rfl) (mV aT.dY eR (gW _) age) (mV aT.dY eR (gW _) agf)
def aed:eo aT.ctx 292 (BO.row 11):=
 vn (g:=4) (el:=3) (n:=5) (by kernel_rfl) (by kernel_rfl) (mV aT.dY eR (gW _) afw) (mV aT.dY eR (gW _) afx)
def aee:eo aT.ctx 292 (JF.row 11):=
 vn (g:=4) (el:=3) (n:=8) (by kernel_rfl) (by kernel_rfl) (mV aT.dY eR (gW _) afy) (mV aT.dY eR (gW _) afz)
def F8:eo aT.ctx 22 (BP.row 11):=
 kr aT.dY eR (tj (t:=acS) po (iB (cY Re (cY Rf ic)) k0)) afA
def Q3:eo aT.ctx 116 (JG.row 11):=
 kr aT.dY eR (gW _) afB
def vQ:eo aT.ctx 119 (q9.row 11):=
 kr aT.dY eR (tj (t:=acT) po (iB (cY F8 ic) k0)) afC
def tQ:eo aT.ctx 116 (sj.row 11):=
 kr aT.dY eR (gW _) afD
def CM:eo aT.ctx 123 (zj.row 11):=
 kr aT.dY eR (gW _) afE
def F9:eo aT.ctx 116 (BQ.row 11):=
 kr aT.dY eR (gW _) afF
def Q4:eo aT.ctx 313 (JH.row 11):=
 kr aT.dY eR (gW _) afG
def Q5:eo aT.ctx 314 (JI.row 11):=
 kr aT.dY eR (gW _) afH
def Q7:eo aT.ctx 133 (JJ.row 11):=
 kr aT.dY eR (gW _) afK
def Q8:eo aT.ctx 385 (JK.row 11):=
 kr aT.dY eR (gW _) afL
def Q9:eo aT.ctx 313 (JL.row 11):=
 kr aT.dY eR (gW _) afM
def aef:eo aT.ctx 16 (Pn.row 11):=
 kr aT.dY eR (tj (t:=acU) po (iB (cY vQ ic) (iB (cY F9 (cY tQ (cY tQ (cY F9 ic)))) (iB (cY Q8 (cY Q8 ic)) (iB (cY Q9 (cY Q9 ic)) k0))))) afN
def Ra:eo aT.ctx 262 (JM.row 11):=
 kr aT.dY eR (gW _) afO
def aeg:eo aT.ctx 144 (Po.row 11):=
 B7 aT.dY eR (tj (t:=acV) po (iB (cY Ra ic) k0)) (xf:=ya.1) (by kernel_rfl) afP
def aeh:eo aT.ctx 241 (Pp.row 11):=
 kr aT.dY eR (gW _) afQ
def aei:eo aT.ctx 249 (Pq.row 11):=
 kr aT.dY eR (gW _) afR
def aej:eo aT.ctx 143 (Pr.row 11):=
 B7 aT.dY eR (tj (t:=acW) po (iB (cY aeh ic) (iB (cY aei ic) k0))) (xf:=Mf.1) (by kernel_rfl) afS
def Rb:eo aT.ctx 262 (JN.row 11):=
 kr aT.dY eR (gW _) afT
def aek:eo aT.ctx 144 (Ps.row 11):=
 B7 aT.dY eR (tj (t:=acX) po (iB (cY Rb ic) k0)) (xf:=ya.1) (by kernel_rfl) afW
def ael:eo aT.ctx 241 (Pt.row 11):=
 kr aT.dY eR (gW _) afX
def aem:eo aT.ctx 249 (Pu.row 11):=
 kr aT.dY eR (gW _) afY
def aen:eo aT.ctx 129 (Pv.row 11):=
 B7 aT.dY eR (tj (t:=acY) po (iB (cY ael ic) (iB (cY aem ic) k0))) (xf:=Md.1) (by kernel_rfl) afZ
def aeo:eo aT.ctx 144 (Pw.row 11):=
 B7 aT.dY eR (tj (t:=acZ) po (iB (cY Rb (cY Ra ic)) k0)) (xf:=ya.1) (by kernel_rfl) af0
def aep:eo aT.ctx 145 (Px.row 11):=
 kr aT.dY eR (gW _) af1
def aeq:eo aT.ctx 17 (Py.row 11):=
 kr aT.dY eR (gW _) af2
def aer:eo aT.ctx 64 (Pz.row 11):=
 B7 aT.dY eR (tj (t:=ac0) po (iB (cY aep ic) (iB (cY aeq (cY Rg ic)) k0))) (xf:=Mj.1) (by kernel_rfl) af3
def Rd:eo aT.ctx 5 (lp.row 11):=
 kr aT.dY eR (tj (t:=ac1) po (iB (cY F6 (cY F7 (cY F6 (cY Q6 (cY F6 (cY F7 (cY F7 (cY Rc (cY F6 (cY Q6 (cY F7 (cY Rc (cY aes (cY aet (cY aeu (cY aed (cY aee ic))))))))))))))))) (iB (cY Re (cY Rf ic)) (iB (cY Rg ic) (iB (cY F8 (cY F8 (cY F8 ic))) (iB (cY Q3 (cY tQ (cY F9 (cY tQ (cY tQ (cY F9 (cY tQ (cY Q3 (cY tQ (cY tQ (cY tQ ic))))))))))) (iB (cY vQ (cY vQ (cY vQ (cY vQ (cY vQ (cY vQ (cY vQ ic))))))) (iB (cY CM (cY CM (cY CM (cY CM (cY CM ic))))) (iB (cY Q4 (cY Q4 ic)) (iB (cY Q5 (cY Q5 ic)) (iB (cY Q7 (cY Q7 ic)) (iB (cY aef ic) (iB (cY aeg (cY aek (cY aeo ic))) (iB (cY aej ic) (iB (cY aen ic) (iB (cY aer ic) k0)))))))))))))))) af4
