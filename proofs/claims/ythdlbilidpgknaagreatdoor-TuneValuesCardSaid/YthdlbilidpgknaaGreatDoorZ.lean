/- Every evaluated call holds of the model; no condition. -/
import Derived.Test.YthdlbilidpgknaaGreatDoorR1
set_option linter.all false
namespace Go.aj.kc
open Go.aj.a3
set_option maxRecDepth 100000
def rz:l3.cT∧l3.bb=aT.ctx.aB∧∀g,g<aT.ctx.aB->l3.cI.get g=some g:=aqt (n:=12) (by kernel_rfl) (by kernel_rfl) rfl
def acY:fZ aT.ctx 167 (n5.row 12):=
 uy (g:=1) (el:=3) (n:=3) (by kernel_rfl) (by kernel_rfl) (l8 aT.fA gF (jG _) ad6) (l8 aT.fA gF (jG _) ad7)
def Ke:fZ aT.ctx 167 (jJ.row 12):=
 uy (g:=1) (el:=3) (n:=3) (by kernel_rfl) (by kernel_rfl) (l8 aT.fA gF (jG _) aej) (l8 aT.fA gF (jG _) aek)
def Kg:fZ aT.ctx 167 (lz.row 12):=
 uy (g:=1) (el:=3) (n:=3) (by kernel_rfl) (by kernel_rfl) (l8 aT.fA gF (jG _) aen) (l8 aT.fA gF (jG _) aeo)
def Qd:fZ aT.ctx 167 (n6.row 12):=
 uy (g:=1) (el:=3) (n:=3) (by kernel_rfl) (by kernel_rfl) (l8 aT.fA gF (jG _) aep) (l8 aT.fA gF (jG _) aeq)
def ac1:fZ aT.ctx 167 (yA.row 12):=
 uy (g:=1) (el:=3) (n:=8) (by kernel_rfl) (by kernel_rfl) (l8 aT.fA gF (jG _) aer) (l8 aT.fA gF (jG _) aes)
def ac2:fZ aT.ctx 167 (IT.row 12):=
 uy (g:=1) (el:=3) (n:=8) (by kernel_rfl) (by kernel_rfl) (l8 aT.fA gF (jG _) aet) (l8 aT.fA gF (jG _) aeu)
def ac3:fZ aT.ctx 167 (IU.row 12):=
 uy (g:=1) (el:=3) (n:=7) (by kernel_rfl) (by kernel_rfl) (l8 aT.fA gF (jG _) aev) (l8 aT.fA gF (jG _) aew)
def Kh:fZ aT.ctx 93 (Eb.row 12):=
 pC aT.fA gF (jG _) aex
def Ki:fZ aT.ctx 93 (Ec.row 12):=
 pC aT.fA gF (jG _) aey
def ac4:fZ aT.ctx 167 (IV.row 12):=
 uy (g:=1) (el:=3) (n:=5) (by kernel_rfl) (by kernel_rfl) (l8 aT.fA gF (jG _) aez) (l8 aT.fA gF (jG _) aeA)
def acZ:fZ aT.ctx 167 (IL.row 12):=
 uy (g:=1) (el:=3) (n:=8) (by kernel_rfl) (by kernel_rfl) (l8 aT.fA gF (jG _) ad8) (l8 aT.fA gF (jG _) ad9)
def Fi:fZ aT.ctx 14 (AP.row 12):=
 pC aT.fA gF (yq (t:=abf) rz (lY (eT Kh (eT Ki lq)) bK)) aea
def P7:fZ aT.ctx 110 (IM.row 12):=
 pC aT.fA gF (yq (t:=abg) rz (lY (eT Fi (eT Fi lq)) bK)) aeb
def P8:fZ aT.ctx 328 (IN.row 12):=
 pC aT.fA gF (jG _) aec
def Fj:fZ aT.ctx 323 (AQ.row 12):=
 pC aT.fA gF (jG _) aed
def P9:fZ aT.ctx 328 (IP.row 12):=
 pC aT.fA gF (jG _) aee
def Fk:fZ aT.ctx 128 (AR.row 12):=
 pC aT.fA gF (yq (t:=abh) rz (lY (eT P9 lq) (lY (eT Fj lq) bK))) aef
def Kf:fZ aT.ctx 229 (Ea.row 12):=
 pC aT.fA gF (jG _) aeg
def ac0:fZ aT.ctx 7 (Ov.row 12):=
 pC aT.fA gF (yq (t:=abi) rz (lY (eT Fi lq) (lY (eT P8 (eT P9 (eT P8 lq))) (lY (eT Fj (eT Fj (eT Fj lq))) (lY (eT Fk (eT Fk (eT Fk (eT Fk lq)))) (lY (eT Kf (eT Kf (eT Kf lq))) bK)))))) aeh
def Qa:fZ aT.ctx 112 (IQ.row 12):=
 pC aT.fA gF (yq (t:=abj) rz (lY (eT Kh (eT Ki lq)) bK)) aei
def Qb:fZ aT.ctx 43 (IS.row 12):=
 pC aT.fA gF (yq (t:=abk) rz (lY (eT Qa lq) bK)) ael
def Qc:fZ aT.ctx 6 (AS.row 12):=
 pC aT.fA gF (yq (t:=abl) rz (lY (eT acY (eT Ke (eT Kg (eT Ke (eT Qd (eT Ke (eT Kg (eT Kg (eT Qd (eT ac1 (eT ac2 (eT ac3 (eT ac4 (eT acZ lq)))))))))))))) (lY (eT Kh (eT Ki lq)) (lY (eT P7 (eT P7 lq)) (lY (eT ac0 lq) (lY (eT Fi lq) (lY (eT Qa lq) (lY (eT Qb (eT Qb lq)) bK)))))))) aem
