/- Every evaluated call holds of the model; no condition. -/
import Derived.Test.YthdlbilidpgknaaGreatDoorPtR1
set_option linter.all false
namespace Go.ak.j1
open Go.ak.a2
set_option maxRecDepth 100000
def rv:lU.cX∧lU.bn=aS.ctx.aD∧∀g,g<aS.ctx.aD->lU.cL.get g=some g:=aqi (n:=12) (by kernel_rfl) (by kernel_rfl) rfl
def adD:fT aS.ctx 167 (I8.row 12):=
 uK (g:=1) (el:=3) (n:=3) (by kernel_rfl) (by kernel_rfl) (l1 aS.fF gM (js _) aeG) (l1 aS.fF gM (js _) aeH)
def KD:fT aS.ctx 167 (oB.row 12):=
 uK (g:=1) (el:=3) (n:=3) (by kernel_rfl) (by kernel_rfl) (l1 aS.fF gM (js _) aeT) (l1 aS.fF gM (js _) aeU)
def KF:fT aS.ctx 167 (oC.row 12):=
 uK (g:=1) (el:=3) (n:=3) (by kernel_rfl) (by kernel_rfl) (l1 aS.fF gM (js _) aeX) (l1 aS.fF gM (js _) aeY)
def QE:fT aS.ctx 167 (nT.row 12):=
 uK (g:=1) (el:=3) (n:=3) (by kernel_rfl) (by kernel_rfl) (l1 aS.fF gM (js _) aeZ) (l1 aS.fF gM (js _) ae0)
def adG:fT aS.ctx 167 (sQ.row 12):=
 uK (g:=1) (el:=3) (n:=8) (by kernel_rfl) (by kernel_rfl) (l1 aS.fF gM (js _) ae1) (l1 aS.fF gM (js _) ae2)
def adH:fT aS.ctx 167 (Jf.row 12):=
 uK (g:=1) (el:=3) (n:=8) (by kernel_rfl) (by kernel_rfl) (l1 aS.fF gM (js _) ae3) (l1 aS.fF gM (js _) ae4)
def adI:fT aS.ctx 167 (Jg.row 12):=
 uK (g:=1) (el:=3) (n:=7) (by kernel_rfl) (by kernel_rfl) (l1 aS.fF gM (js _) ae5) (l1 aS.fF gM (js _) ae6)
def KG:fT aS.ctx 93 (Ev.row 12):=
 pA aS.fF gM (js _) ae7
def KH:fT aS.ctx 93 (Ew.row 12):=
 pA aS.fF gM (js _) ae8
def adJ:fT aS.ctx 167 (Jh.row 12):=
 uK (g:=1) (el:=3) (n:=5) (by kernel_rfl) (by kernel_rfl) (l1 aS.fF gM (js _) ae9) (l1 aS.fF gM (js _) afa)
def adE:fT aS.ctx 167 (I9.row 12):=
 uK (g:=1) (el:=3) (n:=8) (by kernel_rfl) (by kernel_rfl) (l1 aS.fF gM (js _) aeI) (l1 aS.fF gM (js _) aeJ)
def FA:fT aS.ctx 14 (Ba.row 12):=
 pA aS.fF gM (yx (t:=ab5) rv (lO (eO KG (eO KH lb)) bL)) aeK
def Qy:fT aS.ctx 110 (Ja.row 12):=
 pA aS.fF gM (yx (t:=ab6) rv (lO (eO FA (eO FA lb)) bL)) aeL
def Qz:fT aS.ctx 328 (Jb.row 12):=
 pA aS.fF gM (js _) aeM
def FB:fT aS.ctx 323 (Bb.row 12):=
 pA aS.fF gM (js _) aeN
def QA:fT aS.ctx 328 (Jc.row 12):=
 pA aS.fF gM (js _) aeO
def FC:fT aS.ctx 128 (Bc.row 12):=
 pA aS.fF gM (yx (t:=ab7) rv (lO (eO QA lb) (lO (eO FB lb) bL))) aeP
def KE:fT aS.ctx 229 (Eu.row 12):=
 pA aS.fF gM (js _) aeQ
def adF:fT aS.ctx 7 (OX.row 12):=
 pA aS.fF gM (yx (t:=ab8) rv (lO (eO FA lb) (lO (eO Qz (eO QA (eO Qz lb))) (lO (eO FB (eO FB (eO FB lb))) (lO (eO FC (eO FC (eO FC (eO FC lb)))) (lO (eO KE (eO KE (eO KE lb))) bL)))))) aeR
def QB:fT aS.ctx 112 (Jd.row 12):=
 pA aS.fF gM (yx (t:=ab9) rv (lO (eO KG (eO KH lb)) bL)) aeS
def QC:fT aS.ctx 43 (Je.row 12):=
 pA aS.fF gM (yx (t:=aca) rv (lO (eO QB lb) bL)) aeV
def QD:fT aS.ctx 6 (Bd.row 12):=
 pA aS.fF gM (yx (t:=acb) rv (lO (eO adD (eO KD (eO KF (eO KD (eO QE (eO KD (eO KF (eO KF (eO QE (eO adG (eO adH (eO adI (eO adJ (eO adE lb)))))))))))))) (lO (eO KG (eO KH lb)) (lO (eO Qy (eO Qy lb)) (lO (eO adF lb) (lO (eO FA lb) (lO (eO QB lb) (lO (eO QC (eO QC lb)) bL)))))))) aeW
