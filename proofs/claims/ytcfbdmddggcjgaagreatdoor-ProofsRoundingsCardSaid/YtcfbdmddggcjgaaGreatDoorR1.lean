/- Calls of the program, evaluated by the kernel on the abstract machine; no condition. -/
import Derived.Test.YtcfbdmddggcjgaaGreatDoorT
import Derived.Test.YtcfbdmddggcjgaaGreatDoorD
set_option linter.all false
namespace Go.az.gR
open Go.az.ck
set_option maxRecDepth 100000
theorem Wi:vQ.jS 11 3 3 8 a7 fN 2000 173=true:=by kernel_rfl
theorem Wj:vQ.jS 11 3 3 9 a7 fN 2000 173=true:=by kernel_rfl
theorem Wu:kt.jS 11 3 3 8 a7 fN 2000 173=true:=by kernel_rfl
theorem Wv:kt.jS 11 3 3 9 a7 fN 2000 173=true:=by kernel_rfl
theorem WK:lG.jS 11 3 3 8 a7 fN 2000 173=true:=by kernel_rfl
theorem WL:lG.jS 11 3 3 9 a7 fN 2000 173=true:=by kernel_rfl
theorem WX:mM.jS 11 3 3 8 a7 fN 2000 173=true:=by kernel_rfl
theorem WY:mM.jS 11 3 3 9 a7 fN 2000 173=true:=by kernel_rfl
theorem W9:qL.jS 11 3 3 18 a7 fN 2000 173=true:=by kernel_rfl
theorem Xa:qL.jS 11 3 3 19 a7 fN 2000 173=true:=by kernel_rfl
theorem Xl:o0.jS 11 3 3 16 a7 fN 2000 173=true:=by kernel_rfl
theorem Xm:o0.jS 11 3 3 17 a7 fN 2000 173=true:=by kernel_rfl
theorem Xn:pR.dm 11 a7 fN 2000 176=true:=by kernel_rfl
def Ub:List (Nat×List (Nat×bz)):=[(176,[(11,pR)])]
theorem Xy:ys.dm 11 a7 (eE dT Ub) 2000 19=true:=by kernel_rfl
theorem XJ:bT.dm 11 a7 fN 2000 22=true:=by kernel_rfl
def Un:List (Nat×List (Nat×bz)):=[(22,[(17,bT)])]
theorem XO:yt.dm 11 a7 (eE dT Un) 2000 21=true:=by kernel_rfl
def Tw:List (Nat×List (Nat×bz)):=[(19,[(12,ys)]),(21,[(14,yt)]),(22,[(22,bT)])]
theorem Wk:pO.dm 11 a7 (eE dT Tw) 2000 5=true:=by kernel_rfl
theorem Wl:e1.dm 11 a7 fN 2000 74=true:=by kernel_rfl
theorem Wm:qI.dm 11 a7 fN 2000 85=true:=by kernel_rfl
def Tx:List (Nat×List (Nat×bz)):=[(22,[(12,bT),(13,bT)])]
theorem Wn:r5.dm 11 a7 (eE dT Tx) 2000 148=true:=by kernel_rfl
def Ty:List (Nat×List (Nat×bz)):=[(148,[(15,r5),(28,r5)]),(22,[(25,bT),(41,bT),(44,bT),(47,bT),(49,bT),(61,bT)]),(74,[(45,e1),(50,e1)])]
theorem Wo:qJ.dm 11 a7 (eE dT Ty) 2000 86=true:=by kernel_rfl
theorem Wp:yl.dm 11 a7 fN 2000 74=true:=by kernel_rfl
def Tz:List (Nat×List (Nat×bz)):=[(85,[(14,qI)]),(22,[(25,bT),(38,bT),(102,bT),(105,bT)]),(86,[(44,qJ)]),(74,[(103,e1),(106,yl)])]
theorem Wq:Fk.dm 11 a7 (eE dT Tz) 2000 230=true:=by kernel_rfl
def TA:List (Nat×List (Nat×bz)):=[(176,[(12,pR)]),(22,[(22,bT)])]
theorem Wr:vR.dm 11 a7 (eE dT TA) 2000 5=true:=by kernel_rfl
theorem Ws:jx.dm 11 a7 fN 2000 74=true:=by kernel_rfl
def TB:List (Nat×List (Nat×bz)):=[(85,[(14,qI)]),(22,[(25,bT),(38,bT),(102,bT),(105,bT)]),(86,[(44,qJ)]),(74,[(103,jx),(106,yl)])]
theorem Wt:Fl.dm 11 a7 (eE dT TB) 2000 230=true:=by kernel_rfl
def TC:List (Nat×List (Nat×bz)):=[(22,[(18,bT),(21,bT)]),(74,[(19,e1),(22,jx)])]
theorem Ww:oZ.dm 11 a7 (eE dT TC) 2000 32=true:=by kernel_rfl
theorem Wx:Fm.dm 11 a7 fN 2000 14=true:=by kernel_rfl
theorem Wy:Fo.jS 11 3 3 12 a7 fN 2000 173=true:=by kernel_rfl
theorem Wz:Fo.jS 11 3 3 13 a7 fN 2000 173=true:=by kernel_rfl
theorem WA:Fp.jS 11 3 3 12 a7 fN 2000 173=true:=by kernel_rfl
theorem WB:Fp.jS 11 3 3 13 a7 fN 2000 173=true:=by kernel_rfl
theorem WC:Fq.jS 11 3 3 18 a7 fN 2000 173=true:=by kernel_rfl
theorem WD:Fq.jS 11 3 3 19 a7 fN 2000 173=true:=by kernel_rfl
def TD:List (Nat×List (Nat×bz)):=[(173,[(45,vQ),(106,kt),(113,vQ),(176,lG),(183,vQ),(193,kt),(200,kt),(252,mM),(259,vQ),(269,lG),(278,kt),(306,mM),(316,qL),(337,o0),(660,Fo),(684,Fp),(707,Fq)]),(5,[(350,pO),(364,pO),(489,vR),(503,pO)]),(22,[(383,bT),(386,bT),(522,bT),(525,bT)]),(74,[(384,e1),(387,e1),(523,jx),(526,e1)]),(230,[(391,Fk),(530,Fl)]),(32,[(625,oZ)]),(14,[(638,Fm)])]
theorem WE:Kd.dm 11 a7 (eE dT TD) 2000 10=true:=by kernel_rfl
def TE:List (Nat×List (Nat×bz)):=[(5,[(26,pO),(40,vR)]),(230,[(55,Fk),(150,Fl)]),(32,[(245,oZ)])]
theorem WG:ym.dm 11 a7 (eE dT TE) 2000 63=true:=by kernel_rfl
def TF:List (Nat×List (Nat×bz)):=[(19,[(13,ys)]),(21,[(15,yt)]),(22,[(23,bT)])]
theorem WH:Bu.dm 11 a7 (eE dT TF) 2000 144=true:=by kernel_rfl
theorem WI:Fs.dm 11 a7 fN 2000 21=true:=by kernel_rfl
def TG:List (Nat×List (Nat×bz)):=[(176,[(13,pR)]),(21,[(15,Fs)]),(22,[(23,bT)])]
theorem WJ:Bv.dm 11 a7 (eE dT TG) 2000 144=true:=by kernel_rfl
theorem WM:Ft.dm 11 a7 fN 2000 21=true:=by kernel_rfl
theorem WN:iD.dm 11 a7 fN 2000 22=true:=by kernel_rfl
def TH:List (Nat×List (Nat×bz)):=[(176,[(13,pR),(15,pR)]),(21,[(17,Fs),(25,Ft)]),(22,[(34,bT),(36,iD)])]
theorem WO:Bw.dm 11 a7 (eE dT TH) 2000 144=true:=by kernel_rfl
def TI:List (Nat×List (Nat×bz)):=[(63,[(16,ym)])]
theorem WQ:qK.dm 11 a7 (eE dT TI) 2000 133=true:=by kernel_rfl
def TJ:List (Nat×List (Nat×bz)):=[(5,[(14,pO),(29,vR)]),(176,[(45,pR)]),(22,[(53,iD),(55,bT)]),(32,[(59,oZ)])]
theorem WR:pP.dm 11 a7 (eE dT TJ) 2000 129=true:=by kernel_rfl
def TK:List (Nat×List (Nat×bz)):=[(5,[(18,pO),(33,vR)]),(32,[(50,oZ)])]
theorem WS:vS.dm 11 a7 (eE dT TK) 2000 137=true:=by kernel_rfl
def TL:List (Nat×List (Nat×bz)):=[(22,[(18,bT),(21,bT)]),(74,[(19,e1),(22,e1)])]
theorem WT:tG.dm 11 a7 (eE dT TL) 2000 32=true:=by kernel_rfl
theorem WU:pQ.dm 11 a7 fN 2000 74=true:=by kernel_rfl
def TM:List (Nat×List (Nat×bz)):=[(176,[(13,pR)]),(22,[(23,bT)])]
theorem WV:Fu.dm 11 a7 (eE dT TM) 2000 144=true:=by kernel_rfl
theorem WW:ni.dm 11 a7 fN 2000 74=true:=by kernel_rfl
def TN:List (Nat×List (Nat×bz)):=[(22,[(18,bT),(21,bT)]),(74,[(19,e1),(22,ni)])]
theorem WZ:yn.dm 11 a7 (eE dT TN) 2000 32=true:=by kernel_rfl
def TO:List (Nat×List (Nat×bz)):=[(5,[(14,pO)]),(144,[(28,Fu)]),(19,[(45,ys)]),(176,[(47,pR)]),(21,[(49,yt)]),(22,[(66,iD)]),(32,[(69,yn)])]
theorem W0:yo.dm 11 a7 (eE dT TO) 2000 129=true:=by kernel_rfl
def TP:List (Nat×List (Nat×bz)):=[(74,[(20,e1),(25,e1),(30,jx),(35,e1)]),(22,[(22,bT),(24,bT),(32,bT),(34,bT)]),(32,[(42,oZ),(55,oZ)])]
theorem W1:vT.dm 11 a7 (eE dT TP) 2000 362=true:=by kernel_rfl
def TQ:List (Nat×List (Nat×bz)):=[(362,[(18,vT)]),(22,[(77,bT),(79,bT),(87,bT),(89,bT),(102,bT),(105,bT),(115,bT),(118,bT),(144,bT),(147,bT)]),(74,[(80,e1),(90,e1),(103,jx),(106,ni),(116,jx),(119,ni),(145,jx),(148,ni)]),(32,[(126,oZ)])]
theorem W2:Fv.dm 11 a7 (eE dT TQ) 2000 313=true:=by kernel_rfl
def TR:List (Nat×List (Nat×bz)):=[(22,[(15,bT),(18,bT),(21,bT),(23,bT)]),(74,[(16,pQ),(19,pQ),(24,e1)])]
theorem W3:Fw.dm 11 a7 (eE dT TR) 2000 151=true:=by kernel_rfl
def TS:List (Nat×List (Nat×bz)):=[(32,[(27,oZ),(56,oZ)]),(22,[(42,bT),(44,bT),(71,bT),(73,bT),(97,bT),(99,bT)]),(74,[(45,e1),(74,e1),(100,e1)]),(151,[(76,Fw),(102,Fw)])]
theorem W4:Fx.dm 11 a7 (eE dT TS) 2000 314=true:=by kernel_rfl
def TT:List (Nat×List (Nat×bz)):=[(22,[(16,bT),(19,bT),(22,bT),(24,bT)]),(74,[(17,ni),(20,pQ),(25,e1)])]
theorem W5:Fy.dm 11 a7 (eE dT TT) 2000 151=true:=by kernel_rfl
def TU:List (Nat×List (Nat×bz)):=[(85,[(17,qI),(91,qI)]),(86,[(22,qJ),(98,qJ)]),(22,[(82,bT),(85,bT),(156,bT),(159,bT),(167,bT),(183,bT),(187,iD),(198,iD)]),(74,[(83,ni),(86,yl),(157,ni),(160,yl)]),(148,[(174,r5)])]
theorem W6:Fz.dm 11 a7 (eE dT TU) 2000 7=true:=by kernel_rfl
theorem W7:r6.dm 11 a7 fN 2000 74=true:=by kernel_rfl
def TV:List (Nat×List (Nat×bz)):=[(22,[(17,bT),(20,bT),(23,bT),(25,bT)]),(74,[(18,ni),(21,e1),(26,e1)])]
theorem W8:FA.dm 11 a7 (eE dT TV) 2000 151=true:=by kernel_rfl
def TW:List (Nat×List (Nat×bz)):=[(22,[(31,bT),(34,bT),(37,bT),(39,bT)]),(74,[(32,e1),(35,jx),(40,e1)]),(151,[(43,FA)])]
theorem Xb:FB.dm 11 a7 (eE dT TW) 2000 312=true:=by kernel_rfl
def TX:List (Nat×List (Nat×bz)):=[(22,[(17,bT),(23,bT),(28,iD)]),(74,[(18,e1)])]
theorem Xc:FC.dm 11 a7 (eE dT TX) 2000 151=true:=by kernel_rfl
theorem Xd:yp.dm 11 a7 fN 2000 74=true:=by kernel_rfl
def TY:List (Nat×List (Nat×bz)):=[(22,[(19,bT)])]
theorem Xe:FD.dm 11 a7 (eE dT TY) 2000 32=true:=by kernel_rfl
def TZ:List (Nat×List (Nat×bz)):=[(148,[(13,r5)]),(22,[(22,bT),(26,iD)])]
theorem Xf:FE.dm 11 a7 (eE dT TZ) 2000 90=true:=by kernel_rfl
def T0:List (Nat×List (Nat×bz)):=[(22,[(14,iD)])]
theorem Xg:Bx.dm 11 a7 (eE dT T0) 2000 24=true:=by kernel_rfl
def T1:List (Nat×List (Nat×bz)):=[(74,[(21,r6)]),(22,[(30,iD),(32,iD),(34,iD)])]
theorem Xh:FF.dm 11 a7 (eE dT T1) 2000 151=true:=by kernel_rfl
theorem Xi:By.dm 11 a7 fN 2000 74=true:=by kernel_rfl
def T2:List (Nat×List (Nat×bz)):=[(22,[(15,bT),(17,iD)])]
theorem Xj:FG.dm 11 a7 (eE dT T2) 2000 20=true:=by kernel_rfl
def T3:List (Nat×List (Nat×bz)):=[(22,[(22,bT),(24,iD)])]
theorem Xk:yq.dm 11 a7 (eE dT T3) 2000 258=true:=by kernel_rfl
def T4:List (Nat×List (Nat×bz)):=[(22,[(14,iD)])]
theorem Xo:Bz.dm 11 a7 (eE dT T4) 2000 72=true:=by kernel_rfl
def T5:List (Nat×List (Nat×bz)):=[(72,[(15,Bz)])]
theorem Xp:FH.dm 11 a7 (eE dT T5) 2000 24=true:=by kernel_rfl
def T6:List (Nat×List (Nat×bz)):=[(22,[(14,iD)])]
theorem Xq:yr.dm 11 a7 (eE dT T6) 2000 72=true:=by kernel_rfl
def T7:List (Nat×List (Nat×bz)):=[(24,[(27,FH)]),(72,[(31,Bz),(33,yr)])]
theorem Xr:FI.dm 11 a7 (eE dT T7) 2000 151=true:=by kernel_rfl
def T8:List (Nat×List (Nat×bz)):=[(22,[(17,bT),(20,bT),(23,bT),(25,bT)]),(74,[(18,jx),(21,e1),(26,e1)])]
theorem Xs:FJ.dm 11 a7 (eE dT T8) 2000 151=true:=by kernel_rfl
