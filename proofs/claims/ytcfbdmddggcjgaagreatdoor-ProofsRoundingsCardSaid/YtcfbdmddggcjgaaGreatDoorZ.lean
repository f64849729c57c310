/- Every evaluated call holds of the model; no condition. -/
import Derived.Test.YtcfbdmddggcjgaaGreatDoorR1
import Derived.Test.YtcfbdmddggcjgaaGreatDoorR2
set_option linter.all false
namespace Go.az.gR
open Go.az.ck
set_option maxRecDepth 100000
theorem et:dT.cY∧dT.bw=aN.ctx.aB∧∀g,g<aN.ctx.aB->dT.b7.get g=some g:=aj5 (n:=11) (by kernel_rfl) (by kernel_rfl) rfl
theorem Ci:cF aN.ctx 173 (vQ.row 11):=
 sb (g:=3) (el:=3) (n:=3) (by kernel_rfl) (by kernel_rfl) (k5 aN.cG cN (fX _) Wi) (k5 aN.cG cN (fX _) Wj)
theorem Cj:cF aN.ctx 173 (kt.row 11):=
 sb (g:=3) (el:=3) (n:=3) (by kernel_rfl) (by kernel_rfl) (k5 aN.cG cN (fX _) Wu) (k5 aN.cG cN (fX _) Wv)
theorem L6:cF aN.ctx 173 (lG.row 11):=
 sb (g:=3) (el:=3) (n:=3) (by kernel_rfl) (by kernel_rfl) (k5 aN.cG cN (fX _) WK) (k5 aN.cG cN (fX _) WL)
theorem L9:cF aN.ctx 173 (mM.row 11):=
 sb (g:=3) (el:=3) (n:=3) (by kernel_rfl) (by kernel_rfl) (k5 aN.cG cN (fX _) WX) (k5 aN.cG cN (fX _) WY)
theorem Vk:cF aN.ctx 173 (qL.row 11):=
 sb (g:=3) (el:=3) (n:=8) (by kernel_rfl) (by kernel_rfl) (k5 aN.cG cN (fX _) W9) (k5 aN.cG cN (fX _) Xa)
theorem Vl:cF aN.ctx 173 (o0.row 11):=
 sb (g:=3) (el:=3) (n:=7) (by kernel_rfl) (by kernel_rfl) (k5 aN.cG cN (fX _) Xl) (k5 aN.cG cN (fX _) Xm)
theorem q0:cF aN.ctx 176 (pR.row 11):=
 dN aN.cG cN (fX _) Xn
theorem Cr:cF aN.ctx 19 (ys.row 11):=
 dN aN.cG cN (eJ (t:=Ub) et (bI (ar q0 bG) bu)) Xy
theorem bU:cF aN.ctx 22 (bT.row 11):=
 dN aN.cG cN (fX _) XJ
theorem Cs:cF aN.ctx 21 (yt.row 11):=
 dN aN.cG cN (eJ (t:=Un) et (bI (ar bU bG) bu)) XO
theorem qX:cF aN.ctx 5 (pO.row 11):=
 dN aN.cG cN (eJ (t:=Tw) et (bI (ar Cr bG) (bI (ar Cs bG) (bI (ar bU bG) bu)))) Wk
theorem e7:cF aN.ctx 74 (e1.row 11):=
 dN aN.cG cN (fX _) Wl
theorem sz:cF aN.ctx 85 (qI.row 11):=
 dN aN.cG cN (fX _) Wm
theorem uh:cF aN.ctx 148 (r5.row 11):=
 dN aN.cG cN (eJ (t:=Tx) et (bI (ar bU (ar bU bG)) bu)) Wn
theorem sA:cF aN.ctx 86 (qJ.row 11):=
 dN aN.cG cN (eJ (t:=Ty) et (bI (ar uh (ar uh bG)) (bI (ar bU (ar bU (ar bU (ar bU (ar bU (ar bU bG)))))) (bI (ar e7 (ar e7 bG)) bu)))) Wo
theorem Ck:cF aN.ctx 74 (yl.row 11):=
 dN aN.cG cN (fX _) Wp
theorem L4:cF aN.ctx 230 (Fk.row 11):=
 dN aN.cG cN (eJ (t:=Tz) et (bI (ar sz bG) (bI (ar bU (ar bU (ar bU (ar bU bG)))) (bI (ar sA bG) (bI (ar e7 (ar Ck bG)) bu))))) Wq
theorem zc:cF aN.ctx 5 (vR.row 11):=
 dN aN.cG cN (eJ (t:=TA) et (bI (ar q0 bG) (bI (ar bU bG) bu))) Wr
theorem jR:cF aN.ctx 74 (jx.row 11):=
 dN aN.cG cN (fX _) Ws
theorem L5:cF aN.ctx 230 (Fl.row 11):=
 dN aN.cG cN (eJ (t:=TB) et (bI (ar sz bG) (bI (ar bU (ar bU (ar bU (ar bU bG)))) (bI (ar sA bG) (bI (ar jR (ar Ck bG)) bu))))) Wt
theorem p5:cF aN.ctx 32 (oZ.row 11):=
 dN aN.cG cN (eJ (t:=TC) et (bI (ar bU (ar bU bG)) (bI (ar e7 (ar jR bG)) bu))) Ww
theorem L7:cF aN.ctx 14 (Fm.row 11):=
 dN aN.cG cN (fX _) Wx
theorem Vg:cF aN.ctx 173 (Fo.row 11):=
 sb (g:=3) (el:=3) (n:=5) (by kernel_rfl) (by kernel_rfl) (k5 aN.cG cN (fX _) Wy) (k5 aN.cG cN (fX _) Wz)
theorem Vh:cF aN.ctx 173 (Fp.row 11):=
 sb (g:=3) (el:=3) (n:=5) (by kernel_rfl) (by kernel_rfl) (k5 aN.cG cN (fX _) WA) (k5 aN.cG cN (fX _) WB)
theorem Vi:cF aN.ctx 173 (Fq.row 11):=
 sb (g:=3) (el:=3) (n:=8) (by kernel_rfl) (by kernel_rfl) (k5 aN.cG cN (fX _) WC) (k5 aN.cG cN (fX _) WD)
theorem Vj:cF aN.ctx 10 (Kd.row 11):=
 dN aN.cG cN (eJ (t:=TD) et (bI (ar Ci (ar Cj (ar Ci (ar L6 (ar Ci (ar Cj (ar Cj (ar L9 (ar Ci (ar L6 (ar Cj (ar L9 (ar Vk (ar Vl (ar Vg (ar Vh (ar Vi bG))))))))))))))))) (bI (ar qX (ar qX (ar zc (ar qX bG)))) (bI (ar bU (ar bU (ar bU (ar bU bG)))) (bI (ar e7 (ar e7 (ar jR (ar e7 bG)))) (bI (ar L4 (ar L5 bG)) (bI (ar p5 bG) (bI (ar L7 bG) bu)))))))) WE
theorem Cl:cF aN.ctx 63 (ym.row 11):=
 dN aN.cG cN (eJ (t:=TE) et (bI (ar qX (ar zc bG)) (bI (ar L4 (ar L5 bG)) (bI (ar p5 bG) bu)))) WG
theorem GP:cF aN.ctx 144 (Bu.row 11):=
 dN aN.cG cN (eJ (t:=TF) et (bI (ar Cr bG) (bI (ar Cs bG) (bI (ar bU bG) bu)))) WH
theorem L8:cF aN.ctx 21 (Fs.row 11):=
 dN aN.cG cN (fX _) WI
theorem GQ:cF aN.ctx 144 (Bv.row 11):=
 dN aN.cG cN (eJ (t:=TG) et (bI (ar q0 bG) (bI (ar L8 bG) (bI (ar bU bG) bu)))) WJ
theorem Ma:cF aN.ctx 21 (Ft.row 11):=
 dN aN.cG cN (fX _) WM
theorem iZ:cF aN.ctx 22 (iD.row 11):=
 dN aN.cG cN (fX _) WN
theorem GR:cF aN.ctx 144 (Bw.row 11):=
 dN aN.cG cN (eJ (t:=TH) et (bI (ar q0 (ar q0 bG)) (bI (ar L8 (ar Ma bG)) (bI (ar bU (ar iZ bG)) bu)))) WO
theorem sB:cF aN.ctx 133 (qK.row 11):=
 dN aN.cG cN (eJ (t:=TI) et (bI (ar Cl bG) bu)) WQ
theorem qY:cF aN.ctx 129 (pP.row 11):=
 dN aN.cG cN (eJ (t:=TJ) et (bI (ar qX (ar zc bG)) (bI (ar q0 bG) (bI (ar iZ (ar bU bG)) (bI (ar p5 bG) bu))))) WR
theorem zd:cF aN.ctx 137 (vS.row 11):=
 dN aN.cG cN (eJ (t:=TK) et (bI (ar qX (ar zc bG)) (bI (ar p5 bG) bu))) WS
theorem wE:cF aN.ctx 32 (tG.row 11):=
 dN aN.cG cN (eJ (t:=TL) et (bI (ar bU (ar bU bG)) (bI (ar e7 (ar e7 bG)) bu))) WT
theorem qZ:cF aN.ctx 74 (pQ.row 11):=
 dN aN.cG cN (fX _) WU
theorem Mb:cF aN.ctx 144 (Fu.row 11):=
 dN aN.cG cN (eJ (t:=TM) et (bI (ar q0 bG) (bI (ar bU bG) bu))) WV
theorem oc:cF aN.ctx 74 (ni.row 11):=
 dN aN.cG cN (fX _) WW
theorem Cm:cF aN.ctx 32 (yn.row 11):=
 dN aN.cG cN (eJ (t:=TN) et (bI (ar bU (ar bU bG)) (bI (ar e7 (ar oc bG)) bu))) WZ
theorem Cn:cF aN.ctx 129 (yo.row 11):=
 dN aN.cG cN (eJ (t:=TO) et (bI (ar qX bG) (bI (ar Mb bG) (bI (ar Cr bG) (bI (ar q0 bG) (bI (ar Cs bG) (bI (ar iZ bG) (bI (ar Cm bG) bu)))))))) W0
theorem ze:cF aN.ctx 362 (vT.row 11):=
 dN aN.cG cN (eJ (t:=TP) et (bI (ar e7 (ar e7 (ar jR (ar e7 bG)))) (bI (ar bU (ar bU (ar bU (ar bU bG)))) (bI (ar p5 (ar p5 bG)) bu)))) W1
theorem Mc:cF aN.ctx 313 (Fv.row 11):=
 dN aN.cG cN (eJ (t:=TQ) et (bI (ar ze bG) (bI (ar bU (ar bU (ar bU (ar bU (ar bU (ar bU (ar bU (ar bU (ar bU (ar bU bG)))))))))) (bI (ar e7 (ar e7 (ar jR (ar oc (ar jR (ar oc (ar jR (ar oc bG)))))))) (bI (ar p5 bG) bu))))) W2
theorem Md:cF aN.ctx 151 (Fw.row 11):=
 dN aN.cG cN (eJ (t:=TR) et (bI (ar bU (ar bU (ar bU (ar bU bG)))) (bI (ar qZ (ar qZ (ar e7 bG))) bu))) W3
theorem Me:cF aN.ctx 314 (Fx.row 11):=
 dN aN.cG cN (eJ (t:=TS) et (bI (ar p5 (ar p5 bG)) (bI (ar bU (ar bU (ar bU (ar bU (ar bU (ar bU bG)))))) (bI (ar e7 (ar e7 (ar e7 bG))) (bI (ar Md (ar Md bG)) bu))))) W4
theorem Mf:cF aN.ctx 151 (Fy.row 11):=
 dN aN.cG cN (eJ (t:=TT) et (bI (ar bU (ar bU (ar bU (ar bU bG)))) (bI (ar oc (ar qZ (ar e7 bG))) bu))) W5
theorem Mg:cF aN.ctx 7 (Fz.row 11):=
 dN aN.cG cN (eJ (t:=TU) et (bI (ar sz (ar sz bG)) (bI (ar sA (ar sA bG)) (bI (ar bU (ar bU (ar bU (ar bU (ar bU (ar bU (ar iZ (ar iZ bG)))))))) (bI (ar oc (ar Ck (ar oc (ar Ck bG)))) (bI (ar uh bG) bu)))))) W6
theorem ui:cF aN.ctx 74 (r6.row 11):=
 dN aN.cG cN (fX _) W7
theorem Mh:cF aN.ctx 151 (FA.row 11):=
 dN aN.cG cN (eJ (t:=TV) et (bI (ar bU (ar bU (ar bU (ar bU bG)))) (bI (ar oc (ar e7 (ar e7 bG))) bu))) W8
theorem Mi:cF aN.ctx 312 (FB.row 11):=
 dN aN.cG cN (eJ (t:=TW) et (bI (ar bU (ar bU (ar bU (ar bU bG)))) (bI (ar e7 (ar jR (ar e7 bG))) (bI (ar Mh bG) bu)))) Xb
theorem Mj:cF aN.ctx 151 (FC.row 11):=
 dN aN.cG cN (eJ (t:=TX) et (bI (ar bU (ar bU (ar iZ bG))) (bI (ar e7 bG) bu))) Xc
theorem Co:cF aN.ctx 74 (yp.row 11):=
 dN aN.cG cN (fX _) Xd
theorem Mk:cF aN.ctx 32 (FD.row 11):=
 dN aN.cG cN (eJ (t:=TY) et (bI (ar bU bG) bu)) Xe
theorem Ml:cF aN.ctx 90 (FE.row 11):=
 dN aN.cG cN (eJ (t:=TZ) et (bI (ar uh bG) (bI (ar bU (ar iZ bG)) bu))) Xf
theorem GS:cF aN.ctx 24 (Bx.row 11):=
 dN aN.cG cN (eJ (t:=T0) et (bI (ar iZ bG) bu)) Xg
theorem Mm:cF aN.ctx 151 (FF.row 11):=
 dN aN.cG cN (eJ (t:=T1) et (bI (ar ui bG) (bI (ar iZ (ar iZ (ar iZ bG))) bu))) Xh
theorem GU:cF aN.ctx 74 (By.row 11):=
 dN aN.cG cN (fX _) Xi
theorem Mn:cF aN.ctx 20 (FG.row 11):=
 dN aN.cG cN (eJ (t:=T2) et (bI (ar bU (ar iZ bG)) bu)) Xj
theorem Cp:cF aN.ctx 258 (yq.row 11):=
 dN aN.cG cN (eJ (t:=T3) et (bI (ar bU (ar iZ bG)) bu)) Xk
theorem GV:cF aN.ctx 72 (Bz.row 11):=
 dN aN.cG cN (eJ (t:=T4) et (bI (ar iZ bG) bu)) Xo
theorem Mo:cF aN.ctx 24 (FH.row 11):=
 dN aN.cG cN (eJ (t:=T5) et (bI (ar GV bG) bu)) Xp
theorem Cq:cF aN.ctx 72 (yr.row 11):=
 dN aN.cG cN (eJ (t:=T6) et (bI (ar iZ bG) bu)) Xq
theorem Mp:cF aN.ctx 151 (FI.row 11):=
 dN aN.cG cN (eJ (t:=T7) et (bI (ar Mo bG) (bI (ar GV (ar Cq bG)) bu))) Xr
theorem Mq:cF aN.ctx 151 (FJ.row 11):=
 dN aN.cG cN (eJ (t:=T8) et (bI (ar bU (ar bU (ar bU (ar bU bG)))) (bI (ar jR (ar e7 (ar e7 bG))) bu))) Xs
theorem Mr:cF aN.ctx 32 (FK.row 11):=
 dN aN.cG cN (eJ (t:=T9) et (bI (ar bU bG) bu)) Xt
theorem Vm:cF aN.ctx 13 (Ke.row 11):=
 dN aN.cG cN (eJ (t:=Ua) et (bI (ar sB bG) (bI (ar qX (ar zc bG)) (bI (ar p5 (ar wE (ar wE (ar Mr (ar Mr bG))))) (bI (ar Cn (ar qY (ar qY (ar Cn bG)))) (bI (ar Mi bG) (bI (ar Mj (ar Mp (ar Mp (ar Mq (ar Mh (ar Mq (ar Mm bG))))))) (bI (ar bU (ar bU (ar bU (ar bU (ar bU (ar bU (ar bU (ar bU (ar bU (ar bU (ar bU (ar bU (ar bU (ar bU (ar bU (ar bU (ar bU (ar bU (ar iZ (ar bU (ar bU (ar bU (ar iZ (ar bU (ar bU (ar iZ (ar iZ (ar iZ bG)))))))))))))))))))))))))))) (bI (ar e7 (ar jR (ar e7 (ar jR (ar jR (ar jR (ar jR (ar e7 (ar e7 (ar e7 (ar jR (ar jR (ar e7 (ar Co (ar Co bG))))))))))))))) (bI (ar Mn (ar Mn bG)) (bI (ar uh bG) (bI (ar Cp (ar Cp (ar Cp (ar Cp bG)))) (bI (ar ze (ar ze (ar ze (ar ze bG)))) (bI (ar Mo (ar GS bG)) (bI (ar GV (ar Cq (ar Cq (ar Cq bG)))) (bI (ar sz (ar sz bG)) (bI (ar sA (ar sA bG)) (bI (ar Ml bG) bu)))))))))))))))))) Xu
theorem Ms:cF aN.ctx 61 (FL.row 11):=
 dN aN.cG cN (fX _) Xv
theorem Mt:cF aN.ctx 61 (FM.row 11):=
 dN aN.cG cN (fX _) Xw
theorem Mu:cF aN.ctx 278 (FN.row 11):=
 dN aN.cG cN (fX _) Xx
theorem Vn:cF aN.ctx 167 (Kf.row 11):=
 yG aN.cG cN (eJ (t:=Uc) et (bI (ar Mu bG) bu)) (xf:=f167) (by kernel_rfl) Xz
theorem Vo:cF aN.ctx 258 (Kg.row 11):=
 dN aN.cG cN (eJ (t:=Ud) et (bI (ar bU (ar bU bG)) (bI (ar e7 bG) bu))) XA
theorem Vp:cF aN.ctx 264 (Kh.row 11):=
 dN aN.cG cN (eJ (t:=Ue) et (bI (ar bU (ar bU (ar bU (ar bU bG)))) (bI (ar e7 (ar qZ (ar e7 bG))) bu))) XB
theorem Vq:cF aN.ctx 166 (Ki.row 11):=
 yG aN.cG cN (eJ (t:=Uf) et (bI (ar Vo bG) (bI (ar Vp bG) bu))) (xf:=f166) (by kernel_rfl) XC
theorem Mv:cF aN.ctx 278 (FO.row 11):=
 dN aN.cG cN (fX _) XD
theorem Vr:cF aN.ctx 167 (Kj.row 11):=
 yG aN.cG cN (eJ (t:=Ug) et (bI (ar Mv bG) bu)) (xf:=f167) (by kernel_rfl) XE
theorem Vs:cF aN.ctx 258 (Kk.row 11):=
 dN aN.cG cN (eJ (t:=Uh) et (bI (ar e7 (ar e7 bG)) (bI (ar bU (ar bU bG)) bu))) XF
theorem Vt:cF aN.ctx 264 (Kl.row 11):=
 dN aN.cG cN (eJ (t:=Ui) et (bI (ar bU (ar bU (ar bU (ar bU bG)))) (bI (ar e7 (ar qZ (ar e7 bG))) bu))) XG
theorem Vu:cF aN.ctx 146 (Km.row 11):=
 yG aN.cG cN (eJ (t:=Uj) et (bI (ar Vs bG) (bI (ar Vt bG) bu))) (xf:=f146) (by kernel_rfl) XH
theorem Vv:cF aN.ctx 167 (Kn.row 11):=
 yG aN.cG cN (eJ (t:=Uk) et (bI (ar Mv (ar Mu bG)) bu)) (xf:=f167) (by kernel_rfl) XI
theorem Vw:cF aN.ctx 168 (Ko.row 11):=
 dN aN.cG cN (fX _) XK
theorem Vx:cF aN.ctx 14 (Kp.row 11):=
 dN aN.cG cN (fX _) XL
theorem Vy:cF aN.ctx 67 (Kq.row 11):=
 yG aN.cG cN (eJ (t:=Ul) et (bI (ar Vw bG) (bI (ar Vx (ar L7 bG)) bu))) (xf:=f67) (by kernel_rfl) XM
theorem Mw:cF aN.ctx 4 (j7.row 11):=
 dN aN.cG cN (eJ (t:=Um) et (bI (ar Vj bG) (bI (ar Cl (ar Cl (ar Cl bG))) (bI (ar GP (ar GQ (ar GR (ar GP (ar GQ (ar GR (ar GP (ar GQ (ar GR (ar Mb bG)))))))))) (bI (ar sB (ar sB (ar sB (ar sB (ar sB (ar sB (ar sB bG))))))) (bI (ar qY (ar Cn (ar qY (ar qY (ar Cn (ar qY (ar qY (ar qY (ar qY bG))))))))) (bI (ar zd (ar zd (ar zd (ar zd (ar zd bG))))) (bI (ar wE (ar Cm (ar wE (ar Mk (ar Mk (ar wE (ar Cm (ar Cm (ar wE bG))))))))) (bI (ar bU (ar bU (ar bU (ar bU (ar bU (ar bU (ar iZ (ar bU (ar bU (ar bU (ar bU (ar bU (ar bU (ar bU (ar iZ (ar bU (ar bU (ar bU (ar bU (ar bU (ar bU (ar bU (ar bU (ar bU (ar bU (ar bU (ar bU (ar bU (ar bU (ar bU (ar bU (ar iZ (ar bU (ar bU bG)))))))))))))))))))))))))))))))))) (bI (ar jR (ar jR (ar qZ (ar qZ (ar e7 (ar ui (ar oc (ar oc (ar ui (ar ui (ar Co (ar e7 (ar ui (ar e7 (ar Co (ar GU (ar e7 (ar e7 (ar GU (ar GU (ar jR (ar jR (ar qZ (ar qZ (ar e7 (ar ui (ar oc (ar oc (ar ui bG))))))))))))))))))))))))))))) (bI (ar Mc (ar Mc bG)) (bI (ar Me (ar Me bG)) (bI (ar Mf (ar Mj (ar Mm (ar Mf bG)))) (bI (ar Mg (ar Mg bG)) (bI (ar Mi bG) (bI (ar sz (ar sz bG)) (bI (ar sA (ar sA bG)) (bI (ar Ml bG) (bI (ar GS (ar GS bG)) (bI (ar Vm bG) (bI (ar Ms (ar Mt (ar Mt (ar Ms bG)))) (bI (ar uh (ar uh bG)) (bI (ar Vn (ar Vr (ar Vv bG))) (bI (ar Vq bG) (bI (ar Vu bG) (bI (ar Vy bG) (bI (ar qX bG) (bI (ar Cr bG) (bI (ar q0 bG) (bI (ar Cs (ar Ma bG)) bu)))))))))))))))))))))))))))))) XN
