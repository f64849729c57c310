/- Every evaluated call holds of the model; no condition. -/
import Derived.Test.YteenccgikdibpaaGreatDoorR1
import Derived.Test.YteenccgikdibpaaGreatDoorR2
set_option linter.all false
namespace Go.an.g4
open Go.an.bh
set_option maxRecDepth 100000
theorem eA:dU.c2∧dU.bf=aC.ctx.aE∧∀g,g<aC.ctx.aE->dU.cH.get g=some g:=ap9 (n:=12) (by kernel_rfl) (by kernel_rfl) rfl
theorem ab5:cx aC.ctx 204 (qV.row 12):=
 tG (g:=4) (el:=3) (n:=3) (by kernel_rfl) (by kernel_rfl) (lK aC.cv cA (fV _) adb) (lK aC.cv cA (fV _) ade)
theorem JG:cx aC.ctx 204 (ic.row 12):=
 tG (g:=4) (el:=3) (n:=3) (by kernel_rfl) (by kernel_rfl) (lK aC.cv cA (fV _) adp) (lK aC.cv cA (fV _) adq)
theorem JH:cx aC.ctx 204 (kL.row 12):=
 tG (g:=4) (el:=3) (n:=3) (by kernel_rfl) (by kernel_rfl) (lK aC.cv cA (fV _) adD) (lK aC.cv cA (fV _) adE)
theorem Pb:cx aC.ctx 204 (p3.row 12):=
 tG (g:=4) (el:=3) (n:=3) (by kernel_rfl) (by kernel_rfl) (lK aC.cv cA (fV _) adP) (lK aC.cv cA (fV _) adQ)
theorem ab8:cx aC.ctx 204 (Ic.row 12):=
 tG (g:=4) (el:=3) (n:=8) (by kernel_rfl) (by kernel_rfl) (lK aC.cv cA (fV _) ad1) (lK aC.cv cA (fV _) ad2)
theorem ab9:cx aC.ctx 204 (Ih.row 12):=
 tG (g:=4) (el:=3) (n:=8) (by kernel_rfl) (by kernel_rfl) (lK aC.cv cA (fV _) aed) (lK aC.cv cA (fV _) aee)
theorem aca:cx aC.ctx 204 (Io.row 12):=
 tG (g:=4) (el:=3) (n:=7) (by kernel_rfl) (by kernel_rfl) (lK aC.cv cA (fV _) aep) (lK aC.cv cA (fV _) aeq)
theorem uh:cx aC.ctx 207 (r8.row 12):=
 dq aC.cv cA (fV _) aer
theorem bC:cx aC.ctx 67 (bx.row 12):=
 dq aC.cv cA (fV _) aeC
theorem PB:cx aC.ctx 66 (IB.row 12):=
 dq aC.cv cA (eL (t:=aaX) eA (bp (ag bC bo) bD)) aeG
theorem ug:cx aC.ctx 22 (r7.row 12):=
 dq aC.cv cA (eL (t:=Z8) eA (bp (ag uh bo) (bp (ag PB bo) (bp (ag bC bo) bD)))) adf
theorem gJ:cx aC.ctx 105 (gA.row 12):=
 dq aC.cv cA (fV _) adg
theorem wc:cx aC.ctx 172 (tA.row 12):=
 dq aC.cv cA (fV _) adh
theorem O8:cx aC.ctx 199 (H3.row 12):=
 dq aC.cv cA (eL (t:=Z9) eA (bp (ag bC bo) bD)) adi
theorem Bk:cx aC.ctx 213 (xX.row 12):=
 dq aC.cv cA (fV _) adj
theorem mZ:cx aC.ctx 49 (mg.row 12):=
 dq aC.cv cA (eL (t:=aaa) eA (bp (ag bC (ag bC bo)) bD)) adk
theorem Bl:cx aC.ctx 175 (xY.row 12):=
 dq aC.cv cA (eL (t:=aab) eA (bp (ag mZ bo) (bp (ag bC bo) bD))) adl
theorem Bm:cx aC.ctx 95 (xZ.row 12):=
 dq aC.cv cA (eL (t:=aac) eA (bp (ag bC (ag bC (ag bC (ag bC bo)))) (bp (ag gJ (ag gJ bo)) bD))) adm
theorem Bn:cx aC.ctx 197 (x0.row 12):=
 dq aC.cv cA (eL (t:=aad) eA (bp (ag bC bo) bD)) adn
theorem EM:cx aC.ctx 105 (As.row 12):=
 dq aC.cv cA (fV _) ado
theorem JI:cx aC.ctx 110 (DQ.row 12):=
 dq aC.cv cA (eL (t:=aae) eA (bp (ag wc bo) (bp (ag O8 bo) (bp (ag Bk bo) (bp (ag bC (ag bC (ag bC bo))) (bp (ag Bl bo) (bp (ag mZ bo) (bp (ag Bm bo) (bp (ag Bn bo) (bp (ag gJ (ag EM bo)) bD)))))))))) adr
theorem Bo:cx aC.ctx 22 (x1.row 12):=
 dq aC.cv cA (eL (t:=aaf) eA (bp (ag uh bo) (bp (ag bC bo) bD))) ads
theorem JJ:cx aC.ctx 105 (DR.row 12):=
 dq aC.cv cA (fV _) adt
theorem O9:cx aC.ctx 199 (H4.row 12):=
 dq aC.cv cA (eL (t:=aag) eA (bp (ag bC bo) bD)) adu
theorem Pa:cx aC.ctx 197 (H5.row 12):=
 dq aC.cv cA (eL (t:=aah) eA (bp (ag bC bo) bD)) adv
theorem JK:cx aC.ctx 110 (DS.row 12):=
 dq aC.cv cA (eL (t:=aai) eA (bp (ag wc bo) (bp (ag O9 bo) (bp (ag Pa (ag Bn bo)) (bp (ag Bl bo) (bp (ag mZ bo) (bp (ag Bm bo) (bp (ag bC (ag bC bo)) (bp (ag JJ (ag EM bo)) bD))))))))) adw
theorem JL:cx aC.ctx 111 (DT.row 12):=
 dq aC.cv cA (eL (t:=aaj) eA (bp (ag bC (ag bC bo)) (bp (ag gJ (ag JJ bo)) bD))) adx
theorem ab6:cx aC.ctx 204 (H6.row 12):=
 tG (g:=4) (el:=3) (n:=5) (by kernel_rfl) (by kernel_rfl) (lK aC.cv cA (fV _) ady) (lK aC.cv cA (fV _) adz)
theorem ab7:cx aC.ctx 204 (H7.row 12):=
 tG (g:=4) (el:=3) (n:=8) (by kernel_rfl) (by kernel_rfl) (lK aC.cv cA (fV _) adA) (lK aC.cv cA (fV _) adB)
theorem EN:cx aC.ctx 19 (At.row 12):=
 dq aC.cv cA (eL (t:=aak) eA (bp (ag ug (ag Bo bo)) (bp (ag JI (ag JK bo)) (bp (ag JL bo) bD)))) adC
theorem ef:cx aC.ctx 67 (ee.row 12):=
 dq aC.cv cA (fV _) adF
theorem Pc:cx aC.ctx 22 (H8.row 12):=
 dq aC.cv cA (eL (t:=aal) eA (bp (ag uh (ag uh bo)) (bp (ag PB bo) (bp (ag ef bo) bD)))) adG
theorem Pd:cx aC.ctx 75 (H9.row 12):=
 dq aC.cv cA (eL (t:=aam) eA (bp (ag EN (ag EN bo)) (bp (ag Pc (ag Pc bo)) bD))) adH
theorem Pe:cx aC.ctx 51 (Ia.row 12):=
 dq aC.cv cA (eL (t:=aan) eA (bp (ag bC (ag ef (ag bC bo))) bD)) adI
theorem Bp:cx aC.ctx 105 (x2.row 12):=
 dq aC.cv cA (fV _) adJ
theorem EO:cx aC.ctx 105 (Au.row 12):=
 dq aC.cv cA (fV _) adK
theorem Pf:cx aC.ctx 95 (Ib.row 12):=
 dq aC.cv cA (eL (t:=aao) eA (bp (ag bC (ag bC (ag bC (ag bC bo)))) (bp (ag Bp (ag EO (ag gJ bo))) bD))) adL
theorem hk:cx aC.ctx 104 (g1.row 12):=
 dq aC.cv cA (eL (t:=aap) eA (bp (ag bC bo) bD)) adM
theorem we:cx aC.ctx 105 (tB.row 12):=
 dq aC.cv cA (fV _) adN
theorem Bq:cx aC.ctx 213 (x3.row 12):=
 dq aC.cv cA (fV _) adO
theorem jF:cx aC.ctx 197 (ji.row 12):=
 dq aC.cv cA (eL (t:=aaq) eA (bp (ag hk bo) bD)) adR
theorem EP:cx aC.ctx 105 (Av.row 12):=
 dq aC.cv cA (fV _) adS
theorem oh:cx aC.ctx 105 (nw.row 12):=
 dq aC.cv cA (fV _) adT
theorem o5:cx aC.ctx 197 (n4.row 12):=
 dq aC.cv cA (eL (t:=aar) eA (bp (ag hk bo) (bp (ag Bq bo) bD))) adU
theorem oi:cx aC.ctx 51 (nx.row 12):=
 dq aC.cv cA (eL (t:=aas) eA (bp (ag hk bo) (bp (ag bC bo) bD))) adV
theorem Pg:cx aC.ctx 174 (Ie.row 12):=
 dq aC.cv cA (eL (t:=aat) eA (bp (ag hk (ag hk (ag hk (ag hk bo)))) (bp (ag oh (ag oh (ag gJ bo))) bD))) adW
theorem o6:cx aC.ctx 95 (n5.row 12):=
 dq aC.cv cA (eL (t:=aau) eA (bp (ag Pg bo) bD)) adX
theorem oj:cx aC.ctx 52 (ny.row 12):=
 dq aC.cv cA (fV _) adY
theorem Ph:cx aC.ctx 317 (Ig.row 12):=
 dq aC.cv cA (eL (t:=aav) eA (bp (ag bC (ag ef (ag ef (ag ef (ag bC (ag bC (ag bC bo))))))) (bp (ag Bq bo) (bp (ag jF (ag o5 (ag jF (ag o5 (ag jF (ag o5 (ag jF bo))))))) (bp (ag hk (ag hk bo)) (bp (ag EP (ag oh (ag gJ bo))) (bp (ag oi (ag oi (ag oi bo))) (bp (ag o6 (ag o6 (ag o6 bo))) (bp (ag oj (ag oj (ag oj bo))) bD))))))))) adZ
theorem qk:cx aC.ctx 49 (oU.row 12):=
 dq aC.cv cA (eL (t:=aaw) eA (bp (ag ef (ag bC bo)) bD)) ad0
theorem yH:cx aC.ctx 365 (vD.row 12):=
 dq aC.cv cA (eL (t:=aax) eA (bp (ag qk (ag qk bo)) (bp (ag jF bo) (bp (ag Pg bo) bD)))) ad3
theorem yI:cx aC.ctx 197 (vE.row 12):=
 dq aC.cv cA (eL (t:=aay) eA (bp (ag hk bo) bD)) ad4
theorem Pj:cx aC.ctx 174 (Ii.row 12):=
 dq aC.cv cA (eL (t:=aaz) eA (bp (ag bC (ag bC bo)) (bp (ag oh (ag EP (ag gJ bo))) (bp (ag hk (ag hk bo)) bD)))) ad5
theorem Br:cx aC.ctx 49 (x4.row 12):=
 dq aC.cv cA (eL (t:=aaA) eA (bp (ag bC bo) bD)) ad6
theorem Pk:cx aC.ctx 174 (Ij.row 12):=
 dq aC.cv cA (eL (t:=aaB) eA (bp (ag bC (ag bC bo)) (bp (ag oh (ag Bp (ag gJ bo))) (bp (ag hk (ag hk bo)) bD)))) ad7
theorem ER:cx aC.ctx 312 (Aw.row 12):=
 dq aC.cv cA (eL (t:=aaC) eA (bp (ag yH bo) (bp (ag yI (ag jF bo)) (bp (ag qk (ag Br bo)) (bp (ag Pk (ag Pk bo)) bD))))) ad8
theorem ES:cx aC.ctx 122 (Ax.row 12):=
 dq aC.cv cA (eL (t:=aaD) eA (bp (ag ef bo) bD)) ad9
theorem Pl:cx aC.ctx 197 (Ik.row 12):=
 dq aC.cv cA (eL (t:=aaE) eA (bp (ag bC (ag ef bo)) (bp (ag ES (ag ES bo)) bD))) aea
theorem Pm:cx aC.ctx 174 (Il.row 12):=
 dq aC.cv cA (eL (t:=aaF) eA (bp (ag hk (ag hk bo)) (bp (ag we (ag oh (ag gJ bo))) (bp (ag bC (ag bC bo)) bD)))) aeb
theorem Pn:cx aC.ctx 317 (Im.row 12):=
 dq aC.cv cA (eL (t:=aaG) eA (bp (ag bC (ag ef (ag ef (ag ef (ag bC bo))))) (bp (ag Bq bo) (bp (ag jF (ag o5 (ag jF (ag o5 (ag jF (ag o5 (ag jF bo))))))) (bp (ag Pm bo) (bp (ag oi (ag oi (ag oi bo))) (bp (ag o6 (ag o6 (ag o6 bo))) (bp (ag oj (ag oj (ag oj bo))) bD)))))))) aec
theorem Po:cx aC.ctx 174 (Ip.row 12):=
 dq aC.cv cA (eL (t:=aaH) eA (bp (ag bC (ag bC bo)) (bp (ag oh (ag we (ag gJ bo))) (bp (ag hk (ag hk bo)) bD)))) aef
theorem Pp:cx aC.ctx 197 (Iq.row 12):=
 dq aC.cv cA (eL (t:=aaI) eA (bp (ag bC (ag ef (ag ef (ag ef bo)))) (bp (ag Bk bo) bD))) aeg
theorem ET:cx aC.ctx 173 (Ay.row 12):=
 dq aC.cv cA (eL (t:=aaJ) eA (bp (ag O8 bo) (bp (ag Bk (ag Bk bo)) (bp (ag bC (ag bC (ag ef (ag ef (ag ef (ag bC (ag bC (ag bC (ag bC (ag bC (ag bC (ag bC (ag bC (ag bC bo)))))))))))))) (bp (ag Pe bo) (bp (ag Pf (ag Bm bo)) (bp (ag hk bo) (bp (ag mZ (ag mZ (ag qk bo))) (bp (ag Bl bo) (bp (ag Bn (ag yI (ag jF (ag Pp bo)))) (bp (ag EM (ag EO (ag gJ bo))) (bp (ag Pn bo) (bp (ag yH bo) (bp (ag Po (ag Po bo)) (bp (ag ER bo) bD))))))))))))))) aeh
theorem EU:cx aC.ctx 49 (Az.row 12):=
 dq aC.cv cA (eL (t:=aaK) eA (bp (ag bC bo) bD)) aei
theorem JM:cx aC.ctx 105 (DU.row 12):=
 dq aC.cv cA (fV _) aej
theorem EV:cx aC.ctx 105 (AA.row 12):=
 dq aC.cv cA (fV _) aek
theorem Pq:cx aC.ctx 174 (Ir.row 12):=
 dq aC.cv cA (eL (t:=aaL) eA (bp (ag bC (ag bC bo)) (bp (ag oh (ag EV (ag gJ bo))) (bp (ag hk (ag hk bo)) bD)))) ael
theorem JN:cx aC.ctx 266 (DV.row 12):=
 dq aC.cv cA (eL (t:=aaM) eA (bp (ag yH bo) (bp (ag yI (ag jF bo)) (bp (ag qk bo) (bp (ag bC bo) (bp (ag Pq (ag Pq bo)) bD)))))) aem
theorem Pr:cx aC.ctx 174 (Is.row 12):=
 dq aC.cv cA (eL (t:=aaN) eA (bp (ag bC (ag bC bo)) (bp (ag oh (ag gJ bo)) (bp (ag hk (ag hk bo)) bD)))) aen
theorem Ps:cx aC.ctx 103 (It.row 12):=
 dq aC.cv cA (fV _) aeo
theorem acb:cx aC.ctx 15 (Nv.row 12):=
 dq aC.cv cA (eL (t:=aaO) eA (bp (ag EN bo) (bp (ag ug (ag Bo bo)) (bp (ag wc (ag wc (ag wc (ag wc bo)))) (bp (ag O9 bo) (bp (ag Pa (ag Bn (ag yI (ag jF (ag Pl (ag Pp (ag jF (ag o5 (ag jF (ag o5 (ag jF (ag o5 (ag jF (ag yI (ag jF (ag Pl bo)))))))))))))))) (bp (ag Pe (ag oi (ag oi (ag oi (ag oi bo))))) (bp (ag Pf (ag Bm (ag o6 (ag o6 (ag o6 bo))))) (bp (ag hk (ag hk (ag hk (ag hk (ag hk bo))))) (bp (ag mZ (ag mZ (ag qk (ag mZ (ag mZ (ag qk (ag Br (ag qk (ag EU (ag qk (ag Br (ag mZ (ag EU (ag qk (ag Br (ag EU (ag EU (ag Br bo)))))))))))))))))) (bp (ag bC (ag ef (ag ef (ag ef (ag bC (ag bC (ag bC (ag bC (ag bC (ag bC (ag bC (ag bC (ag bC (ag bC (ag bC (ag bC (ag bC (ag bC (ag bC (ag bC (ag bC (ag bC (ag bC (ag bC (ag bC (ag bC (ag bC (ag bC (ag bC (ag bC (ag bC (ag bC (ag ef (ag ef (ag ef (ag bC (ag ef (ag bC (ag bC (ag bC (ag bC (ag bC (ag bC (ag bC (ag bC (ag bC (ag ef (ag ef (ag ef (ag bC (ag bC (ag bC (ag bC (ag bC (ag ef (ag bC (ag bC (ag bC (ag bC (ag ef (ag ef (ag ef (ag bC (ag ef (ag bC (ag bC (ag bC (ag bC (ag bC (ag bC (ag bC bo))))))))))))))))))))))))))))))))))))))))))))))))))))))))))))))))))))))) (bp (ag Bl bo) (bp (ag EM (ag EO (ag we (ag gJ (ag EP (ag we (ag gJ (ag EO (ag gJ (ag gJ (ag gJ (ag oh (ag JM (ag we (ag EV (ag Bp (ag gJ (ag Bp (ag JM (ag we (ag gJ (ag EV (ag oh (ag gJ (ag gJ (ag JM (ag we (ag Bp (ag gJ (ag EP (ag EV bo))))))))))))))))))))))))))))))) (bp (ag Ph (ag Pn (ag Ph bo))) (bp (ag yH (ag yH bo)) (bp (ag Pj (ag Pj (ag Pm (ag Pr (ag Pr bo))))) (bp (ag ER (ag ER (ag ER bo))) (bp (ag ET (ag ET (ag ET (ag ET bo)))) (bp (ag oj (ag oj (ag oj (ag oj bo)))) (bp (ag JN (ag JN (ag JN bo))) (bp (ag Bq (ag Bk bo)) (bp (ag ES (ag ES bo)) (bp (ag Ps (ag Ps bo)) bD))))))))))))))))))))))) aes
theorem Pt:cx aC.ctx 77 (Iu.row 12):=
 dq aC.cv cA (eL (t:=aaP) eA (bp (ag ug (ag Bo bo)) (bp (ag JI (ag JK bo)) (bp (ag JL bo) bD)))) aet
theorem JO:cx aC.ctx 105 (DW.row 12):=
 dq aC.cv cA (fV _) aeu
theorem Pu:cx aC.ctx 93 (Iv.row 12):=
 dq aC.cv cA (eL (t:=aaQ) eA (bp (ag Pt bo) (bp (ag uh (ag uh bo)) (bp (ag bC (ag ef (ag ef (ag ef (ag ef (ag bC (ag bC (ag bC bo)))))))) (bp (ag ug (ag Bo bo)) (bp (ag wc bo) (bp (ag Bl bo) (bp (ag mZ bo) (bp (ag Bm bo) (bp (ag Bn bo) (bp (ag JO (ag JO (ag JO bo))) bD))))))))))) aev
theorem Pv:cx aC.ctx 438 (Iw.row 12):=
 dq aC.cv cA (eL (t:=aaR) eA (bp (ag bC (ag ef bo)) bD)) aew
theorem Pw:cx aC.ctx 197 (Ix.row 12):=
 dq aC.cv cA (eL (t:=aaS) eA (bp (ag bC (ag bC (ag ef bo))) bD)) aex
theorem JP:cx aC.ctx 105 (DX.row 12):=
 dq aC.cv cA (fV _) aey
theorem JQ:cx aC.ctx 122 (DY.row 12):=
 dq aC.cv cA (eL (t:=aaT) eA (bp (ag ef bo) bD)) aez
theorem Px:cx aC.ctx 174 (Iy.row 12):=
 dq aC.cv cA (eL (t:=aaU) eA (bp (ag bC (ag bC bo)) (bp (ag oh (ag JP (ag gJ bo))) (bp (ag hk (ag hk bo)) bD)))) aeA
theorem Py:cx aC.ctx 103 (Iz.row 12):=
 dq aC.cv cA (fV _) aeB
theorem Pz:cx aC.ctx 103 (IA.row 12):=
 dq aC.cv cA (fV _) aeD
theorem acd:cx aC.ctx 17 (Nw.row 12):=
 dq aC.cv cA (eL (t:=aaV) eA (bp (ag Pu (ag Pu bo)) (bp (ag Pv (ag Pv bo)) (bp (ag ef (ag ef (ag ef (ag bC (ag bC (ag bC (ag bC (ag ef (ag ef (ag ef (ag ef (ag bC (ag bC (ag bC (ag bC (ag bC (ag bC (ag bC (ag bC (ag bC (ag bC (ag bC (ag bC (ag bC (ag bC (ag bC (ag bC (ag bC (ag bC (ag bC (ag bC (ag bC (ag bC (ag bC (ag bC (ag bC (ag ef (ag ef (ag ef (ag ef (ag ef (ag ef (ag bC (ag bC (ag bC (ag bC (ag bC (ag bC (ag ef (ag ef (ag ef bo))))))))))))))))))))))))))))))))))))))))))))))))))) (bp (ag mZ (ag mZ (ag mZ (ag mZ (ag qk bo))))) (bp (ag gJ (ag gJ (ag gJ (ag gJ (ag JP (ag JP (ag gJ (ag oh (ag gJ bo))))))))) (bp (ag Pw (ag jF (ag o5 (ag jF (ag o5 (ag jF (ag o5 (ag jF (ag yI (ag jF (ag Pw bo))))))))))) (bp (ag Bq bo) (bp (ag JQ (ag JQ bo)) (bp (ag hk (ag hk bo)) (bp (ag oi (ag oi (ag oi bo))) (bp (ag o6 (ag o6 (ag o6 bo))) (bp (ag oj (ag oj (ag oj bo))) (bp (ag yH bo) (bp (ag Px (ag Px bo)) (bp (ag Py (ag Pz (ag Py (ag Pz bo)))) bD)))))))))))))))) aeE
theorem PA:cx aC.ctx 5 (ks.row 12):=
 dq aC.cv cA (eL (t:=aaW) eA (bp (ag ab5 (ag JG (ag JH (ag JG (ag Pb (ag JG (ag JH (ag JH (ag Pb (ag ab8 (ag ab9 (ag aca (ag ab6 (ag ab7 bo)))))))))))))) (bp (ag ug (ag ug (ag Bo (ag ug (ag ug bo))))) (bp (ag bC (ag bC (ag bC (ag bC (ag bC (ag bC (ag bC (ag ef (ag ef (ag ef (ag bC (ag bC (ag bC (ag ef (ag bC bo))))))))))))))) (bp (ag gJ (ag gJ (ag JJ (ag gJ (ag gJ bo))))) (bp (ag JI (ag JK bo)) (bp (ag JL bo) (bp (ag Pd (ag Pd bo)) (bp (ag acb bo) (bp (ag EN bo) (bp (ag Pt bo) (bp (ag acd bo) (bp (ag uh (ag uh bo)) (bp (ag JQ bo) bD)))))))))))))) aeF
