/- In every world in which the listed variables read as the claim says, the call of ProofsBoxes returns true and changes nothing. -/
import Derived.Test.YtlnaeofgmkmfdaaGreatDoorRows
import Derived.Handed
import Derived.ProofKit
import Derived.OpenShut
import Derived.Shelf.Vars
import Derived.Lay
import Derived.LaidMore
import Derived.ChangeMaps5
import Derived.Lib.SmallJoins
import Derived.WideKeyArgs
import Derived.ChangeAgain
import Derived.Test.YtlnaeofgmkmfdaaGreatDoorC5
set_option linter.all false
namespace Go.Proofs.YtlnaeofgmkmfdaaGreatDoor
open Go.ChangeShapes Go.WideShapes Go.ChangeAt Go.RowKit Go.an
set_option maxRecDepth 100000
variable{ps:ac MemPlace}
def own:ownKnob Tryz.prog.godebug=none:=by kernel_rfl
def cW{P:f5}{W:d7}(h:W.ShapedOpen P){g:Nat}{t:ci}(aM:g<P.globals.size)(h0:(((begin P (fun _ _=>0) default).world.heap[g]?).bind Obj.row?).map (·.2)=some t):∃cs,W.heap[g]? =some (.cells cs t):=by
 obtain⟨⟨z,hM⟩,az,e2⟩:=zaR.1 h0;simp only at e2;subst e2;obtain⟨cs,I,_⟩:=h.1 g z hM aM az;exact⟨cs,I⟩
def yB:Tryz.prog.globals.size=11:=by kernel_rfl
def aaA:(Rows.proofsBoxesRow.laid.all fun x=>x.2.handleName?.isNone)=true:=by kernel_rfl
section
variable{W:d7}(hl:DataW.LaidVars Tryz.prog W Rows.proofsBoxesRow.laid ps)(ah:W.ShapedOpen Tryz.prog)
def alQ:vS 11 W hf.zF:=
 HL (n:=4) (t:=238) (name:= "vernier/proofs.plain") (d:=Rows.laid_vernier_proofs_plain) hl (by simp[Rows.proofsBoxesRow]) (by kernel_rfl) (by kernel_rfl) (by kernel_rfl) (by decide) (by decide) (by kernel_rfl) (cW ah (by rw[yB];decide) (by kernel_rfl))
def alR:vS 11 W hf.su:=
 HL (n:=4) (t:=289) (name:= "vernier/lang.after") (d:=Rows.laid_vernier_lang_after) hl (by simp[Rows.proofsBoxesRow]) (by kernel_rfl) (by kernel_rfl) (by kernel_rfl) (by decide) (by decide) (by kernel_rfl) (cW ah (by rw[yB];decide) (by kernel_rfl))
def alS:vS 11 W hf.pE:=
 HL (n:=4) (t:=362) (name:= "vernier/lang.shapes") (d:=Rows.laid_vernier_lang_shapes) hl (by simp[Rows.proofsBoxesRow]) (by kernel_rfl) (by kernel_rfl) (by kernel_rfl) (by decide) (by decide) (by kernel_rfl) (cW ah (by rw[yB];decide) (by kernel_rfl))
def alU:vS 11 W hf.qm:=
 HL (n:=4) (t:=428) (name:= "internal/strconv.uint64pow10") (d:=Rows.laid_internal_strconv_uint64pow10) hl (by simp[Rows.proofsBoxesRow]) (by kernel_rfl) (by kernel_rfl) (by kernel_rfl) (by decide) (by decide) (by kernel_rfl) (cW ah (by rw[yB];decide) (by kernel_rfl))
end
def alT{W:d7}(ah:W.ShapedOpen Tryz.prog):vS 11 W hf.mo:=by
 have h0:((begin Tryz.prog (fun _ _=>0) default).world.heap[4]?).bind Obj.row?=some (#[.int .i64 0],3):=by kernel_rfl
 obtain⟨cs,I,U,_⟩:=ah.1 4 _ 3 (by rw[yB];decide) h0;obtain⟨m,hm⟩:=cell_of_shapedOpen_int (k:=.i64) ah (by rw[yB];decide) h0 rfl (by kernel_rfl) (by kernel_rfl) Tryz.underlying3;have hc:cs= #[.int .i64 m]:=by
  have ag:cs[0]? =some (.int .i64 m):=by simpa[World.cell?,I]using hm
  obtain⟨l⟩:=cs
  match l,U,ag with
  |[x],_,ag=>simp at ag;rw[ag]
 refine⟨by decide,[.chan (some 1)],3,1,cs,_,rfl,by decide,I,?_⟩;rw[hc];exact .cons (.je 1 m (.inl rfl)) (.nil _)
def al5{W:d7}(ah:W.ShapedOpen Tryz.prog):11<=W.heap.size:=by
 obtain⟨cs,h⟩:=cW (g:=10) (t:=471) ah (by rw[yB];decide) (by kernel_rfl);have:=(zbh.1 h).1;omega
def adF:Tryz.prog.underlying 33=some (.struct #[Field.mk "Prog" 27 0 false "" "" 0,Field.mk "Proof" 31 8 false "" "" 128]):=by kernel_rfl
def aro:ac ci:=[22,3,23,24,3,3,25,3,28,29,29,29]
def arp:Tryz.prog.cellTypes Tryz.prog.depth 33=some aro:=by kernel_rfl
def avz:Tryz.prog.underlying 22=some (.slice 213):=by kernel_rfl
def avA:Tryz.prog.underlying 23=some (.slice 164):=by kernel_rfl
def avB:Tryz.prog.underlying 24=some (.slice 137):=by kernel_rfl
def avC:Tryz.prog.underlying 25=some (.slice 199):=by kernel_rfl
def avD:Tryz.prog.underlying 28=some (.slice 51):=by kernel_rfl
def params3:Tryz.f3.params.toList=[33,34]:=by kernel_rfl
def results3:Tryz.f3.resultTypes.toList=[4]:=by kernel_rfl
def aqA:Tryz.f3.resultTypes.size=1:=by kernel_rfl
def YG:laidOutB Tryz.prog=true:=by kernel_rfl
def asJ:Tryz.prog.readableRec 33=true:=by kernel_rfl
def asY:33<Tryz.prog.types.size:=zbd (by kernel_rfl)
def asK:Tryz.prog.readableRec 34=true:=by kernel_rfl
def asZ:34<Tryz.prog.types.size:=zbd (by kernel_rfl)
def adK:Tryz.prog.underlying 34=some (.slice 29):=by kernel_rfl
def afK:Az Tryz.prog 20 34=some [.a5 1 16 [.s]]:=by kernel_rfl
section
variable{B:Nat}{W:d7}{gs:ac (Nat×bB)}
def ahV(vs:ac bi):lh B W [.i .i64,.i .i64] vs->∃x:Int×Int,c4 (fun b=>(h6 gs W).get b) (a7.TU x) [] (vs.map (toA W))∧True:=by
 rintro⟨v,_,rfl,⟨m,rfl,_⟩,v',_,rfl,⟨eG,rfl,_⟩,rfl⟩;exact⟨(m,eG),⟨_,_,rfl,rfl,_,_,rfl,rfl,rfl⟩,trivial⟩
def ah0(vs:ac bi):lh B W [.i .i64,.i .i64] vs->∃x:a7.x5,c4 (fun b=>(h6 gs W).get b) (a7.acL x) [] (vs.map (toA W))∧True:=by
 rintro⟨v,_,rfl,⟨m,rfl,_⟩,v',_,rfl,⟨eG,rfl,_⟩,rfl⟩;exact⟨⟨m,eG⟩,⟨_,_,rfl,rfl,_,_,rfl,rfl,rfl⟩,trivial⟩
def ahW(vs:ac bi):lh B W [.i .i64,.s,.s] vs->∃x:a7.nb,c4 (fun b=>(h6 gs W).get b) (a7.BC x) [] (vs.map (toA W))∧(x.aK.length<=B∧x.ae.length<=B):=by
 rintro⟨v,_,rfl,⟨m,rfl,_⟩,v',_,rfl,⟨s,rfl,I⟩,axB,_,rfl,⟨bo,rfl,U⟩,rfl⟩;exact⟨⟨m,s.data.toList,bo.data.toList⟩,⟨_,_,rfl,rfl,_,_,rfl,rfl,_,_,rfl,rfl,rfl⟩,I,U⟩
def ahY(vs:ac bi):lh B W [.i .i64,.i .i64,.i .i64,.i .i64,.i .i64,.i .i64,.s] vs->∃x:a7.gM,c4 (fun b=>(h6 gs W).get b) (a7.lV x) [] (vs.map (toA W))∧x.v.length<=B:=by
 rintro⟨v0,_,rfl,⟨Oy,rfl,_⟩,v1,_,rfl,⟨eK,rfl,_⟩,v2,_,rfl,⟨fV,rfl,_⟩,QO,_,rfl,⟨m0,rfl,_⟩,v4,_,rfl,⟨oe,rfl,_⟩,QP,_,rfl,⟨tt,rfl,_⟩,v6,_,rfl,⟨s,rfl,I⟩,rfl⟩;exact⟨⟨Oy,eK,fV,m0,oe,tt,s.data.toList⟩,⟨_,_,rfl,rfl,_,_,rfl,rfl,_,_,rfl,rfl,_,_,rfl,rfl,_,_,rfl,rfl,_,_,rfl,rfl,_,_,rfl,rfl,rfl⟩,I⟩
def ahZ(vs:ac bi):lh B W [.i .i64] vs->∃x:Int,c4 (fun b=>(h6 gs W).get b) (a7.ie x) [] (vs.map (toA W))∧True:=by
 rintro⟨v,_,rfl,⟨m,rfl,_⟩,rfl⟩;exact⟨m,⟨_,_,rfl,rfl,rfl⟩,trivial⟩
def SH:ac ot:=[.s,.a5 1 8 [.i .i64]]
def LU:ac ot:=[.s,.i .i64,.a5 2 40 SH]
def LS:ac ot:=[.i .i64,.s,.s,.s,.a5 3 48 LU,.a5 3 48 LU]
def SG:ac ot:=[.i .i64,.i .i64,.s,.a5 6 104 LS,.a5 6 104 LS]
def ah1(a3:B<=a7.uc)(vs:ac bi):lh B W SH vs->∃x:a7.ud,c4 (fun b=>(h6 gs W).get b) (a7.KC x) [] (vs.map (toA W))∧a7.Ri x:=by
 rintro⟨v,_,rfl,⟨s,rfl,_⟩,w,_,rfl,h,rfl⟩;obtain⟨l,JJ,_,d⟩:=CC (gs:=gs) (by decide) ahZ h;exact⟨⟨s.data.toList,l⟩,⟨_,_,rfl,rfl,_,_,rfl,d,rfl⟩,zag JJ a3⟩
def Tr(a3:B<=a7.uc)(vs:ac bi):lh B W LU vs->∃x:a7.jN,c4 (fun b=>(h6 gs W).get b) (a7.qq x) [] (vs.map (toA W))∧a7.K6 x:=by
 rintro⟨v,_,rfl,⟨s,rfl,_⟩,u,_,rfl,⟨m,rfl,_⟩,w,_,rfl,h,rfl⟩;obtain⟨l,JJ,su,d⟩:=CC (gs:=gs) (by decide) (ah1 a3) h;exact⟨⟨s.data.toList,m,l⟩,⟨_,_,rfl,rfl,_,_,rfl,rfl,_,_,rfl,d,rfl⟩,zag JJ a3,su⟩
def Tq(a3:B<=a7.uc)(vs:ac bi):lh B W LS vs->∃x:a7.kY,c4 (fun b=>(h6 gs W).get b) (a7.qL x) [] (vs.map (toA W))∧a7.K5 x:=by
 rintro⟨v,_,rfl,⟨m,rfl,_⟩,v1,_,rfl,⟨s1,rfl,_⟩,v2,_,rfl,⟨s2,rfl,_⟩,QO,_,rfl,⟨sz,rfl,_⟩,v4,_,rfl,au,QP,_,rfl,a0,rfl⟩;obtain⟨EY,mo,xC,d4⟩:=CC (gs:=gs) (by decide) (Tr a3) au;obtain⟨zc,qm,xD,d5⟩:=CC (gs:=gs) (by decide) (Tr a3) a0;exact⟨⟨m,s1.data.toList,s2.data.toList,sz.data.toList,EY,zc⟩,⟨_,_,rfl,rfl,_,_,rfl,rfl,_,_,rfl,rfl,_,_,rfl,rfl,_,_,rfl,d4,_,_,rfl,d5,rfl⟩,⟨zag mo a3,xC⟩,zag qm a3,xD⟩
def ahX(a3:B<=a7.uc)(vs:ac bi):lh B W SG vs->∃x:a7.gX,c4 (fun b=>(h6 gs W).get b) (a7.sd x) [] (vs.map (toA W))∧a7.Rh x:=by
 rintro⟨v,_,rfl,⟨m,rfl,_⟩,v1,_,rfl,⟨n,rfl,_⟩,v2,_,rfl,⟨s,rfl,_⟩,v4,_,rfl,au,QP,_,rfl,a0,rfl⟩;obtain⟨EY,mo,xC,d4⟩:=CC (gs:=gs) (by decide) (Tq a3) au;obtain⟨zc,qm,xD,d5⟩:=CC (gs:=gs) (by decide) (Tq a3) a0;exact⟨⟨m,n,s.data.toList,EY,zc⟩,⟨_,_,rfl,rfl,_,_,rfl,rfl,_,_,rfl,rfl,_,_,rfl,d4,_,_,rfl,d5,rfl⟩,⟨zag mo a3,xC⟩,zag qm a3,xD⟩
def mB:ac ot:=[.a5 2 16 [.i .i64,.i .i64],.i .i64,.a5 3 40 [.i .i64,.s,.s],.a5 7 64 [.i .i64,.i .i64,.i .i64,.i .i64,.i .i64,.i .i64,.s],.i .i64,.i .i64,.a5 2 16 [.i .i64,.i .i64],.i .i64,.a5 5 80 SG,.s,.s,.s]
def afJ:Az Tryz.prog 20 33=some mB:=by kernel_rfl
def ah2(vs:ac bi):lh B W [.s] vs->∃x:ac ce,c4 (fun b=>(h6 gs W).get b) (a7.nR x) [] (vs.map (toA W))∧True:=by
 rintro⟨v,_,rfl,⟨s,rfl,_⟩,rfl⟩;exact⟨s.data.toList,⟨_,_,rfl,rfl,rfl⟩,trivial⟩
def aeV(a3:B<=a7.uc){vs:ac bi}{v:bi}(h:lh B W mB vs)(aE:lh B W [.a5 1 16 [.s]] [v])(hh:∀(i:Nat) (v:bi),vs[i]? =some v->i=0∨i=2∨i=3∨i=6∨i=8->A7 W v)(hl:A7 W v):
 ∃s:a7.CV,a7.GD s∧c4 (fun b=>(h6 gs W).get b) (a7.eS s.1++a7.h8 s.2.1) [] (vs.map (toA W))∧den (fun b=>(h6 gs W).get b) (.bq 1 (ac ce) a7.nR s.2.2) [] (toA W v):=by
 obtain⟨v0,_,rfl,h0,v1,_,rfl,⟨eK,rfl,_⟩,v2,_,rfl,U,QO,_,rfl,ag,v4,_,rfl,⟨oe,rfl,_⟩,QP,_,rfl,⟨tt,rfl,_⟩,v6,_,rfl,b5,axE,_,rfl,⟨ap3,rfl,_⟩,v10,_,rfl,rX,v11,_,rfl,⟨as8,rfl,_⟩,axC,_,rfl,⟨as9,rfl,_⟩,axD,_,rfl,⟨ata,rfl,_⟩,rfl⟩:=h;obtain⟨lb,_,_,_,d0⟩:=zT (gs:=gs) ahV h0 (hh 0 v0 rfl (by decide));obtain⟨ja,_,_,su,d2⟩:=zT (gs:=gs) ahW U (hh 2 v2 rfl (by decide));obtain⟨se,_,_,pE,d3⟩:=zT (gs:=gs) ahY ag (hh 3 QO rfl (by decide));obtain⟨Oi,_,_,_,d6⟩:=zT (gs:=gs) ah0 b5 (hh 6 v6 rfl (by decide));obtain⟨apv,_,Ch,aaW,d10⟩:=zT (gs:=gs) (ahX a3) rX (hh 8 v10 rfl (by decide));obtain⟨w,_,e,hw,rfl⟩:=aE;cases e;obtain⟨zk,_,_,_,ahI⟩:=zT (gs:=gs) ah2 hw hl;exact⟨(⟨lb,eK,ja,se,oe,tt,Oi,ap3⟩,⟨apv,as8.data.toList,as9.data.toList,ata.data.toList⟩,zk),
  ⟨⟨fun x aa=>⟨zag (su x aa).1 a3,zag (su x aa).2 a3⟩,fun n hn=>zag (pE n hn) a3⟩,⟨zag Ch a3,aaW⟩⟩,
  ⟨_,_,rfl,d0,_,_,rfl,rfl,_,_,rfl,d2,_,_,rfl,d3,_,_,rfl,rfl,_,_,rfl,rfl,_,_,rfl,d6,_,_,rfl,rfl,_,_,rfl,d10,_,_,rfl,rfl,_,_,rfl,rfl,_,_,rfl,rfl,rfl⟩,ahI⟩
end
variable{v:bi}{s:a7.CV}
def anh:∀p∈hf.kP.gs,(kT hf.kP.gs .nil).get p.1=some p.2:=a7.HP (by kernel_rfl) (by kernel_rfl) (by kernel_rfl) (by kernel_rfl) (by kernel_rfl)
def s8:∀p∈hf.kP.gs,p.1<11:=a7.HP (by decide) (by decide) (by decide) (by decide) (by decide)
def asX{W:d7}(e0:11<=W.heap.size){vs:ac bi}(jm:a7.GD s)(ay:c4 (fun b=>(h6 hf.kP.gs W).get b) (a7.eS s.1++a7.h8 s.2.1) [] (vs.map (toA W)))(aE:den (fun b=>(h6 hf.kP.gs W).get b) (.bq 1 (ac ce) a7.nR s.2.2) [] (toA W v)):
 ∃st',ei aX.ctx 3 ⟨[.agg ⟨vs.map (toA W)⟩,toA W v],⟨h6 hf.kP.gs W,2*W.heap.size⟩,.bool true,st'⟩:=by
 have hn:∀q∈hf.kP.gs,q.1<W.heap.size:=fun q hq=>zdD (s8 q hq) e0;have hp:(a7.Ok a7.kA a7.kA.up).spec.pre (s,fun b=>(h6 hf.kP.gs W).get b) [.agg ⟨vs.map (toA W)⟩,toA W v] ⟨h6 hf.kP.gs W,2*W.heap.size⟩:=
  ⟨jm,fun q hq=>(amY (hn q hq)).trans (anh q hq),⟨fun b hb=>am0 hn b hb,fun b o h=>h,rfl,rfl,zdq,fun b hb=>by simp at hb,fun k o b ab=>by simp at ab⟩,
   ⟨_,_,rfl,⟨_,rfl,ay⟩,_,_,rfl,aE,rfl⟩⟩
 obtain⟨v,st',c6,aD⟩:=a7.YJ _ _ ⟨_,hp⟩;obtain⟨a2,_,_,aE⟩:=c6 _ hp;have aE:v= .bool true:=aE;subst aE;exact⟨st',aD⟩
def run{W:d7}{vs:be bi}(jm:a7.GD s)(ay:c4 (fun b=>(h6 hf.kP.gs W).get b) (a7.eS s.1++a7.h8 s.2.1) [] (vs.toList.map (toA W)))(aE:den (fun b=>(h6 hf.kP.gs W).get b) (.bq 1 (ac ce) a7.nR s.2.2) [] (toA W v))(hl:laidMetH Tryz.prog Rows.proofsBoxesRow.laid W)(ah:W.ShapedOpen Tryz.prog):
 Calls Tryz.prog 3 #[.agg vs,v] W fun e v3=>e= .returned (.bool true)∧W.keptBut v3 (fun _=>False)∧∀i,i<W.heap.size->v3.heap[i]? =W.heap[i]? :=by
 rw[MakeChecks.laidMetH_plain _ _ _ aaA]at hl;obtain⟨ps,hl,_⟩:=hl;have e0:=al5 ah;obtain⟨st',aD⟩:=asX e0 jm ay aE;have hw:bx aX.ctx (oc 11 W.heap.size) ⟨h6 hf.kP.gs W,2*W.heap.size⟩ W:=awf (X:=aX.ctx) (gs:=hf.kP.gs) e0 (a7.HP (alQ hl ah) (alR hl ah) (alS hl ah) (alT ah) (alU hl ah));have ha:bP (oc 11 W.heap.size) [.agg ⟨vs.toList.map (toA W)⟩,toA W v] [.agg vs,v]:=.cons (.agg _ _ (by simp) fun i h aG=>by
  have:=QB (g:=11) e0 vs[i];simpa using this) (.cons (QB (g:=11) e0 v) (.nil _))
 refine(afv aD (as':=[.agg vs,v]) ha hw).mono fun e v3 ⟨aU,v',he,aE,_,ab⟩=> ?_;have aE:bw aU (.bool true) v':=aE;cases aE;have El:∀i,i<W.heap.size->v3.heap[i]? =W.heap[i]? :=fun i ae=>ab.kept i ae fun j l hl aM=>by
  unfold oc at hl;split at hl
  ·cases hl;exact absurd rfl aM
  ·split at hl
   ·cases hl;exact absurd rfl aM
   ·cases hl
 refine⟨he,⟨ab.g4.1,ab.g4.2,fun i ae=> ?_⟩,El⟩;rw[El i ae];exact(World.keptBut_refl W (fun _=>False)).2.2 i ae
def ab7{W v3:d7}(h:∀i,i<W.heap.size->v3.heap[i]? =W.heap[i]?){p:MemPlace}(hp:p.block<W.heap.size):W.sameAt v3 p:=by
 cases p with
 |cell b o=>exact World.cell?_of_block (w:=W) (h b hp)
 |map b=>exact h b hp
def amJ{W:d7}{cs:be bi}(h:Value.okWide Tryz.prog W .any 0 33 (.agg cs))(i:Nat)(v:bi)(aE:cs.toList[i]? =some v)(ae:i=0∨i=2∨i=3∨i=6∨i=8):A7 W v:=by
 simp only[Value.okWide,adF]at h;obtain⟨cs',e,_,ts,I,_,U⟩:=h;cases e;rw[arp]at I;cases I;obtain⟨u,ag,au⟩:=U i v (by simpa using aE);rcases ae with rfl|rfl|rfl|rfl|rfl<;>cases ag
 ·exact A8 avz au
 ·exact A8 avA au
 ·exact A8 avB au
 ·exact A8 avC au
 ·exact A8 avD au
def QV:be bi:= #[.agg #[.slice none 0 0,.int .i64 0,.slice none 0 0,.slice none 0 0,.int .i64 0,.int .i64 0,.slice none 0 0,.int .i64 0,.slice none 0 0,.string ⟨#[]⟩,.string ⟨#[]⟩,.string ⟨#[]⟩],.slice none 0 0]
def met(os:Os):laidMetH Tryz.prog Rows.proofsBoxesRow.laid ((World.laidAll Tryz.prog os Rows.proofsBoxesRow.laid).forCall (fun _ _=>0) ⟨#[],QV,[]⟩).memory:=by
 rw[MakeChecks.laidMetH_plain _ _ _ aaA];exact laidMet_laidAll QV (by kernel_rfl) (by kernel_rfl)
def lifted(os:Os)(started:os.Started)(H:Type)(enc:ci×bi->H):
 ReturnsInHanded {} Tryz.checked os 3 .any (fun w args=>(Rows.proofsBoxesSpec.pre enc Tryz.prog Tryz.f3 [] false w args∧laidMetH Tryz.prog Rows.proofsBoxesRow.laid w)∧sizedMet enc Tryz.prog Tryz.f3 (OpenSpec.ofChange Rows.proofsBoxesSpec) false w args)
  (Rows.proofsBoxesSpec.post enc Tryz.prog Tryz.f3 false true false false):=by
 refine returnsInHanded_of_calls (C:=Tryz.checked) own started (by kernel_rfl)
  (ChangeSpec.witness_shaped (enc:=enc) (C:=Tryz.checked) (os:=os) (X:=fun w _=>laidMetH Tryz.prog Rows.proofsBoxesRow.laid w) false (World.laidAll Tryz.prog os Rows.proofsBoxesRow.laid) QV 8 (World.laidAll_os _ _ _) (World.shaped_of_RefB (by kernel_rfl) (by kernel_rfl)) (by kernel_rfl) (by kernel_rfl) (by kernel_rfl) (met os)) ?_
 intro w tape i _ Bs _ bR kH _;obtain⟨_,_,_,rV,am7,_,_,_,_,tk⟩:=bR;have am5:rV=Tryz.f3:=Option.some.inj (am7.symm.trans Tryz.func3);subst am5;obtain⟨⟨_,aa⟩,⟨_,ds,gs,before,hw,gd⟩⟩:=kH;have en:DataW.Whole enc Tryz.prog Tryz.f3.params.toList Rows.proofsBoxesSpec.vars false (w.forCall tape i) i.args.toList ds gs before:=DataW.Whole.of_heap (w':=w.forCall tape i) (by rfl) hw;have hl:laidMetH Tryz.prog Rows.proofsBoxesRow.laid (w.forCall tape i):=aa.of_heap (by rfl);have aT:=en.lt;have e7:=en;obtain⟨p,q,e6,ik,hb,_,_⟩:=e7;have aE:gs=[]∧q=[]:=by
  cases gs with
  |cons y aw=>exact ik.elim
  |nil=>exact⟨rfl,ik⟩
 obtain⟨rfl,rfl⟩:=aE;rw[zeq]at hb;subst hb;have HS:=e6;rw[params3]at HS;obtain⟨v,v',d,hO,hL,fW,ha,rfl,rfl,jm,cj⟩:=trodAll_two HS;have bV:Tryz.f3.params[0]? =some 33:=by kernel_rfl
 have bl:Tryz.f3.params[1]? =some 34:=by kernel_rfl
 have Iv:=tk 0 33 v bV (by rw[ha];rfl);have oa:=tk 1 34 v' bl (by rw[ha];rfl);obtain⟨cs,rfl,_⟩:=okWide_struct adF Iv;obtain⟨Js,pl,Jv,rfl⟩:=okWide_slice adK oa;have aot:∀x∈d.weights Tryz.prog 33,x<=reachBytes:=fun x aa=>by
  have I:=zaN.1 gd x (KP (i:=0) (t:=33) (d:=d) (by rw[params3];rfl) rfl aa);exact zbd I
 have aou:∀x∈hO.weights Tryz.prog 34,x<=reachBytes:=fun x aa=>by
  have I:=zaN.1 gd x (KP (i:=1) (t:=34) (d:=hO) (by rw[params3];rfl) rfl aa);exact zbd I
 obtain⟨fuel,Xb⟩:=jm;obtain⟨T5,kl⟩:=cj;have aD:=GR 20 fuel 33 cs.toList d _ mB Xb afJ aot;have mU:=GR 20 T5 34 [.slice Js pl Jv] hO _ [.a5 1 16 [.s]] kl afK aou;obtain⟨S,a3,ay,Bf⟩:=aeV (gs:=hf.kP.gs) (show reachBytes<=a7.uc by decide) aD mU (fun j v hj ae=>amJ (Value.okWide_any_base Iv) j v hj ae) (A8 adK (Value.okWide_any_base oa));rw[ha];refine(run (s:=S) a3 ay Bf hl Bs).mono fun e v3 ⟨he,ab,El⟩=> ?_;subst he;refine ChangeSpec.post_blind ⟨[d,hO],[],hL++fW,[],hL++fW,[],by rw[ha]at en;exact en,?_,?_,rfl,?_,fun h=>by cases h⟩
 ·rw[results3,aqA];exact trodAll_mk1 (shut_bool Tryz.underlying4 _)
 ·rw[params3];exact trodAll_mk2 (Go.WideElems.Trod_stays YG asJ asY ⟨fuel,Xb⟩ (fun x aa=>ab7 El (aT x (by simp[aa]))) (fun x aa=>by simpa using aT x (by simp[aa]))) (Go.WideElems.Trod_stays YG asK asZ ⟨T5,kl⟩ (fun x aa=>ab7 El (aT x (by simp[aa]))) (fun x aa=>by simpa using aT x (by simp[aa])))
 ·exact World.keptBut_mono (fun _ h=>h.elim) ab
