/- In every world in which the listed variables read as the claim says, the call of ProofsJoins returns true and changes nothing. -/
import Derived.Test.YtoepefenkpijoaaGreatDoorRows
import Derived.Handed
import Derived.ProofKit
import Derived.OpenShut
import Derived.Shelf.Vars
import Derived.Lay
import Derived.LaidMore
import Derived.ChangeMaps5
import Derived.Lib.SmallJoins
import Derived.WideKeyArgs
import Derived.ChangeAgain
import Derived.Test.YtoepefenkpijoaaGreatDoorC5
import Derived.Test.YtoepefenkpijoaaGreatDoorS2
import Derived.Test.YtoepefenkpijoaaGreatDoorM3
set_option linter.all false
namespace Go.Proofs.YtoepefenkpijoaaGreatDoor
open Go.ChangeShapes Go.WideShapes Go.ChangeAt Go.RowKit Go.ar
set_option maxRecDepth 100000
variable{ps:ac MemPlace}
def own:ownKnob Tryz.prog.godebug=none:=by kernel_rfl
def cP{P:d9}{W:co}(h:W.ShapedOpen P){g:Nat}{t:ce}(aR:g<P.globals.size)(h0:(((begin P (fun _ _=>0) default).world.heap[g]?).bind Obj.row?).map (·.2)=some t):∃cs,W.heap[g]? =some (.cells cs t):=by
 obtain⟨⟨z,hT⟩,aC,e2⟩:=zaO.1 h0;simp only at e2;subst e2;obtain⟨cs,J,_⟩:=h.1 g z hT aR aC;exact⟨cs,J⟩
def yc:Tryz.prog.globals.size=11:=by kernel_rfl
def aaa:(Rows.proofsJoinsRow.laid.all fun x=>x.2.handleName?.isNone)=true:=by kernel_rfl
def alg{W:co}(hl:DataW.LaidVars Tryz.prog W Rows.proofsJoinsRow.laid ps)(ah:W.ShapedOpen Tryz.prog):vH 11 W jq.ze:=
 Hh (n:=4) (t:=238) (name:= "vernier/proofs.plain") (d:=Rows.laid_vernier_proofs_plain) hl (by simp[Rows.proofsJoinsRow]) (by kernel_rfl) (by kernel_rfl) (by kernel_rfl) (by decide) (by decide) (by kernel_rfl) (cP ah (by rw[yc];decide) (by kernel_rfl))
def alh{W:co}(hl:DataW.LaidVars Tryz.prog W Rows.proofsJoinsRow.laid ps)(ah:W.ShapedOpen Tryz.prog):vH 11 W jq.sh:=
 Hh (n:=4) (t:=294) (name:= "vernier/lang.after") (d:=Rows.laid_vernier_lang_after) hl (by simp[Rows.proofsJoinsRow]) (by kernel_rfl) (by kernel_rfl) (by kernel_rfl) (by decide) (by decide) (by kernel_rfl) (cP ah (by rw[yc];decide) (by kernel_rfl))
def ali{W:co}(hl:DataW.LaidVars Tryz.prog W Rows.proofsJoinsRow.laid ps)(ah:W.ShapedOpen Tryz.prog):vH 11 W jq.pv:=
 Hh (n:=4) (t:=342) (name:= "vernier/lang.shapes") (d:=Rows.laid_vernier_lang_shapes) hl (by simp[Rows.proofsJoinsRow]) (by kernel_rfl) (by kernel_rfl) (by kernel_rfl) (by decide) (by decide) (by kernel_rfl) (cP ah (by rw[yc];decide) (by kernel_rfl))
def alk{W:co}(hl:DataW.LaidVars Tryz.prog W Rows.proofsJoinsRow.laid ps)(ah:W.ShapedOpen Tryz.prog):vH 11 W jq.qi:=
 Hh (n:=4) (t:=425) (name:= "internal/strconv.uint64pow10") (d:=Rows.laid_internal_strconv_uint64pow10) hl (by simp[Rows.proofsJoinsRow]) (by kernel_rfl) (by kernel_rfl) (by kernel_rfl) (by decide) (by decide) (by kernel_rfl) (cP ah (by rw[yc];decide) (by kernel_rfl))
def alj{W:co}(ah:W.ShapedOpen Tryz.prog):vH 11 W jq.me:=by
 have h0:((begin Tryz.prog (fun _ _=>0) default).world.heap[4]?).bind Obj.row?=some (#[.int .i64 0],3):=by kernel_rfl
 obtain⟨cs,J,U,_⟩:=ah.1 4 _ 3 (by rw[yc];decide) h0;obtain⟨m,hm⟩:=cell_of_shapedOpen_int (k:=.i64) ah (by rw[yc];decide) h0 rfl (by kernel_rfl) (by kernel_rfl) Tryz.underlying3;have hc:cs= #[.int .i64 m]:=by
  have ag:cs[0]? =some (.int .i64 m):=by simpa[World.cell?,J]using hm
  obtain⟨l⟩:=cs
  match l,U,ag with
  |[x],_,ag=>simp at ag;rw[ag]
 refine⟨by decide,[.chan (some 1)],3,1,cs,_,rfl,by decide,J,?_⟩;rw[hc];exact .cons (.iW 1 m (.inl rfl)) (.nil _)
def alw{W:co}(ah:W.ShapedOpen Tryz.prog):11<=W.heap.size:=by
 obtain⟨cs,h⟩:=cP (g:=10) (t:=469) ah (by rw[yc];decide) (by kernel_rfl);have:=(zbd.1 h).1;omega
def ac9:Tryz.prog.underlying 33=some (.struct #[Field.mk "Prog" 27 0 false "" "" 0,Field.mk "Input" 3 8 false "" "" 128,Field.mk "At" 28 9 false "" "" 136,Field.mk "A" 31 10 false "" "" 152,Field.mk "B" 31 14 false "" "" 224]):=by kernel_rfl
def aqT:ac ce:=[22,3,23,24,3,3,25,3,3,28,29,28,28,28,29,28,28,28]
def aqU:Tryz.prog.cellTypes Tryz.prog.depth 33=some aqT:=by kernel_rfl
def avh:Tryz.prog.underlying 22=some (.slice 221):=by kernel_rfl
def avi:Tryz.prog.underlying 23=some (.slice 95):=by kernel_rfl
def avj:Tryz.prog.underlying 24=some (.slice 143):=by kernel_rfl
def avk:Tryz.prog.underlying 25=some (.slice 208):=by kernel_rfl
def adf:Tryz.prog.underlying 29=some (.slice 47):=by kernel_rfl
def params3:Tryz.f3.params.toList=[33]:=by kernel_rfl
def results3:Tryz.f3.resultTypes.toList=[4]:=by kernel_rfl
def ap9:Tryz.f3.resultTypes.size=1:=by kernel_rfl
def ao3:laidOutB Tryz.prog=true:=by kernel_rfl
def asd:Tryz.prog.readableRec 33=true:=by kernel_rfl
def ass:33<Tryz.prog.types.size:=zbI (by kernel_rfl)
section
variable{B:Nat}{W:co}{gs:ac (Nat×bt)}
def ahu(vs:ac be):lO B W [.i .i64,.i .i64] vs->∃x:Int×Int,de (fun b=>(jc gs W).get b) (a9.Tp x) [] (vs.map (toA W))∧True:=by
 rintro⟨v,_,rfl,⟨m,rfl,_⟩,v',_,rfl,⟨fz,rfl,_⟩,rfl⟩;exact⟨(m,fz),⟨_,_,rfl,rfl,_,_,rfl,rfl,rfl⟩,trivial⟩
def ahy(vs:ac be):lO B W [.i .i64,.i .i64] vs->∃x:a9.xJ,de (fun b=>(jc gs W).get b) (a9.aci x) [] (vs.map (toA W))∧True:=by
 rintro⟨v,_,rfl,⟨m,rfl,_⟩,v',_,rfl,⟨fz,rfl,_⟩,rfl⟩;exact⟨⟨m,fz⟩,⟨_,_,rfl,rfl,_,_,rfl,rfl,rfl⟩,trivial⟩
def ahv(vs:ac be):lO B W [.i .i64,.s,.s] vs->∃x:a9.lr,de (fun b=>(jc gs W).get b) (a9.Bc x) [] (vs.map (toA W))∧(x.aQ.length<=B∧x.af.length<=B):=by
 rintro⟨v,_,rfl,⟨m,rfl,_⟩,v',_,rfl,⟨s,rfl,J⟩,axi,_,rfl,⟨bq,rfl,U⟩,rfl⟩;exact⟨⟨m,s.data.toList,bq.data.toList⟩,⟨_,_,rfl,rfl,_,_,rfl,rfl,_,_,rfl,rfl,rfl⟩,J,U⟩
def ahw(vs:ac be):lO B W [.i .i64,.i .i64,.i .i64,.i .i64,.i .i64,.i .i64,.s] vs->∃x:a9.gR,de (fun b=>(jc gs W).get b) (a9.lK x) [] (vs.map (toA W))∧x.v.length<=B:=by
 rintro⟨v0,_,rfl,⟨Oc,rfl,_⟩,v1,_,rfl,⟨eg,rfl,_⟩,v2,_,rfl,⟨fh,rfl,_⟩,Qm,_,rfl,⟨j9,rfl,_⟩,v4,_,rfl,⟨nY,rfl,_⟩,Qn,_,rfl,⟨s9,rfl,_⟩,v6,_,rfl,⟨s,rfl,J⟩,rfl⟩;exact⟨⟨Oc,eg,fh,j9,nY,s9,s.data.toList⟩,⟨_,_,rfl,rfl,_,_,rfl,rfl,_,_,rfl,rfl,_,_,rfl,rfl,_,_,rfl,rfl,_,_,rfl,rfl,_,_,rfl,rfl,rfl⟩,J⟩
def ahx(vs:ac be):lO B W [.i .i64] vs->∃x:Int,de (fun b=>(jc gs W).get b) (a9.eZ x) [] (vs.map (toA W))∧True:=by
 rintro⟨v,_,rfl,⟨m,rfl,_⟩,rfl⟩;exact⟨m,⟨_,_,rfl,rfl,rfl⟩,trivial⟩
def R6:ac n9:=[.s,.a5 1 8 [.i .i64]]
def LC:ac n9:=[.s,.i .i64,.a5 2 40 R6]
def LA:ac n9:=[.i .i64,.s,.s,.s,.a5 3 48 LC,.a5 3 48 LC]
def LB:ac n9:=[.i .i64,.i .i64,.s,.a5 6 104 LA,.a5 6 104 LA]
def ahz(a0:B<=a9.oa)(vs:ac be):lO B W R6 vs->∃x:a9.fm,de (fun b=>(jc gs W).get b) (a9.fB x) [] (vs.map (toA W))∧a9.tO x:=by
 rintro⟨v,_,rfl,⟨s,rfl,_⟩,w,_,rfl,h,rfl⟩;obtain⟨l,Jt,_,d⟩:=Cd (gs:=gs) (by decide) ahx h;exact⟨⟨s.data.toList,l⟩,⟨_,_,rfl,rfl,_,_,rfl,d,rfl⟩,zag Jt a0⟩
def SR(a0:B<=a9.oa)(vs:ac be):lO B W LC vs->∃x:a9.dx,de (fun b=>(jc gs W).get b) (a9.et x) [] (vs.map (toA W))∧a9.pH x:=by
 rintro⟨v,_,rfl,⟨s,rfl,_⟩,u,_,rfl,⟨m,rfl,_⟩,w,_,rfl,h,rfl⟩;obtain⟨l,Jt,sh,d⟩:=Cd (gs:=gs) (by decide) (ahz a0) h;exact⟨⟨s.data.toList,m,l⟩,⟨_,_,rfl,rfl,_,_,rfl,rfl,_,_,rfl,d,rfl⟩,zag Jt a0,sh⟩
def SP(a0:B<=a9.oa)(vs:ac be):lO B W LA vs->∃x:a9.ei,de (fun b=>(jc gs W).get b) (a9.e4 x) [] (vs.map (toA W))∧a9.pG x:=by
 rintro⟨v,_,rfl,⟨m,rfl,_⟩,v1,_,rfl,⟨s1,rfl,_⟩,v2,_,rfl,⟨s2,rfl,_⟩,Qm,_,rfl,⟨vo,rfl,_⟩,v4,_,rfl,az,Qn,_,rfl,a4,rfl⟩;obtain⟨Ex,me,xk,d4⟩:=Cd (gs:=gs) (by decide) (SR a0) az;obtain⟨yP,qi,xl,d5⟩:=Cd (gs:=gs) (by decide) (SR a0) a4;exact⟨⟨m,s1.data.toList,s2.data.toList,vo.data.toList,Ex,yP⟩,⟨_,_,rfl,rfl,_,_,rfl,rfl,_,_,rfl,rfl,_,_,rfl,rfl,_,_,rfl,d4,_,_,rfl,d5,rfl⟩,⟨zag me a0,xk⟩,zag qi a0,xl⟩
def SQ(a0:B<=a9.oa)(vs:ac be):lO B W LB vs->∃x:a9.eS,de (fun b=>(jc gs W).get b) (a9.eO x) [] (vs.map (toA W))∧a9.rq x:=by
 rintro⟨v,_,rfl,⟨m,rfl,_⟩,v1,_,rfl,⟨n,rfl,_⟩,v2,_,rfl,⟨s,rfl,_⟩,v4,_,rfl,az,Qn,_,rfl,a4,rfl⟩;obtain⟨Ex,me,xk,d4⟩:=Cd (gs:=gs) (by decide) (SP a0) az;obtain⟨yP,qi,xl,d5⟩:=Cd (gs:=gs) (by decide) (SP a0) a4;exact⟨⟨m,n,s.data.toList,Ex,yP⟩,⟨_,_,rfl,rfl,_,_,rfl,rfl,_,_,rfl,rfl,_,_,rfl,d4,_,_,rfl,d5,rfl⟩,⟨zag me a0,xk⟩,zag qi a0,xl⟩
def mq:ac n9:=[.a5 2 16 [.i .i64,.i .i64],.i .i64,.a5 3 40 [.i .i64,.s,.s],.a5 7 64 [.i .i64,.i .i64,.i .i64,.i .i64,.i .i64,.i .i64,.s],.i .i64,.i .i64,.a5 2 16 [.i .i64,.i .i64],.i .i64,.i .i64,.s,.a5 5 80 LB,.s,.s,.s,.a5 5 80 LB,.s,.s,.s]
def afi:C1 Tryz.prog 20 33=some mq:=by kernel_rfl
def aez(a0:B<=a9.oa){vs:ac be}(h:lO B W mq vs)(hh:∀(i:Nat) (v:be),vs[i]? =some v->i=0∨i=2∨i=3∨i=6∨i=10∨i=14->DI W v):
 ∃s:a9.zN,a9.FW s∧de (fun b=>(jc gs W).get b) (a9.GG s) [] (vs.map (toA W)):=by
 obtain⟨v0,_,rfl,h0,v1,_,rfl,⟨eg,rfl,_⟩,v2,_,rfl,U,Qm,_,rfl,ag,v4,_,rfl,⟨nY,rfl,_⟩,Qn,_,rfl,⟨s9,rfl,_⟩,v6,_,rfl,cl,axo,_,rfl,⟨apt,rfl,_⟩,axp,_,rfl,⟨apu,rfl,_⟩,axq,_,rfl,⟨asK,rfl,_⟩,v10,_,rfl,rO,v11,_,rfl,⟨asC,rfl,_⟩,axj,_,rfl,⟨asD,rfl,_⟩,axk,_,rfl,⟨asE,rfl,_⟩,avg,_,rfl,alI,axl,_,rfl,⟨asF,rfl,_⟩,axm,_,rfl,⟨asG,rfl,_⟩,axn,_,rfl,⟨asH,rfl,_⟩,rfl⟩:=h;obtain⟨j6,_,_,_,d0⟩:=zt (gs:=gs) ahu h0 (hh 0 v0 rfl (by decide));obtain⟨iC,_,_,sh,d2⟩:=zt (gs:=gs) ahv U (hh 2 v2 rfl (by decide));obtain⟨r7,_,_,pv,d3⟩:=zt (gs:=gs) ahw ag (hh 3 Qm rfl (by decide));obtain⟨NZ,_,_,_,d6⟩:=zt (gs:=gs) ahy cl (hh 6 v6 rfl (by decide));obtain⟨aoY,_,BO,aav,d10⟩:=zt (gs:=gs) (SQ a0) rO (hh 10 v10 rfl (by decide));obtain⟨ao0,_,q9,ara,d14⟩:=zt (gs:=gs) (SQ a0) alI (hh 14 avg rfl (by decide));exact⟨⟨⟨j6,eg,iC,r7,nY,s9,NZ,apt⟩,apu,asK.data.toList,⟨aoY,asC.data.toList,asD.data.toList,asE.data.toList⟩,⟨ao0,asF.data.toList,asG.data.toList,asH.data.toList⟩⟩,
  ⟨⟨fun x aa=>⟨zag (sh x aa).1 a0,zag (sh x aa).2 a0⟩,fun n hn=>zag (pv n hn) a0⟩,⟨zag BO a0,aav⟩,zag q9 a0,ara⟩,
  ⟨_,_,rfl,d0,_,_,rfl,rfl,_,_,rfl,d2,_,_,rfl,d3,_,_,rfl,rfl,_,_,rfl,rfl,_,_,rfl,d6,_,_,rfl,rfl,_,_,rfl,rfl,_,_,rfl,rfl,_,_,rfl,d10,_,_,rfl,rfl,_,_,rfl,rfl,_,_,rfl,rfl,_,_,rfl,d14,_,_,rfl,rfl,_,_,rfl,rfl,_,_,rfl,rfl,rfl⟩⟩
end
variable{s:a9.zN}
def amM:∀p∈jq.lp.gs,(kL jq.lp.gs .nil).get p.1=some p.2:=a9.Hl (by kernel_rfl) (by kernel_rfl) (by kernel_rfl) (by kernel_rfl) (by kernel_rfl)
def sR:∀p∈jq.lp.gs,p.1<11:=a9.Hl (by decide) (by decide) (by decide) (by decide) (by decide)
def asr{W:co}(ep:11<=W.heap.size){vs:ac be}(jb:a9.FW s)(aA:de (fun b=>(jc jq.lp.gs W).get b) (a9.GG s) [] (vs.map (toA W))):
 ∃st',eo aT.ctx 3 ⟨[.agg ⟨vs.map (toA W)⟩],⟨jc jq.lp.gs W,2*W.heap.size⟩,.bool true,st'⟩:=by
 have hn:∀q∈jq.lp.gs,q.1<W.heap.size:=fun q hq=>zdH (sR q hq) ep;have hp:(a9.N1 a9.kx a9.kx.up).spec.pre (s,fun b=>(jc jq.lp.gs W).get b) [.agg ⟨vs.map (toA W)⟩] ⟨jc jq.lp.gs W,2*W.heap.size⟩:=
  ⟨jb,fun q hq=>(amw (hn q hq)).trans (amM q hq),⟨fun b hb=>amy hn b hb,fun b o h=>h,rfl,rfl,zdv,fun b hb=>by simp at hb,fun k o b ab=>by simp at ab⟩,
   ⟨_,_,rfl,⟨_,rfl,aA⟩,rfl⟩⟩
 obtain⟨v,st',dw,aE⟩:=a9.Ym _ _ ⟨_,hp⟩;obtain⟨bn,_,_,aD⟩:=dw _ hp;have aD:v= .bool true:=aD;subst aD;exact⟨st',aE⟩
def run{W:co}{vs:ap be}(jb:a9.FW s)(aA:de (fun b=>(jc jq.lp.gs W).get b) (a9.GG s) [] (vs.toList.map (toA W)))(hl:laidMetH Tryz.prog Rows.proofsJoinsRow.laid W)(ah:W.ShapedOpen Tryz.prog):
 Calls Tryz.prog 3 #[.agg vs] W fun e vN=>e= .returned (.bool true)∧W.keptBut vN (fun _=>False)∧∀i,i<W.heap.size->vN.heap[i]? =W.heap[i]? :=by
 rw[MakeChecks.laidMetH_plain _ _ _ aaa]at hl;obtain⟨ps,hl,_⟩:=hl;have ep:=alw ah;obtain⟨st',aE⟩:=asr ep jb aA;have hw:bo aT.ctx (nX 11 W.heap.size) ⟨jc jq.lp.gs W,2*W.heap.size⟩ W:=avU (X:=aT.ctx) (gs:=jq.lp.gs) ep (a9.Hl (alg hl ah) (alh hl ah) (ali hl ah) (alj ah) (alk hl ah));have ha:bJ (nX 11 W.heap.size) [.agg ⟨vs.toList.map (toA W)⟩] [.agg vs]:=.cons (.agg _ _ (by simp) fun i h aG=>by
  have:=acP (g:=11) ep vs[i];simpa using this) (.nil _)
 refine(ae3 aE (as':=[.agg vs]) ha hw).mono fun e vN ⟨aS,v',he,aD,_,ab⟩=> ?_;have aD:bp aS (.bool true) v':=aD;cases aD;have HF:∀i,i<W.heap.size->vN.heap[i]? =W.heap[i]? :=fun i af=>ab.kept i af fun j l hl aR=>by
  unfold nX at hl;split at hl
  ·cases hl;exact absurd rfl aR
  ·split at hl
   ·cases hl;exact absurd rfl aR
   ·cases hl
 refine⟨he,⟨ab.g9.1,ab.g9.2,fun i af=> ?_⟩,HF⟩;rw[HF i af];exact(World.keptBut_refl W (fun _=>False)).2.2 i af
def asN{W vN:co}(h:∀i,i<W.heap.size->vN.heap[i]? =W.heap[i]?){p:MemPlace}(hp:p.block<W.heap.size):W.sameAt vN p:=by
 cases p with
 |cell b o=>exact World.cell?_of_block (w:=W) (h b hp)
 |map b=>exact h b hp
def amd{W:co}{cs:ap be}(h:Value.okWide Tryz.prog W .any 0 33 (.agg cs))(i:Nat)(v:be)(aD:cs.toList[i]? =some v)(af:i=0∨i=2∨i=3∨i=6∨i=10∨i=14):DI W v:=by
 simp only[Value.okWide,ac9]at h;obtain⟨cs',e,_,ts,J,_,U⟩:=h;cases e;rw[aqU]at J;cases J;obtain⟨u,ag,az⟩:=U i v (by simpa using aD);rcases af with rfl|rfl|rfl|rfl|rfl|rfl<;>cases ag
 ·exact AD avh az
 ·exact AD avi az
 ·exact AD avj az
 ·exact AD avk az
 ·exact AD adf az
 ·exact AD adf az
def Qt:ap be:= #[.agg #[.slice none 0 0,.int .i64 0,.slice none 0 0,.slice none 0 0,.int .i64 0,.int .i64 0,.slice none 0 0,.int .i64 0,.int .i64 0,.string ⟨#[]⟩,.slice none 0 0,.string ⟨#[]⟩,.string ⟨#[]⟩,.string ⟨#[]⟩,.slice none 0 0,.string ⟨#[]⟩,.string ⟨#[]⟩,.string ⟨#[]⟩]]
def met(os:Os):laidMetH Tryz.prog Rows.proofsJoinsRow.laid ((World.laidAll Tryz.prog os Rows.proofsJoinsRow.laid).forCall (fun _ _=>0) ⟨#[],Qt,[]⟩).memory:=by
 rw[MakeChecks.laidMetH_plain _ _ _ aaa];exact laidMet_laidAll Qt (by kernel_rfl) (by kernel_rfl)
def lifted(os:Os)(started:os.Started)(H:Type)(enc:ce×be->H):
 ReturnsInHanded {} Tryz.checked os 3 .any (fun w args=>(Rows.proofsJoinsSpec.pre enc Tryz.prog Tryz.f3 [] false w args∧laidMetH Tryz.prog Rows.proofsJoinsRow.laid w)∧sizedMet enc Tryz.prog Tryz.f3 (OpenSpec.ofChange Rows.proofsJoinsSpec) false w args)
  (Rows.proofsJoinsSpec.post enc Tryz.prog Tryz.f3 false true false false):=by
 refine returnsInHanded_of_calls (C:=Tryz.checked) own started (by kernel_rfl)
  (ChangeSpec.witness_shaped (enc:=enc) (C:=Tryz.checked) (os:=os) (X:=fun w _=>laidMetH Tryz.prog Rows.proofsJoinsRow.laid w) false (World.laidAll Tryz.prog os Rows.proofsJoinsRow.laid) Qt 8 (World.laidAll_os _ _ _) (World.shaped_of_RefB (by kernel_rfl) (by kernel_rfl)) (by kernel_rfl) (by kernel_rfl) (by kernel_rfl) (met os)) ?_
 intro w tape i _ A3 _ bN rX _;obtain⟨_,_,_,rN,amF,_,_,_,_,yJ⟩:=bN;have amD:rN=Tryz.f3:=Option.some.inj (amF.symm.trans Tryz.func3);subst amD;obtain⟨⟨_,aa⟩,⟨_,ds,gs,before,hw,gx⟩⟩:=rX;have er:DataW.Whole enc Tryz.prog Tryz.f3.params.toList Rows.proofsJoinsSpec.vars false (w.forCall tape i) i.args.toList ds gs before:=DataW.Whole.of_heap (w':=w.forCall tape i) (by rfl) hw;have hl:laidMetH Tryz.prog Rows.proofsJoinsRow.laid (w.forCall tape i):=aa.of_heap (by rfl);have aN:=er.lt;have gS:=er;obtain⟨p,q,fE,ia,hb,_,_⟩:=gS;have aD:gs=[]∧q=[]:=by
  cases gs with
  |cons y av=>exact ia.elim
  |nil=>exact⟨rfl,ia⟩
 obtain⟨rfl,rfl⟩:=aD;rw[zcE]at hb;subst hb;have Ho:=fE;rw[params3]at Ho;obtain⟨v,d,ha,rfl,jb⟩:=trodAll_one Ho;have k0:Tryz.f3.params[0]? =some 33:=by kernel_rfl
 have H4:=yJ 0 33 v k0 (by rw[ha];rfl);obtain⟨cs,rfl,_⟩:=okWide_struct ac9 H4;have anY:∀x∈d.weights Tryz.prog 33,x<=reachBytes:=fun x aa=>by
  have J:=zaP.1 gx x (Qv (i:=0) (t:=33) (d:=d) (by rw[params3];rfl) rfl aa);exact zbI J
 obtain⟨fuel,WQ⟩:=jb;have aE:=Lb 20 fuel 33 cs.toList d _ mq WQ afi anY;obtain⟨S,a0,aA⟩:=aez (gs:=jq.lp.gs) (show reachBytes<=a9.oa by decide) aE (fun j v hj af=>amd (Value.okWide_any_base H4) j v hj af);rw[ha];refine(run (s:=S) a0 aA hl A3).mono fun e vN ⟨he,ab,HF⟩=> ?_;subst he;refine ChangeSpec.post_blind ⟨[d],[],before,[],before,[],by rw[ha]at er;exact er,?_,?_,rfl,?_,fun h=>by cases h⟩
 ·rw[results3,ap9];exact trodAll_mk1 (shut_bool Tryz.underlying4 _)
 ·rw[params3];exact trodAll_mk1 (Go.WideElems.Trod_stays ao3 asd ass ⟨fuel,WQ⟩ (fun x aa=>asN HF (aN x aa)) (fun x aa=>by simpa using aN x aa))
 ·exact World.keptBut_mono (fun _ h=>h.elim) ab
