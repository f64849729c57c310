/- In every world in which the listed variables read as the claim says, the call of ProofsSquares returns true and changes nothing. -/
import Derived.Test.YtnbgimpdclpgbaaGreatDoorRows
import Derived.Handed
import Derived.ProofKit
import Derived.OpenShut
import Derived.Shelf.Vars
import Derived.Lay
import Derived.LaidMore
import Derived.ChangeMaps5
import Derived.Lib.SmallJoins
import Derived.WideKeyArgs
import Derived.ChangeAgain
import Derived.Test.YtnbgimpdclpgbaaGreatDoorSqC5
import Derived.Test.YtnbgimpdclpgbaaGreatDoorSqS2
import Derived.Test.YtnbgimpdclpgbaaGreatDoorSqM2
set_option linter.all false
namespace Go.Proofs.YtnbgimpdclpgbaaGreatDoor
open Go.ChangeShapes Go.WideShapes Go.ChangeAt Go.RowKit Go.bC
set_option maxRecDepth 100000
variable{a7:ac MemPlace}
def own:ownKnob Tryz.prog.godebug=none:=bu
def de{P:f8}{W:f5}(h:W.ShapedOpen P){g:Nat}{t:co}(O:g<P.globals.size)(bX:(((begin P (λ_ _=>0) default).world.heap[g]?).bind Obj.row?).map (·.2)=some t):∃cs,W.heap[g]? =some (.cells cs t):=by
 obtain⟨⟨z,I⟩,S,a⟩:=n3.1 bX;simp only at a;subst a;obtain⟨cs,Y,_⟩:=h.1 g z I O S;exact⟨cs,Y⟩
def x2:Tryz.prog.globals.size=11:=bu
def aaJ:(Rows.proofsSquaresRow.laid.all λx=>x.2.handleName?.isNone)=true:=bu
def aox{W:f5}(aB:DataW.LaidVars Tryz.prog W Rows.proofsSquaresRow.laid a7)(M:W.ShapedOpen Tryz.prog):uL 11 W kL.jw:=
 Fu (n:=4) (t:=280) (name:= "vernier/proofs.plain") (d:=Rows.laid_vernier_proofs_plain) aB aqF bu bu bu ai ai bu<|de M aqC bu
def aoy{W:f5}(aB:DataW.LaidVars Tryz.prog W Rows.proofsSquaresRow.laid a7)(M:W.ShapedOpen Tryz.prog):uL 11 W kL.cA:=
 Fu (n:=4) (t:=330) (name:= "vernier/lang.after") (d:=Rows.laid_vernier_lang_after) aB aqF bu bu bu ai ai bu<|de M aqC bu
def aoz{W:f5}(aB:DataW.LaidVars Tryz.prog W Rows.proofsSquaresRow.laid a7)(M:W.ShapedOpen Tryz.prog):uL 11 W kL.dG:=
 Fu (n:=4) (t:=371) (name:= "vernier/lang.shapes") (d:=Rows.laid_vernier_lang_shapes) aB aqF bu bu bu ai ai bu<|de M aqC bu
def aoA{W:f5}(aB:DataW.LaidVars Tryz.prog W Rows.proofsSquaresRow.laid a7)(M:W.ShapedOpen Tryz.prog):uL 11 W kL.nb:=
 Fu (n:=4) (t:=438) (name:= "internal/strconv.uint64pow10") (d:=Rows.laid_internal_strconv_uint64pow10) aB aqF bu bu bu ai ai bu<|de M aqC bu
def aoB{W:f5}(M:W.ShapedOpen Tryz.prog):uL 11 W kL.gT:=by
 have F:((begin Tryz.prog (λ_ _=>0) default).world.heap[4]?).bind Obj.row?=some (#[.int .i64 0],3):=bu
 obtain⟨cs,Y,G,_⟩:=M.1 4 _ 3 aqC F;obtain⟨m,hm⟩:=cell_of_shapedOpen_int (k:=.i64) M aqC F j bu bu Tryz.underlying3;have a:cs= #[.int .i64 m]:=by
  have A:cs[0]? =some (.int .i64 m):=by simpa[World.cell?,Y]using hm
  obtain⟨l⟩:=cs
  match l,G,A with
  |[x],_,A=>simp at A;rw[A]
 refine⟨ai,[.chan<|some 1],3,1,cs,_,j,ai,Y,?_⟩;rw[a];exact .cons (.hZ 1 m m2)<|.nil _
def aoC{W:f5}(M:W.ShapedOpen Tryz.prog):11<=W.heap.size:=by
 obtain⟨cs,h⟩:=de (g:=10) (t:=470) M aqC bu;have:=(tZ.1 h).1;omega
def aaK:Tryz.prog.underlying 31=some (.struct #[Field.mk "Prog" 27 0 false "" "" 0,Field.mk "Box" 28 8 false "" "" 128,Field.mk "Squares" 29 9 false "" "" 152]):=bu
def aoD:ac co:=[22,3,23,24,3,3,25,3,28,29]
def aoE:Tryz.prog.cellTypes Tryz.prog.depth 31=some aoD:=bu
def aoF:Tryz.prog.underlying 22=some (.slice 267):=bu
def aoG:Tryz.prog.underlying 23=some (.slice 283):=bu
def aoH:Tryz.prog.underlying 24=some (.slice 172):=bu
def aoI:Tryz.prog.underlying 25=some (.slice 258):=bu
def aoJ:Tryz.prog.underlying 28=some (.slice 50):=bu
def aoK:Tryz.prog.underlying 29=some (.slice 95):=bu
def params3:Tryz.f3.params.toList=[31]:=bu
def results3:Tryz.f3.resultTypes.toList=[4]:=bu
def aoL:Tryz.f3.resultTypes.size=1:=bu
def aoM:laidOutB Tryz.prog=true:=bu
def aoN:Tryz.prog.readableRec 31=true:=bu
def aoO:31<Tryz.prog.types.size:=iY bu
section
variable{B:Nat}{W:f5}{gs:ac (Nat×bx)}
def aoP(ab:ac bv):lD B W [.i .i64,.i .i64] ab->∃x:Int×Int,cG (λb=>(jc gs W).get b) (dg.YJ x) [] (ab.map<|j9 W)/\True:=by
 rintro⟨v,_,rfl,⟨m,rfl,_⟩,y,_,rfl,⟨R,rfl,_⟩,rfl⟩;exact⟨(m,R),Ni,az⟩
def aoQ(ab:ac bv):lD B W [.i .i64,.i .i64] ab->∃x:dg.xL,cG (λb=>(jc gs W).get b) (dg.YK x) [] (ab.map<|j9 W)/\True:=by
 rintro⟨v,_,rfl,⟨m,rfl,_⟩,y,_,rfl,⟨R,rfl,_⟩,rfl⟩;exact⟨⟨m,R⟩,Ni,az⟩
def aoR(ab:ac bv):lD B W [.i .i64,.s,.s] ab->∃x:dg.oI,cG (λb=>(jc gs W).get b) (dg.Hs x) [] (ab.map<|j9 W)/\(x.bm.length<=B/\x.af.length<=B):=by
 rintro⟨v,_,rfl,⟨m,rfl,_⟩,y,_,rfl,⟨s,rfl,Y⟩,k,_,rfl,⟨O,rfl,G⟩,rfl⟩;exact⟨⟨m,s.data.toList,O.data.toList⟩,⟨_,_,j,j,_,_,j,j,_,_,j,j,j⟩,Y,G⟩
def aoS(ab:ac bv):lD B W [.i .i64,.i .i64,.i .i64,.i .i64,.i .i64,.i .i64,.s] ab->∃x:dg.g3,cG (λb=>(jc gs W).get b) (dg.lb x) [] (ab.map<|j9 W)/\x.v.length<=B:=by
 rintro⟨v0,_,rfl,⟨q,rfl,_⟩,v1,_,rfl,⟨Z,rfl,_⟩,V,_,rfl,⟨F,rfl,_⟩,L,_,rfl,⟨d,rfl,_⟩,X,_,rfl,⟨g,rfl,_⟩,l,_,rfl,⟨k,rfl,_⟩,v6,_,rfl,⟨s,rfl,Y⟩,rfl⟩;exact⟨⟨q,Z,F,d,g,k,s.data.toList⟩,⟨_,_,j,j,_,_,j,j,_,_,j,j,_,_,j,j,_,_,j,j,_,_,j,j,_,_,j,j,j⟩,Y⟩
def aoT(ab:ac bv):lD B W [.i .i64] ab->∃x:Int,cG (λb=>(jc gs W).get b) (dg.er x) [] (ab.map<|j9 W)/\True:=by
 rintro⟨v,_,rfl,⟨m,rfl,_⟩,rfl⟩;exact⟨m,ar4,az⟩
def aaL:ac ph:=[.s,.aH 1 8 [.i .i64]]
def aaM:ac ph:=[.s,.i .i64,.aH 2 40 aaL]
def l5:ac ph:=[.aH 2 16 [.i .i64,.i .i64],.i .i64,.aH 3 40 [.i .i64,.s,.s],.aH 7 64 [.i .i64,.i .i64,.i .i64,.i .i64,.i .i64,.i .i64,.s],.i .i64,.i .i64,.aH 2 16 [.i .i64,.i .i64],.i .i64,.aH 2 32 [.s,.s],.aH 3 48 aaM]
def aoU:Cp Tryz.prog 20 31=some l5:=bu
def aoV(F:B<=dg.tJ)(ab:ac bv):lD B W aaL ab->∃x:dg.cV,cG (λb=>(jc gs W).get b) (dg.h7 x) [] (ab.map<|j9 W)/\(x.b3.length<=dg.tJ/\x.dO.length<=dg.tJ):=by
 rintro⟨v,_,rfl,⟨s,rfl,M⟩,w,_,rfl,h,rfl⟩;obtain⟨l,a,_,d⟩:=Ga (gs:=gs) ai aoT h;exact⟨⟨s.data.toList,l⟩,⟨_,_,j,j,_,_,j,d,j⟩,ch M F,ch (Om _ ai)<|ch a F⟩
def aoW(F:B<=dg.tJ)(ab:ac bv):lD B W aaM ab->∃x:dg.dz,cG (λb=>(jc gs W).get b) (dg.ht x) [] (ab.map<|j9 W)/\(x.b3.length<=dg.tJ/\∀t∈x.cr,t.b3.length<=dg.tJ/\t.dO.length<=dg.tJ):=by
 rintro⟨v,_,rfl,⟨s,rfl,M⟩,u,_,rfl,⟨m,rfl,_⟩,w,_,rfl,h,rfl⟩;obtain⟨l,a,cA,d⟩:=Ga (gs:=gs) ai (aoV F) h;exact⟨⟨s.data.toList,m,l⟩,⟨_,_,j,j,_,_,j,j,_,_,j,d,j⟩,ch M F,cA⟩
def aoX(ab:ac bv):lD B W [.s,.s] ab->∃x:dg.e1,cG (λb=>(jc gs W).get b) (dg.mL x) [] (ab.map<|j9 W)/\True:=by
 rintro⟨v,_,rfl,⟨s,rfl,_⟩,y,_,rfl,⟨O,rfl,_⟩,rfl⟩;exact⟨(s.data.toList,O.data.toList),Ni,az⟩
def aoY(F:B<=dg.tJ){ab:ac bv}(h:lD B W l5 ab)(cK:∀(i:Nat) (v:bv),ab[i]? =some v->i=0\/i=2\/i=3\/i=6\/i=8\/i=9->Cq W v):
 ∃s:dg.dX×ac dg.e1×ac dg.dz,dg.Dp s/\cG (λb=>(jc gs W).get b) (dg.Dn s) [] (ab.map<|j9 W):=by
 obtain⟨v0,_,rfl,q,v1,_,rfl,⟨Z,rfl,_⟩,V,_,rfl,G,L,_,rfl,A,X,_,rfl,⟨g,rfl,_⟩,l,_,rfl,⟨k,rfl,_⟩,c,_,rfl,H,w,_,rfl,⟨P,rfl,_⟩,y,_,rfl,t,d,_,rfl,u,rfl⟩:=h;obtain⟨o,_,_,_,J⟩:=Cr (gs:=gs) aoP q<|cK 0 v0 j ai;obtain⟨R,_,_,cA,N⟩:=Cr (gs:=gs) aoR G<|cK 2 V j ai;obtain⟨C,_,_,dG,Q⟩:=Cr (gs:=gs) aoS A<|cK 3 L j ai;obtain⟨m,_,_,_,e⟩:=Cr (gs:=gs) aoQ H<|cK 6 c j ai;obtain⟨p,_,_,r⟩:=Ga (gs:=gs) ai aoX t;obtain⟨f,_,U,a⟩:=Ga (gs:=gs) ai (aoW F) u;exact⟨(⟨o,Z,R,C,g,k,m,P⟩,p,f),
  ⟨⟨λx O=>⟨ch (cA x O).1 F,ch (cA x O).2 F⟩,λn aj=>ch (dG n aj) F⟩,U⟩,
  ⟨_,_,j,J,_,_,j,j,_,_,j,N,_,_,j,Q,_,_,j,j,_,_,j,j,_,_,j,e,_,_,j,j,_,_,j,r,_,_,j,a,j⟩⟩
end
variable{s:dg.dX×ac dg.e1×ac dg.dz}
def N1:∀p∈kL.k7.gs,(kr kL.k7.gs .nil).get p.1=some p.2:=dg.Ij bu bu bu bu bu
def p3:∀p∈kL.k7.gs,p.1<11:=dg.Ij ai ai ai ai ai
def aoZ{W:f5}(u:11<=W.heap.size){ab:ac bv}(e:dg.Dp s)(T:cG (λb=>(jc kL.k7.gs W).get b) (dg.Dn s) [] (ab.map<|j9 W)):
 ∃al,e8 b5.ctx 3 ⟨[.agg ⟨ab.map<|j9 W⟩],⟨jc kL.k7.gs W,2*W.heap.size⟩,.bool true,al⟩:=by
 have aj:∀q∈kL.k7.gs,q.1<W.heap.size:=λq E=>vM (p3 q E) u;have hp:(dg.Oi dg.gv dg.gv.up).spec.pre (s,λb=>(jc kL.k7.gs W).get b) [.agg ⟨ab.map<|j9 W⟩] ⟨jc kL.k7.gs W,2*W.heap.size⟩:=
  ⟨e,λq E=>(afP<|aj q E).trans<|N1 q E,⟨λb C=>afR aj b C,λb U h=>h,j,j,oU,λb C=>by simp at C,λk U b N=>by simp at N⟩,
   ⟨_,_,j,⟨_,j,T⟩,j⟩⟩
 obtain⟨v,al,O,I⟩:=dg.aow _ _ ⟨_,hp⟩;obtain⟨a,_,_,S⟩:=O _ hp;have S:v= .bool true:=S;subst S;exact⟨al,I⟩
def run{W:f5}{ab:bi bv}(u:dg.Dp s)(T:cG (λb=>(jc kL.k7.gs W).get b) (dg.Dn s) [] (ab.toList.map<|j9 W))(aB:laidMetH Tryz.prog Rows.proofsSquaresRow.laid W)(M:W.ShapedOpen Tryz.prog):
 Calls Tryz.prog 3 #[.agg ab] W λe a=>e= .returned (.bool true)/\W.keptBut a (λ_=>False)/\∀i,i<W.heap.size->a.heap[i]? =W.heap[i]? :=by
 rw[MakeChecks.laidMetH_plain _ _ _ aaJ]at aB;obtain⟨a7,aB,_⟩:=aB;have c:=aoC M;obtain⟨al,I⟩:=aoZ c u T;have F:bQ b5.ctx (oA 11 W.heap.size) ⟨jc kL.k7.gs W,2*W.heap.size⟩ W:=afQ (X:=b5.ctx) (gs:=kL.k7.gs) c<|dg.Ij (aox aB M) (aoy aB M) (aoz aB M) (aoB M)<|aoA aB M;have A:bI (oA 11 W.heap.size) [.agg ⟨ab.toList.map<|j9 W⟩] [.agg ab]:=.cons (.agg _ _ au λi h d=>by
  have:=Sn (g:=11) c ab[i];simpa using this)<|.nil _
 refine(adb I (ho:=[.agg ab]) A F).mono λe a ⟨o,y,D,S,_,N⟩=>?_;have S:bd o (.bool true) y:=S;cases S;have k:∀i,i<W.heap.size->a.heap[i]? =W.heap[i]? :=λi af=>N.kept i af λJ l aB O=>by
  unfold oA at aB;split at aB
  .cases aB;exact absurd j O
  .split at aB
   .cases aB;exact absurd j O
   .cases aB
 refine⟨D,⟨N.fQ.1,N.fQ.2,λi af=>?_⟩,k⟩;rw[k i af];exact(World.keptBut_refl W λ_=>False).2.2 i af
def ao0{W a:f5}(h:∀i,i<W.heap.size->a.heap[i]? =W.heap[i]?){p:MemPlace}(hp:p.block<W.heap.size):W.sameAt a p:=by
 cases p with
 |cell b U=>exact World.cell?_of_block (w:=W) (h b hp)
 |map b=>exact h b hp
def ao1{W:f5}{cs:bi bv}(h:Value.okWide Tryz.prog W .any 0 31 (.agg cs))(i:Nat)(v:bv)(S:cs.toList[i]? =some v)(af:i=0\/i=2\/i=3\/i=6\/i=8\/i=9):Cq W v:=by
 simp only[Value.okWide,aaK]at h;obtain⟨R,e,_,aA,Y,_,G⟩:=h;cases e;rw[aoE]at Y;cases Y;obtain⟨u,A,T⟩:=G i v (by simpa using S);rcases af with rfl|rfl|rfl|rfl|rfl|rfl<;>cases A
 .exact zu aoF T
 .exact zu aoG T
 .exact zu aoH T
 .exact zu aoI T
 .exact zu aoJ T
 .exact zu aoK T
def Oj:bi bv:= #[.agg #[.slice none 0 0,.int .i64 0,.slice none 0 0,.slice none 0 0,.int .i64 0,.int .i64 0,.slice none 0 0,.int .i64 0,.slice none 0 0,.slice none 0 0]]
def met(os:Os):laidMetH Tryz.prog Rows.proofsSquaresRow.laid ((World.laidAll Tryz.prog os Rows.proofsSquaresRow.laid).forCall (λ_ _=>0) ⟨#[],Oj,[]⟩).memory:=by
 rw[MakeChecks.laidMetH_plain _ _ _ aaJ];exact laidMet_laidAll Oj bu bu
def lifted(os:Os)(R:os.Started)(H:Type)(enc:co×bv->H):
 ReturnsInHanded {} Tryz.checked os 3 .any (λw args=>(Rows.proofsSquaresSpec.pre enc Tryz.prog Tryz.f3 [] false w args/\laidMetH Tryz.prog Rows.proofsSquaresRow.laid w)/\sizedMet enc Tryz.prog Tryz.f3 (OpenSpec.ofChange Rows.proofsSquaresSpec) false w args)
  (Rows.proofsSquaresSpec.post enc Tryz.prog Tryz.f3 false true false false):=by
 refine returnsInHanded_of_calls (C:=Tryz.checked) own R bu
  (ChangeSpec.witness_shaped (enc:=enc) (C:=Tryz.checked) (os:=os) (X:=λw _=>laidMetH Tryz.prog Rows.proofsSquaresRow.laid w) false (World.laidAll Tryz.prog os Rows.proofsSquaresRow.laid) Oj 8 (World.laidAll_os _ _ _) (World.shaped_of_RefB bu bu) bu bu bu<|met os) ?_
 intro w L i _ u _ K ae _;obtain⟨_,_,_,Q,n,_,_,_,_,c⟩:=K;have b:Q=Tryz.f3:=Option.some.inj<|n.symm.trans Tryz.func3;subst b;obtain⟨⟨_,O⟩,⟨_,z,gs,before,ab,J⟩⟩:=ae;have f:DataW.Whole enc Tryz.prog Tryz.f3.params.toList Rows.proofsSquaresSpec.vars false (w.forCall L i) i.args.toList z gs before:=DataW.Whole.of_heap (w':=w.forCall L i) (by rfl) ab;have aa:laidMetH Tryz.prog Rows.proofsSquaresRow.laid (w.forCall L i):=O.of_heap (by rfl);have aW:=f.lt;have E:=f;obtain⟨p,q,o,I,G,_,_⟩:=E;have U:gs=[]/\q=[]:=by
  cases gs with
  |cons y Z=>exact I.elim
  |nil=>exact⟨j,I⟩
 obtain⟨rfl,rfl⟩:=U;rw[rP]at G;subst G;have m:=o;rw[params3]at m;obtain⟨v,d,A,rfl,a'⟩:=trodAll_one m;have a8:Tryz.f3.params[0]? =some 31:=bu
 have P:=c 0 31 v a8 (by rw[A];rfl);obtain⟨cs,rfl,_⟩:=okWide_struct aaK P;have l:∀x∈d.weights Tryz.prog 31,x<=reachBytes:=λx O=>by
  have Y:=ia.1 J x<|Lx (i:=0) (t:=31) (d:=d) (by rw[params3];rfl) j O;exact iY Y
 obtain⟨g,r⟩:=a';have M:=Ly 20 g 31 cs.toList d _ l5 r aoU l;obtain⟨S,F,T⟩:=aoY (gs:=kL.k7.gs) (show reachBytes<=dg.tJ by decide) M λad v V af=>ao1 (Value.okWide_any_base P) ad v V af;rw[A];refine(run (s:=S) F T aa u).mono λe a ⟨D,N,k⟩=>?_;subst D;refine ChangeSpec.post_blind ⟨[d],[],before,[],before,[],by rw[A]at f;exact f,?_,?_,j,?_,λh=>by cases h⟩
 .rw[results3,aoL];exact trodAll_mk1<|shut_bool Tryz.underlying4 _
 .rw[params3];exact trodAll_mk1<|Go.WideElems.Trod_stays aoM aoN aoO ⟨g,r⟩ (λx O=>ao0 k<|aW x O) λx O=>by simpa using aW x O
 .exact World.keptBut_mono (λ_ h=>h.elim) N
