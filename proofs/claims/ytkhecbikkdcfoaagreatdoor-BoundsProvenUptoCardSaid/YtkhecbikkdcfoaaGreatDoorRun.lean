/- In every world in which the listed variables read as the claim says, the call of BoundsProven returns true and changes nothing. -/
import Derived.Test.YtkhecbikkdcfoaaGreatDoorRows
import Derived.Handed
import Derived.ProofKit
import Derived.OpenShut
import Derived.Shelf.Vars
import Derived.Lay
import Derived.LaidMore
import Derived.ChangeMaps5
import Derived.Lib.SmallJoins
import Derived.WideKeyArgs
import Derived.ChangeAgain
import Derived.Deep.DeepHandedRow
import Derived.Test.YtkhecbikkdcfoaaGreatDoorC5
import Derived.Test.YtkhecbikkdcfoaaGreatDoorS2
import Derived.Test.YtkhecbikkdcfoaaGreatDoorM2
set_option linter.all false
namespace Go.Proofs.YtkhecbikkdcfoaaGreatDoor
open Go.ChangeShapes Go.WideShapes Go.ChangeAt Go.RowKit Go.bI
set_option maxRecDepth 100000
variable{bd:ac MemPlace}
def own:ownKnob Tryz.prog.godebug=none:=cw
def de{P:f7}{W:d9}(h:W.ShapedOpen P){g:Nat}{t:d7}(F:g<P.globals.size)(bS:(((begin P (λ_ _=>0) default).world.heap[g]?).bind Obj.row?).map (·.2)=some t):∃cs,W.heap[g]? =some (.cells cs t):=by
 obtain⟨⟨z,a⟩,U,T⟩:=ot.1 bS;simp only at T;subst T;obtain⟨cs,Y,_⟩:=h.1 g z a F U;exact⟨cs,Y⟩
def Ia:Tryz.prog.globals.size=9:=cw
def aad:(Rows.boundsProvenUptoRow.laid.all λx=>x.2.handleName?.isNone)=true:=cw
def an2{W:d9}(aI:DataW.LaidVars Tryz.prog W Rows.boundsProvenUptoRow.laid bd)(M:W.ShapedOpen Tryz.prog):yW 9 W kR.gX:=
 JZ (n:=4) (t:=263) (name:= "vernier/lang.shapes") (d:=Rows.laid_vernier_lang_shapes) aI aqX cw cw cw av av cw<|de M ar8 cw
def an3{W:d9}(aI:DataW.LaidVars Tryz.prog W Rows.boundsProvenUptoRow.laid bd)(M:W.ShapedOpen Tryz.prog):yW 9 W kR.cW:=
 JZ (n:=4) (t:=333) (name:= "internal/strconv.uint64pow10") (d:=Rows.laid_internal_strconv_uint64pow10) aI aqX cw cw cw av av cw<|de M ar8 cw
def an4{W:d9}(aI:DataW.LaidVars Tryz.prog W Rows.boundsProvenUptoRow.laid bd)(M:W.ShapedOpen Tryz.prog):yW 9 W kR.tT:=
 JZ (n:=4) (t:=360) (name:= "vernier/proofs.plain") (d:=Rows.laid_vernier_proofs_plain) aI aqX cw cw cw av av cw<|de M ar8 cw
def an5{W:d9}(M:W.ShapedOpen Tryz.prog):9<=W.heap.size:=by
 obtain⟨cs,h⟩:=de (g:=8) (t:=401) M ar8 cw;have:=(uK.1 h).1;omega
def an6:Tryz.prog.underlying 22=some (.slice 90):=cw
def an7:Tryz.prog.underlying 23=some (.slice 64):=cw
def params3:Tryz.f3.params.toList=[22,23]:=cw
def results3:Tryz.f3.resultTypes.toList=[4]:=cw
def an8:Tryz.f3.resultTypes.size=1:=cw
def aae:laidOutB Tryz.prog=true:=cw
def an9:Tryz.prog.readableRec 22=true:=cw
def aoa:22<Tryz.prog.types.size:=jD cw
def aob:Tryz.prog.readableRec 23=true:=cw
def aoc:23<Tryz.prog.types.size:=jD cw
def Aj(P:f7):Nat->d7->be (ac tU)
 |0,_=>none
 |n+1,t=>
  match P.underlying t with
  |some (.int k)=>some [.i k]
  |some .string=>some [.s]
  |some (.slice e)=>(Aj P n e).map λcs=>[.aL (P.cellsOf e) 1 cs]
  |some (.struct b6)=>if yX 0 (b6.toList.map λf=>(f.offset,P.cellsOf f.type)) (P.cellsOf t)then(b6.toList.mapM λ(f:Field)=>Aj P n f.type).map List.flatten else none
  |_=>none
def aod{H:Type}(d:DataW H):1<=Rows.uptoBulk d:=by
 cases d<;>unfold Rows.uptoBulk<;>(try split)<;>omega
theorem Ov{H:Type}:∀l:ac (DataW H),l.length<=Rows.uptoBulkAll l
 |[]=>dg _
 |d::l=>by
  have aE:=Ov l;have G:=aod d;unfold Rows.uptoBulkAll;rw[iQ];omega
theorem Dn{H:Type}{d:DataW H}:∀{l:ac (DataW H)},d∈l->Rows.uptoBulk d<=Rows.uptoBulkAll l
 |x::l,h=>by
  unfold Rows.uptoBulkAll;rcases fg.1 h with rfl|h
  .omega
  .have:=Dn h;omega
theorem Ib{H:Type}{a':d7×bv->H}{P:f7}{W:d9}{B:Nat}:∀(n y:Nat) (t:d7) (cs:ac bv) (d:DataW H) (p:ac MemPlace) (Q:ac tU),
 DataW.trod a' P W 0 (λ_=>true) true y t cs=some (d,p)->Aj P n t=some Q->Rows.uptoBulk d<=B->n5 B W Q cs
 |0,_,_,_,_,_,_,_,h,_=>by cases h
 |n+1,y,t,cs,d,p,Q,h,ah,O=>by
  unfold Aj at ah;cases y with
  |zero=>simp[DataW.trod]at h
  |succ y=>
  split at ah
  .rename_i k E;cases ah;simp only[DataW.trod,E]at h;split at h<;>first|(rename_i aD;cases aD)|skip
   all_goals first
    |(split at h
      .rename_i ah;exact⟨_,_,o,⟨_,by rw[ah.1],ah.2⟩,o⟩
      .cases h)
    |(simp at h)
  .rename_i E;cases ah;simp only[DataW.trod,E]at h;split at h<;>first|(rename_i aD;cases aD)|skip
   all_goals first
    |(split at h
      .cases h;exact apP apP
      .cases h)
    |(simp at h)
  .rename_i e E;obtain⟨I,j,rfl⟩:=ot.1 ah;rcases DataW.trod_slice E h with⟨rfl,_⟩|⟨a,len,L,c,rest,m,U,rfl,T,_,Y,aa,R,N,F,_⟩
   .exact⟨_,_,o,.inl o,o⟩
   .have S:d= .slice (c.map (·.1)) (rest.map (·.1)):=congrArg Prod.fst T;subst S;unfold Rows.uptoBulk at O;have u:=Ov (c.map (·.1));have Z:=Ov (rest.map (·.1));rw[hV]at u Z;have aw:=(F o).1;refine⟨_,_,o,.inr ⟨a,len,L,o,Y,J,J,λi af=>?_⟩,o⟩;have N:=N i af;have X:i<c.length:=by omega
    rw[qV X]at N;obtain⟨K,M,cW⟩:=sb.1 N;have hm:=Dn (db.2 ⟨_,ha X,o⟩:c[i].1∈c.map (·.1));exact⟨K,M,Ib n m e K _ _ I cW j<|cN hm J⟩
  .rename_i b6 E;split at ah
   .rename_i w;obtain⟨r,hm,rfl⟩:=ot.1 ah;obtain⟨xs,m,U,T,z,V,A⟩:=DataW.trod_struct E h;have S:d= .agg (xs.map (·.1)):=congrArg Prod.fst T;subst S;unfold Rows.uptoBulk at O;rw[<-z]at w;have q:=FD cs _ 0 w;rw[kC,qW]at q;rw[q];refine Sx (xa:=λ(f:Field)=>(cs.drop f.offset).take<|P.cellsOf f.type) b6.toList r hm λf D g C=>?_;obtain⟨i,af,rfl⟩:=List.mem_iff_getElem.1 D;have G:i<b6.size:=by simpa using af
    have A:=A i b6.toList[i] (by simp[G]);have s:i<xs.length:=J
    rw[qV s]at A;have b:=Dn (db.2 ⟨_,ha s,o⟩:xs[i].1∈xs.map (·.1));exact Ib n m _ _ _ _ g A C<|cN b J
   .cases ah
  .cases ah
def aoe:Aj Tryz.prog 20 22=some [.aL 2 1 [.s,.aL 1 1 [.i .i64]]]:=cw
def aof:Aj Tryz.prog 20 23=some [.aL 2 1 [.s,.s]]:=cw
section
variable{B:Nat}{W:d9}{gs:ac (Nat×bG)}
def aog(ab:ac bv):n5 B W [.i .i64] ab->∃x:Int,cT (λb=>(jW gs W).get b) (ds.h9 x) [] (ab.map<|jV W)/\True:=by
 rintro⟨v,_,rfl,⟨m,rfl,_⟩,rfl⟩;exact⟨m,arn,aP⟩
def aoh(ab:ac bv):n5 B W [.s,.aL 1 1 [.i .i64]] ab->∃x:ds.bT,cT (λb=>(jW gs W).get b) (ds.ef x) [] (ab.map<|jV W)/\(x.bY.length<=B/\x.cF.length<=B):=by
 rintro⟨v,_,rfl,⟨s,rfl,Y⟩,w,_,rfl,h,rfl⟩;obtain⟨l,a,_,d⟩:=Ln (gs:=gs) av aog h;exact aqJ aqJ
def aoi(ab:ac bv):n5 B W [.s,.s] ab->∃x:ds.c8,cT (λb=>(jW gs W).get b) (ds.hG x) [] (ab.map<|jV W)/\(x.1.length<=B/\x.2.length<=B):=by
 rintro⟨v,_,rfl,⟨s,rfl,Y⟩,bA,_,rfl,⟨J,rfl,G⟩,rfl⟩;exact⟨(s.data.toList,J.data.toList),⟨_,_,o,o,_,_,o,o,o⟩,Y,G⟩
def aoj(O:B<=1048576){v bA:bv}(h:n5 B W [.aL 2 1 [.s,.aL 1 1 [.i .i64]]] [v])(D:n5 B W [.aL 2 1 [.s,.s]] [bA]):
 ∃(l:ac ds.bT) (x:ac ds.c8),(ds.o1 l/\ds.vT x)/\den (λb=>(jW gs W).get b) (.b8 2 ds.bT ds.ef l) [] (jV W v)/\den (λb=>(jW gs W).get b) (.b8 2 ds.c8 ds.hG x) [] (jV W bA):=by
 obtain⟨w,_,e,hw,rfl⟩:=h;cases e;obtain⟨E,_,e,K,rfl⟩:=D;cases e;obtain⟨l,a,cW,d⟩:=Ln (gs:=gs) av aoh hw;obtain⟨x,A,C,Y⟩:=Ln (gs:=gs) av aoi K;exact⟨l,x,⟨⟨J,λt aN=>⟨cN (cW t aN).1 O,cN (cW t aN).2 O⟩⟩,⟨J,λt aN=>⟨cN (C t aN).1 O,cN (C t aN).2 O⟩⟩⟩,d,Y⟩
end
variable{v bA:bv}{l:ac ds.bT}{x:ac ds.c8}
def aok:∀p∈kR.kr.gs,(lb kR.kr.gs .nil).get p.1=some p.2:=ds.H9 cw cw cw
def sL:∀p∈kR.kr.gs,p.1<9:=ds.H9 av av av
def aol{W:d9}(u:9<=W.heap.size)(e:ds.o1 l/\ds.vT x)(S:den (λb=>(jW kR.kr.gs W).get b) (.b8 2 ds.bT ds.ef l) [] (jV W v))(Z:den (λb=>(jW kR.kr.gs W).get b) (.b8 2 ds.c8 ds.hG x) [] (jV W bA)):
 ∃al,gD cv.ctx 3 ⟨[jV W v,jV W bA],⟨jW kR.kr.gs W,2*W.heap.size⟩,.bool true,al⟩:=by
 have aj:∀q∈kR.kr.gs,q.1<W.heap.size:=λq aD=>r8 (sL q aD) u;have hp:(ds.Ou ds.gh ds.gh.up).spec.pre ((l,x),λb=>(jW kR.kr.gs W).get b) [jV W v,jV W bA] ⟨jW kR.kr.gs W,2*W.heap.size⟩:=
  ⟨e,λq aD=>(afo<|aj q aD).trans<|aok q aD,⟨λb aa=>afq aj b aa,λb R h=>h,o,o,pk,λb aa=>by simp at aa,λk R b E=>by simp at E⟩,
   ⟨_,_,o,S,_,_,o,Z,o⟩⟩
 obtain⟨v,al,J,aw⟩:=ds.an1 _ _ ⟨_,hp⟩;obtain⟨a,_,_,Z⟩:=J _ hp;have Z:v= .bool true:=Z;subst Z;exact⟨al,aw⟩
def run{W:d9}(u:ds.o1 l/\ds.vT x)(S:den (λb=>(jW kR.kr.gs W).get b) (.b8 2 ds.bT ds.ef l) [] (jV W v))(Z:den (λb=>(jW kR.kr.gs W).get b) (.b8 2 ds.c8 ds.hG x) [] (jV W bA))(aI:laidMetH Tryz.prog Rows.boundsProvenUptoRow.laid W)(M:W.ShapedOpen Tryz.prog):
 Calls Tryz.prog 3 #[v,bA] W λe k=>e= .returned (.bool true)/\W.keptBut k (λ_=>False)/\∀i,i<W.heap.size->k.heap[i]? =W.heap[i]? :=by
 rw[MakeChecks.laidMetH_plain _ _ _ aad]at aI;obtain⟨bd,aI,_⟩:=aI;have K:=an5 M;obtain⟨al,aw⟩:=aol K u S Z;have hw:bZ cv.ctx (oQ 9 W.heap.size) ⟨jW kR.kr.gs W,2*W.heap.size⟩ W:=afp (X:=cv.ctx) (gs:=kR.kr.gs) K<|ds.H9 (an2 aI M) (an3 aI M)<|an4 aI M;have D:bO (oQ 9 W.heap.size) [jV W v,jV W bA] [v,bA]:=.cons (Lk (g:=9) K v)<|.cons (Lk (g:=9) K bA)<|.nil _;refine(acB aw (hq:=[v,bA]) D hw).mono λe k ⟨H,bA,A,Z,_,E⟩=>?_;have Z:bo H (.bool true) bA:=Z;cases Z;have n:∀i,i<W.heap.size->k.heap[i]? =W.heap[i]? :=λi af=>E.kept i af λj l aI F=>by
  unfold oQ at aI;split at aI
  .cases aI;exact absurd o F
  .split at aI
   .cases aI;exact absurd o F
   .cases aI
 refine⟨A,⟨E.fZ.1,E.fZ.2,λi af=>?_⟩,n⟩;rw[n i af];exact(World.keptBut_refl W λ_=>False).2.2 i af
def aaf{W k:d9}(h:∀i,i<W.heap.size->k.heap[i]? =W.heap[i]?){p:MemPlace}(hp:p.block<W.heap.size):W.sameAt k p:=by
 cases p with
 |cell b R=>exact World.cell?_of_block (w:=W) (h b hp)
 |map b=>exact h b hp
def uI:bi bv:= #[.slice none 0 0,.slice none 0 0]
def met(os:Os):laidMetH Tryz.prog Rows.boundsProvenUptoRow.laid ((World.laidAll Tryz.prog os Rows.boundsProvenUptoRow.laid).forCall (λ_ _=>0) ⟨#[],uI,[]⟩).memory:=by
 rw[MakeChecks.laidMetH_plain _ _ _ aad];exact laidMet_laidAll uI cw cw
def aom(os:Os)(H:Type)(N:d7×bv->H):∃(w:d9) (tape:Tape) (i:Input),w.os=os/\(w.forCall tape i).Shaped Tryz.prog/\i.vars=[]/\Input.okWide Tryz.prog (w.forCall tape i) .any w.heap.size 3 i/\
 (Rows.OpenSpec.upto Rows.boundsProvenSpec).preRow N Tryz.prog Tryz.f3 [] false Rows.boundsProvenUptoRow.laid (w.forCall tape i).memory i.args/\({}:Assume).holds Tryz.prog (lone (Frame.enter Tryz.prog 3 i.args .normal) []<|w.forCall tape i):=by
 have S:Input.okWideB Tryz.prog ((World.laidAll Tryz.prog os Rows.boundsProvenUptoRow.laid).forCall (λ_ _=>0) ⟨#[],uI,[]⟩) 3 ⟨#[],uI,[]⟩=true:=cw
 have O:DataW.whole N Tryz.prog ((World.laidAll Tryz.prog os Rows.boundsProvenUptoRow.laid).forCall (λ_ _=>0) ⟨#[],uI,[]⟩).memory Tryz.f3.params.toList (Rows.OpenSpec.upto Rows.boundsProvenSpec).vars false uI.toList 8=some ([DataW.nil,DataW.nil],[],[]):=cw
 have K:Rows.boundsProvenSpec.sizedB N Tryz.prog Tryz.f3 false ((World.laidAll Tryz.prog os Rows.boundsProvenUptoRow.laid).forCall (λ_ _=>0) ⟨#[],uI,[]⟩).memory uI 8=true:=cw
 exact⟨World.laidAll Tryz.prog os Rows.boundsProvenUptoRow.laid,λ_ _=>0,⟨#[],uI,[]⟩,World.laidAll_os _ _ _,World.shaped_of_RefB cw cw,(Input.okWide_of_okWideB (base:=0) S).1,(Input.okWide_of_okWideB S).2,
  ⟨⟨(OpenSpec.pre_some o [] false _ _).2 ⟨_,_,_,DataW.Whole_of_whole O,o,by rfl⟩,met os⟩,sizedMet_of_sizedB K⟩,by
  simp only[Assume.holds];refine⟨?_,?_,?_,?_,?_⟩<;>simp⟩
def lifted(os:Os)(ae:os.Started)(H:Type)(N:d7×bv->H)(F:Stop.Interp):
 ReturnsInHanded {} Tryz.checked os 3 .any ((Rows.OpenSpec.upto Rows.boundsProvenSpec).preRow N Tryz.prog Tryz.f3 [] false Rows.boundsProvenUptoRow.laid)
  (((Rows.OpenSpec.upto Rows.boundsProvenSpec).at F).post N Tryz.prog Tryz.f3 false true false false):=by
 refine returnsInHanded_of_row (C:=Tryz.checked) own ae cw Tryz.func3 (aom os H N) ?_;intro W base args af gs before f hw ah E j ad I s;have aT:=hw.lt;have ab:=hw;obtain⟨p,q,z,U,aa,_,_⟩:=ab;have Z:gs=[]/\q=[]:=by
  cases gs with
  |cons ag Q=>exact U.elim
  |nil=>exact⟨o,U⟩
 obtain⟨rfl,rfl⟩:=Z;rw[wi]at aa;subst aa;have c:=z;rw[params3]at c;obtain⟨v,bA,d,Y,g,r,D,rfl,rfl,a',u⟩:=trodAll_two c;have P:=f 0 22 v cw (by rw[D];rfl);have J:=f 1 23 bA cw (by rw[D];rfl);obtain⟨t,pl,sD,rfl⟩:=okWide_slice an6 P;obtain⟨b,i,a,rfl⟩:=okWide_slice an7 J;obtain⟨y,m⟩:=a';obtain⟨w,K⟩:=u;have G:Rows.uptoBulkAll [d,Y]<=1048576:=jD<|E _ o;have R:Rows.uptoBulk d<=1048576:=cN (Dn az) G;have V:Rows.uptoBulk Y<=1048576:=cN (Dn az) G;have aw:=Ib 20 y 22 [.slice t pl sD] d _ _ m aoe R;have M:=Ib 20 w 23 [.slice b i a] Y _ _ K aof V;obtain⟨l,x,T,S,X⟩:=aoj (gs:=kR.kr.gs) (ct _) aw M;subst D;refine(run T S X ad I).mono λe k ⟨A,L,n⟩=>?_;subst A;refine⟨_,o,[d,Y],[],g++r,[],g++r,[],hw,?_,?_,o,?_,λh=>by cases h⟩
 .rw[results3,an8];exact trodAll_mk1<|shut_bool Tryz.underlying4 _
 .rw[params3];exact trodAll_mk2 (Go.WideElems.Trod_stays aae an9 aoa ⟨y,m⟩ (λx O=>aaf n<|aT x asK) λx O=>by simpa using aT x asK)<|Go.WideElems.Trod_stays aae aob aoc ⟨w,K⟩ (λx O=>aaf n<|aT x asK) λx O=>by simpa using aT x asK
 .exact World.keptBut_mono (λ_ h=>h.elim) L
