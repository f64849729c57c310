/- In every world in which the listed variables read as the claim says, the call of ProofsNever returns true and changes nothing. -/
import Derived.Test.YtnbgimpdclpgbaaGreatDoorRows
import Derived.Handed
import Derived.ProofKit
import Derived.OpenShut
import Derived.Shelf.Vars
import Derived.Lay
import Derived.LaidMore
import Derived.ChangeMaps5
import Derived.Lib.SmallJoins
import Derived.WideKeyArgs
import Derived.ChangeAgain
import Derived.Test.YtnbgimpdclpgbaaGreatDoorC6
import Derived.Test.YtnbgimpdclpgbaaGreatDoorS2
import Derived.Test.YtnbgimpdclpgbaaGreatDoorM2
set_option linter.all false
namespace Go.Proofs.YtnbgimpdclpgbaaGreatDoor
open Go.ChangeShapes Go.WideShapes Go.ChangeAt Go.RowKit Go.bA
set_option maxRecDepth 100000
variable{a8:ac MemPlace}
def own:ownKnob Tryz.prog.godebug=none:=br
def c5{P:f8}{W:f5}(h:W.ShapedOpen P){g:Nat}{t:co}(e:g<P.globals.size)(bX:(((begin P (λ_ _=>0) default).world.heap[g]?).bind Obj.row?).map (·.2)=some t):∃cs,W.heap[g]? =some (.cells cs t):=by
 obtain⟨⟨z,c⟩,b,a⟩:=nt.1 bX;simp only at a;subst a;obtain⟨cs,d,_⟩:=h.1 g z c e b;exact⟨cs,d⟩
def xF:Tryz.prog.globals.size=11:=br
def aae:(Rows.proofsNeverRow.laid.all λx=>x.2.handleName?.isNone)=true:=br
def aqT{W:f5}(aD:DataW.LaidVars Tryz.prog W Rows.proofsNeverRow.laid a8)(e:W.ShapedOpen Tryz.prog):ui 11 W jO.g8:=
 E2 (n:=4) (t:=280) (name:= "vernier/proofs.plain") (d:=Rows.laid_vernier_proofs_plain) aD (by simp[Rows.proofsNeverRow]) br br br al al br<|c5 e (by rw[xF];decide) br
def aqU{W:f5}(aD:DataW.LaidVars Tryz.prog W Rows.proofsNeverRow.laid a8)(e:W.ShapedOpen Tryz.prog):ui 11 W jO.cw:=
 E2 (n:=4) (t:=330) (name:= "vernier/lang.after") (d:=Rows.laid_vernier_lang_after) aD (by simp[Rows.proofsNeverRow]) br br br al al br<|c5 e (by rw[xF];decide) br
def aqV{W:f5}(aD:DataW.LaidVars Tryz.prog W Rows.proofsNeverRow.laid a8)(e:W.ShapedOpen Tryz.prog):ui 11 W jO.dg:=
 E2 (n:=4) (t:=371) (name:= "vernier/lang.shapes") (d:=Rows.laid_vernier_lang_shapes) aD (by simp[Rows.proofsNeverRow]) br br br al al br<|c5 e (by rw[xF];decide) br
def aqW{W:f5}(aD:DataW.LaidVars Tryz.prog W Rows.proofsNeverRow.laid a8)(e:W.ShapedOpen Tryz.prog):ui 11 W jO.nS:=
 E2 (n:=4) (t:=438) (name:= "internal/strconv.uint64pow10") (d:=Rows.laid_internal_strconv_uint64pow10) aD (by simp[Rows.proofsNeverRow]) br br br al al br<|c5 e (by rw[xF];decide) br
def aqX{W:f5}(e:W.ShapedOpen Tryz.prog):ui 11 W jO.fY:=by
 have b:((begin Tryz.prog (λ_ _=>0) default).world.heap[4]?).bind Obj.row?=some (#[.int .i64 0],3):=br
 obtain⟨cs,c,d,_⟩:=e.1 4 _ 3 (by rw[xF];decide) b;obtain⟨m,hm⟩:=cell_of_shapedOpen_int (k:=.i64) e (by rw[xF];decide) b j br br Tryz.underlying3;have f:cs= #[.int .i64 m]:=by
  have a:cs[0]? =some (.int .i64 m):=by simpa[World.cell?,c]using hm
  obtain⟨l⟩:=cs
  match l,d,a with
  |[x],_,a=>simp at a;rw[a]
 refine⟨al,[.chan<|some 1],3,1,cs,_,j,al,c,?_⟩;rw[f];exact .cons (.hF 1 m mw)<|.nil _
def aqY{W:f5}(e:W.ShapedOpen Tryz.prog):11<=W.heap.size:=by
 obtain⟨cs,h⟩:=c5 (g:=10) (t:=470) e (by rw[xF];decide) br;have:=(tu.1 h).1;omega
def aaf:Tryz.prog.underlying 31=some (.struct #[Field.mk "Prog" 27 0 false "" "" 0,Field.mk "Box" 28 8 false "" "" 128,Field.mk "Squares" 29 9 false "" "" 152]):=br
def aqZ:ac co:=[22,3,23,24,3,3,25,3,28,29]
def aq0:Tryz.prog.cellTypes Tryz.prog.depth 31=some aqZ:=br
def aq1:Tryz.prog.underlying 22=some (.slice 267):=br
def aq2:Tryz.prog.underlying 23=some (.slice 283):=br
def aq3:Tryz.prog.underlying 24=some (.slice 172):=br
def aq4:Tryz.prog.underlying 25=some (.slice 258):=br
def aq5:Tryz.prog.underlying 28=some (.slice 50):=br
def aq6:Tryz.prog.underlying 29=some (.slice 95):=br
def params3:Tryz.f4.params.toList=[31,39]:=br
def results3:Tryz.f4.resultTypes.toList=[4]:=br
def aq7:Tryz.f4.resultTypes.size=1:=br
def aag:laidOutB Tryz.prog=true:=br
def aq8:Tryz.prog.readableRec 31=true:=br
def aq9:31<Tryz.prog.types.size:=hO br
def ara:Tryz.prog.readableRec 39=true:=br
def arb:39<Tryz.prog.types.size:=hO br
def aah:Tryz.prog.underlying 39=some (.slice 5):=br
def arc:y9 Tryz.prog 20 39=some [.aK 1 1 [.i .u8]]:=br
section
variable{B:Nat}{W:f5}{gs:ac (Nat×bz)}
def ard(ad:ac bv):kq B W [.i .i64,.i .i64] ad->∃x:Int×Int,cB (λb=>(hL gs W).get b) (c3.Yn x) [] (ad.map<|hK W)/\True:=by
 rintro⟨v,_,rfl,⟨m,rfl,_⟩,c,_,rfl,⟨a,rfl,_⟩,rfl⟩;exact⟨(m,a),M0,aC⟩
def are(ad:ac bv):kq B W [.i .i64,.i .i64] ad->∃x:c3.xm,cB (λb=>(hL gs W).get b) (c3.Yo x) [] (ad.map<|hK W)/\True:=by
 rintro⟨v,_,rfl,⟨m,rfl,_⟩,c,_,rfl,⟨a,rfl,_⟩,rfl⟩;exact⟨⟨m,a⟩,M0,aC⟩
def arf(ad:ac bv):kq B W [.i .i64,.s,.s] ad->∃x:c3.n0,cB (λb=>(hL gs W).get b) (c3.G8 x) [] (ad.map<|hK W)/\(x.bg.length<=B/\x.af.length<=B):=by
 rintro⟨v,_,rfl,⟨m,rfl,_⟩,f,_,rfl,⟨s,rfl,c⟩,e,_,rfl,⟨a,rfl,d⟩,rfl⟩;exact⟨⟨m,s.data.toList,a.data.toList⟩,⟨_,_,j,j,_,_,j,j,_,_,j,j,j⟩,c,d⟩
def arh(ad:ac bv):kq B W [.i .i64,.i .i64,.i .i64,.i .i64,.i .i64,.i .i64,.s] ad->∃x:c3.gD,cB (λb=>(hL gs W).get b) (c3.kI x) [] (ad.map<|hK W)/\x.v.length<=B:=by
 rintro⟨v0,_,rfl,⟨a,rfl,_⟩,v1,_,rfl,⟨d,rfl,_⟩,l,_,rfl,⟨c,rfl,_⟩,n,_,rfl,⟨f,rfl,_⟩,m,_,rfl,⟨g,rfl,_⟩,k,_,rfl,⟨h,rfl,_⟩,v6,_,rfl,⟨s,rfl,e⟩,rfl⟩;exact⟨⟨a,d,c,f,g,h,s.data.toList⟩,⟨_,_,j,j,_,_,j,j,_,_,j,j,_,_,j,j,_,_,j,j,_,_,j,j,_,_,j,j,j⟩,e⟩
def ari(ad:ac bv):kq B W [.i .i64] ad->∃x:Int,cB (λb=>(hL gs W).get b) (c3.g4 x) [] (ad.map<|hK W)/\True:=by
 rintro⟨v,_,rfl,⟨m,rfl,_⟩,rfl⟩;exact⟨m,⟨_,_,j,j,j⟩,aC⟩
def aai:ac oH:=[.s,.aK 1 8 [.i .i64]]
def aaj:ac oH:=[.s,.i .i64,.aK 2 40 aai]
def lA:ac oH:=[.aK 2 16 [.i .i64,.i .i64],.i .i64,.aK 3 40 [.i .i64,.s,.s],.aK 7 64 [.i .i64,.i .i64,.i .i64,.i .i64,.i .i64,.i .i64,.s],.i .i64,.i .i64,.aK 2 16 [.i .i64,.i .i64],.i .i64,.aK 2 32 [.s,.s],.aK 3 48 aaj]
def arj:y9 Tryz.prog 20 31=some lA:=br
def ark(e:B<=c3.td)(ad:ac bv):kq B W aai ad->∃x:c3.dj,cB (λb=>(hL gs W).get b) (c3.iC x) [] (ad.map<|hK W)/\(x.b8.length<=c3.td/\x.eh.length<=c3.td):=by
 rintro⟨v,_,rfl,⟨s,rfl,a⟩,w,_,rfl,h,rfl⟩;obtain⟨l,c,_,d⟩:=FM (gs:=gs) al ari h;exact⟨⟨s.data.toList,l⟩,⟨_,_,j,j,_,_,j,d,j⟩,cC a e,cC (NW _ al)<|cC c e⟩
def arl(e:B<=c3.td)(ad:ac bv):kq B W aaj ad->∃x:c3.dR,cB (λb=>(hL gs W).get b) (c3.k6 x) [] (ad.map<|hK W)/\(x.b8.length<=c3.td/\∀t∈x.dr,t.b8.length<=c3.td/\t.eh.length<=c3.td):=by
 rintro⟨v,_,rfl,⟨s,rfl,a⟩,u,_,rfl,⟨m,rfl,_⟩,w,_,rfl,h,rfl⟩;obtain⟨l,c,cw,d⟩:=FM (gs:=gs) al (ark e) h;exact⟨⟨s.data.toList,m,l⟩,⟨_,_,j,j,_,_,j,j,_,_,j,d,j⟩,cC a e,cw⟩
def arn(ad:ac bv):kq B W [.s,.s] ad->∃x:c3.fo,cB (λb=>(hL gs W).get b) (c3.si x) [] (ad.map<|hK W)/\True:=by
 rintro⟨v,_,rfl,⟨s,rfl,_⟩,c,_,rfl,⟨a,rfl,_⟩,rfl⟩;exact⟨(s.data.toList,a.data.toList),M0,aC⟩
def aro(ad:ac bv):kq B W [.i .u8] ad->∃x:ci,cB (λb=>(hL gs W).get b) (iy x) [] (ad.map<|hK W)/\True:=by
 rintro⟨v,_,rfl,⟨m,rfl,c⟩,rfl⟩;have hm:0<=m/\m<=255:=by
  have a:(decide ((0:Int)<=m)&&decide (m<=255))=true:=c;rw[xG]at a;exact⟨hO a.1,hO a.2⟩
 have e:((UInt8.ofNat m.toNat).toNat:Int)=m:=by rw[Ih];omega
 exact⟨UInt8.ofNat m.toNat,⟨.int .u8 m,[],j,by show _=Value.int .u8 _;rw[e],j⟩,aC⟩
def arp(u:B<=c3.td){ad:ac bv}{v:bv}(h:kq B W lA ad)(D:kq B W [.aK 1 1 [.i .u8]] [v])(cA:∀(i:Nat) (v:bv),ad[i]? =some v->i=0\/i=2\/i=3\/i=6\/i=8\/i=9->za W v)(aD:za W v):
 ∃s:(c3.ec×ac c3.fo×ac c3.dR)×ac ci,c3.zW s.1/\cB (λb=>(hL gs W).get b) (c3.xE s.1) [] (ad.map<|hK W)/\den (λb=>(hL gs W).get b) (.cU 1 ci iy s.2) [] (hK W v):=by
 obtain⟨v0,_,rfl,F,v1,_,rfl,⟨E,rfl,_⟩,N,_,rfl,G,Q,_,rfl,g,V,_,rfl,⟨L,rfl,_⟩,R,_,rfl,⟨P,rfl,_⟩,O,_,rfl,p,S,_,rfl,⟨o,rfl,_⟩,T,_,rfl,J,U,_,rfl,K,rfl⟩:=h;obtain⟨H,_,_,_,q⟩:=zb (gs:=gs) ard F<|cA 0 v0 j al;obtain⟨C,_,_,cw,r⟩:=zb (gs:=gs) arf G<|cA 2 N j al;obtain⟨M,_,_,dg,t⟩:=zb (gs:=gs) arh g<|cA 3 Q j al;obtain⟨d,_,_,_,y⟩:=zb (gs:=gs) are p<|cA 6 O j al;obtain⟨l,_,_,z⟩:=FM (gs:=gs) al arn J;obtain⟨m,_,f,A⟩:=FM (gs:=gs) al (arl u) K;obtain⟨w,_,e,I,rfl⟩:=D;cases e;obtain⟨c,_,_,_,k⟩:=zb (gs:=gs) aro I aD;exact⟨((⟨H,E,C,M,L,P,d,o⟩,l,m),c),
  ⟨⟨λx a=>⟨cC (cw x a).1 u,cC (cw x a).2 u⟩,λn ah=>cC (dg n ah) u⟩,f⟩,
  ⟨_,_,j,q,_,_,j,j,_,_,j,r,_,_,j,t,_,_,j,j,_,_,j,j,_,_,j,y,_,_,j,j,_,_,j,z,_,_,j,A,j⟩,k⟩
end
variable{v:bv}{s:(c3.ec×ac c3.fo×ac c3.dR)×ac ci}
def arq:∀p∈jO.j8.gs,(j5 jO.j8.gs .nil).get p.1=some p.2:=c3.HO br br br br br
def rR:∀p∈jO.j8.gs,p.1<11:=c3.HO al al al al al
def ars{W:f5}(D:11<=W.heap.size){ad:ac bv}(E:c3.zW s.1)(u:cB (λb=>(hL jO.j8.gs W).get b) (c3.xE s.1) [] (ad.map<|hK W))(e:den (λb=>(hL jO.j8.gs W).get b) (.cU 1 ci iy s.2) [] (hK W v)):
 ∃ak,ef bS.ctx 4 ⟨[.agg ⟨ad.map<|hK W⟩,hK W v],⟨hL jO.j8.gs W,2*W.heap.size⟩,.bool true,ak⟩:=by
 have ah:∀q∈jO.j8.gs,q.1<W.heap.size:=λq a=>xH (rR q a) D;have hp:(c3.NT c3.ev c3.ev.up).spec.pre (s,λb=>(hL jO.j8.gs W).get b) [.agg ⟨ad.map<|hK W⟩,hK W v] ⟨hL jO.j8.gs W,2*W.heap.size⟩:=
  ⟨E,λq a=>(afO<|ah q a).trans<|arq q a,⟨λb c=>afQ ah b c,λb U h=>h,j,j,oc,λb c=>by simp at c,λk U b g=>by simp at g⟩,
   ⟨_,_,j,⟨_,j,u⟩,_,_,j,e,j⟩⟩
 obtain⟨v,ak,f,d⟩:=c3.aqS _ _ ⟨_,hp⟩;obtain⟨i,_,_,e⟩:=f _ hp;have e:v= .bool true:=e;subst e;exact⟨ak,d⟩
def run{W:f5}{ad:bi bv}(F:c3.zW s.1)(E:cB (λb=>(hL jO.j8.gs W).get b) (c3.xE s.1) [] (ad.toList.map<|hK W))(D:den (λb=>(hL jO.j8.gs W).get b) (.cU 1 ci iy s.2) [] (hK W v))(aD:laidMetH Tryz.prog Rows.proofsNeverRow.laid W)(u:W.ShapedOpen Tryz.prog):
 Calls Tryz.prog 4 #[.agg ad,v] W λe c=>e= .returned (.bool true)/\W.keptBut c (λ_=>False)/\∀i,i<W.heap.size->c.heap[i]? =W.heap[i]? :=by
 rw[MakeChecks.laidMetH_plain _ _ _ aae]at aD;obtain⟨a8,aD,_⟩:=aD;have a:=aqY u;obtain⟨ak,o⟩:=ars a F E D;have q:bN bS.ctx (nU 11 W.heap.size) ⟨hL jO.j8.gs W,2*W.heap.size⟩ W:=afP (X:=bS.ctx) (gs:=jO.j8.gs) a<|c3.HO (aqT aD u) (aqU aD u) (aqV aD u) (aqX u)<|aqW aD u;have m:bI (nU 11 W.heap.size) [.agg ⟨ad.toList.map<|hK W⟩,hK W v] [.agg ad,v]:=.cons (.agg _ _ av λi h t=>by
  have:=K4 (g:=11) a ad[i];simpa using this)<|.cons (K4 (g:=11) a v)<|.nil _
 refine(acW o (gG:=[.agg ad,v]) m q).mono λe c ⟨n,r,p,D,_,d⟩=>?_;have D:bc n (.bool true) r:=D;cases D;have f:∀i,i<W.heap.size->c.heap[i]? =W.heap[i]? :=λi af=>d.kept i af λw l aD k=>by
  unfold nU at aD;split at aD
  ·cases aD;exact absurd j k
  ·split at aD
   ·cases aD;exact absurd j k
   ·cases aD
 refine⟨p,⟨d.fE.1,d.fE.2,λi af=>?_⟩,f⟩;rw[f i af];exact(World.keptBut_refl W λ_=>False).2.2 i af
def aak{W a:f5}(h:∀i,i<W.heap.size->a.heap[i]? =W.heap[i]?){p:MemPlace}(hp:p.block<W.heap.size):W.sameAt a p:=by
 cases p with
 |cell b U=>exact World.cell?_of_block (w:=W) (h b hp)
 |map b=>exact h b hp
def art{W:f5}{cs:bi bv}(h:Value.okWide Tryz.prog W .any 0 31 (.agg cs))(i:Nat)(v:bv)(j:cs.toList[i]? =some v)(af:i=0\/i=2\/i=3\/i=6\/i=8\/i=9):za W v:=by
 simp only[Value.okWide,aaf]at h;obtain⟨f,e,_,ay,b,_,d⟩:=h;cases e;rw[aq0]at b;cases b;obtain⟨u,c,a⟩:=d i v (by simpa using j);rcases af with rfl|rfl|rfl|rfl|rfl|rfl<;>cases c
 ·exact wR aq1 a
 ·exact wR aq2 a
 ·exact wR aq3 a
 ·exact wR aq4 a
 ·exact wR aq5 a
 ·exact wR aq6 a
def NU:bi bv:= #[.agg #[.slice none 0 0,.int .i64 0,.slice none 0 0,.slice none 0 0,.int .i64 0,.int .i64 0,.slice none 0 0,.int .i64 0,.slice none 0 0,.slice none 0 0],.slice none 0 0]
def met(os:Os):laidMetH Tryz.prog Rows.proofsNeverRow.laid ((World.laidAll Tryz.prog os Rows.proofsNeverRow.laid).forCall (λ_ _=>0) ⟨#[],NU,[]⟩).memory:=by
 rw[MakeChecks.laidMetH_plain _ _ _ aae];exact laidMet_laidAll NU br br
def lifted(os:Os)(ao:os.Started)(H:Type)(enc:co×bv->H):
 ReturnsInHanded {} Tryz.checked os 4 .any (λw args=>(Rows.proofsNeverSpec.pre enc Tryz.prog Tryz.f4 [] false w args/\laidMetH Tryz.prog Rows.proofsNeverRow.laid w)/\sizedMet enc Tryz.prog Tryz.f4 (OpenSpec.ofChange Rows.proofsNeverSpec) false w args)
  (Rows.proofsNeverSpec.post enc Tryz.prog Tryz.f4 false true false false):=by
 refine returnsInHanded_of_calls (C:=Tryz.checked) own ao br
  (ChangeSpec.witness_shaped (enc:=enc) (C:=Tryz.checked) (os:=os) (X:=λw _=>laidMetH Tryz.prog Rows.proofsNeverRow.laid w) false (World.laidAll Tryz.prog os Rows.proofsNeverRow.laid) NU 8 (World.laidAll_os _ _ _) (World.shaped_of_RefB br br) br br br<|met os) ?_
 intro w k i _ K _ V al _;obtain⟨_,_,_,ar,Q,_,_,_,_,I⟩:=V;have P:ar=Tryz.f4:=Option.some.inj<|Q.symm.trans Tryz.func4;subst P;obtain⟨⟨_,a⟩,⟨_,Z,gs,before,aj,A⟩⟩:=al;have c:DataW.Whole enc Tryz.prog Tryz.f4.params.toList Rows.proofsNeverSpec.vars false (w.forCall k i) i.args.toList Z gs before:=DataW.Whole.of_heap (w':=w.forCall k i) (by rfl) aj;have ai:laidMetH Tryz.prog Rows.proofsNeverRow.laid (w.forCall k i):=a.of_heap (by rfl);have aT:=c.lt;have a':=c;obtain⟨p,q,aa,y,E,_,_⟩:=a';have U:gs=[]/\q=[]:=by
  cases gs with
  |cons aw au=>exact y.elim
  |nil=>exact⟨j,y⟩
 obtain⟨rfl,rfl⟩:=U;rw[rb]at E;subst E;have m:=aa;rw[params3]at m;obtain⟨v,aq,d,f,D,u,b,rfl,rfl,ab,Y⟩:=trodAll_two m;have a9:Tryz.f4.params[0]? =some 31:=br
 have bH:Tryz.f4.params[1]? =some 39:=br
 have n:=I 0 31 v a9 (by rw[b];rfl);have G:=I 1 39 aq bH (by rw[b];rfl);obtain⟨cs,rfl,_⟩:=okWide_struct aaf n;obtain⟨L,pl,rG,rfl⟩:=okWide_slice aah G;have R:∀x∈d.weights Tryz.prog 31,x<=reachBytes:=λx a=>by
  have g:=il.1 A x<|FK (i:=0) (t:=31) (d:=d) (by rw[params3];rfl) j a;exact hO g
 have T:∀x∈f.weights Tryz.prog 39,x<=reachBytes:=λx a=>by
  have g:=il.1 A x<|FK (i:=1) (t:=39) (d:=f) (by rw[params3];rfl) j a;exact hO g
 obtain⟨z,r⟩:=ab;obtain⟨o,F⟩:=Y;have O:=FL 20 z 31 cs.toList d _ lA r arj R;have an:=FL 20 o 39 [.slice L pl rG] f _ [.aK 1 1 [.i .u8]] F arc T;obtain⟨S,M,N,J⟩:=arp (gs:=jO.j8.gs) (show reachBytes<=c3.td by decide) O an (λak v ae af=>art (Value.okWide_any_base n) ak v ae af)<|wR aah<|Value.okWide_any_base G;rw[b];refine(run (s:=S) M N J ai K).mono λe av ⟨ad,ah,l⟩=>?_;subst ad;refine ChangeSpec.post_blind ⟨[d,f],[],D++u,[],D++u,[],by rw[b]at c;exact c,?_,?_,j,?_,λh=>by cases h⟩
 ·rw[results3,aq7];exact trodAll_mk1<|shut_bool Tryz.underlying4 _
 ·rw[params3];exact trodAll_mk2 (Go.WideElems.Trod_stays aag aq8 aq9 ⟨z,r⟩ (λx a=>aak l<|aT x<|by simp[a]) λx a=>by simpa using aT x (by simp[a]))<|Go.WideElems.Trod_stays aag ara arb ⟨o,F⟩ (λx a=>aak l<|aT x<|by simp[a]) λx a=>by simpa using aT x (by simp[a])
 ·exact World.keptBut_mono (λ_ h=>h.elim) ah
