/- What the functions of the program and of the document compute, for every input, and the plain laws of it (part 5); conditions as in the statements. -/
import Derived.Test.YtkhecbikkdcfoaaGreatDoorC4
import Derived.Test.YtkhecbikkdcfoaaGreatDoorC2
import Derived.Test.YtkhecbikkdcfoaaGreatDoorS3
import Derived.Test.YtkhecbikkdcfoaaGreatDoorS2
import Derived.Test.YtkhecbikkdcfoaaGreatDoorC3
import Derived.Test.YtkhecbikkdcfoaaGreatDoorZ
noncomputable section
set_option linter.all false
namespace Go.bI.ds
open Go.bI Sym
set_option maxRecDepth 100000
set_option maxHeartbeats 8000000
def Z3(K:ac (Nat×dT)){f:d8}(a7:c7){S:da}(G:S.L->ac bT)(E:∀l,S.res l= .gq 2 bT ef (G l))
 (h:∀l,S.pre l->∀H ax ab,S.hp H->Fit H [] ax [] 0->cT H (S.args l) [] ab->∃bJ:ac ai,cT H bJ [] ab/\jg ⟨cf aV (cm cv.ctx<|bE K)<|bz+1,bz+1,f,H,[],ax,HW (G l) ax.ag a7.res⟩ a7.body ⟨[],0,iJ 0 bJ⟩)
 (O:aV.get f=some a7:=by kernel_rfl) (aI:∀l,(S.args l).length<=a7.aR:=by exactλ_=>jb o):b4 f S:=amZ cv.gP hv (bE K) O G E aI h
def uF(n:Nat)(k:aM):ac Int:=(k.n.take n).map Int.ofNat
def m2(n:Nat)(p:aM×Rat):bT:=⟨gu p.2,uF n p.1⟩
def fV(n:Nat)(f:Poly):ac bT:=f.map<|m2 n
def am1(f:Poly)(n:Nat):Prop:=f.eM/\f.ij/\(∀p∈f,p.1.gR/\bg 268435456 p.2)/\f.length<=1000/\n<=6
variable{f:Poly}
def Dj(Q:Poly->Prop):da:=n0 im im.up λ((f,n):Poly×Nat)=>([.g<|fU<|fe f,.ae (n:Nat)],am1 f n/\Q f,.gq 2 bT ef<|fV n f)
def am2(dX Q n:Nat)(seen:ac Nat):ac aM->cg
 |[]=>⟨[.g<|mJ dX Q seen],1,[(0,.v<|.map<|some dX),(1,.ae (n:Nat)),(4,.nl),(5,.nl),(10,.p 0 0)]⟩
 |k::X=>⟨[.g<|mJ dX Q seen,c5 (k::X).toArray],2,[(0,.v<|.map<|some dX),(1,.ae (n:Nat)),(4,.nl),(5,.aL 1 6 0 (X.length+1)<|X.length+1),(10,.p 0 0)]⟩
def am3(cp:Nat)(f:Poly)(n k:Nat):ac bT->cg
 |[]=>⟨[c5 (f.map (·.1)).toArray],1,[(0,.g<|fU<|fe f),(1,.ae (n:Nat)),(4,.nl),(21,.aL 0 6 0 f.length f.length),(22,.ae (f.length:Nat)),(23,.ae (k:Nat))]⟩
 |t::aF=>⟨[c5 (f.map (·.1)).toArray,.a 90 true 2 bT (v9 cp)<|t::aF],2,[(0,.g<|fU<|fe f),(1,.ae (n:Nat)),(4,.aL 1 2 0 (aF.length+1)<|aF.length+1),(21,.aL 0 6 0 f.length f.length),(22,.ae (f.length:Nat)),(23,.ae (k:Nat))]⟩
def Z4(M:f.eM){p:aM×Rat}(hp:p∈f):iV (fe f) (eG p.1)=some (bQ p.2):=by
 refine SH ?_ (db.2 ast);rw[fe,qW];refine pj.2<|M.imp λ{p q} h e=>?_;rw[(key_inj e)]at h;exact aM.qP _ h
def am4:eb cv.ctx 39 (Dj (· ≠[])).spec:=by
 refine Z3 [ZX,zC,(99,N1.jT Z1)] LI.1 (λl=>fV l.2 l.1) qj ?_;rintro⟨f,n⟩ ⟨⟨D,aH,T,aY,aj⟩,(ar:f≠[])⟩ H ax ab F aZ S;obtain⟨v1,a2,rfl,W,a4,aX,rfl,aR,P⟩:=S;have P:aX=[]:=P;subst P;obtain⟨dX,c,al,rfl,d,a'⟩:=W;have a0:(fe f).length=f.length:=by unfold fe;rw[hV]
 refine⟨[.v<|.map<|some dX,.ae (n:Nat)],⟨_,_,o,o,_,_,o,aR,o⟩,?_⟩;show jg _ (.seq _<|.seq _<|.seq (.seq _<|.block _<|.loop _) _) _;refine ik<|gO ?_;refine U 3<|bh ?_;refine ik<|gO ?_;refine U 3<|bh ?_;refine zg (L:=aM×ac aM) (λx=>(x.1::x.2).Perm (f.map (·.1))) (λx=>⟨[c5 (x.1::x.2).toArray],1,[(0,.v<|.map<|some dX),(1,.ae (n:Nat)),(4,.nl),(5,.aL 0 6 0 (x.2.length+1)<|x.2.length+1)]⟩) ?_ ?_
 .refine ik<|gO ?_;refine U 2<|xD d ?_;refine U 1<|bh ?_;refine vA ?_;refine xy (L:=ac Nat×ac aM) (λ(A,X)=>(∀s∈A,s<al)/\(∀m∈c,m.born∈A↔∃k∈X,m.key=eG k)/\X.Nodup/\∀k∈X,k∈f.map (·.1)) (λ(A,X)=>am2 dX al n A X)
   (λl=>left c l.1) [0] ([],[]) ⟨apZ,(λm _=>aoU),pk,λk h=>by cases h⟩ ?_ cr ?_
  .show left c []<bz+1;have Y:=z2 c [];have G:=a'.len;unfold bz;omega
  rintro⟨A,X⟩ ⟨B,V,aq,an⟩;have aC:X.length<=f.length:=by
   have:=Nr aq an;rw[hV]at this;exact this
  have new:∀{m:f6},m∈c->m.born∉A->∀{p:aM×Rat},p∈f->m.key=eG p.1->(X++[p.1]).Nodup/\∀k∈X++[p.1],k∈f.map (·.1):=λ{m} hm Q {p} hp Y=>by
   have aU:p.1∉X:=λh=>Q<|(V m hm).2 ⟨_,h,Y⟩;refine⟨AA.2 ⟨aq,az,λa aB b aa e=>?_⟩,λk E=>?_⟩
   .rw[fX]at aa;rw[e,aa]at aB;exact aU aB
   .rcases ie.1 E with E|E
    .exact an k E
    .rw[fX]at E;rw[E];exact db.2 ast
  have up:∀{m:f6},m∈c->∀s∈A++[m.born],s<al:=λ{m} hm s M=>by
   rcases ie.1 M with M|M
   .exact B s M
   .rw[fX]at M;rw[M];exact a'.born m hm
  cases X with
  |nil=>
   refine ik<|vB (k:=0) (r:=dX) (clock:=al) (seen:=A) (es:=c) o o d B (λm hm Q=>?_) λz=>?_
   .refine U 2<|bh ?_;refine gO ?_;refine U 7 ?_;obtain⟨p,hp,u,v,w,Y,G,C,N⟩:=vV a' hm;obtain⟨hD,hY⟩:=new hm Q hp Y;refine xE (mY p.1) (bQ p.2) d hm a'.jM (a'.born m hm) (λZ _=>?_) (λZ hle=>?_) ?_
    .exact apJ
    .exact atk
    refine U 9<|rL hj [p.1] (hg (ak:=hj) [p.1] o) ?_;refine U 3 ?_;refine bh ⟨[0,3],(A++[m.born],[p.1]),⟨xT hm Q,up hm,(λO K=>xV a' hm K Y<|V O K),hD,hY⟩,cb (aE:=⟨fJ,jU,aP⟩)⟩
   .exfalso;obtain⟨p,hp⟩:=DK _ ar;obtain⟨m,hm,aI⟩:=vW a' hp;obtain⟨k,E,_⟩:=(V m hm).1<|z m hm;cases E
  |cons a5 X=>
   refine ik<|vB (k:=0) (r:=dX) (clock:=al) (seen:=A) (es:=c) o o d B (λm hm Q=>?_) λz=>?_
   .refine U 2<|bh ?_;refine gO ?_;refine U 7 ?_;obtain⟨p,hp,u,v,w,Y,G,C,N⟩:=vV a' hm;obtain⟨hD,hY⟩:=new hm Q hp Y;refine xE (mY p.1) (bQ p.2) d hm a'.jM (a'.born m hm) (λZ _=>?_) (λZ hle=>?_) ?_
    .exact apJ
    .exact atk
    refine U 9 ?_;have aC:X.length+1<=f.length:=aC;refine qB (ak:=hj) [p.1] (hg (ak:=hj) [p.1] o) ?_ (aj:=az) (aa:=by show(5*(X.length+1+1)+1792)*49<=1125899906842624;omega);refine U 3 ?_;refine bh ⟨[0,4],(A++[m.born],a5::(X++[p.1])),⟨xT hm Q,up hm,(λO K=>xV a' hm K Y<|V O K),hD,hY⟩,cb (aE:=⟨fJ,jU,aP⟩) (aK:=⟨o,o,o,congrArg (λk=>some<|ai.aL 4 6 0 k k) az,o,aP⟩)⟩
   .have ah:(a5::X).Perm (f.map (·.1)):=(DA aq<|Nm D).2 λk=>⟨an k,λE=>by
     obtain⟨p,hp,rfl⟩:=db.1 E;obtain⟨m,hm,aI⟩:=vW a' hp;obtain⟨k,E,aV⟩:=(V m hm).1<|z m hm;rw[key_inj<|aI.symm.trans aV];exact E⟩
    refine U 2<|bh ?_;refine gO ?_;refine U 4<|bh ?_;show kN 0 _ _ _;exact⟨[1],(a5,X),ah,cb⟩
 rintro⟨a5,X⟩ ah;replace ah:(a5::X).Perm (f.map (·.1)):=ah;have aJ:X.length+1=f.length:=by have:=ah.length_eq;rw[hV]at this;exact this
 have aQ:=amB D ah;refine gO ?_;refine U 3<|lN ZX 0 (a5::X).toArray (by show(a5::X).toArray.size<=1000000;simp;omega) ?_;refine afK 0 (.g<|fU<|fe f) o (λZ hle a1 v ao=>?_) ?_
 .have ao:v= .map (some dX):=ao;subst ao;exact⟨dX,c,al,o,hle _ _ d,a'.mono hle⟩
 have ay:∀p∈fe f,(fR.arr .i64 6).ok p.1=true:=λp hp=>by
  obtain⟨q,aD,rfl⟩:=db.1 hp;exact qQ (T q aD).1
 have aN:(fV n f).length=f.length:=by unfold fV;rw[hV]
 refine U 11<|dN (L:=Nat×ac bT) (λ(k,r)=>k<=f.length/\r=(fV n f).take k) (λ(k,r)=>am3 ax.ag f n k r) (λx=>f.length-x.1) [0] (0,[]) apl (by show f.length-0<bz+1;unfold bz;omega) (cb (aE:=⟨⟨_,congrArg (λw=>some<|c5 w) aQ,o,λ_=>o⟩,aP⟩) (aK:=⟨o,o,o,congrArg (λm=>some<|ai.aL 0 6 0 m m) aJ,congrArg (λm:Nat=>some<|ai.ae (m:Int)) aJ,o,aP⟩)) ?_;rintro⟨k,r⟩ ⟨E,aw⟩;replace aw:r=(fV n f).take k:=aw;have aO:r.length=k:=by rw[aw,kD];omega
 by_cases aT:k<f.length
 .have ad:f[k]∈f:=ha aT;have aA:(fV n f).take (k+1)=r++[m2 n f[k]]:=by
   rw[om<|by rw[aN];exact aT,aw];congr 1;unfold fV;rw[uL]
  rcases r with _|⟨t,aF⟩
  .refine U 3<|eD 24<|U 10<|n7 o o (Ga f[k].1 (show(f.map (·.1))[k]? =some f[k].1 by rw[we,ba aT];rfl) ?_) (a3:=aT);refine U 7<|LC (bQ f[k].2) SI (xS f[k].1) ay (by rw[Z4 D ad]) ?_ (jx:=qQ (T _ ad).1);refine cS zC f[k].2 (T _ ad).2 (U 1<|ZZ (q:=n) ?_ (aD:=aj)) (cl:=F);refine zk Z2 1 (ax.ag,f[k].1.n,n) ⟨aj,by show 6<=1000;decide⟩ (ct _) ?_ (cq:=.a 168 false 1 Nat fL f[k].1.n) (aa:=sU);refine U 3<|Lf (v9 ax.ag) [m2 n f[k]] (hg (ak:=v9 ax.ag) [m2 n f[k]] o) ?_;exact U 8<|bL [0,3] (k+1,[m2 n f[k]]) ⟨by show f.length-(k+1)<f.length-k;omega,J,aA.symm⟩ cr
  .refine U 3<|eD 24<|U 10<|n7 o o (Ga f[k].1 (show(f.map (·.1))[k]? =some f[k].1 by rw[we,ba aT];rfl) ?_) (a3:=aT);refine U 7<|LC (bQ f[k].2) SI (xS f[k].1) ay (by rw[Z4 D ad]) ?_ (jx:=qQ (T _ ad).1);refine cS zC f[k].2 (T _ ad).2 (U 1<|ZZ (q:=n) ?_ (aD:=aj)) (cl:=F);refine zk Z2 2 (ax.ag,f[k].1.n,n) ⟨aj,by show 6<=1000;decide⟩ (ct _) ?_ (cq:=.a 168 false 1 Nat fL f[k].1.n) (aa:=sU);refine U 3<|Lg (ak:=v9 ax.ag) [m2 n f[k]] (hg (ak:=v9 ax.ag) [m2 n f[k]] o) ?_ (aj:=az) (aa:=by show(5*(aF.length+1+1)+1792)*41<=1125899906842624;simp only[iQ]at aO;omega);exact U 8<|bL [0,4] (k+1,t::(aF++[m2 n f[k]])) ⟨by show f.length-(k+1)<f.length-k;omega,J,aA.symm⟩ (cr (aK:=⟨o,o,congrArg (λk=>some<|ai.aL 4 2 0 k k) az,o,o,tO,aP⟩))
 .have aw:r=fV n f:=by rw[aw,pn J]
  rcases r with _|⟨t,aF⟩
  .exfalso;have aW:f.length=0:=by rw[<-aN,<-aw];rfl
   exact ar<|pg aW
  .refine U 3<|ee 24<|U 16<|bh ?_;show HW (fV n f) _ _ _ _;rw[<-aw];exact⟨.inr o,.inr ⟨az,1,_,_,_,o,ct _,o⟩⟩
def Z5:b4 169 (cR λ(_:Unit)=>([.nl,.ae 0,.ae 0,Di],True,.br [])):=by
 refine cJ [] LR.1 ?_;intro _ _ H ax;refine U 8<|jh (λ_=>True) (λ_=>⟨[],0,[(1,.ae 0),(2,.ae 0),(8,.ae 1)]⟩) (λ_=>0) [] () aP ?_;intro _ _;exact U 6<|ee 14<|U 7<|fc
def Z6:b4 129 (cR λ(l:Int)=>([.nl,.ae 0,.ae 0,.ae l,Di],True,.br [])):=by
 apply cJ [Z5] Gr.1;intro l _ H ax;refine U 11<|jh (λ_=>True) (λ_=>⟨[],0,[(0,.nl),(1,.ae 0),(2,.ae 0),(3,.ae l),(4,Di)]⟩) (λ_=>0) [] () aP ?_;intro _ _;exact U 6<|b5 23 0<|U 8<|eD 25<|U 9<|bn Z5 () aP<|U 7<|fc
def Z7:b4 96 (cR λ(_:Unit)=>([.nl,Di],True,.br [])):=by
 apply cJ [(130,xJ),Z6] LO.1;intro _ _ H ax;exact U 12<|bn NK (0:Nat) (by show 0<_;decide)<|U 1<|bn Z6 ↑(cx 0) aP<|U 1<|fc
def am5:eb cv.ctx 39 (Dj (· =[])).spec:=by
 refine Z3 [Z7] LI.1 (λl=>fV l.2 l.1) qj ?_;rintro⟨f,n⟩ ⟨⟨D,aH,T,t,aj⟩,O⟩ H ax ab e b S;subst O;obtain⟨v1,V,rfl,W,N,q,rfl,F,P⟩:=S;subst P;obtain⟨dX,c,Q,rfl,d,R⟩:=W;cases pg R.len;refine⟨[.v<|.map<|some dX,.ae n],⟨_,_,o,o,_,_,o,F,o⟩,?_⟩;refine ik<|gO ?_;refine U 3<|bh ?_;refine ik<|gO ?_;refine U 3<|bh ?_;refine zg (L:=Unit) (λ_=>True) (λ_=>⟨[],0,[(4,.nl),(5,.nl)]⟩) ?_ ?_
 .refine ik<|gO ?_;refine U 2<|xD d ?_;refine U 1<|bh ?_;refine vA ?_;refine xy (λ_=>True) (λ_=>⟨[.g<|mJ dX Q []],1,[(4,.nl),(5,.nl),(10,.p 0 0)]⟩) (λ_=>0) [0] () aP J cr ?_;intro _ _;refine ik<|vB o o d apZ (λm hm k=>by cases hm) λz=>?_;refine U 2<|bh ?_;refine gO ?_;exact U 4<|bh (⟨[],(),aP,Cd ⟨o,o,aP⟩⟩)
 intro _ _;refine gO ?_;refine U 3<|bn Z7 () aP<|U 11<|jh (λ_=>True) (λ_=>⟨[],0,[(4,.nl),(22,.ae 0),(23,.ae 0)]⟩) (λ_=>0) [] () aP ?_;intro _ _;exact U 3<|ee 24<|U 16<|bh ⟨.inr o,.inl e9⟩
def Z8{H M:bm}{st:ao}(aE:∀b R,H b=some R->st.h.get b=some R)(aK:∀b R,M b=some R->st.h.get b=some R){O:Poly}{v:bv}(d:den H (.g<|fU<|fe f) [] v)(F:den M (.g<|fU<|fe O) [] v)(h:f=[]):O=[]:=by
 obtain⟨r,L,c,rfl,U,ey⟩:=d;have⟨e5,G,E,e,T,eW⟩:=F;cases e;have:=(aE _ _ U).symm.trans<|aK _ _ T;cases this;have u:=ey.len;have Z:=eW.len;unfold fe at u Z;rw[hV]at u Z;rw[h]at u;exact pg<|by rw[<-Z,u];rfl
def am6:eb cv.ctx 39 (Dj λ_=>True).spec:=by
 rintro ab st ⟨⟨l,H⟩,⟨hp,_⟩,V,U,S⟩;have p:∀Z M,(Dj λ_=>True).spec.pre (Z,M) ab st->(l.1=[]↔Z.1=[]):=λZ M ⟨_,_,F,N⟩=>by
  have⟨v1,c,b,d1,_⟩:=S;have⟨v2,L,T,d2,_⟩:=N;rw[b]at T;cases T;exact⟨Z8 U.le F.le d1 d2,Z8 F.le U.le d2 d1⟩
 by_cases h:l.1=[]
 .have⟨v,al,Y,G⟩:=am5 ab st ⟨(l,H),⟨hp,h⟩,V,U,S⟩;exact⟨v,al,λZ u=>Y Z ⟨⟨u.1.1,(p Z.1 Z.2 u).1 h⟩,u.2⟩,G⟩
 .have⟨v,al,Y,G⟩:=am4 ab st ⟨(l,H),⟨hp,h⟩,V,U,S⟩;exact⟨v,al,λZ u=>Y Z ⟨⟨u.1.1,λg=>h<|(p Z.1 Z.2 u).2 g⟩,u.2⟩,G⟩
end Go.bI.ds
namespace Go.bI.ds
open Go.bI
set_option maxRecDepth 100000
set_option maxHeartbeats 4000000
def Z9:b4 99 (cR λ(l:ac Int)=>([.b8 1 Int h9 l],l.length<=17592186044416,.bs 1 Int h9 l)):=by
 refine cJ [] LJ.1 ?_;intro l W H ax;by_cases O:l=[]
 .subst O;refine U 9<|ae7 ?_ λ_=>(U 10<|du .nl)
  .refine U 9<|kb 0 h9 ([]:ac Int) ?_;refine ae9 (ak:=h9) ?_;refine ju 7 ?_;exact U 4<|fc
 refine fI 0 (.bs 1 Int h9 l) o (.iH O)<|U 9<|aeR ?_ λh=>(absurd h O)
 .refine U 9<|kb 0 h9 ([]:ac Int) ?_;have G:=qY.2 O;refine K5 (ak:=h9) l (RL o qj qj) l ?_ (bS:=O);refine ju 7 ?_;exact U 4<|fc
def m3(n:iA):ac Int:=if 1<=n.op/\n.op<=15 then(mf n).take (zG n.op.toNat)else[]
def a':da:=n0 o0 o0.up λ(n:iA)=>([.agg<|og n],True,.bs 1 Int h9<|m3 n)
def b':b4 124 a':=by
 refine mM [Hd,Z9] Vg.1 ?_;intro n _ H ax ⟨ab,el,D,aW,F,S⟩;have b:∀{l},m3 n=l->bX (.bs 1 Int h9 l) (a'.res n):=λh=>.of apD;refine U 11<|bn Hd n.op aP ?_;by_cases h:1<=n.op/\n.op<=15
 .refine c3 6 (cj<|c9 h) ?_;obtain⟨Y,G⟩:=h;obtain⟨R,ay⟩:∃R:Nat,n.op=(R:Int):=⟨n.op.toNat,J⟩;have E:n.op.toNat=R:=by omega
  have aT:R<16:=J
  obtain⟨c,_⟩:=Xn R aT;have aN:=Xm R aT;have O:m3 n=(mf n).take (zG R):=by unfold m3;rw[E];exact aA ⟨Y,G⟩
  generalize zG R=u at *;refine U 25<|a9 18 (.ae R) o (by rw[<-ay])<|Se F S ?_;refine a9 19 (.ip<|.ae u:: .ae (zH R:Int)::CN.drop (R*2+2)) o (by rw[aN])<|U 2<|kb 1 h9 (mf n) ?_;refine e6 (zd o o o dq (dg _) J qo) ?_;exact RU 22 ((mf n).take u) (bn Z9 ((mf n).take u) (by show(List.take _ _).length<=_;rw[kD];omega) (U 4<|du (b O)) (he:=by exact⟨.b8,aP⟩)) (aj:=by rw[kD];show min u 4=u-0;omega)
 .exact c3 6 (cj<|dk h)<|U 11<|du (bX.trans .nl<|b<|au h)
def oi(n:Int)(m:Nat):Prop:=0<=n/\n<(m:Int)
instance(n:Int)(m:Nat):Decidable (oi n m):=by unfold oi;infer_instance
def Dk(p:hx)(i:Nat)(n:iA):Int:=
 if¬(1<=n.op/\n.op<=15)\/zI n=false then 2
 else if¬oi n.f p.b6.length then 7
 else if n.op=1/\¬oi n.a p.ins.length then 7
 else if n.op=1/\(p.ins[n.a.toNat]?).map nv.f≠some n.f then 143
 else if n.op=2/\((i:Int)<p.head\/¬oi n.a p.nw.length)then 7
 else if n.op=3 then zF n.v
 else if(m3 n).all (λk=>CM p i k)then 0 else 7
def c':da:=n0 o0 o0.up λ((p,i,n):hx×Nat×iA)=>([ll p,.ae (i:Int)],p.dH[i]? =some n/\n.v.length<=2000,.ae<|Dk p i n)
def am7(n:iA):(m3 n).length<=4:=by
 rw[m3];split
 .rw[kD];exact Nat.min_le_right _ 4
 .exact dg _
def d':b4 83 c':=by
 refine mM [Hd,Xo,(85,CL),Xk,b',(125,Hf)] Vb.1 ?_;intro⟨p,i,n⟩ ⟨A,Z⟩ H ax F;have Q:∀{c:Int},Dk p i n=c->bX (.ae c) (c'.res (p,i,n)):=λh=>.of apD;refine U 12<|iW n A o ?_
 iterate 7 refine gF o ?_
 refine qD (L:=Unit) (λ_=>Dk p i n=if(m3 n).all (λk=>CM p i k)then 0 else 7) (λ_=>⟨[.c 154<|oZ p,.c 42<|og n],2,[(1,.ae (i:Int)),(2,.p 0 0),(4,.ae 0),(5,.p 1 0)]⟩) ?_ ?_
 .refine U 4<|bn Hd n.op aP ?_;by_cases Y:1<=n.op/\n.op<=15
  case neg=>
   exact c3 17 (cj<|dk Y)<|U 18<|du (Q<|aA<|.inl Y)
  refine c3 17 (cj<|c9 Y)<|U 5<|bn Xo n Y ?_ (cl:=F);cases G:zI n with
  |false=>
   exact c3 21 (cj G)<|U 15<|du (Q<|aA<|.inr G)
  |true=>
  refine c3 21 (cj G) ?_;have V:¬(¬(1<=n.op/\n.op<=15)\/zI n=false):=λh=>h.elim (λh=>h Y) λh=>Bool.noConfusion<|G.symm.trans h;refine U 15<|bn xM (n.f,(p.b6.length:Int)) aP ?_;by_cases C:oi n.f p.b6.length
  case neg=>
   exact c3 31 (cj<|dk C)<|U 13<|du (Q<|(au V).trans<|aA C)
  refine c3 31 (cj<|c9 C) ?_;have B:¬¬oi n.f p.b6.length:=λh=>h C;have T:=λ{c} h=> @Q c<|(au V).trans<|(au B).trans h;have O:=λ{c} h=>((au V).trans ((au B).trans h):Dk p i n=c);clear Q;refine U 10 ?_;by_cases af:n.op=1
  .refine c3 36 (cj<|c9 af)<|U 14<|bn xM (n.a,(p.ins.length:Int)) aP ?_;by_cases N:oi n.a p.ins.length
   case neg=>
    exact c3 44 (cj<|dk N)<|U 15<|du (T<|aA ⟨af,N⟩)
   refine c3 44 (cj<|c9 N) ?_;have bj:¬(n.op=1/\¬oi n.a p.ins.length):=λh=>h.2 N;refine U 12<|ea 50 (.b true) o o (cj<|c9 af) ?_;obtain⟨a,D⟩:∃a:Nat,n.a=(a:Int):=⟨n.a.toNat,by have:=N.1;omega⟩;have X:n.a.toNat=a:=J
   have P:a<p.ins.length:=by have:=N.2;omega
   refine U 11<|ea 56 (.ae (a:Int)) o o (by rw[D])<|U 1<|tW p.ins[a] (ba P) o<|U 10 ?_;by_cases d:(p.ins[a]).f=n.f
   case neg=>
    exact ea 62 (.b true) o o (cj<|c9 d)<|U 13<|du (T<|(au bj).trans<|aA ⟨af,by rw[X,ba P];simpa using d⟩)
   refine ea 62 (.b false) o o (cj<|dk λh=>h d) ?_;refine U 10<|ee 67<|U 26<|ee 88<|U 6<|bL [0,1] () (O<|(au bj).trans<|(au ?_).trans<|(au J).trans<|au J) cr;rintro⟨_,h⟩;exact h<|by rw[X,ba P];simp[d]
  .refine c3 36 (cj<|dk af) ?_;have R:=λ{c} h=> @O c<|(au λh=>af h.1).trans<|(au λh=>af h.1).trans h;have z:=λ{c} h=> @T c<|(au λh=>af h.1).trans<|(au λh=>af h.1).trans h;refine U 19<|ea 50 (.b false) o o (cj<|dk af)<|U 22 ?_;by_cases M:n.op=2
   .refine c3 67 (cj<|c9 M)<|U 11 ?_;by_cases N:(i:Int)<p.head
    .exact c3 73 (cj<|c9 N)<|U 25<|du (z<|aA ⟨M,.inl N⟩)
    refine c3 73 (cj<|dk N)<|U 15<|bn xM (n.a,(p.nw.length:Int)) aP ?_;by_cases d:oi n.a p.nw.length
    case neg=>
     exact c3 81 (cj<|dk d)<|U 17<|du (z<|aA ⟨M,.inr d⟩)
    exact v1 81 d<|U 14<|ee 88<|U 6<|bL [0,1] () (R<|(au λh=>h.2.elim N λh=>h d).trans<|au J) cr
   .refine c3 67 (cj<|dk M) ?_;have e:=λ{c} h=> @R c<|(au λh=>M h.1).trans h;have q:=λ{c} h=> @z c<|(au λh=>M h.1).trans h;refine U 26 ?_;by_cases ah:n.op=3
    .exact c3 88 (cj<|c9 ah)<|U 8<|bn Xk n.v Z<|U 6<|du (q<|aA ah)
    .exact c3 88 (cj<|dk ah)<|U 6<|fk [0,1] () (e<|au ah)
 intro _ dY;have E:=am7 n;refine U 4<|bn b' n aP (U 5<|jh (L:=Nat) (λk=>k<=(m3 n).length/\((m3 n).take k).all (λk=>CM p i k)=true) (λ(k:Nat)=>⟨[.c 154<|oZ p,.c 42<|og n],2,[(1,.ae (i:Int)),(2,.p 0 0),(4,.ae 0),(93,.bs 1 Int h9<|m3 n),(94,.ae ((m3 n).length:Int)),(95,.ae (k:Int))]⟩) (λk=>(m3 n).length-k) [0,1] 0 apl ?_) (cl:=F);rintro(k:Nat) ⟨r,aH⟩;refine U 3 ?_;by_cases W:k<(m3 n).length
 .refine eD 96<|U 10<|iW (m3 n)[k] (ba W) o<|U 9<|bn aj0 (p,(i:Int),(m3 n)[k]) aP ?_;cases M:CM p i (m3 n)[k]with
  |false=>
   refine c3 102 (cj M)<|U 15<|du (Q<|dY.trans<|au ?_);intro h;rw[ja]at h;have:=h _<|eO W;rw[M]at this;cases this
  |true=>
   exact c3 102 (cj M)<|U 9<|b5 104 ((k+1:Nat):Int)<|U 2<|pJ [0,1] (k+1) ⟨W,by rw[om W,D3,aH];simp[M]⟩
 .exact ee 96<|U 15<|du (Q<|dY.trans (aA<|by rw[pn J]at aH;exact aH))
def Af(e q:Int)(x:nv):Int:=
 match hF x.aQ,hF x.af with
 |some a,some b=>if pQ e q a/\pQ e q b/\¬b<a then 0 else 7
 |_,_=>6
def HX(p:hx)(x:nv):Int:=
 if oi x.f p.b6.length then(match p.b6[x.f.toNat]? with|some f=>Af f.1 f.2 x|none=>7)else 7
def e'{v k:Nat}(h:v<10^k)(aB:k<=2000):dU 250 v:=sZ<|fG h<|cN (k5 av aB) J
def f'{s:ac ci}(M:s.length<=2000){x:Rat}(h:hF s=some x):bg 250 x:=by
 have⟨P,q,Z,_,_,Y,aD,R,hint,D⟩:=Mt M;by_cases b:kt (eR s).1 P q Z
 .have⟨V,B,bj⟩:=b;have E:=e' (s4 V.2.1) J;cases Z with
  |false=>
   have e:=hint ⟨V,B,bj⟩ o;rw[h]at e;cases e;exact n9 (by rwa [xH]) (c1<|iM av) av
  |true=>
   have⟨C,N,c⟩:=bj o;have e:=D ⟨V,B,bj⟩ o;rw[h]at e;split at e
   .cases e;exact n9 (by rw[xH];exact E) (e' (s4 C.2.1) J) λh=>N<|G3 C h
   .cases e
 .rw[R b]at h;cases h
def iC(s:ac ci):Rat:=(hF s).getD 0
def am8(x:nv):Nat->ac ai
 |0=>[.b false,.nl,.nl,.b false,.nl,.nl]
 |1=>cc (iC x.aQ)++[.b false,.nl,.nl]
 |_=>cc (iC x.aQ)++cc (iC x.af)
def HY:da:=cR λ((p,i,x):hx×Nat×nv)=>([ll p,.ae (i:Int)],p.ins[i]? =some x/\x.aQ.length<=2000/\x.af.length<=2000,.ae<|HX p x)
def g':b4 82 HY:=by
 refine cJ [(85,CL),CK,My,lR] T0.1 ?_;intro⟨p,i,x⟩ ⟨B,fA,Z⟩ H ax;have Q:∀{c:Int},HX p x=c->bX (.ae c) (HY.res (p,i,x)):=λh=>.of apD;refine U 12<|iW x B o<|U 14<|bn xM (x.f,(p.b6.length:Int)) aP ?_;by_cases C:oi x.f p.b6.length
 case neg=>
  exact c3 24 (cj<|dk C)<|U 11<|du (Q<|au C)
 refine c3 24 (cj<|c9 C) ?_;obtain⟨f,u⟩:∃f:Nat,x.f=(f:Int):=⟨x.f.toNat,by have:=C.1;omega⟩;have Y:x.f.toNat=f:=J
 have t:f<p.b6.length:=by have:=C.2;omega
 obtain⟨⟨b,e⟩,aD⟩:∃w,p.b6[f]? =some w:=⟨_,ba t⟩;have q:∀{c:Int},Af b e x=c->bX (.ae c) (HY.res (p,i,x)):=λh=>Q (by unfold HX;rw[aA C,Y,aD];exact h);refine U 24<|jh (L:=Nat) (λk=>k<=2/\(1<=k->hF x.aQ=some (iC x.aQ))/\(2<=k->hF x.af=some (iC x.af))) (λ(k:Nat)=>⟨[.c 154<|oZ p,.c 49<|s6 x,.c 207<|am8 x k,.c 40 [.s x.aQ,.s x.af]],4,[(2,.p 0 0),(4,.ae 0),(5,.p 1 0),(6,.p 2 0),(30,.aL 3 1 0 2 2),(31,.ae 2),(32,.ae (k:Int))]⟩) (λk=>2-k) [0,1,2,3] 0 ⟨J,λh=>absurd h av,λh=>absurd h av⟩ ?_;rintro(k:Nat) ⟨E,P,R⟩;rcases(show k=0\/k=1\/k=2 by omega)with rfl|rfl|rfl
 .refine U 14<|n7 (j:=0) o o<|U 8<|bn CK x.aQ fA ?_;cases h:hF x.aQ with
  |none=>
   exact a9 39 (.br [bQ 0,.ae 6]) o (by show oe x.aQ=_;unfold oe;rw[h])<|U 29<|du (q<|by unfold Af;rw[h])
  |some X=>
  have D:hF x.aQ=some (iC x.aQ):=by unfold iC;rw[h];rfl
  refine a9 39 (.br [bQ<|iC x.aQ,.ae 0]) o (by show oe x.aQ=_;unfold oe;rw[D])<|U 21<|e6 (tR (j:=0) o o av) ?_;exact U 8<|fk [0,1,2,3] 1 ⟨av,av,λ_=>h.symm.trans D,λh=>absurd h av⟩
 .have z:=P av;refine U 14<|n7 (j:=1) o o<|U 8<|bn CK x.af Z ?_;cases h:hF x.af with
  |none=>
   exact a9 39 (.br [bQ 0,.ae 6]) o (by show oe x.af=_;unfold oe;rw[h])<|U 29<|du (q<|by unfold Af;rw[h,z])
  |some X=>
  have D:hF x.af=some (iC x.af):=by unfold iC;rw[h];rfl
  refine a9 39 (.br [bQ<|iC x.af,.ae 0]) o (by show oe x.af=_;unfold oe;rw[D])<|U 21<|e6 (tR (j:=1) o o av) ?_;exact U 8<|fk [0,1,2,3] 2 ⟨av,av,λ_=>z,λ_=>h.symm.trans D⟩
 .have z:=P av;have O:=R av;have dW:Af b e x=if pQ b e (iC x.aQ)/\pQ b e (iC x.af)/\¬iC x.af<iC x.aQ then 0 else 7:=by unfold Af;rw[z,O]
  refine U 19<|a9 53 (.ae (f:Int)) o (by rw[u])<|iW (b,e) aD o<|U 9 ?_;have d:=f' fA z;have r:=f' Z O;have no:¬(pQ b e (iC x.aQ)/\pQ b e (iC x.af)/\¬iC x.af<iC x.aQ)->bX (.ae 7) (HY.res (p,i,x)):=λh=>q<|dW.trans<|au h;refine e6 (tR (j:=0) o o av) ?_;refine U 1<|bn My (b,e,iC x.aQ) d ?_;by_cases W:pQ b e (iC x.aQ)
  case neg=>
   exact c3 59 (cj<|dk W)<|U 26<|du (no λh=>W h.1)
  refine c3 59 (cj<|c9 W)<|U 5<|e6 (tR (j:=1) o o av) ?_;refine U 3<|bn My (b,e,iC x.af) r ?_;by_cases cW:pQ b e (iC x.af)
  case neg=>
   exact c3 65 (cj<|dk cW)<|U 21<|du (no λh=>cW h.2.1)
  refine c3 65 (cj<|c9 cW)<|U 5<|e6 (tR (j:=0) o o av) ?_;refine U 3<|e6 (tR (j:=1) o o av) ?_;refine U 3<|bn lR (iC x.aQ,iC x.af) ⟨b0 d,b0 r⟩<|U 2 ?_;by_cases A:iC x.af<iC x.aQ
  .have ah:=ue.2 A;exact c3 74 (cj<|c9 ah)<|U 11<|du (no λh=>h.2.2 A)
  .have ah:¬0<jY (iC x.aQ) (iC x.af):=λh=>A<|ue.1 h;exact c3 74 (cj<|dk ah)<|U 12<|du (q<|dW.trans<|aA ⟨W,cW,A⟩)
def oj(i f:Int)(n:iA):Bool:=decide (n.op=2)&&(decide (n.a=i)&&decide (n.f≠f))
def h':b4 126 (cR λ((n,i,f):iA×Int×Int)=>([.agg<|og n,.ip [.ae i],.ip [.ae f]],True,.b<|oj i f n)):=by
 refine cJ [] UL.1 ?_;intro⟨n,i,f⟩ _ H ax;refine U 11 ?_;by_cases Y:n.op=2
 .refine c3 7 (cj<|c9 Y)<|U 9 ?_;by_cases G:n.a=i
  .exact c3 12 (cj<|c9 G)<|U 15<|bh (dc o o<|.of (cj<|by unfold oj;rw[c9 Y,c9 G];rfl))
  .exact c3 12 (cj<|dk G)<|U 11<|bh (dc o o<|.of (cj<|by unfold oj;rw[c9 Y,dk G];rfl))
 .exact c3 7 (cj<|dk Y)<|U 16<|bh (dc o o<|.of (cj<|by unfold oj;rw[dk Y];rfl))
def r7(q:iA->Bool):ac iA->Nat->Int
 |[],_=> -1
 |n::l,k=>if q n=true then k else r7 q l (k+1)
theorem i'(q:iA->Bool):∀(l:ac iA) (k:Nat),decide (0<=r7 q l k)=l.any q
 |[],_=>rfl
 |n::l,k=>by
  rw[r7,List.any_cons];cases h:q n with
  |true=>simp
  |false=>simpa using i' q l (k+1)
def N2(i f:Int):ai:=.fn (.func 126) [] [.ip [.ae i],.ip [.ae f]]
def j':b4 168 (cR λ((l,i,f):ac iA×Int×Int)=>([.bs 7 iA og l,N2 i f],l.length<=1000000,.ae<|r7 (oj i f) l 0)):=by
 refine cJ [h'] UQ.1 ?_;intro⟨l,i,f⟩ (W:l.length<=1000000) H ax;refine U 14<|jh (λk=>k<=l.length/\r7 (oj i f) (l.drop k) k=r7 (oj i f) l 0) (λ(k:Nat)=>⟨[],0,[(0,.bs 7 iA og l),(1,N2 i f),(4,.ae 0),(7,.ae l.length),(8,.ae k)]⟩) (λk=>l.length-k) [] 0 apl ?_;rintro k ⟨E,aH⟩;refine U 3 ?_;by_cases aT:k<l.length
 .refine eD 9<|U 19<|iW l[k] aq6 o<|U 1 ?_;rw[(hL aT)]at aH;refine vw h' (l[k],i,f) aP ?_;cases h:oj i f l[k]with
  |true=>
   exact c3 16 (cj h)<|U 15<|bh (dc o o (.of<|by show ai.i _ _=ai.ae (r7 (oj i f) l 0);rw[<-aH];unfold r7;rw[aA h]))
  |false=>
   refine c3 16 (cj h)<|U 8<|b5 18 ↑(k+1)<|U 2<|pJ [] (k+1) ⟨aT,?_⟩;rw[<-aH];conv=>rhs;unfold r7
   rw[au asn]
 .exact ee 9<|U 15<|bh (dc o o (.of<|by show ai.i _ _=ai.ae (r7 (oj i f) l 0);rw[<-aH,th J];rfl))
def k':b4 127 (cR λ((l,i,f):ac iA×Int×Int)=>([.bs 7 iA og l,N2 i f],l.length<=1000000,.b<|l.any<|oj i f)):=by
 apply cJ [j'] UM.1;intro⟨l,i,f⟩ W H ax;exact U 9<|bn j' (l,i,f) W<|a9 7 (.ae<|r7 (oj i f) l 0) o o<|U 5<|eK (cj<|i' _ l 0)
def HZ(p:hx)(i:Nat)(s:zD):Int:=
 if¬(0<=s.i/\s.i<p.head)\/¬(0<=s.n/\s.n<p.tail)then 7
 else match p.dH[s.i.toNat]?,p.dH[s.n.toNat]? with
  |some a,some b=>if b.f≠a.f\/p.dH.any (oj i a.f)=true then 143 else 0
  |_,_=>0
def H0:da:=cR λ((p,i,s):hx×Nat×zD)=>([ll p,.ae (i:Int)],p.nw[i]? =some s/\p.head<=(p.dH.length:Int)/\p.tail<=(p.dH.length:Int)/\p.dH.length<=1000000,.ae<|HZ p i s)
def am9:b4 84 H0:=by
 refine cJ [(85,CL),k'] Tn.1 ?_;intro⟨p,i,s⟩ ⟨A,V,aN,e⟩ H ax;have Q:∀{c:Int},HZ p i s=c->bX (.ae c) (H0.res (p,i,s)):=λh=>.of apD;refine U 13<|iW s A o<|U 13<|bn xM (s.i,p.head) aP ?_;by_cases Y:0<=s.i/\s.i<p.head
 case neg=>
  exact c3 19 (cj<|dk Y)<|U 20<|du (Q<|aA<|.inl Y)
 refine c3 19 (cj<|c9 Y)<|U 13<|bn xM (s.n,p.tail) aP ?_;by_cases G:0<=s.n/\s.n<p.tail
 case neg=>
  exact c3 27 (cj<|dk G)<|U 13<|du (Q<|aA<|.inr G)
 refine c3 27 (cj<|c9 G) ?_;obtain⟨a,D⟩:∃a:Nat,s.i=(a:Int):=⟨s.i.toNat,J⟩;obtain⟨b,aa⟩:∃b:Nat,s.n=(b:Int):=⟨s.n.toNat,J⟩;have X:s.i.toNat=a:=J
 have W:s.n.toNat=b:=J
 have P:a<p.dH.length:=J
 have L:b<p.dH.length:=J
 have d:∀{c:Int},(if(p.dH[b]).f≠(p.dH[a]).f\/p.dH.any (oj i (p.dH[a]).f)=true then 143 else 0)=c->bX (.ae c) (H0.res (p,i,s)):=λh=>Q (by
  unfold HZ;rw[au λh=>h.elim (λh=>h Y) λh=>h G,X,W,ba P,ba L];exact h)
 refine U 15<|a9 34 (.ae (a:Int)) o (by rw[D])<|iW p.dH[a] (ba P) o ?_;refine bf 37 ?_
 iterate 2 refine gF o ?_
 refine Sg 3 ?_;refine Sg 6 ?_;refine U 16<|ea 43 (.ae (b:Int)) o o (by rw[aa])<|tW p.dH[b] (ba L) o<|U 4 ?_;by_cases C:(p.dH[b]).f≠(p.dH[a]).f
 .exact ea 48 (.b true) o o (cj<|c9 C)<|U 17<|du (d<|aA<|.inl C)
 refine ea 48 (.b false) o o (cj<|dk C)<|U 10<|cS k' (p.dH,(i:Int),(p.dH[a]).f) e ?_;cases N:p.dH.any (oj i (p.dH[a]).f)with
 |true=>
  exact c3 54 (cj N)<|U 11<|du (d<|aA<|.inr N)
 |false=>
  exact c3 54 (cj N)<|U 12<|du (d<|au λh=>h.elim C λh=>Bool.noConfusion<|N.symm.trans h)
def pa{u:Type}(g:Nat->u->Int):ac u->Nat->be (Nat×Int)
 |[],_=>none
 |x::l,k=>if g k x=0 then pa g l (k+1)else some (k,g k x)
def ana{u:Type}{g:Nat->u->Int}{l:ac u}{j:Nat}(a3:j<l.length):pa g (l.drop j) j=if g j l[j]=0 then pa g (l.drop<|j+1) (j+1)else some (j,g j l[j]):=by
 rw[hL a3];rfl
def N3(_:hx)(_:Nat)(x:Int×Int):Int:=if kV x.1 x.2 then 0 else 2
def N4(p:hx)(_:Nat)(x:nv):Int:=HX p x
def N5(p:hx)(i:Nat)(n:iA):Int:=Dk p i n
def N6(p:hx)(i:Nat)(s:zD):Int:=HZ p i s
def Dl(p:hx):Int×Int×Int:=
 match pa (N3 p) p.b6 0 with
 |some x=>(1,x.1,x.2)
 |none=>match pa (N4 p) p.ins 0 with
  |some x=>(2,x.1,x.2)
  |none=>match pa (N5 p) p.dH 0 with
   |some x=>(3,x.1,x.2)
   |none=>match pa (N6 p) p.nw 0 with
    |some x=>(4,x.1,x.2)
    |none=>if¬oi p.out p.dH.length\/ln p p.out=1 then(5,0,7)else(0,0,0)
def fq(p:hx):Int×Int×Int:=if uk p=0 then Dl p else(0,0,uk p)
def N7(x:Int×Int×Int):ai:=.br [.ae x.1,.ae x.2.1,.ae x.2.2]
def N8(p:hx):Prop:=(∀x∈p.ins,x.aQ.length<=2000/\x.af.length<=2000)/\∀n∈p.dH,n.v.length<=2000
variable{n v:Nat}{cM:ac g9}
def H2:da where
 L:=hx
 args:=λp=>[ll p]
 pre:=N8
 res:=λp=>N7 (fq p)
 hp:=o0
 hm:=o0.up
def l'(p:hx):ac ai:=[.ae (p.b6.length:Int),.fn (.func 81) [ll p] [],.ae (p.ins.length:Int),.fn (.func 82) [ll p] [],.ae (p.dH.length:Int),.fn (.func 83) [ll p] [],.ae (p.nw.length:Int),.fn (.func 84) [ll p] []]
theorem m'{p:hx}(h:uk p=0):p.b6.length<=6/\p.ins.length<=6/\p.dH.length<=64/\p.nw.length<=4/\p.tail<=(p.dH.length:Int)/\p.head<=p.tail/\0<=p.head:=by
 grind [uk]
def anb:b4 35 H2:=by
 refine mM [(80,Mz),Xl,g',d',(84,H0),(85,CL),(86,He)] Te.1 ?_;intro(p:hx) ⟨u,dY⟩ H ax C;have Q:∀{c:Int×Int×Int},fq p=c->bX (N7 c) (H2.res p):=λh=>.of apD;refine st ?_;refine bn aj2 p aP ?_;refine a9 15 (.ae<|uk p) o o<|bf 17 ?_;by_cases q:uk p=0
 case neg=>
  refine v1 17 q<|st ?_;exact du<|Q<|au q
 refine a9 17 (.b false) o (cj<|dk λh=>h q) ?_;have U:∀{c:Int×Int×Int},Dl p=c->bX (N7 c) (H2.res p):=λh=>Q<|(aA q).trans h;obtain⟨M,K,z,I,w,r,P⟩:=m' q;refine st ?_;refine dN (L:=Nat) (λk=>k<=4/\(1<=k->pa (N3 p) p.b6 0=none)/\(2<=k->pa (N4 p) p.ins 0=none)/\(3<=k->pa (N5 p) p.dH 0=none)/\(4<=k->pa (N6 p) p.nw 0=none)) (λ(k:Nat)=>⟨[.c 47<|oZ p,.c 154<|oZ p,.c 157<|l' p],3,[(1,.p 0 0),(5,.p 1 0),(44,.aL 2 2 0 4 4),(45,.ae 4),(46,.ae (k:Int))]⟩) (λk=>4-k) [0,1,2] 0 ⟨J,λh=>absurd h av,λh=>absurd h av,λh=>absurd h av,λh=>absurd h av⟩ (by show 4-0<bz+1;unfold bz;omega) cr ?_;rintro(k:Nat) ⟨E,eV,ew,s,e⟩;rcases(show k=0\/k=1\/k=2\/k=3\/k=4 by omega)with rfl|rfl|rfl|rfl|rfl
 rotate_left 4
 .have Z:=eV av;have S:=ew av;have d:=s av;have t:=e av;have D:Dl p=if¬oi p.out p.dH.length\/ln p p.out=1 then(5,0,7)else(0,0,0):=by unfold Dl;simp only[Z,S,d,t]
  refine st ?_;refine bn xM (p.out,(p.dH.length:Int)) aP ?_;by_cases Y:oi p.out p.dH.length
  case neg=>
   refine v0 73 Y<|st ?_;exact du<|U (c:=(5,0,7))<|D.trans<|aA<|.inl Y
  refine v1 73 Y<|st ?_;refine bn Mw (p,p.out) aP ?_;refine a9 79 (.ae<|ln p p.out) o o<|bf 80 ?_;by_cases G:ln p p.out=1
  .refine v1 80 G<|st ?_;exact du<|U (c:=(5,0,7))<|D.trans<|aA<|.inr G
  .refine v0 80 G<|st ?_;exact du<|U (c:=(0,0,0))<|D.trans<|au λh=>h.elim (λh=>h Y) G
 let l:=p.b6;let g:=N3 p;let F:=81;let k:=0;rotate_left
 let l:=p.ins;let g:=N4 p;let F:=82;let k:=1;rotate_left
 let l:=p.dH;let g:=N5 p;let F:=83;let k:=2;rotate_left
 let l:=p.nw;let g:=N6 p;let F:=84;let k:=3;rotate_left
 all_goals
  have W:l.length<=64:=by simp only[l];omega
  refine st ?_;refine pF ?_;refine st ?_;refine dN (L:=Nat) (λj=>j<=l.length/\pa (g) (l.drop j) j=pa (g) l 0) (λ(j:Nat)=>⟨[.c 47<|oZ p,.c 154<|oZ p,.c 157<|l' p,.c 157 [.ae (l.length:Int),.fn (.func F) [ll p] []]],4,[(1,.p 0 0),(5,.p 1 0),(44,.aL 2 2 0 4 4),(45,.ae 4),(46,.ae (k:Nat)),(8,.ae (k:Nat)),(9,.p 3 0),(52,.ae (l.length:Int)),(53,.ae (j:Int))]⟩) (λj=>l.length-j) [0,1,2,3] 0 apl aq9 cr ?_;rintro(j:Nat) ⟨N,aH⟩;refine bf 54 ?_;by_cases A:j<l.length
  .refine eD 54<|st ?_;rw[ana A]at aH
   first
   |(have:F=81:=rfl;refine vw Xl (p,j,(p.b6[j]).1,(p.b6[j]).2) (ba A) ?_)
   |(have:F=82:=rfl;refine vw g' (p,j,p.ins[j]) ⟨ba A,u _<|eO A⟩ ?_)
   |(have:F=83:=rfl;refine vw d' (p,j,p.dH[j]) ⟨ba A,dY _<|eO A⟩ ?_ (cl:=C))
   |refine vw am9 (p,j,p.nw[j]) ⟨ba A,J,w,J⟩ ?_
   refine a9 59 (.ae<|g j l[j]) o o<|bf 61 ?_;by_cases B:g j l[j]=0
   .rw[aA B]at aH;refine a9 61 (.b false) o (cj<|dk λh=>h B)<|bf 66 ?_;refine b5 66 ((j+1:Nat):Int)<|st ?_;exact bL [0,1,2,3] (j+1) ⟨J,A,aH⟩ cr
   .rw[au B]at aH;refine v1 61 B<|st ?_;refine du<|U (c:=(_,(j:Int),g j l[j])) ?_;simp only[g,l]at aH;simp[Dl,<-aH,eV,ew,s,k,g,l];rfl
  .refine ee 54<|st ?_;have aH:pa g l 0=none:=by rw[<-aH,th J];rfl
   refine bL [0,1,2] (k+1) ⟨av,av,?_,?_,?_,?_⟩ cr<;>intro h<;>first|exact aH|exact absurd h av|exact eV av|exact ew av|exact s av
def x0{F m O a e:Nat}{f:Poly}(h:ff n m a f)(aE:n<=F)(aK:m<=O)(o:a<=e):ff F O e f:=apN
def n':bg 2 (-1:Rat):=asN
theorem anc{x:hz}{g:Poly}(O:rz n x)(aI:cM.length=n)(u:∀v∈cM,bg 250 v.1/\bg 250 v.2)(h:nB cM x=some g):ff 200 16 1608158 g:=by
 unfold nB at h;dsimp only at h;split at h
 case isFalse=>cases h
 rename_i Y;have D:=O.f.Zh Y;have F:=D.eS D;split at h
 case isFalse=>cases h
 rename_i G;have F:=F.fit G;split at h
 .rename_i C;have hm:x.k.toNat<cM.length:=by have:=O.bU;omega
  have aa:=u _<|ha hm;have e:cM.getD x.k.toNat (0,0)=cM[x.k.toNat]:=by grind
  rw[e]at h;have U:=ff.var x.k.toNat;have z:=ff.nil.put av HK aa.1;have b:=ff.nil.put av HK aa.2;have Z:=b.r5 U av av n';have p:=(U.r5 z av av n').eS Z;split at h
  .rename_i N;cases h;exact x0 ((F.eS p).fit N) (ct _) (ct _) av
  .cases h
 .cases h;exact x0 F (ct _) (ct _) av
theorem o'{n:Nat}{cM:ac g9}(aI:cM.length=n)(u:∀v∈cM,bg 250 v.1/\bg 250 v.2):∀{xs:ac hz} {S U:Poly} {a:Nat},(∀x∈xs,rz n x)->ff 200 16 a S->2<=a->lx cM S xs=some U->ff 200 16 (a+xs.length*1700000) U
 |[],S,U,a,_,T,_,h=>by cases h;exact x0 T (ct _) (ct _) J
 |x::xs,S,U,a,O,T,bK,h=>by
  rw[Db]at h;cases F:nB cM x with
  |none=>rw[F]at h;cases h
  |some g=>
   rw[F]at h;dsimp only at h;split at h
   .rename_i D;have bS:=O x gT;have G:=x0 ((T.r5 (anc bS aI u F) bK av bS.c).fit D) (ct _) (ct _) (show 1608158+250+a+1<=a+1700000 by omega);exact x0 (o' aI u (λy N=>O y<|e3 _ N) G J h) (ct _) (ct _) aoM
   .cases h
def uG(n:Nat)(l:ac c8):Except Int (ac g9):=if l.length=n then(match ia l with
 |some ab=>if uC ab=true then .ok ab else .error 7
 |none=>.error 6)else .error 2
def ane(n:Nat)(l:ac c8):xX n l=match uG n l with
 |.ok ab=>.ret (.bs 6 g9 mm ab)
 |.error e=>.aY (eT e):=by
 unfold xX uG;split
 .cases ia l with
  |none=>rfl
  |some ab=>dsimp only;split<;>rfl
 .rfl
def pY(n:Nat)(cM:ac g9)(l:ac dV):Except Int Poly:=
 if l.length<=20/\(∀s∈l,s.ej.length<=200)then(match ib n l with
  |.ok xs=>(match lx cM [] xs with
   |some S=>.ok S
   |none=>.error 3)
  |.error e=>.error e)else .error 3
def anf(n:Nat)(cM:ac g9)(l:ac dV):v5 n cM l=match pY n cM l with
 |.ok S=>.ret (.g<|fU<|fe S)
 |.error e=>.aY (eT e):=by
 unfold v5 pY;split
 .cases ib n l with
  |error e=>rfl
  |ok xs=>dsimp only;cases lx cM [] xs<;>rfl
 .rfl
def pb(p:hx)(box:ac c8)(l:ac dV):ac bT×Int:=
 if(fq p).2.2=0 then(match uG p.ins.length box with
  |.ok ab=>(match pY p.ins.length ab l with
   |.ok S=>(fV p.ins.length S,0)
   |.error e=>([],e))
  |.error e=>([],e))else([],(fq p).2.2)
def ang{l:ac c8}{ab:ac g9}(h:uG n l= .ok ab):ab.length=n/\∀v∈ab,bg 250 v.1/\bg 250 v.2:=by
 rw[uG]at h;split at h
 case isFalse=>cases h
 rename_i W;cases aj:ia l with
 |none=>rw[aj]at h;cases h
 |some G=>
  rw[aj]at h;dsimp only at h;split at h
  .cases h;refine⟨?_,ND aj⟩;rw[<-W];clear W
   induction l generalizing ab with
   |nil=>cases aj;rfl
   |cons s l U=>
    cases D:eh s.1 with
    |none=>rw[Y7 D]at aj;cases aj
    |some a=>
     cases aa:eh s.2 with
     |none=>rw[Y8 D aa]at aj;cases aj
     |some b=>
      have e:ia (s::l)=(ia l).map ((a,b)::·):=by
       show(match eh s.1 with|some a=>(match eh s.2 with|some b=>(ia l).map ((a,b)::·)|none=>none)|none=>none)=_;rw[D,aa]
      rw[e]at aj;cases hw:ia l with
      |none=>rw[hw]at aj;cases aj
      |some w=>
       rw[hw]at aj;cases aj;have:=U hw (by rename_i V;unfold uC at V ⊢;rw[x7,cQ]at V;exact V.2);rw[iQ,iQ,this]
  .cases h
def p'{l:ac dV}{S:Poly}(aI:cM.length=n)(u:∀v∈cM,bg 250 v.1/\bg 250 v.2)(M:∀s∈l,s.bY.length<=5100/\(ky s.ej<=5200/\s.ej.length<=20))(h:pY n cM l= .ok S):ff 200 16 40000000 S:=by
 rw[pY]at h;split at h
 case isFalse=>cases h
 rename_i ah;cases aw:ib n l with
 |error e=>rw[aw]at h;cases h
 |ok xs=>
  rw[aw]at h;dsimp only at h;cases aD:lx cM [] xs with
  |none=>rw[aD]at h;cases h
  |some T=>
   rw[aD]at h;cases h;have Y:=NH (λs hm=>⟨(M s hm).1,(M s hm).2,ah.2 s hm⟩) aw;have G:xs.length=l.length:=by
    clear aD Y ah M
    induction l generalizing xs with
    |nil=>cases aw;rfl
    |cons s l c=>
     rw[ib]at aw;cases U:lV n s with
     |error e=>rw[U]at aw;cases aw
     |ok x=>
      rw[U]at aw;cases b:ib n l with
      |error e=>rw[b]at aw;cases aw
      |ok Q=>
       rw[b]at aw;cases aw;rw[iQ,iQ,c _ b]
   exact x0 (o' aI u Y (x0 ff.nil av av<|ct _) (ct _) aD) (ct _) (ct _) J
def e0(x:ac Rat)(i:Nat):Rat:=x.getD i 1
def mono(x:ac Rat)(k:aM):Rat:=e0 x 0^k.a*e0 x 1^k.b*e0 x 2^k.c*e0 x 3^k.d*e0 x 4^k.e*e0 x 5^k.f
def fF(x:ac Rat):Poly->Rat
 |[]=>0
 |p::P=>p.2*mono x p.1+fF x P
theorem N9(a:Rat)(m:Nat):∀n,a^(m+n)=a^m*a^n
 |0=>by rw[sa,ov,D9]
 |n+1=>by rw[<-Nat.add_assoc,m8,m8,N9 a m n,Rat.mul_assoc]
theorem anh(x:ac Rat)(k j:aM):mono x (k.add j)=mono x k*mono x j:=by
 unfold mono aM.add
 grind
def ani(x:ac Rat):mono x aM.zero=1:=by
 unfold mono aM.zero;simp
def anj(x:ac Rat):∀i,i<6->mono x (aM.var i)=e0 x i:=λi af=>by
 have h:i=0\/i=1\/i=2\/i=3\/i=4\/i=5:=J
 have O:∀a:Rat,a^1=a:=λa=>by rw[m8,ov,Rat.one_mul]
 unfold mono aM.var;rcases h with rfl|rfl|rfl|rfl|rfl|rfl<;>simp[O]
theorem Ag(x:ac Rat)(k:aM)(y:Rat):∀P:Poly,fF x (eA P k y)=fF x P+y*mono x k
 |[]=>by
  unfold eA;split
  .rename_i h;have h:y=0:=by grind
   grind
  .show(y+0)*mono x k+0=0+y*mono x k
   grind
 |p::P=>by
  unfold eA;split
  .rename_i h;split
   .rename_i T;show fF x P=p.2*mono x p.1+fF x P+y*mono x k;have Y:y= -p.2:=by grind
    grind
   .show(y+p.2)*mono x k+fF x P=p.2*mono x p.1+fF x P+y*mono x k
    grind
  .split
   .split
    .rename_i T;have Y:y=0:=by grind
     grind
    .show(y+0)*mono x k+(p.2*mono x p.1+fF x P)=p.2*mono x p.1+fF x P+y*mono x k
     grind
   .show p.2*mono x p.1+fF x (eA P k y)=p.2*mono x p.1+fF x P+y*mono x k;rw[Ag x k y P];grind
theorem H3(x:ac Rat)(c:Rat):∀(W P:Poly),fF x (fM P c W)=fF x P+fF x W*c
 |[],P=>by show fF x P=fF x P+0*c;grind
 |p::W,P=>by
  show fF x (fM (eA P p.1<|p.2*c) c W)=fF x P+(p.2*mono x p.1+fF x W)*c;rw[H3 x c W,Ag];grind
def ank(x:ac Rat)(W:nA):fF x (eS W)=j1 (W.map λw=>w.1.2*w.2.2*mono x (w.1.1.add w.2.1)):=vX (p:=λW=>fF x (eS W)=j1 (W.map λw=>w.1.2*w.2.2*mono x (w.1.1.add w.2.1))) o (λW w U=>by
 rw[uy,Ag,U,oq,C3];show _=_+(_+0);rw[pr]) W
theorem H4(x:ac Rat)(g:Poly):∀f:Poly,fF x (eS<|k0 f g)=fF x f*fF x g:=λf=>by
 rw[ank]
 induction f with
 |nil=>show 0=0*_;grind
 |cons p f U=>
  show j1 ((g.map (λq=>(p,q))++k0 f g).map _)=(p.2*mono x p.1+fF x f)*fF x g;rw[oq,C3,U];have key:∀g:Poly,j1 ((g.map λq=>(p,q)).map λw=>w.1.2*w.2.2*mono x (w.1.1.add w.2.1))=p.2*mono x p.1*fF x g:=λg=>by
   induction g with
   |nil=>show(0:Rat)=_*0;grind
   |cons q g U=>
    show p.2*q.2*mono x (p.1.add q.1)+j1 _=p.2*mono x p.1*(q.2*mono x q.1+fF x g);rw[U,anh];grind
  grind
def anl{x:Rat}(h:dO (gu x)≠3):eh (gu x)=some x:=by
 have hp:=XC x;have ay:=Xh hp;have W:¬ui (gu x):=λW=>h<|Xf ay W;obtain⟨Y,G⟩:=Mu ay W hp;unfold eh;rw[aA Y,G]
theorem x1(f g:Nat->Rat):∀n,cK (λi=>f i+g i) n=cK f n+cK g n
 |0=>by show(0:Rat)=0+0;rw[pr]
 |n+1=>by
  show cK (λi=>f i+g i) n+(f n+g n)=cK f n+f n+(cK g n+g n);rw[x1 f g n];grind
theorem q':∀n,cK (λ_=>0) n=0
 |0=>rfl
 |n+1=>by show cK (λ_=>0) n+0=0;rw[q' n,pr]
theorem Oa(F:Nat->Nat->Rat)(m:Nat):∀n,cK (λi=>cK (F i) m) n=cK (λj=>cK (λi=>F i j) n) m
 |0=>(q' m).symm
 |n+1=>by
  show cK (λi=>cK (F i) m) n+cK (F n) m=cK (λj=>cK (λi=>F i j) n+F n j) m;rw[x1,Oa F m n]
theorem qS(a:Rat)(f:Nat->Rat):∀n,a*cK f n=cK (λi=>a*f i) n
 |0=>Rat.mul_zero _
 |n+1=>by
  show a*(cK f n+f n)=cK (λi=>a*f i) n+a*f n;rw[Rat.mul_add,qS a f n]
theorem Ah(f:Nat->Rat):∀n,cK f (n+1)=f 0+cK (λi=>f<|i+1) n
 |0=>by show 0+f 0=f 0+0;rw[pr,uU]
 |n+1=>by
  show cK f (n+1)+f (n+1)=f 0+(cK (λi=>f<|i+1) n+f (n+1));rw[Ah f n,D8]
theorem r'{f:Nat->Rat}{k:Nat}(h:∀i,k<=i->f i=0):∀d,cK f (k+d)=cK f k
 |0=>rfl
 |d+1=>by
  show cK f (k+d)+f (k+d)=_;rw[h (k+d) J,r' h d,pr]
theorem s'(s u:Rat)(m:Nat)(F:Nat->Rat)(U:F (m+1)=0):F 0*u^(m+1)+cK (λi=>F (i+1)*(s^(i+1)*u^(m-i))) (m+1)=u*cK (λi=>F i*(s^i*u^(m-i))) (m+1):=by
 rw[qS,Ah (λi=>u*(F i*(s^i*u^(m-i)))) m];show _+(cK (λi=>F (i+1)*(s^(i+1)*u^(m-i))) m+F (m+1)*_)=_;rw[U,sf,pr];have e:cK (λi=>F (i+1)*(s^(i+1)*u^(m-i))) m=cK (λi=>u*(F (i+1)*(s^(i+1)*u^(m-(i+1))))) m:=kf m λi af=>by
  rw[show m-i=m-(i+1)+1 by omega,m8 u];generalize s^(i+1)=a;generalize u^(m-(i+1))=b
  grind
 rw[e];congr 1;show F 0*u^(m+1)=u*(F 0*(s^0*u^(m-0)));rw[m8,ov,uM];generalize u^m=b
 grind
theorem t'(s u:Rat)(m:Nat)(G:Nat->Rat):cK (λi=>G i*(s^(i+1)*u^(m-i))) (m+1)=s*cK (λi=>G i*(s^i*u^(m-i))) (m+1):=by
 rw[qS];exact kf _ λi af=>by
  rw[m8];generalize s^i=a;generalize u^(m-i)=b
  grind
def pc(s u:Rat)(n j:Nat):Rat:=cK (λi=>((bF n i:Rat)*(bF i j:Rat))*(s^i*u^(n-i)))<|n+1
def qT(n:Nat):bF n 0=1:=by cases n<;>rfl
theorem u'(s u:Rat)(n j:Nat):pc s u (n+1) j=u*pc s u n j+s*cK (λi=>((bF n i:Rat)*(bF (i+1) j:Rat))*(s^i*u^(n-i))) (n+1):=by
 unfold pc;rw[Ah];have e:cK (λi=>((bF (n+1) (i+1):Rat)*(bF (i+1) j:Rat))*(s^(i+1)*u^(n+1-(i+1)))) (n+1)=cK (λi=>((bF n (i+1):Rat)*(bF (i+1) j:Rat))*(s^(i+1)*u^(n-i))) (n+1)+cK (λi=>((bF n i:Rat)*(bF (i+1) j:Rat))*(s^(i+1)*u^(n-i))) (n+1):=by
  rw[<-x1];exact kf _ λi af=>by
   rw[show n+1-(i+1)=n-i by omega,show bF (n+1) (i+1)=bF n i+bF n (i+1)from rfl];generalize s^(i+1)*u^(n-i)=b
   push_cast
   grind
 rw[e,t' s u n λi=>(bF n i:Rat)*(bF (i+1) j:Rat),<-Rat.add_assoc];congr 1;have h:=s' s u n (λi=>(bF n i:Rat)*(bF i j:Rat)) (by show(bF n (n+1):Rat)*_=0;rw[um n (n+1) J];exact sf _);rw[<-h];congr 1;show((bF (n+1) 0:Rat)*(bF 0 j:Rat))*(s^0*u^(n+1-0))=((bF n 0:Rat)*(bF 0 j:Rat))*u^(n+1);rw[qT,qT,ov,uM,Rat.one_mul]
theorem Ai(s u:Rat):∀n j,pc s u n j=(bF n j:Rat)*(s^j*(s+u)^(n-j))
 |0,0=>by simp[pc,cK,bF,uU]
 |0,j+1=>by simp[pc,cK,bF,uU]
 |n+1,0=>by
  rw[u'];have e:cK (λi=>((bF n i:Rat)*(bF (i+1) 0:Rat))*(s^i*u^(n-i))) (n+1)=pc s u n 0:=kf _ λi af=>by rw[qT,qT]
  rw[e,Ai s u n 0,qT,qT,ov,uM,uM,m8];generalize(s+u)^n=b
  grind
 |n+1,j+1=>by
  rw[u'];have e:cK (λi=>((bF n i:Rat)*(bF (i+1) (j+1):Rat))*(s^i*u^(n-i))) (n+1)=pc s u n j+pc s u n (j+1):=by
   unfold pc;rw[<-x1];exact kf _ λi af=>by
    rw[show bF (i+1) (j+1)=bF i j+bF i (j+1)from rfl];generalize s^i*u^(n-i)=b
    push_cast
    grind
  rw[e,Ai s u n j,Ai s u n<|j+1,show bF (n+1) (j+1)=bF n j+bF n (j+1)from rfl,show n+1-(j+1)=n-j by omega,m8 s]
  push_cast
  by_cases h:j+1<=n
  .rw[show n-j=n-(j+1)+1 by omega,m8<|s+u];generalize(s+u)^(n-(j+1))=b;generalize s^j=a
   grind
  .rw[um n (j+1) J];generalize(s+u)^(n-(j+1))=b;generalize(s+u)^(n-j)=c;generalize s^j=a
   grind
def jB(c:Nat->Rat)(s u:Rat)(n:Nat):Rat:=cK (λp=>c p*((bF n p:Rat)*(s^p*u^(n-p))))<|n+1
theorem anm(g:Nat->Rat)(s u:Rat)(n:Nat):jB (λp=>bH g p p) s u n=cK (λi=>g i*((bF n i:Rat)*(s^i*(s+u)^(n-i)))) (n+1):=by
 have e:jB (λp=>bH g p p) s u n=cK (λp=>cK (λi=>g i*(((bF n p:Rat)*(bF p i:Rat))*(s^p*u^(n-p))))<|n+1) (n+1):=kf _ λp hp=>by
  show bH g p p*_=_;rw[akj g n p J,YM];exact kf _ λi af=>by
   generalize s^p*u^(n-p)=b;split
   .grind
   .rw[um p i J];grind
 rw[e,Oa];exact kf _ λi af=>by
  rw[<-qS,<-Ai s u n i];rfl
theorem ann(aQ s a:Rat){e:Nat}(h:e<=n):cK (λi=>(if i<=e then a*((bF e i:Rat)*aQ^(e-i))else 0)*s^i) (n+1)=a*(aQ+s)^e:=by
 have Y:=r' (f:=λi=>(if i<=e then a*((bF e i:Rat)*aQ^(e-i))else 0)*s^i) (k:=e+1) (λi af=>by
  show(if i<=e then _ else(0:Rat))*_=0;rw[au J,sf])<|n-e
 rw[show e+1+(n-e)=n+1 by omega]at Y;rw[Y];have G:=Ai s aQ e 0;rw[qT,ov,uM]at G;have z:cK (λi=>(if i<=e then a*((bF e i:Rat)*aQ^(e-i))else 0)*s^i) (e+1)=a*pc s aQ e 0:=by
  unfold pc;rw[qS];exact kf _ λi af=>by
   rw[aA J,qT];generalize aQ^(e-i)=b;generalize s^i=c
   grind
 rw[z,G,DZ aQ s];generalize(s+aQ)^e=b
 grind
theorem ano{aQ w s u:Rat}{L:Nat}{e:Nat->Nat}{a:Nat->Rat}(hw:s+u=w)(he:∀i,i<L->e i<=n):jB (qM aQ w n λq=>cK (λk=>j0 (e k) (a k) q) L) s u n=w^n*cK (λk=>a k*(aQ+s)^e k) L:=by
 show jB (λp=>bH (kJ aQ w n _) p p) s u n=_;rw[anm,hw];have U:∀i,i<n+1->kJ aQ w n (λq=>cK (λk=>j0 (e k) (a k) q) L) i*((bF n i:Rat)*(s^i*w^(n-i)))=cK (λk=>w^n*((if i<=e k then a k*((bF (e k) i:Rat)*aQ^(e k-i))else 0)*s^i)) L:=λi af=>by
  unfold kJ jy;rw[YL aQ n i (i+1) J (λk=>j0 (e k)<|a k) L];have ah:=qL<|zN n i J;have hp:w^n=w^i*w^(n-i):=by rw[<-N9,show i+(n-i)=n by omega]
  rw[show cK (λk=>hy aQ n (j0 (e k)<|a k) i<|i+1) L*(w^i/(bF n i:Rat))*((bF n i:Rat)*(s^i*w^(n-i)))=(w^n*s^i)*cK (λk=>hy aQ n (j0 (e k)<|a k) i<|i+1) L by
   rw[hp];generalize cK _ L=S;generalize w^i=x;generalize w^(n-i)=y;generalize s^i=z;generalize(bF n i:Rat)=c at *
   grind,qS]
  exact kf _ λk E=>by
   rw[aki aQ (a k) n (e k) (he k E) i J];generalize(if i<=e k then a k*((bF (e k) i:Rat)*aQ^(e k-i))else 0)=S
   grind
 rw[kf _ U,Oa,qS];exact kf _ λk E=>by rw[<-qS,ann aQ s (a k)<|he k E]
theorem anp(c:Nat->Rat)(s u:Rat)(m:Nat):jB (gH c<|m+1) s u (m+1)=(s+u)*jB c s u m:=by
 unfold jB;rw[Ah];have U:(λp=>c p*(bF m p:Rat)) (m+1)=0:=by show c (m+1)*(bF m (m+1):Rat)=0;rw[um m (m+1) J];exact Rat.mul_zero _
 have Y:=s' s u m (λp=>c p*(bF m p:Rat)) U;have G:=t' s u m λp=>c p*(bF m p:Rat);have e:cK (λi=>gH c (m+1) (i+1)*((bF (m+1) (i+1):Rat)*(s^(i+1)*u^(m+1-(i+1))))) (m+1)=cK (λi=>(c (i+1)*(bF m (i+1):Rat))*(s^(i+1)*u^(m-i))) (m+1)+cK (λi=>(c i*(bF m i:Rat))*(s^(i+1)*u^(m-i))) (m+1):=by
  rw[<-x1];exact kf _ λi af=>by
   rw[show m+1-(i+1)=m-i by omega];have key:gH c (m+1) (i+1)*(bF (m+1) (i+1):Rat)=c (i+1)*(bF m (i+1):Rat)+c i*(bF m i:Rat):=by
    unfold gH;rw[au<|Nat.succ_ne_zero i];by_cases k:i=m
    .subst k;rw[aA o,zM,zM,um i (i+1) J];show c i*((1:Nat):Rat)=c (i+1)*((0:Nat):Rat)+c i*((1:Nat):Rat)
     push_cast
     grind
    .rw[au J];have C:((i+1:Nat):Rat)*(bF (m+1) (i+1):Rat)=((m+1:Nat):Rat)*(bF m i:Rat):=by exact_mod_cast zL m i
     have N:(bF (m+1) (i+1):Rat)=(bF m i:Rat)+(bF m (i+1):Rat):=by exact_mod_cast (show bF (m+1) (i+1)=bF m i+bF m (i+1)from rfl)
     have d:=qL<|x8 m;show(c (i+1)+((i+1:Nat):Rat)/((m+1:Nat):Rat)*(c i-c (i+1)))*_=_;generalize(bF (m+1) (i+1):Rat)=x at *;generalize(bF m i:Rat)=y at *;generalize(bF m (i+1):Rat)=z at *;generalize((i+1:Nat):Rat)=p at *;have d:((m+1:Nat):Rat)≠0:=d;generalize((m+1:Nat):Rat)=q at *
     grind
   generalize s^(i+1)*u^(m-i)=b;generalize gH c (m+1) (i+1)=x at *;generalize(bF (m+1) (i+1):Rat)=y at *
   grind
 rw[e];have Q:gH c (m+1) 0*((bF (m+1) 0:Rat)*(s^0*u^(m+1-0)))=(λp=>c p*(bF m p:Rat)) 0*u^(m+1):=by
  show c 0*_=c 0*(bF m 0:Rat)*u^(m+1);rw[qT,qT,ov,uM,Rat.one_mul]
  grind
 have t:cK (λp=>c p*((bF m p:Rat)*(s^p*u^(m-p)))) (m+1)=cK (λi=>c i*(bF m i:Rat)*(s^i*u^(m-i))) (m+1):=kf _ λi af=>by rw[Rat.mul_assoc]
 rw[Q,<-Rat.add_assoc,Y,G,t]
 grind
theorem v'(x s u:Rat)(n:Nat):jB (λ_=>x) s u n=x*(s+u)^n:=by
 have h:=Ai s u n 0;rw[qT,ov,uM]at h;have e:jB (λ_=>x) s u n=x*pc s u n 0:=by
  unfold jB pc;rw[qS];exact kf _ λi af=>by
   rw[qT];generalize s^i*u^(n-i)=b
   grind
 rw[e,h];generalize(s+u)^n=b
 grind
theorem w'(f g:Nat->Rat)(s u:Rat)(n:Nat):jB (λp=>f p-g p) s u n=jB f s u n-jB g s u n:=by
 have h:jB f s u n=jB (λp=>f p-g p) s u n+jB g s u n:=by
  unfold jB;rw[<-x1];exact kf _ λi af=>by
   generalize(bF n i:Rat)*(s^i*u^(n-i))=b
   grind
 rw[h];grind
def aM.ic(v i:Nat):aM:=⟨if v=0 then i else 0,if v=1 then i else 0,if v=2 then i else 0,if v=3 then i else 0,if v=4 then i else 0,if v=5 then i else 0⟩
def v6(h:v<6):v=0\/v=1\/v=2\/v=3\/v=4\/v=5:=J
def anq(v i j:Nat):(aM.ic v i).add (aM.ic v j)=aM.ic v (i+j):=by
 have key:∀c:Prop,[Decidable c]->(if c then i else 0)+(if c then j else 0)=if c then i+j else 0:=λc _=>by
  by_cases h:c
  .rw[aA h,aA h,aA h]
  .rw[au h,au h,au h]
 unfold aM.ic aM.add;simp only[key]
def anr(v:Nat):aM.zero=aM.ic v 0:=by unfold aM.zero aM.ic;simp only[ite_self]
def x'(h:v<6)(i:Nat):(aM.ic v i).o7=i:=by
 rcases v6 h with rfl|rfl|rfl|rfl|rfl|rfl<;>simp[aM.o7,aM.n,g8,aM.ic]
def ans(h:v<6){i j:Nat}(aI:aM.lt (aM.ic v i) (aM.ic v j)):i<j:=by
 rcases v6 h with rfl|rfl|rfl|rfl|rfl|rfl<;>(simp[aM.lt,aM.ic]at aI;omega)
def y'(x:ac Rat)(h:v<6)(i:Nat):mono x (aM.ic v i)=e0 x v^i:=by
 rcases v6 h with rfl|rfl|rfl|rfl|rfl|rfl<;>simp[mono,aM.ic,ov]
structure hU(v m:Nat)(f:Poly):Prop where
 s:f.eM
 z:f.ij
 k:∀p∈f,∃i,i<m∧p.1=aM.ic v i
variable{m:Nat}{f:Poly}
theorem Ob{v m:Nat}(Z:v<6):∀{f:Poly} {aQ:Nat},f.eM->(∀p∈f,∃i,aQ<=i/\i<m/\p.1=aM.ic v i)->f.length<=m-aQ
 |[],aQ,_,_=>dg _
 |p::f,aQ,M,h=>by
  obtain⟨i,aE,aK,C⟩:=h p gT;have W:=nE.1 M;have:=Ob Z (f:=f) (aQ:=i+1) W.2 λq aD=>by
   obtain⟨j,_,B,bj⟩:=h q<|e3 _ aD;have:=W.1 q aD;rw[C,bj]at this;exact⟨j,ans Z this,B,bj⟩
  rw[iQ];omega
def hU.fit(h:hU v m f)(Z:v<6)(hm:m<=17):k1 f=true:=by
 have W:=Ob Z (aQ:=0) h.s λp hp=>let⟨i,Y,G⟩:=h.k p hp;⟨i,dg _,Y,G⟩;unfold k1;rw[cQ];refine⟨c9 J,ja.2 λp hp=>?_⟩;obtain⟨i,Y,G⟩:=h.k p hp;rw[G,x' Z];exact c9 J
def hU.up(h:hU v m f)(hm:m<=n):hU v n f:=⟨h.s,h.z,λp hp=>let⟨i,Y,G⟩:=h.k p hp;⟨i,J,G⟩⟩
def hU.nil(v m:Nat):hU v m []:=⟨List.Pairwise.nil,λp hp=>(by cases hp),λp hp=>(by cases hp)⟩
def hU.put(h:hU v m f){i:Nat}(af:i<m)(c:Rat):hU v m (eA f (aM.ic v i) c):=
 ⟨mX h.s _ _,zZ h.s h.z _ _,λp hp=>by
  rcases(ml h.s _ _ p).1 hp with⟨Y,_⟩|⟨Y,_⟩
  .exact⟨i,af,Y⟩
  .exact h.k p Y⟩
def hU.r5{c:Rat}:∀{g f:Poly},hU v m f->(∀p∈g,∃i,i<m/\p.1=aM.ic v i)->hU v m (fM f c g)
 |[],f,h,_=>h
 |p::g,f,h,F=>by
  obtain⟨i,aE,aK⟩:=F p gT;show hU v m (fM (eA f p.1<|p.2*c) c g);rw[aK];exact hU.r5 (h.put aE _) λq aD=>F q<|e3 _ aD
def ant(W:nA):∀p∈eS W,∃w∈W,p.1=w.1.1.add w.2.1:=vX (p:=λW=>∀p∈eS W,∃w∈W,p.1=w.1.1.add w.2.1) ao7 (λW w U p hp=>by
 rw[uy]at hp;rcases(ml (r4 W) _ _ p).1 hp with⟨Y,_⟩|⟨Y,_⟩
 .exact⟨w,az,Y⟩
 .obtain⟨u,E,e⟩:=U p Y;exact⟨u,p5 _ E,e⟩) W
theorem hU.eS{v a b c:Nat}{f g:Poly}(h:hU v a f)(D:hU v b g)(ah:a+b<=c+1):hU v c (eS<|k0 f g):=
 ⟨r4 _,C2 _,λp hp=>by
  obtain⟨w,hw,e⟩:=ant _ p hp;obtain⟨i,Y,G⟩:=h.k _ (uz.1 hw).1;obtain⟨j,C,N⟩:=D.k _ (uz.1 hw).2;exact⟨i+j,J,by rw[e,G,N,anq]⟩⟩
def uH(x:ac Rat)(cM:ac g9)(r:hz):Rat:=fF x r.f*fF x r.f*(if 0<=r.k then(e0 x r.k.toNat-(cM.getD r.k.toNat (0,0)).1)*((cM.getD r.k.toNat (0,0)).2-e0 x r.k.toNat)else 1)
def H5(v:Nat)(r:hz):Prop:=∃m,hU v m r.f/\1<=m/\m<=9/\(0<=r.k->r.k=(v:Int)/\m<=8)
variable{l:ac bT}{x:Rat}{ab:ac g9}{g:Nat->Rat}{a:fD}{y:Rat}
theorem anu(Z:v<6){r:hz}(h:H5 v r):∃g,nB cM r=some g/\hU v 17 g/\∀x,fF x g=uH x cM r:=by
 obtain⟨m,D,R,hm,E⟩:=h;unfold nB;dsimp only;have F:=D.eS D (c:=2*m-1) J;rw[aA<|D.fit Z J,aA<|F.fit Z J];by_cases T:0<=r.k
 .obtain⟨M,e⟩:=E T;have aN:r.k.toNat=v:=by omega
  rw[aA T];rw[aN];have U:hU v 2 [(aM.var v,1)]:=⟨DI _ _,(λp hp=>by rw[fX]at hp;rw[hp];exact(by decide:(1:Rat)≠0)),λp hp=>by rw[fX]at hp;rw[hp];exact⟨1,av,o⟩⟩;have z:∀c,hU v 2 (eA [] aM.zero c):=λc=>by rw[anr v];exact(hU.nil v 2).put av c
  have aD:=(U.r5 (c:= -1) (z (cM.getD v (0,0)).1).k).eS ((z (cM.getD v (0,0)).2).r5 (c:= -1) U.k) (c:=3) av;have G:=F.eS aD (c:=17) J;rw[aA<|G.fit Z J];refine⟨_,o,G,λx=>?_⟩;unfold uH;rw[aA T,aN];have O:fF x [(aM.var v,1)]=e0 x v:=by
   show(1:Rat)*mono x (aM.var v)+0=_;rw[anj x _ Z];grind
  have V:fF x ([]:Poly)=0:=rfl;rw[H4,H4,H4,H3,H3,Ag,Ag,O,ani,V];generalize fF x r.f*fF x r.f=q at *;generalize e0 x v=t at *
  grind
 .rw[au T];refine⟨_,o,F.up J,λx=>?_⟩;unfold uH;rw[au T,H4,D9]
theorem z'{v:Nat}(Z:v<6){cM:ac g9}:∀{xs:ac hz} {S:Poly},hU v 17 S->(∀r∈xs,H5 v r)->∃U,lx cM S xs=some U/\hU v 17 U/\∀x,fF x U=fF x S+j1 (xs.map λr=>uH x cM r*r.c)
 |[],S,T,_=>⟨S,o,T,λx=>(pr _).symm⟩
 |r::xs,S,T,aw=>by
  obtain⟨g,aE,aK,C⟩:=anu Z (cM:=cM)<|aw r gT;have N:=T.r5 (c:=r.c) aK.k;obtain⟨U,b,B,M⟩:=z' Z (cM:=cM) (xs:=xs) N λq aD=>aw q<|e3 _ aD;refine⟨U,?_,B,λx=>?_⟩
  .rw[Db,aE];dsimp only;rw[aA<|N.fit Z J,b]
  .rw[M,H3,C];show _=fF x S+(uH x cM r*r.c+j1 _);rw[D8]
def anv(x:Rat):xL (gu x)=ez x.num.natAbs/\uh (gu x)=if x.den=1 then none else some (ez x.den):=by
 unfold xL uh gu;rw[XB];by_cases S:x.den=1
 .rw[aA S,aA S,wi,Ml<|G2<|CE _];exact e9
 .rw[au S,au S,Mk (G2<|CE _) o];exact e9
def Oc(h:gj x=false):eh (gu x)=some x:=by
 have hp:=XC x;have ay:=Xh hp;unfold gj Hq at h;have h:=of_decide_eq_false h;obtain⟨Q,E⟩:=anv x;have W:¬ui (gu x):=λW=>by
  unfold ui at W;rw[Q,E]at W;rcases W with W|⟨q,aD,W⟩
  .omega
  .split at aD
   .cases aD
   .cases aD;omega
 obtain⟨Y,G⟩:=Mu ay W hp;unfold eh;rw[aA Y,G]
def anw(n x m i:Nat)(O:x<n):((List.replicate n (0:Int)).set x (m:Int)).getD i 0=if x=i then(m:Int)else 0:=by
 rw[wv,mq];by_cases h:x=i
 .subst h;rw[aA o,aA o,aA<|by rw[nF];exact O];rfl
 .rw[au h,au h,DP];split<;>rfl
def A'{x:Nat}(O:x<n):mZ ((List.replicate n (0:Int)).set x (m:Int))=aM.ic x m:=by
 have key:∀i,(((List.replicate n (0:Int)).set x (m:Int)).getD i 0).toNat=if x=i then m else 0:=λi=>by
  rw[anw n x m i O];split<;>simp
 unfold mZ aM.ic;rw[key,key,key,key,key,key]
def anx{x:Nat}{c:Rat}(O:x<n)(aj:n<=6)(hm:m<=16)(h:gj c=false):lU n (Hx x n m c)= .ok (aM.ic x m,c):=by
 unfold lU Hx;dsimp only;rw[Oc h];dsimp only;rw[A' O,aA];unfold uB;dsimp only;rw[A' O,x' J,cQ,cQ];refine⟨⟨c9 az,ja.2 λk E=>?_⟩,c9 hm⟩;rcases Oy E with h|h
 .rw[Iq h];decide
 .rw[h];exact c9 J
theorem B'{n:Nat}{t:bT}:∀{l:ac bT} {P:Poly},jA n P (l++[t])=(match jA n P l with
 |.ok Q=>(match lU n t with
  |.ok w=>.ok (eA Q w.1 w.2)
  |.error c=>.error c)
 |.error c=>.error c)
 |[],P=>by
  show jA n P [t]=_;unfold jA;cases lU n t<;>rfl
 |s::l,P=>by
  show jA n P (s::(l++[t]))=_;rw[jA,jA];cases lU n s with
  |error c=>rfl
  |ok w=>exact B'
def C'(h:x.num=0):x=0:=D7.1 h
theorem Od{x n:Nat}{f:Nat->Rat}(O:x<n)(aj:n<=6):∀m,m<=17->lu f m=true->∃Q,jA n [] (nx x n f m)= .ok Q/\hU x m Q/\∀dM,fF dM Q=cK (λi=>f i*e0 dM x^i) m
 |0,_,_=>⟨[],o,hU.nil x 0,λ_=>o⟩
 |m+1,hm,h=>by
  unfold lu at h;by_cases aH:(f m).num=0
  .rw[aA aH]at h;obtain⟨Q,aE,aK,C⟩:=Od O aj m J h;refine⟨Q,?_,aK.up J,λdM=>?_⟩
   .unfold nx;rw[aA aH];exact aE
   .show _=cK _ m+f m*_;rw[C,C' aH,sf,pr]
  .rw[au aH,cQ]at h;obtain⟨Q,aE,aK,C⟩:=Od O aj m J h.1;have W:gj (f m)=false:=by have:=h.2;cases e:gj (f m)with|false=>rfl|true=>rw[e]at this;cases this
   refine⟨eA Q (aM.ic x m)<|f m,?_,(aK.up J).put J _,λdM=>?_⟩
   .unfold nx;rw[au aH,B',aE];dsimp only;rw[anx O aj J W]
   .show _=cK _ m+f m*_;rw[Ag,C,y' dM J]
theorem D'(f:Nat->Rat)(a b t:Rat)(n:Nat):cK (λj=>gv f a b n j*t^j) (n+1)=(a+b*t)*cK (λj=>f j*t^j) n:=by
 have Y:∀m,cK (λj=>kW f b j*t^j) (m+1)=b*t*cK (λj=>f j*t^j) m:=λm=>by
  rw[Ah,qS];have Q:kW f b 0*t^0=0:=by unfold kW;rw[au av];exact sf _
  rw[Q,uU];exact kf _ λi af=>by
   unfold kW;rw[aA<|x8 i,m8];show f (i+1-1)*b*_=_;rw[wu];generalize t^i=y
   grind
 have G:cK (λj=>gv f a b n j*t^j) (n+1)=cK (λj=>kW f b j*t^j) (n+1)+a*cK (λj=>f j*t^j) n:=by
  show cK (λj=>gv f a b n j*t^j) n+gv f a b n n*t^n=cK (λj=>kW f b j*t^j) n+kW f b n*t^n+_;have U:cK (λj=>gv f a b n j*t^j) n=cK (λj=>kW f b j*t^j) n+a*cK (λj=>f j*t^j) n:=by
   rw[qS,<-x1];exact kf _ λi af=>by
    unfold gv;rw[aA af];generalize t^i=y
    grind
  have T:gv f a b n n=kW f b n:=by unfold gv;rw[au<|yf n,aA o]
  rw[U,T]
  grind
 rw[G,Y]
 grind
theorem E'(a t:Rat):∀i,cK (λj=>s8 a i j*t^j) (i+1)=(t-a)^i
 |0=>by show(0:Rat)+1*t^0=(t-a)^0;rw[ov,ov];grind
 |i+1=>by
  show cK (λj=>gv (s8 a i) (-a) 1 (i+1) j*t^j) (i+1+1)=_;rw[D',E' a t i,m8];generalize(t-a)^i=y
  grind
theorem F'(a b t:Rat)(i:Nat):∀j,cK (λk=>s9 a b i j k*t^k) (i+j+1)=(t-a)^i*(b-t)^j
 |0=>by
  rw[ov,D9];exact E' a t i
 |j+1=>by
  show cK (λk=>gv (s9 a b i j) b (-1) (i+j+1) k*t^k) (i+j+1+1)=_;rw[D',F' a b t i j,m8];generalize(t-a)^i=y;generalize(b-t)^j=z
  grind
def H6(s:Rat)(h:Nat):s^h*s^h=s^(2*h):=by rw[<-N9,Nat.two_mul]
theorem anz{q:fm}(aD:q.ok=true)(O:q.x<n)(aj:n<=6)(D:q.gQ=n)(dW:q.n<=16)(he:q.n%2=0)(aB:q.k<=q.n)(hw:q.a.1<q.a.2)(ah:0<=q.c)(N:ab.getD q.x (0,0)=q.a):
 ∃r,lV n q.eE= .ok r/\H5 q.x r/\0<=r.c/\∀dM,uH dM ab r*r.c=q.c/(q.a.2-q.a.1)^q.n*((bF q.n q.k:Rat)*((e0 dM q.x-q.a.1)^q.k*(q.a.2-e0 dM q.x)^(q.n-q.k))):=by
 unfold fm.ok at aD;rw[cQ]at aD;have W:gj q.co=false:=by have:=aD.1;cases e:gj q.co with|false=>rfl|true=>rw[e]at this;cases this
 have hm:q.m<=9:=by unfold fm.m;omega
 obtain⟨Q,Y,G,C⟩:=Od O aj q.m J aD.2;have w:0<=q.co:=by
  unfold fm.co;refine Rat.mul_nonneg ?_ (by exact_mod_cast dg _);rw[Ea];refine Rat.mul_nonneg ah ?_;have hp:0<(q.a.2-q.a.1)^q.n:=Rat.pow_pos aoM;exact Rat.le_of_lt<|Rat.inv_pos.2 hp
 have p:lV n q.eE= .ok ⟨q.co,if q.k%2=1 then(q.x:Int)else -1,Q⟩:=by
  unfold lV fm.eE;dsimp only;rw[Oc W];dsimp only;have b:¬q.co<0/\-1<=(if q.k%2=1 then(q.x:Int)else -1)/\(if q.k%2=1 then(q.x:Int)else -1)<(n:Int):=by
   refine⟨yg.2 w,?_,?_⟩<;>split<;>omega
  rw[aA b,D,Y]
 refine⟨_,p,⟨q.m,G,by unfold fm.m;omega,hm,λh=>?_⟩,w,λdM=>?_⟩
 .dsimp only at h⊢;split at h
  .rename_i ay;rw[aA ay];exact⟨o,by unfold fm.m;omega⟩
  .exact absurd h av
 .unfold uH fm.co;dsimp only;rw[C];have L:cK (λi=>q.f i*e0 dM q.x^i) q.m=(e0 dM q.x-q.a.1)^(q.k/2)*(q.a.2-e0 dM q.x)^((q.n-q.k)/2):=F' q.a.1 q.a.2 (e0 dM q.x) (q.k/2)<|(q.n-q.k)/2;rw[L];by_cases ay:q.k%2=1
  .have S:q.k=2*(q.k/2)+1:=by omega
   have X:q.n-q.k=2*((q.n-q.k)/2)+1:=J
   have U:(e0 dM q.x-q.a.1)^q.k=(e0 dM q.x-q.a.1)^(q.k/2)*(e0 dM q.x-q.a.1)^(q.k/2)*(e0 dM q.x-q.a.1):=by
    rw[H6,<-Rat.pow_succ,<-S]
   have T:(q.a.2-e0 dM q.x)^(q.n-q.k)=(q.a.2-e0 dM q.x)^((q.n-q.k)/2)*(q.a.2-e0 dM q.x)^((q.n-q.k)/2)*(q.a.2-e0 dM q.x):=by
    rw[H6,<-Rat.pow_succ,<-X]
   rw[aA ay,aA<|Int.natCast_nonneg _,tb,N,U,T];generalize(e0 dM q.x-q.a.1)^(q.k/2)=s;generalize(q.a.2-e0 dM q.x)^((q.n-q.k)/2)=u;generalize q.c/(q.a.2-q.a.1)^q.n=c;generalize(bF q.n q.k:Rat)=d
   grind
  .have S:q.k=2*(q.k/2):=by omega
   have X:q.n-q.k=2*((q.n-q.k)/2):=J
   have U:(e0 dM q.x-q.a.1)^q.k=(e0 dM q.x-q.a.1)^(q.k/2)*(e0 dM q.x-q.a.1)^(q.k/2):=by
    rw[H6,<-S]
   have T:(q.a.2-e0 dM q.x)^(q.n-q.k)=(q.a.2-e0 dM q.x)^((q.n-q.k)/2)*(q.a.2-e0 dM q.x)^((q.n-q.k)/2):=by
    rw[H6,<-X]
   rw[au ay,au av,U,T];generalize(e0 dM q.x-q.a.1)^(q.k/2)=s;generalize(q.a.2-e0 dM q.x)^((q.n-q.k)/2)=u;generalize q.c/(q.a.2-q.a.1)^q.n=c;generalize(bF q.n q.k:Rat)=d
   grind
theorem G'{n:Nat}{s:dV}:∀{l:ac dV} {xs:ac hz} {x:hz},ib n l= .ok xs->lV n s= .ok x->ib n (l++[s])= .ok (xs++[x])
 |[],xs,x,h,D=>by
  cases h;show ib n [s]= .ok [x];unfold ib;rw[D];rfl
 |t::l,xs,x,h,D=>by
  unfold ib at h;cases U:lV n t with
  |error e=>rw[U]at h;cases h
  |ok y=>
   rw[U]at h;dsimp only at h;cases h4:ib n l with
   |error e=>rw[h4]at h;cases h
   |ok Q=>
    rw[h4]at h;cases h;show ib n (t::(l++[s]))= .ok (y::(Q++[x]));rw[ib,U];dsimp only;rw[G' h4 D]
theorem Oe{mk:Rat->Nat->fm}{g:Nat->Rat}{E v n:Nat}{a:fD}{ab:ac g9}(e:∀d k,mk d k=⟨d,E,k,a,v,n⟩)(Z:v<n)(aj:n<=6)(dW:E<=16)(he:E%2=0)(hw:a.1<a.2)(N:ab.getD v (0,0)=a)(F:∀k,k<=E->0<=g k):
 ∀k,k<=E+1->dn mk g k=true->∃xs,ib n (g7 mk g k)= .ok xs/\(∀r∈xs,H5 v r)/\∀dM,j1 (xs.map λr=>uH dM ab r*r.c)=cK (λi=>g i/(a.2-a.1)^E*((bF E i:Rat)*((e0 dM v-a.1)^i*(a.2-e0 dM v)^(E-i)))) k
 |0,_,_=>⟨[],o,λr aw=>(by cases aw),λ_=>o⟩
 |k+1,aB,h=>by
  unfold dn at h;by_cases aH:(g k).num=0
  .rw[aA aH]at h;obtain⟨xs,aE,aK,C⟩:=Oe e Z aj dW he hw N F k J h;refine⟨xs,?_,aK,λdM=>?_⟩
   .unfold g7;rw[aA aH];exact aE
   .show _=cK _ k+g k/_*_;rw[C,C' aH,Ea,sf,sf,pr]
  .rw[au aH,cQ]at h;obtain⟨xs,aE,aK,C⟩:=Oe e Z aj dW he hw N F k J h.1;have S:=h.2;rw[e]at S;obtain⟨r,dX,e5,ni,rR⟩:=anz (ab:=ab) S Z aj o dW he (by show k<=E;omega) hw (F k J) N;refine⟨xs++[r],?_,λq aD=>?_,λdM=>?_⟩
   .unfold g7;rw[au aH,e];exact G' aE dX
   .rcases ie.1 aD with aD|aD
    .exact aK q aD
    .rw[fX.1 aD];exact e5
   .show _=cK _ k+g k/_*_;rw[oq,C3,C];show _+(uH dM ab r*r.c+0)=_;rw[pr,rR]
theorem H'{mk:Rat->Nat->fm}{E:Nat}(o:∀d k,mk d k=⟨d,E,k,a,v,n⟩)(Z:v<n)(aj:n<=6)(dW:E<=16)(he:E%2=0)(hw:a.1<a.2)(N:ab.getD v (0,0)=a)(F:∀k,k<=E->0<=g k)(e:dn mk g (E+1)=true)
 (hp:∀s∈g7 mk g (E+1),s.ej.length<=200):∃S,pY n ab (g7 mk g<|E+1)= .ok S/\hU v 17 S/\∀dM,fF dM S=jB g (e0 dM v-a.1) (a.2-e0 dM v) E/(a.2-a.1)^E:=by
 obtain⟨xs,Y,G,C⟩:=Oe o Z aj dW he hw N F (E+1) (ct _) e;obtain⟨S,M,P,z⟩:=z' (show v<6 by omega) (cM:=ab) (hU.nil v 17) G;refine⟨S,?_,P,λdM=>?_⟩
 .unfold pY;have W:=zV mk g<|E+1;rw[aA ⟨J,hp⟩,Y];dsimp only;rw[M]
 .rw[z,C];show 0+_=_;rw[uU,Ea,Rat.mul_comm,jB,qS];exact kf _ λi af=>by
   rw[Ea];generalize(bF E i:Rat)*((e0 dM v-a.1)^i*(a.2-e0 dM v)^(E-i))=y
   grind
def nD(x:ac Rat)(t:bT):Nat->Rat
 |0=>eI t.bY
 |j+1=>nD x t j*e0 x j^eQ t j
def eg(l:ac bT)(x:ac Rat)(n:Nat):Nat->Rat:=cK λk=>nD x (iB l k) n
theorem Of{x:ac Rat}{t:bT}{n v:Nat}(h:∀j,j<n->j≠v->eQ t j=0):∀k,k<=n->nD x t k=if v<k then eI t.bY*e0 x v^eQ t v else eI t.bY
 |0,_=>by rw[au<|m6 _];rfl
 |k+1,aB=>by
  show nD x t k*e0 x k^eQ t k=_;rw[Of h k J];by_cases c:k=v
  .subst c;rw[au<|yf k,aA<|nI k]
  .rw[h k J c,ov,D9];by_cases E:v<k
   .rw[aA E,aA J]
   .rw[au E,au J]
def Og(l:ac bT)(k j:Nat):eQ (iB l k) j<=eL l j:=by
 unfold iB;cases h:l[k]? with
 |none=>exact dg _
 |some t=>exact M1 (fQ h) j
def anA(h:o5 (eL l) n v)(k j:Nat)(a3:j<n)(O:j≠v):eQ (iB l k) j=0:=by
 have:=Og l k j;rw[h.rest j a3 O]at this;omega
def I'{x:ac Rat}(h:o5 (eL l) n v)(m:Nat):eg l x n m=cK (λk=>eI (iB l k).bY*e0 x v^eQ (iB l k) v) m:=
 kf _ λk _=>by rw[Of (anA h k) n<|ct _,aA h.lt]
def anB{x:ac c8}(h:o5 (eL l) x.length v)(p:Nat)(hp:p<=eL l v):gI l x p=qM (qO (iq x) v).1 ((qO (iq x) v).2-(qO (iq x) v).1) (eL l v) (λq=>cK (λi=>j0 (eQ (iB l i) v) (eI (iB l i).bY) q) l.length) p:=by
 unfold gI;rw[YI h _ (ct _) p hp,aA h.lt];refine YH (λi _=>?_) p hp;exact YK h (Og l) _ (ct _) i
def anC{f:Nat->Rat}(h:∀i,i<=n->f i=g i)(s u:Rat):jB f s u n=jB g s u n:=kf _ λi af=>by rw[h i J]
theorem J':∀(l:ac Rat) (a:Rat),l.foldl o2 a<=a/\∀y∈l,l.foldl o2 a<=y
 |[],a=>⟨AK,λy h=>by cases h⟩
 |x::l,a=>by
  obtain⟨aE,aK⟩:=J' l<|o2 a x;have C:o2 a x<=a/\o2 a x<=x:=by unfold o2;split<;>grind
  exact⟨Eb aE C.1,λy N=>by
   rcases fg.1 N with rfl|N
   .exact Eb aE C.2
   .exact aK y N⟩
theorem K':∀(l:ac Rat) (a:Rat),a<=l.foldl o3 a/\∀y∈l,y<=l.foldl o3 a
 |[],a=>⟨AK,λy h=>by cases h⟩
 |x::l,a=>by
  obtain⟨aE,aK⟩:=K' l<|o3 a x;have C:a<=o3 a x/\x<=o3 a x:=by unfold o3;split<;>grind
  exact⟨Eb C.1 aE,λy N=>by
   rcases fg.1 N with rfl|N
   .exact Eb C.2 aE
   .exact aK y N⟩
def anD{l:ac Rat}(h:y∈l):zS l<=y:=by
 cases l with
 |nil=>cases h
 |cons x l=>
  obtain⟨Y,G⟩:=J' l x;rcases fg.1 h with rfl|h
  .exact Y
  .exact G y h
def anE{l:ac Rat}(h:y∈l):y<=zT l:=by
 cases l with
 |nil=>cases h
 |cons x l=>
  obtain⟨Y,G⟩:=K' l x;rcases fg.1 h with rfl|h
  .exact Y
  .exact G y h
def L'{u:Type}{i:Nat}(f:Nat->u)(h:i<n):f i∈bW n f:=fQ<|iN f h
theorem Oh(x n:Nat)(f:Nat->Rat):∀m,(nx x n f m).length<=m
 |0=>ct _
 |m+1=>by
  have:=Oh x n f m;unfold nx;split
  .omega
  .rw[k4];simp;omega
theorem Oi{mk:Rat->Nat->fm}{g:Nat->Rat}:∀{k:Nat} {s:dV},s∈g7 mk g k->∃j,j<k/\s=(mk (g j) j).eE/\(dn mk g k=true->(mk (g j) j).ok=true)
 |0,s,h=>by cases h
 |k+1,s,h=>by
  unfold g7 at h;unfold dn;by_cases aH:(g k).num=0
  .rw[aA aH]at h⊢;obtain⟨j,aE,aK⟩:=Oi h;exact⟨j,J,aK⟩
  .rw[au aH]at h⊢;rw[cQ];rcases ie.1 h with h|h
   .obtain⟨j,aE,aK,C⟩:=Oi h;exact⟨j,J,aK,λe=>C e.1⟩
   .exact⟨k,nI k,fX.1 h,λe=>e.2⟩
theorem anF{x:ac c8}(h:o5 (eL l) x.length v)(bK:qO (iq x) v=a)(y:Rat):jB (kY (gI l x)<|eL l v+1) (y-a.1) (a.2-y) (o6 (eL l v+1)-1)=(a.2-a.1)^(o6 (eL l v+1)-1)*cK (λk=>eI (iB l k).bY*y^eQ (iB l k) v) l.length:=by
 obtain⟨d,S⟩:∃d,d=eL l v:=dq;have U:jB (gI l x) (y-a.1) (a.2-y) d=(a.2-a.1)^d*cK (λk=>eI (iB l k).bY*y^eQ (iB l k) v) l.length:=by
  have T:jB (gI l x) (y-a.1) (a.2-y) d=jB (qM a.1 (a.2-a.1) d λq=>cK (λi=>j0 (eQ (iB l i) v) (eI (iB l i).bY) q) l.length) (y-a.1) (a.2-y) d:=anC (λi af=>by rw[anB h i J,bK,S]) _ _;rw[T,ano aoM λi _=>by rw[S];exact Og l i v];congr 1;exact kf _ λk _=>by rw[show a.1+(y-a.1)=y by grind]
 rw[<-S];unfold kY o6;by_cases G:(d+1)%2=0
 .rw[aA G,aA G,wu,anp,U,show y-a.1+(a.2-y)=a.2-a.1 by grind,m8];generalize(a.2-a.1)^d=b
  grind
 .rw[au G,au G,wu,U]
structure anG(l:ac bT)(x:ac c8)(r:zW)(v:Nat):Prop where
 dW:kX l x=0
 aa:g6 x=0
 aN:ku x.length l=0
 ay:o5 (eL l) x.length v
 aQ:r.aQ<=gI l x 0
 af:gI l x 0<=r.af
 nl:bg 300010 r.aQ
 Oj:bg 300010 r.af
 er:bg 100000 (gI l x 0)
 low:∃S,pY x.length (iq x) r.low= .ok S∧hU v 17 S∧∀dM,fF dM S=eg l dM x.length l.length-r.aQ
 high:∃S,pY x.length (iq x) r.high= .ok S∧hU v 17 S∧∀dM,fF dM S=r.af-eg l dM x.length l.length
 bw:∀s,s∈r.low∨s∈r.high->∃S:fm,s=S.eE∧S.ok=true∧S.m<=9∧S.gQ=x.length∧S.x=v
variable{j i:Nat}
theorem anH{x:ac c8}{r:zW}(h:r1 l x=r)(bS:r.e=0)(aj:x.length<=6):∃v,anG l x r v:=by
 unfold r1 at h;by_cases dW:kX l x=0
 case neg=>rw[au dW]at h;rw[<-h]at bS;exact absurd bS dW
 rw[aA dW]at h;have aa:g6 x=0:=by
  unfold kX at dW;split at dW
  .assumption
  .exact apV
 have aN:ku x.length l=0:=by
  unfold kX at dW;rw[aA aa]at dW;split at dW
  .assumption
  .exact apV
 have V:mi l x=bW x.length (eL l):=aA dW;rw[V]at h;rcases YD (eL l) x.length with⟨Z,_⟩|⟨v,Z,ay⟩
 .rw[aA<|by rw[Z];decide]at h;rw[<-h]at bS;exact absurd bS av
 rw[au<|by rw[Z];omega,Z,tb,ba ay.lt]at h;dsimp only at h;have aw:=ay.lt;obtain⟨a,D⟩:∃a,a=fr x[v]:=dq;rw[<-D]at h;by_cases p:a.1=a.2
 .rw[aA p]at h;rw[<-h]at bS;exact absurd bS av
 rw[au p,ay.dd.1]at h;have aT:a.1<a.2:=of_lt D p;have R:eL l v<=16:=Hv (λt A=>((xQ aN).2 t A).2.1) v;have ar:=ay.pos;have u:qO (iq x) v=a:=by
  unfold qO iq;rw[aA aa,we,ba ay.lt,D];rfl
 have ak:(iq x).getD v (0,0)=a:=by rw[wv];exact u
 have key:=λy=>anF ay u y;obtain⟨N,dY⟩:∃N,N=eL l v+1:=dq;rw[<-dY]at h key;obtain⟨E,K⟩:∃E,o6 N=E+1:=⟨o6 N-1,by unfold o6;split<;>omega⟩;have q:E<=16/\E%2=0:=by unfold o6 at K;split at K<;>omega
 unfold Hy at h;dsimp only at h;split at h
 case isFalse=>rw[<-h]at bS;exact absurd bS av
 rename_i ah;rw[cQ,cQ]at ah;obtain⟨-,B,w⟩:=ah;have ae:kY (gI l x) N 0=gI l x 0:=by unfold kY;split<;>rfl
 rw[K]at h B w key;rw[wu]at h B w key;have b:∀k,k<=E->zS (bW (E+1)<|kY (gI l x) N)<=kY (gI l x) N k:=λk a'=>anD<|L' _ J;have c:∀k,k<=E->kY (gI l x) N k<=zT (bW (E+1)<|kY (gI l x) N):=λk a'=>anE<|L' _ J;obtain⟨aQ,fA⟩:∃aQ,aQ=zS (bW (E+1)<|kY (gI l x) N):=dq;obtain⟨af,ai⟩:∃af,af=zT (bW (E+1)<|kY (gI l x) N):=dq;rw[<-fA]at h B b;rw[<-ai]at h w c;obtain⟨mk,X⟩:∃mk:Rat->Nat->fm,mk=λd k=>⟨d,E,k,a,v,x.length⟩:=dq;have hm:∀d k,mk d k=⟨d,E,k,a,v,x.length⟩:=λd k=>by rw[X]
 rw[<-X]at h B w;have bw:∀g,dn mk g (E+1)=true->∀s∈g7 mk g (E+1),∃S:fm,s=S.eE/\S.ok=true/\S.m<=9/\S.gQ=x.length/\S.x=v:=λg F s M=>by
  obtain⟨j,Y,G,C⟩:=Oi M;refine⟨_,G,C F,?_,by rw[hm],by rw[hm]⟩;rw[hm];show j/2+(E-j)/2+1<=9;omega
 have hp:∀g,dn mk g (E+1)=true->∀s∈g7 mk g (E+1),s.ej.length<=200:=λg F s M=>by
  obtain⟨S,rfl,-,Y,-,-⟩:=bw g F s M;have:=Oh S.x S.gQ S.f S.m;show(nx S.x S.gQ S.f S.m).length<=200;omega
 have hw:∀n:Nat,(a.2-a.1)^n≠0:=λn=>by
  have:a.2-a.1≠0:=by grind
  induction n with
  |zero=>rw[ov];decide
  |succ n U=>rw[m8];exactλh=>(Rat.mul_eq_zero.1 h).elim U this
 have P:∀y:Rat,y-a.1+(a.2-y)=a.2-a.1:=λy=>by grind
 obtain⟨S,an,ao,z⟩:=H' (ab:=iq x) hm ay.lt aj q.1 q.2 aT ak (λk a'=>by have:=b k a';grind) B<|hp _ B;obtain⟨T,Q,aq,I⟩:=H' (ab:=iq x) hm ay.lt aj q.1 q.2 aT ak (λk a'=>by have:=c k a';grind) w<|hp _ w;rw[<-h];have ag:=hw E;have o:∀i,i<N->bg 100000 (gI l x i):=λi af=>YE aa aN ay i (by rw[ay.dd.1];omega);have L:∀y∈bW (E+1) (kY (gI l x) N),bg 300010 y:=λy al=>by
  obtain⟨i,af,rfl⟩:=MP al;exact YF J J o i J
 have O:bW (E+1) (kY (gI l x) N)≠[]:=λe=>by have:=iv (E+1)<|kY (gI l x) N;rw[e]at this;simp at this
 refine⟨v,dW,aa,aN,ay,ae▸b 0 (dg _),ae▸c 0 (dg _),fA▸L _ (Hr XZ O),ai▸L _ (Hr X0 O),o 0 J,⟨S,an,ao,λdM=>?_⟩,⟨T,Q,aq,λdM=>?_⟩,λs M=>?_⟩
 .rw[z,w' (kY (gI l x) N) λ_=>aQ,key,v',P,I' ay];generalize cK _ _=ad;generalize(a.2-a.1)^E=W at ag;show _=ad-aQ
  grind
 .rw[I,w' (λ_=>af)<|kY (gI l x) N,key,v',P,I' ay];generalize cK _ _=ad;generalize(a.2-a.1)^E=W at ag;show _=af-ad
  grind
 .rcases M with M|M
  .exact bw _ B s M
  .exact bw _ w s M
def anI(t:bT)(l:ac bT)(x:ac Rat)(n:Nat):eg (t::l) x n (t::l).length=nD x t n+eg l x n l.length:=Ah _ _
def anJ(k:aM)(aj:n<=6)(a3:j<n):(uF n k)[j]? =some ((k.n.getD j 0:Nat):Int):=by
 have B:k.n.length=6:=rfl;unfold uF;rw[we,pe,aA a3,wv,qV J];rfl
def M'(k:aM)(h:n<=6):(uF n k).length=n:=by unfold uF;simp[aM.n];omega
def anK(a3:j<6):(aM.ic v i).n.getD j 0=if v=j then i else 0:=by
 rcases v6 a3 with rfl|rfl|rfl|rfl|rfl|rfl<;>rfl
def N'(c:Rat)(aj:n<=6)(a3:j<n):eQ (m2 n (aM.ic v i,c)) j=if v=j then i else 0:=by
 show(((uF n<|aM.ic v i)[j]?).getD 0).toNat=_;rw[anJ _ aj a3,anK J];rfl
def anL(aj:n<=6)(af:i<=16):lo 16 (uF n<|aM.ic v i)=true:=by
 have key:∀(l:ac Nat) (m:Int),((g8 l:Nat):Int)<=m->lo m (l.map Int.ofNat)=true:=λl=>by
  induction l with
  |nil=>exactλ_ _=>o
  |cons a l U=>
   intro m h;have h:((a+g8 l:Nat):Int)<=m:=h;show(decide (0<=(a:Int)/\(a:Int)<=m)&&lo (m-a) (l.map Int.ofNat))=true;rw[U _ J,c9 J];rfl
 refine key _ _ ?_;have h:g8 ((aM.ic v i).n.take n)<=i:=by
  have B:∀c:Prop,[Decidable c]->(if c then i else 0)<=i:=λc _=>by split<;>omega
  unfold aM.ic aM.n
  match n,aj with
  |0,_=>exact dg _
  |1,_=>simp[g8];split<;>omega
  |2,_=>simp[g8];(repeat' split)<;>omega
  |3,_=>simp[g8];(repeat' split)<;>omega
  |4,_=>simp[g8];(repeat' split)<;>omega
  |5,_=>simp[g8];(repeat' split)<;>omega
  |6,_=>simp[g8];(repeat' split)<;>omega
 omega
def pZ(t:bT):Bool:=decide (dO t.bY≠0)
def O'{S:Poly}(h:(fV n S).any pZ=false):∀p∈S,dO (gu p.2)=0/\eI (gu p.2)=p.2:=λp hp=>by
 have Y:=List.any_eq_false.1 h (m2 n p)<|db.2 ast;have G:dO (gu p.2)=0:=Classical.byContradiction λe=>Y<|c9 e;exact⟨G,(C4<|anl J).2⟩
def P'(Z:v<n)(aj:n<=6)(x:ac Rat)(S:Poly):(∀p∈S,∃i,i<17/\p.1=aM.ic v i)->(∀p∈S,eI (gu p.2)=p.2)->eg (fV n S) x n (fV n S).length=fF x S:=by
 induction S with
 |nil=>exactλ_ _=>o
 |cons p S U=>
  intro E aw;obtain⟨i,af,e⟩:=E p gT;have b:fV n (p::S)=m2 n p::fV n S:=rfl;have T:fF x (p::S)=p.2*mono x p.1+fF x S:=rfl;rw[b,T,anI,U (λq aD=>E q<|e3 _ aD) λq aD=>aw q<|e3 _ aD];congr 1;obtain⟨k,c⟩:=p;have e:k=aM.ic v i:=e;subst e;have ah:eI (gu c)=c:=aw (aM.ic v i,c) gT;have z:(m2 n (aM.ic v i,c)).bY=gu c:=rfl;rw[Of (v:=v) (λj A O=>by rw[N' c aj A,au<|Ne.symm O]) n<|ct _,aA Z,N' c aj Z,aA o,z,ah,y' x J]
def Q'(Z:v<n)(aj:n<=6){S:Poly}(h:hU v 17 S)(aw:∀p∈S,dO (gu p.2)=0):ku n (fV n S)=0:=by
 have W:=Ob (show v<6 by omega) (aQ:=0) h.s λp hp=>let⟨i,Y,G⟩:=h.k p hp;⟨i,dg _,Y,G⟩;have c:(fV n S).length=S.length:=hV ..;unfold ku;rw[au J];have key:∀T:Poly,(∀p∈T,p∈S)->rZ n (fV n T)=0:=λT=>by
  induction T with
  |nil=>exactλ_=>o
  |cons p T U=>
   intro C;have hp:=C p gT;obtain⟨i,af,e⟩:=h.k p hp;have b:rY n (m2 n p)=0:=Xz (aw p hp) ⟨by show lo 16 (uF n p.1)=true;rw[e];exact anL aj J,M' _ aj⟩;show(if rY n (m2 n p)=0 then rZ n (fV n T)else rY n (m2 n p))=0;rw[aA b];exact U λq aD=>C q<|e3 _ aD
 exact key S λp hp=>hp
def pd(n:Nat):hx:=⟨[(5,11)],0,List.replicate n ⟨0,[48],[49]⟩,[⟨3,0,0,0,0,0,[48]⟩],1,1,[],0⟩
set_option maxHeartbeats 4000000 in
def anM(n:Nat)(h:n<=6):(fq<|pd n).2.2=0:=by
 match n,h with
 |0,_=>decide +kernel
 |1,_=>decide +kernel
 |2,_=>decide +kernel
 |3,_=>decide +kernel
 |4,_=>decide +kernel
 |5,_=>decide +kernel
 |6,_=>decide +kernel
end Go.bI.ds
namespace Go.bI.ds
open Go.bI Sym
set_option maxRecDepth 100000
set_option maxHeartbeats 8000000
def anN{p:hx}(h:(fq p).2.2=0):p.ins.length<=6:=by
 by_cases F:uk p=0
 .exact(m' F).2.1
 .unfold fq at h;rw[au F]at h;exact absurd h F
def R':da:=n0 (λH=>o0 H/\im H) (λh D=>⟨D.1.up h,D.2.up h⟩) λ((p,cM,l):hx×ac c8×ac dV)=>([ll p,.b8 2 c8 hG cM,.b8 3 dV fC l],N8 p/\(∀s∈cM,(s.1.length<=1048576/\s.2.length<=1048576)/\eh s.1≠none/\eh s.2≠none)/\∀s∈l,s.bY.length<=5100/\(∀t∈s.ej,t.bY.length<=5100)/\(ky s.ej<=5200/\s.ej.length<=20),.br [.gq 2 bT ef (pb p cM l).1,.ae (pb p cM l).2])
def Ol:b4 7 R':=by
 refine mM [(35,H2),(36,Nu),(38,Za),(37,NG),(39,(Dj λ_=>True).spec)] gC.1 ?_;intro⟨p,cM,l⟩ ⟨hp,u,W⟩ H ax ⟨w,F⟩;have bad:∀{c:Int},pb p cM l=([],c)->bX (.br [.nl,.ae c]) (R'.res (p,cM,l)):=λ{c} h=>by
  show bX _ (.br [.gq 2 bT ef (pb p cM l).1,.ae (pb p cM l).2]);rw[h];exact .br ⟨.ij,.refl _,aP⟩
 refine U 12<|ae6 (n:=4611686018427387902) (by unfold bz;rfl) (cy:=79) (t:=29) (aF:=152) Td.1 cw cw cw ?_;intro C Z G B hle;have r:=w.up hle;have d:=F.up hle;refine U 3<|bn anb p hp (a9 9 (.br [.ae (fq p).1,.ae (fq p).2.1,.ae (fq p).2.2]) o o<|U 12 ?_) (cl:=r);by_cases q:(fq p).2.2=0
 case neg=>
  refine lh HE (fq p).2.2 aP (eT (fq p).2.2) (au q)<|U 1<|bh (.inr ⟨(fq p).2.2,o,?_⟩);exact U 12<|du (bad<|au q)
 refine mH HE (fq p).2.2 aP (.br []) (aA q) ?_;have D:=anN q;have Q:pb p cM l=(match uG p.ins.length cM with
  |.ok ab=>(match pY p.ins.length ab l with
   |.ok S=>(fV p.ins.length S,0)
   |.error e=>([],e))
  |.error e=>([],e)):=aA q
 have A:=ane p.ins.length cM;refine st ?_;cases aa:uG p.ins.length cM with
 |error e=>
  rw[aa]at A Q;refine Cj Zb (p,cM) ⟨D,u⟩ (eT e) A<|bh (.inr ⟨e,o,?_⟩);exact U 12<|du (bad Q)
 |ok ab=>
 rw[aa]at A Q;obtain⟨Y,R⟩:=ang aa;refine xu Zb (p,cM) ⟨D,u⟩ (.bs 6 g9 mm ab) A<|U 2 ?_;have P:=anf p.ins.length ab l;have E:NG.pre (p,ab,l):=⟨D,Y,R,W⟩;cases M:pY p.ins.length ab l with
 |error e=>
  rw[M]at P;dsimp only at Q;rw[M]at Q;refine Cj Zl (p,ab,l) E (eT e) P<|bh (.inr ⟨e,o,?_⟩);exact U 12<|du (bad Q)
 |ok S=>
 rw[M]at P;dsimp only at Q;rw[M]at Q;refine xu Zl (p,ab,l) E (.g<|fU<|fe S) P ?_;have T:=p' Y R (λs hm=>⟨(W s hm).1,(W s hm).2.2⟩) M;refine U 3<|cS am6 (S,p.ins.length) ⟨(⟨T.s,T.z,λp hp=>⟨xW<|HJ (T.k p hp) av,b0 (T.b p hp) av⟩,cN T.l av,D⟩),aP⟩ (U 2<|bh (.inl ⟨.inl o,?_⟩)) (cl:=d);refine U 12<|du ?_;show bX _ (.br [.gq 2 bT ef (pb p cM l).1,.ae (pb p cM l).2]);rw[Q];exact .refl _
end Go.bI.ds
namespace Go.bI.ds
open Go.bI
set_option maxRecDepth 100000
set_option maxHeartbeats 4000000
variable{x:ac Rat}{n:Nat}
def S'{t:bT}(O:∀y∈x,bg 10 y)(hp:∀j,j<x.length->eQ t j<=16):∀j,j<=x.length->bg (250+j*161) (nD x t j):=λj=>by
 induction j with
 |zero=>intro _;exact b0 (uj t.bY) J
 |succ j U=>
  intro A;have Y:=U J;have d:e0 x j=x[j]'J:=by unfold e0;rw[wv,qV J];rfl
  have G:bg 10 (e0 x j):=by rw[d];exact O _<|ha _
  have C:=MX (n:=eQ t j) G;have N:=hp j J;exact b0 (lT Y C) J
def anO{l:ac bT}(e:x.length<=6)(aN:ku x.length l=0)(O:∀y∈x,bg 10 y):∀k,k<=l.length->bg (2+k*2000) (eg l x x.length k):=λk=>by
 induction k with
 |zero=>intro _;exact HH J
 |succ k U=>
  intro E;obtain⟨T,Q⟩:=xQ aN;have Y:=U J;have hm:iB l k=l[k]:=by unfold iB;rw[ba (show k<l.length from E)];rfl
  obtain⟨ah,K,b⟩:=Q _<|ha (show k<l.length from E);have G:=S' (t:=l[k]) O (λj A=>(zU K J).2) x.length<|ct _;show bg _ (eg l x x.length k+nD x (iB l k) x.length);rw[hm];exact b0 (s0 Y G) J
def anP:da:=cR λ((l,x):ac bT×ac Rat)=>([.b8 2 bT ef l,.bs 3 Rat cc x],o1 l/\ku x.length l=0/\x.length<=6/\∀y∈x,bg 10 y,.br [bQ<|eg l x x.length l.length,.ae 0])
def T':b4 45 anP:=by
 refine cJ [Hh,jk,s5,Ht,mg,pN] Tg.1 ?_;intro⟨l,x⟩ ⟨(W:o1 l),(aN:ku x.length l=0),(O:x.length<=6),(N:∀y∈x,bg 10 y)⟩ H ax;obtain⟨T,Q⟩:=xQ aN;obtain⟨n,aj⟩:∃n,n=x.length:=dq;refine st ?_;refine bn Hh (l,x.length) ⟨W,by show x.length<=1048576;omega⟩ ?_;refine a9 19 (.ae 0) o (congrArg ai.ae aN) ?_;refine bf 21 ?_;refine v0 21 (hY o) ?_;refine st ?_;refine bn jk (0:Int) apt ?_;refine a9 24 (bQ 0) o (congrArg bQ MF) ?_;refine st ?_;refine jh (L:=Nat×Rat) (λ(i,s)=>i<=l.length/\s=eg l x x.length i/\bg (2+i*2000) s) (λ(i,s)=>⟨[.c 27 [.b false,.nl,.nl],.c 27<|cc s],2,[(1,.bs 3 Rat cc x),(4,.p 0 0),(7,.p 1 0),(25,.b8 2 bT ef l),(26,.ae (l.length:Int)),(27,.ae (i:Int))]⟩) (λq=>l.length-q.1) [0,1] (0,0) ⟨dg _,o,HH J⟩ ?_;rintro⟨i,s⟩ ⟨af,M,aa⟩;have af:i<=l.length:=af;have M:s=eg l x x.length i:=M;have aa:bg (2+i*2000) s:=aa;refine bf 28 ?_;by_cases aT:i<l.length
 case neg=>
  have e:i=l.length:=J
  refine ee 28 ?_;refine st ?_;exact eK<|by show ai.br [bQ s,.ae 0]= .br [bQ<|eg l x x.length l.length,.ae 0];rw[M,e]
 refine eD 28 ?_;obtain⟨t,w⟩:∃t,t=l[i]:=dq;have F:l[i]? =some t:=by rw[w];exact ba aT
 have hm:t∈l:=fQ F;obtain⟨ah,K,z⟩:=Q t hm;have S:=(W.2 t hm).1;have C:iB l i=t:=by unfold iB;rw[F];rfl
 have R:∀j,j<x.length->eQ t j<=16:=λj A=>(zU K J).2;have P:=S' N R;refine st ?_;refine S4 t F o ?_;refine st ?_;refine bn s5 t.bY S ?_;refine a9 34 (.br [bQ<|eI t.bY,.ae 0]) o (by show nu t.bY=_;unfold nu;rw[ah]) ?_;refine bf 39 ?_;refine a9 39 (.ae (x.length:Int)) o (by rw[z]) ?_;refine st ?_;refine jh (L:=Nat) (λj=>j<=x.length) (λ(j:Nat)=>⟨[.c 27 [.b false,.nl,.nl],.c 27<|cc s,.c 90<|ef t,.c 27<|cc<|nD x t j],4,[(1,.bs 3 Rat cc x),(4,.p 0 0),(7,.p 1 0),(25,.b8 2 bT ef l),(26,.ae (l.length:Int)),(27,.ae (i:Int)),(10,.p 3 0),(38,.b8 1 Int h9 t.cF),(39,.ae (x.length:Int)),(40,.ae (j:Int))]⟩) (λj=>x.length-j) [0,1,2,3] 0 (dg _) ?_;rintro(j:Nat) (A:j<=x.length);refine bf 41 ?_;by_cases u:j<x.length
 case neg=>
  have e:j=x.length:=J
  have I:=P j A;refine ee 41 ?_;refine st ?_;refine bn pN (s,nD x t j) ⟨b0 aa J,b0 I J⟩ ?_;refine bf 61 ?_;refine b5 61 ((i+1:Nat):Int) ?_;refine st ?_;refine pJ [0,1] (i+1,s+nD x t j) ⟨aT,?_,b0 (s0 aa I) J⟩;show s+nD x t j=eg l x x.length i+nD x (iB l i) x.length;rw[M,C,e]
 have k:j<t.cF.length:=J
 obtain⟨r,X⟩:=zU K k;have I:=P j A;have d:e0 x j=x[j]:=by unfold e0;rw[wv,qV u];rfl
 have ag:bg 10 x[j]:=N _<|ha u;refine eD 41 ?_;refine st ?_;refine S4 t.cF[j] (ba k) o ?_;refine bf 44 ?_;refine vx 44 ((eQ t j:Nat):Int) ?_ (h:=r);refine st ?_;refine iW x[j] (ba u) o ?_;refine st ?_;refine bn Ht (x[j],eQ t j) ⟨b0 ag,by show eQ t j<=64;omega⟩ ?_;refine st ?_;refine bn mg (nD x t j,x[j]^eQ t j) ⟨b0 I J,b0 (MX ag) J⟩ ?_;refine a9 56 (bQ<|nD x t<|j+1) o (by show bQ (nD x t j*x[j]^eQ t j)=bQ (nD x t j*e0 x j^eQ t j);rw[d]) ?_;refine bf 57 ?_;refine b5 57 ((j+1:Nat):Int) ?_;refine st ?_;exact pJ [0,1,2,3] (j+1) u
def Om:b4 9 (cR λ(l:ac bT)=>([.gq 2 bT ef l],l.length<=1000/\∀t∈l,t.bY.length<=1073741824,.b<|l.any pZ)):=by
 refine cJ [MC] oD.1 ?_;intro(l:ac bT) ⟨W,M⟩ H ax;refine st ?_;refine jh (λk=>(l.drop k).any pZ=l.any pZ) (λ(k:Nat)=>⟨[],0,[(0,.gq 2 bT ef l),(3,.ae k)]⟩) (λk=>l.length-k) [] 0 o ?_;rintro k aH;refine bf 7 ?_;by_cases aT:k<l.length
 .refine eD 7 ?_;rw[Dp aT]at aH;have aH:(pZ l[k]||(l.drop<|k+1).any pZ)=l.any pZ:=aH;refine st ?_;refine af2 l[k] aq6 o ?_;refine st ?_;refine bn MC l[k].bY (M _<|ha aT) ?_;refine bf 16 ?_;by_cases C:dO l[k].bY=0
  .refine v0 16 (hY C) ?_;rw[show pZ l[k]=false from dk λh=>h C]at aH;refine bf 9 ?_;refine b5 9 ((k+1:Nat):Int) ?_;refine st ?_;exact pJ [] (k+1) aH
  .refine v1 16 C ?_;refine st ?_;exact eK<|by show ai.b true= .b (l.any pZ);rw[<-aH,show pZ l[k]=true from c9 C];rfl
 .refine ee 7 ?_;rw[th J]at aH;refine st ?_;exact eK<|by show ai.b false= .b (l.any pZ);rw[<-aH];rfl
def kz(n v m:Nat):ac Rat:=bW n λj=>if j=v then(m:Rat)else 0
def H7(n v m:Nat):(kz n v m).length=n:=iv _ _
def U'{v m:Nat}(hm:m<=16):∀y∈kz n v m,bg 10 y:=λy N=>by
 obtain⟨i,af,rfl⟩:=MP N;split
 .have h:=pO (m:Int) J J;rw[show(mkRat (m:Int) 1)=(m:Rat) by rw[Rat.mkRat_one];rfl]at h;exact b0 h J
 .exact HH J
def anQ:da:=cR λ((l,v,n,m):ac bT×Nat×Nat×Nat)=>([.b8 2 bT ef l,.ae (v:Int),.ae (n:Int),.ae (m:Int)],o1 l/\ku n l=0/\v<n/\n<=6/\m<=16,.br [bQ<|eg l (kz n v m) n l.length,.b true])
def H8:b4 10 anQ:=by
 refine cJ [jk,T'] qk.1 ?_;intro⟨l,v,n,m⟩ ⟨(W:o1 l),(aN:ku n l=0),(Z:v<n),(aj:n<=6),(hm:m<=16)⟩ H ax;refine st ?_;refine pG (λ_:Unit=>[.b false,.nl,.nl]) () ?_;refine Li 1 cc (bW n λ_=>(0:Rat)) ?_ (by rw[iv,nF]) (λi x y _ N=>by rw[(MU N).2];exact MV) (aB:=o);refine st ?_;refine bn jk (m:Int) ⟨J,J⟩ ?_;refine a9 18 (bQ (m:Rat)) o (congrArg bQ<|by rw[Rat.mkRat_one];rfl) ?_;refine st ?_;refine pF ?_;refine st ?_;refine aeT (a:=bQ (m:Rat)) (m:Rat) (iN (n:=n) (i:=v) (λ_=>(0:Rat)) Z) ?_;have s:(bW n λ_=>(0:Rat)).set v (m:Rat)=kz n v m:=by rw[uo];rfl
 rw[s];refine bf 21 ?_;refine ju 10 ?_ (aj:=iv _ _);refine st ?_;refine bn T' (l,kz n v m) ⟨W,by rw[H7];exact aN,by rw[H7];exact aj,U' hm⟩ ?_;refine a9 23 (.br [bQ<|eg l (kz n v m) n l.length,.ae 0]) o (by show ai.br [bQ<|eg l (kz n v m) (kz n v m).length l.length,.ae 0]=_;rw[H7]) ?_;refine st ?_;exact eK o
def On{s:c8}(h:g5 s=0):dO s.1=0/\dO s.2=0/\¬eI s.2<eI s.1/\fr s=(eI s.1,eI s.2):=by
 unfold g5 at h;split at h
 case isFalse Y=>exact absurd h Y
 rename_i Y;split at h
 case isFalse G=>exact absurd h G
 rename_i G;unfold CO at h;split at h
 .cases h
 .rename_i C;refine⟨Y,G,C,?_⟩;unfold fr zJ;rw[aA Y,aA G,au C]
theorem Oo:∀{x:ac c8},g6 x=0->∀s∈x,g5 s=0
 |t::x,h,s,M=>by
  have aE:=Xu t;have G:=CP x;have C:g5 t=0/\g6 x=0:=by
   unfold g6 qJ at h
   grind
  rcases fg.1 M with rfl|M
  .exact C.1
  .exact Oo C.2 s M
theorem V':∀{x:ac c8},(∀s∈x,g5 s=0)->ia x=some (x.map fr)
 |[],_=>rfl
 |s::x,h=>by
  obtain⟨aE,aK,_,N⟩:=On<|h s gT;have a:eh s.1=some (eI s.1):=aA aE;have b:eh s.2=some (eI s.2):=aA aK;show(match eh s.1 with|some a=>(match eh s.2 with|some b=>(ia x).map ((a,b)::·)|none=>none)|none=>none)=_;rw[a,b];dsimp only;rw[V' λt aN=>h t<|e3 _ aN,<-N];rfl
def anR{x:ac c8}(h:g6 x=0):uG x.length x= .ok (iq x):=by
 have T:=Oo h;unfold uG iq;rw[aA o,V' T,aA h];dsimp only;rw[aA];unfold uC;rw[List.all_map,ja];intro s M;obtain⟨_,_,C,N⟩:=On<|T s M;show decide (¬(fr s).2<(fr s).1)=true;rw[N];exact c9 C
def W'{x:ac c8}{l:ac dV}{S:Poly}(aa:g6 x=0)(aj:x.length<=6)(h:pY x.length (iq x) l= .ok S):pb (pd x.length) x l=(fV x.length S,0):=by
 have af:(pd x.length).ins.length=x.length:=nF;unfold pb;rw[aA<|anM _ aj,af,anR aa];dsimp only;rw[h]
theorem Oq{x n:Nat}{f:Nat->Rat}:∀{m:Nat},lu f m=true->∀t∈nx x n f m,∃c,t.bY=gu c/\gj c=false
 |0,_,t,h=>by cases h
 |m+1,aa,t,h=>by
  unfold lu at aa;unfold nx at h;by_cases aH:(f m).num=0
  .rw[aA aH]at aa h;exact Oq aa t h
  .rw[au aH]at aa h;rw[cQ]at aa;rcases ie.1 h with h|h
   .exact Oq aa.1 t h
   .rw[fX.1 h];exact⟨f m,o,by simpa using aa.2⟩
def X'{c:Rat}(h:gj c=false):(gu c).length<=5100:=cN (MG<|HF<|Oc h) av
theorem Y':∀{l:ac bT},(∀t∈l,t.bY.length<=5100)->ky l<=l.length*569
 |[],_=>dg _
 |t::l,h=>by
  have aE:=h t gT;have G:=Y' λu E=>h u<|e3 _ E;show t.bY.length/9+3+ky l<=(l.length+1)*569;omega
def anS{S:fm}(h:S.ok=true)(hm:S.m<=9):S.eE.bY.length<=5100/\(∀t∈S.eE.ej,t.bY.length<=5100)/\ky S.eE.ej<=5200/\S.eE.ej.length<=20:=by
 unfold fm.ok at h;rw[cQ]at h;have Y:gj S.co=false:=apH
 have G:∀t∈S.eE.ej,t.bY.length<=5100:=λt aN=>by
  obtain⟨c,e,ah⟩:=Oq h.2 t aN;rw[e];exact X' ah
 have C:S.eE.ej.length<=S.m:=Oh _ _ _ _;have N:=Y' G;refine⟨X' Y,G,?_,J⟩;have:=iZ 569<|cN C hm;omega
def Z'{S:Poly}(aj:n<=6)(aI:S.length<=1000)(aw:∀p∈S,dO (gu p.2)=0/\eI (gu p.2)=p.2):o1 (fV n S):=by
 refine⟨by show(S.map<|m2 n).length<=1048576;rw[hV];omega,λt aN=>?_⟩;obtain⟨p,hp,rfl⟩:=db.1 aN;obtain⟨Y,G⟩:=aw p hp;refine⟨?_,by show(uF n p.1).length<=1048576;rw[M' _ aj];omega⟩;show(gu p.2).length<=1048576;have C:bg 250 p.2:=by rw[<-G];exact uj _
 exact cN (MG C) av
set_option maxHeartbeats 16000000
def Ot(G:bm->Prop)(J:∀{H Z:bm},cL H Z->G H->G Z):da:=n0 G J λ(_:Unit)=>([],True,.b true)
def Ou(G:bm->Prop)(J:∀{H Z:bm},cL H Z->G H->G Z):da:=n0 G J λ((l,x):ac bT×ac c8)=>([.b8 2 bT ef l,.b8 2 c8 hG x],o1 l/\vT x,.b true)
def Dm:iA:=⟨3,0,0,0,0,0,[48]⟩
def qU:nv:=⟨0,[48],[49]⟩
def anT(l:ac bT)(x:ac c8)(r:zW)(c:ac Rat)(v k:Nat):ac nv->cg
 |[]=>⟨[.c 27<|cc r.aQ,.c 27<|cc r.af,.c 47 [.bs 2 (Int×Int) zE [(5,11)],.ae 0,.nl,.bs 7 iA og [Dm],.ae 1,.ae 1,.nl,.ae 0]],3,[(0,.b8 2 bT ef l),(1,.b8 2 c8 hG x),(5,.p 0 0),(6,.p 1 0),(7,.bs 3 dV fC r.low),(8,.bs 3 dV fC r.high),(9,.ae 0),(11,.bs 3 Rat cc c),(12,.ae (v:Int)),(14,.p 2 0),(15,.ae (k:Int))]⟩
 |y::Q=>⟨[.c 27<|cc r.aQ,.c 27<|cc r.af,.c 47 [.bs 2 (Int×Int) zE [(5,11)],.ae 0,.aL 3 3 0 (Q.length+1)<|Q.length+1,.bs 7 iA og [Dm],.ae 1,.ae 1,.nl,.ae 0],.a 49 true 3 nv s6<|y::Q],4,[(0,.b8 2 bT ef l),(1,.b8 2 c8 hG x),(5,.p 0 0),(6,.p 1 0),(7,.bs 3 dV fC r.low),(8,.bs 3 dV fC r.high),(9,.ae 0),(11,.bs 3 Rat cc c),(12,.ae (v:Int)),(14,.p 2 0),(15,.ae (k:Int))]⟩
def aaa(a:Rat):jY a a=0:=Ni.2 o
def anU{G:bm->Prop}{aI:∀{H aO:bm},cL H aO->G H->G aO}(Y:∀{H},G H->o0 H/\im H)(ad:eb cv.ctx 5 (Ot G aI).spec):eb cv.ctx 3 (Ou G aI).spec:=by
 refine KY cv.gP hv (bE [YG,(5,(Ot G aI).spec),Hw,Ol,Om,H8,lR,oW]) (a7:=bj.1) cw (λl=>jb o) ?_;intro⟨l,x⟩ ⟨(aJ:o1 l),(O:vT x)⟩ H ax F;have C:=Y F;refine st ?_;refine bn YG (l,x) ⟨aJ,O⟩ ?_ (cl:=C.2);obtain⟨r,aw⟩:∃r,r=r1 l x:=dq;refine a9 30 (zX r) o (by rw[aw];rfl) ?_;refine bf 37 ?_;by_cases T:r.e=0
 case neg=>
  refine v1 37 T ?_;refine st ?_;refine bn ad () aP ?_ (cl:=F);refine st ?_;exact fc
 refine v0 37 (hY T) ?_;refine bf 41 ?_;by_cases B:(6:Int)<(x.length:Int)
 case pos=>
  refine v1 41 B ?_;refine st ?_;refine bn ad () aP ?_ (cl:=F);refine st ?_;exact fc
 refine v0 41 B ?_;have aj:x.length<=6:=J
 refine bf 46 ?_;by_cases aY:(r.low.length:Int)=0
 case pos=>
  refine v1 46 aY ?_;refine st ?_;refine bn ad () aP ?_ (cl:=F);refine st ?_;exact fc
 refine v0 46 aY ?_;refine bf 51 ?_;by_cases K:(r.high.length:Int)=0
 case pos=>
  refine v1 51 K ?_;refine st ?_;refine bn ad () aP ?_ (cl:=F);refine st ?_;exact fc
 refine v0 51 K ?_;obtain⟨v,Z⟩:=anH aw.symm T aj;obtain⟨S,aR,w,a3⟩:=Z.low;obtain⟨iI,aS,aT,bk⟩:=Z.high;obtain⟨n,bC⟩:∃n,n=x.length:=dq;have P:=Z.ay.lt;have V:mi l x=bW x.length (eL l):=aA Z.dW;have bq:uv l x=bW (dd (eL l) x.length) (gI l x):=aA Z.dW;obtain⟨c,ah⟩:∃c,c=bW (dd (eL l) x.length) (gI l x):=dq;refine st ?_;refine bn Hw (l,x) ⟨aJ,O⟩ ?_;refine a9 57 (.br [.bs 1 Nat fL<|bW x.length<|eL l,.bs 3 Rat cc c,.ae 0]) o (by show ai.br [.bs 1 Nat fL<|mi l x,.bs 3 Rat cc<|uv l x,.ae<|kX l x]=_;rw[V,bq,Z.dW,ah]) ?_;refine st ?_;refine jh (L:=Nat) (λi=>i<=x.length) (λ(i:Nat)=>⟨[.c 27<|cc r.aQ,.c 27<|cc r.af],2,[(0,.b8 2 bT ef l),(1,.b8 2 c8 hG x),(5,.p 0 0),(6,.p 1 0),(7,.bs 3 dV fC r.low),(8,.bs 3 dV fC r.high),(9,.ae 0),(10,.bs 1 Nat fL<|bW x.length<|eL l),(11,.bs 3 Rat cc c),(12,.ae ((if v<i then v else 0:Nat):Int)),(13,.ae (i:Int))]⟩) (λi=>x.length-i) [0,1] 0 (dg _) ?_;rintro(i:Nat) (af:i<=x.length);refine bf 63 ?_;refine a9 63 (.ae (x.length:Int)) o (by rw[iv]) ?_;refine bf 64 ?_;by_cases D:i<x.length
 .refine eD 64 ?_;refine st ?_;refine iW (eL l i) (iN (n:=x.length) (i:=i) (eL l) D) o ?_;refine bf 71 ?_;by_cases a2:i=v
  .subst a2;have hp:=Z.ay.pos;refine v1 71 (show(0:Int)<((eL l i:Nat):Int) by omega) ?_;refine bf 66 ?_;refine b5 66 ((i+1:Nat):Int) ?_;refine a9 12 (.ae ((if i<i+1 then i else 0:Nat):Int)) o (by rw[aA<|nI i]) ?_;refine st ?_;exact pJ [0,1] (i+1) D
  .have aH:=Z.ay.rest i D a2;refine v0 71 (show¬(0:Int)<((eL l i:Nat):Int) by omega) ?_;refine bf 66 ?_;refine b5 66 ((i+1:Nat):Int) ?_;refine a9 12 (.ae ((if v<i+1 then v else 0:Nat):Int)) o (by
    by_cases h:v<i
    .rw[aA h,aA (show v<i+1 by omega)]
    .rw[au h,au (show¬v<i+1 by omega)]) ?_
   refine st ?_;exact pJ [0,1] (i+1) D
 have D:i=x.length:=J
 refine ee 64 ?_;refine a9 12 (.ae (v:Int)) o (by rw[D,aA P]) ?_;refine bf 75 ?_;refine kb (z:=2) 2 zE [((5:Int),(11:Int))] ?_;refine ju 74 ?_;refine bf 76 ?_;refine kb (z:=7) 3 og [Dm] ?_;refine ju 76 ?_;refine st ?_;refine jh (L:=Nat×ac nv) (λ(k,ins)=>k<=x.length/\ins=List.replicate k qU) (λ(k,ins)=>anT l x r c v k ins) (λq=>x.length-q.1) [0,1,4] (0,[]) apl ?_;rintro⟨k,ins⟩ ⟨aZ,al⟩;have aZ:k<=x.length:=aZ;have al:ins=List.replicate k qU:=al;by_cases ao:k<x.length
 .have a0:List.replicate (k+1) qU=ins++[qU]:=by rw[al];exact List.replicate_succ'
  have X:ins.length=k:=by rw[al];exact nF
  rcases ins with _|⟨y,a'⟩
  .refine bf 81 ?_;refine eD 81 ?_;refine st ?_;refine rL s6 [qU] (hg (ak:=s6) [qU] o) ?_;refine bf 83 ?_;refine b5 83 ((k+1:Nat):Int) ?_;refine st ?_;exact pJ [0,1,2,4] (k+1,[qU]) ⟨ao,a0.symm⟩
  .have bB:k=a'.length+1:=by rw[<-X];rfl
   refine bf 81 ?_;refine eD 81 ?_;refine st ?_;refine qB (ak:=s6) [qU] (hg (ak:=s6) [qU] o) ?_ (aj:=az) (aa:=by show(5*(a'.length+1+1)+1792)*41<=1125899906842624;omega);refine a9 88 (.aL _ 3 0 ((a'++[qU]).length+1)<|(a'++[qU]).length+1) o (CY az) ?_;refine bf 83 ?_;refine b5 83 ((k+1:Nat):Int) ?_;refine st ?_;exact pJ [0,1,2,5] (k+1,y::(a'++[qU])) ⟨ao,a0.symm⟩
 have ao:k=x.length:=J
 rcases ins with _|⟨y,a'⟩
 .exfalso;have:=congrArg List.length al;rw[nF]at this;have:0=k:=this;omega
 have N:y::a'=(pd x.length).ins:=by rw[al,ao];rfl
 have hle:bX (.agg [.bs 2 (Int×Int) zE [(5,11)],.ae 0,.bs 3 nv s6<|y::a',.bs 7 iA og [Dm],.ae 1,.ae 1,.nl,.ae 0]) (ll<|pd x.length):=.agg ⟨.refl _,.refl _,.of<|by rw[N],.refl _,.refl _,.refl _,bX.nl,.refl _,aP⟩;have I:N8 (pd x.length):=⟨λi af=>by rw[Iq af];exact apt,λi af=>by rw[fX.1 af];decide⟩;have bA:=Oo Z.aa;have u:∀s∈x,(s.1.length<=1048576/\s.2.length<=1048576)/\eh s.1≠none/\eh s.2≠none:=λs M=>by
  obtain⟨W,cW,_,_⟩:=On<|bA s M;refine⟨O.2 s M,?_,?_⟩
  .rw[show eh s.1=some (eI s.1)from aA W];exact Option.some_ne_none _
  .rw[show eh s.2=some (eI s.2)from aA cW];exact Option.some_ne_none _
 have an:∀s,s∈r.low\/s∈r.high->s.bY.length<=5100/\(∀t∈s.ej,t.bY.length<=5100)/\(ky s.ej<=5200/\s.ej.length<=20):=λs M=>by
  obtain⟨Q,rfl,W,cW,_,_⟩:=Z.bw s M;obtain⟨a,b,c,d⟩:=anS W cW;exact⟨a,b,c,d⟩
 refine bf 81 ?_;refine ee 81 ?_;refine La 2 3 (dP:=[.bs 2 (Int×Int) zE [(5,11)],.ae 0,.bs 3 nv s6<|y::a',.bs 7 iA og [Dm],.ae 1,.ae 1,.nl,.ae 0]) ?_ (bK:=by
  show _::_::(match Nat.beq 3 3&&(Nat.beq 3 3&&(Nat.beq 0 0&&(Nat.beq (a'.length+1) (a'.length+1)&&Nat.beq (a'.length+1) (a'.length+1))))with|true=>ai.bs 3 nv s6 (y::a')|false=>ai.aL 3 3 0 (a'.length+1)<|a'.length+1)::_=_;simp only[kA];rfl)
 refine st ?_;refine fI 91 (ll<|pd x.length) o hle ?_;refine bn Ol (pd x.length,x,r.low) ⟨I,u,λs M=>an s<|.inl M⟩ ?_ (he:=by exact⟨.refl _,.refl _,.b8,aP⟩) (cl:=C);refine a9 94 (.br [.gq 2 bT ef<|fV x.length S,.ae 0]) o (by show ai.br [.gq 2 bT ef (pb (pd x.length) x r.low).1,.ae (pb (pd x.length) x r.low).2]=_;rw[W' Z.aa aj aR]) ?_;refine st ?_;refine fI 98 (ll<|pd x.length) o hle ?_;refine bn Ol (pd x.length,x,r.high) ⟨I,u,λs M=>an s<|.inr M⟩ ?_ (he:=by exact⟨.refl _,.refl _,.b8,aP⟩) (cl:=C);refine a9 101 (.br [.gq 2 bT ef<|fV x.length iI,.ae 0]) o (by show ai.br [.gq 2 bT ef (pb (pd x.length) x r.high).1,.ae (pb (pd x.length) x r.high).2]=_;rw[W' Z.aa aj aS]) ?_;refine st ?_;have bx:=CW (eL l) x.length;have bD:c.length=dd (eL l) x.length:=by rw[ah,iv]
 have a1:c[0]? =some (gI l x 0):=by rw[ah];exact iN (n:=dd (eL l) x.length) (i:=0) (gI l x) bx
 have fA:¬jY (gI l x 0) r.aQ<0:=λh=>yg.2 Z.aQ<|Mm.1 h;have bt:¬0<jY (gI l x 0) r.af:=λh=>yg.2 Z.af<|ue.1 h;refine dR 119 (show¬(c.length:Int)=0 by omega) ?_;refine st ?_;refine tW (j:=0) (gI l x 0) a1 o ?_;refine st ?_;refine cS lR (gI l x 0,r.aQ) ⟨b0 Z.er J,b0 Z.nl J⟩ ?_;refine st ?_;refine a9 127 (.b false) o (cj<|dk fA) ?_;refine st ?_;refine tW (j:=0) (gI l x 0) a1 o ?_;refine st ?_;refine cS lR (gI l x 0,r.af) ⟨b0 Z.er J,b0 Z.Oj J⟩ ?_;refine st ?_;refine v0 134 bt ?_;have bzq:(iq x).length=x.length:=Yy Z.aa;have aU:∀{E:ac dV} {U:Poly},(∀s∈E,s∈r.low\/s∈r.high)->pY x.length (iq x) E= .ok U->(fV x.length U).length<=1000/\∀t∈fV x.length U,t.bY.length<=1073741824:=λ{E U} hm bu=>by
  have aH:=p' bzq Na (λs M=>⟨(an s<|hm s M).1,(an s<|hm s M).2.2⟩) bu;refine⟨by show(U.map<|m2 x.length).length<=1000;rw[hV];exact cN aH.l av,λt aN=>?_⟩;obtain⟨q,aD,rfl⟩:=db.1 aN;exact cN (MG<|aH.b q aD) av
 have aV:=aU (λs M=>.inl M) aR;have aX:=aU (λs M=>.inr M) aS;refine st ?_;refine bn Om (fV x.length S) aV ?_;cases aB:(fV x.length S).any pZ with
 |true=>
  refine a9 136 (.b true) o (cj aB) ?_;refine st ?_;refine bn ad () aP ?_ (cl:=F);refine st ?_;exact fc
 |false=>
 refine a9 136 (.b false) o (cj aB) ?_;refine st ?_;refine bn Om (fV x.length iI) aX ?_;cases aC:(fV x.length iI).any pZ with
 |true=>
  refine a9 139 (.b true) o (cj aC) ?_;refine st ?_;refine bn ad () aP ?_ (cl:=F);refine st ?_;exact fc
 |false=>
 refine a9 139 (.b false) o (cj aC) ?_;have aE:=O' aB;have aG:=O' aC;have a8:=Z' aj (by have:=aV.1;rw[show(fV x.length S).length=S.length from hV ..]at this;exact this) aE;have b':=Z' aj (by have:=aX.1;rw[show(fV x.length iI).length=iI.length from hV ..]at this;exact this) aG;have fk:=Q' P aj w λp hp=>(aE p hp).1;have ba:=Q' P aj aT λp hp=>(aG p hp).1;have a4:=λm=>P' P aj (kz x.length v m) S w.k λp hp=>(aE p hp).2;have a5:=λm=>P' P aj (kz x.length v m) iI aT.k λp hp=>(aG p hp).2;refine st ?_;refine jh (L:=Nat) (λm=>m<=17) (λ(m:Nat)=>⟨[.c 27<|cc r.aQ,.c 27<|cc r.af],2,[(0,.b8 2 bT ef l),(1,.b8 2 c8 hG x),(5,.p 0 0),(6,.p 1 0),(12,.ae (v:Int)),(16,.gq 2 bT ef<|fV x.length S),(18,.gq 2 bT ef<|fV x.length iI),(20,.ae (m:Int))]⟩) (λm=>17-m) [0,1] 0 (dg _) ?_;rintro(m:Nat) (hm:m<=17);refine bf 143 ?_;by_cases bb:m<17
 case neg=>
  refine ee 143 ?_;refine st ?_;refine bn ad () aP ?_ (cl:=F);refine st ?_;exact fc
 refine eD 143 ?_;have aq:m<=16:=J
 have A:=H7 x.length v m;refine st ?_;refine bn H8 (l,v,x.length,m) ⟨aJ,Z.aN,P,aj,aq⟩ ?_;refine st ?_;refine bn H8 (fV x.length S,v,x.length,m) ⟨a8,fk,P,aj,aq⟩ ?_ (he:=by exact asF);refine a9 161 (.br [bQ<|eg l (kz x.length v m) x.length l.length-r.aQ,.b true]) o (by show ai.br [bQ<|eg (fV x.length S) (kz x.length v m) x.length (fV x.length S).length,.b true]=_;rw[a4,a3]) ?_;refine st ?_;refine bn H8 (fV x.length iI,v,x.length,m) ⟨b',ba,P,aj,aq⟩ ?_ (he:=by exact asF);refine a9 170 (.br [bQ<|r.af-eg l (kz x.length v m) x.length l.length,.b true]) o (by show ai.br [bQ<|eg (fV x.length iI) (kz x.length v m) x.length (fV x.length iI).length,.b true]=_;rw[a5,bk]) ?_;have ar:bg 500000 (eg l (kz x.length v m) x.length l.length):=by
  have h:=anO (x:=kz x.length v m) (by rw[A];exact aj) (by rw[A];exact Z.aN) (U' aq) l.length<|ct _;rw[A]at h;have:=(xQ Z.aN).1;exact b0 h J
 have hD:=s3 ar Z.nl;have aM:=s3 Z.Oj ar;refine st ?_;refine cS oW (eg l (kz x.length v m) x.length l.length,r.aQ) ⟨b0 ar J,b0 Z.nl J⟩ ?_;refine st ?_;refine cS lR (eg l (kz x.length v m) x.length l.length-r.aQ,eg l (kz x.length v m) x.length l.length-r.aQ) ⟨b0 hD J,b0 hD J⟩ ?_;refine a9 188 (.ae 0) o (congrArg ai.ae<|aaa _) ?_;refine st ?_;refine cS oW (r.af,eg l (kz x.length v m) x.length l.length) ⟨b0 Z.Oj J,b0 ar J⟩ ?_;refine st ?_;refine cS lR (r.af-eg l (kz x.length v m) x.length l.length,r.af-eg l (kz x.length v m) x.length l.length) ⟨b0 aM J,b0 aM J⟩ ?_;refine a9 196 (.ae 0) o (congrArg ai.ae<|aaa _) ?_;refine bf 145 ?_;refine b5 145 ((m+1:Nat):Int) ?_;refine st ?_;exact pJ [0,1] (m+1) bb
end Go.bI.ds
namespace Go.bI.ds
open Go.bI Go.bI.kR
set_option maxRecDepth 100000
theorem aab{h:ar bG}{s:dA}:∀(os:ac (Nat×bG)),(∀R∈os,s.cC.get R.1=some R.1/\h.get R.1=some R.2/\w8 R.2 R.2 s=some s)->yT h os s=some s
 |[],_=>rfl
 |R::os,cl=>by
  obtain⟨aE,aK,C⟩:=cl R az;show bx (s.cC.get R.1) (λj=>bx (h.get j) (λp=>bx (w8 R.2 p s) (yT h os) none) none) none=_;rw[aE,Sym.et,aK,Sym.et,C];exact aab os λp hp=>cl p<|e3 _ hp
theorem H9{Q:Nat×bG->Prop}(bS:Q gX)(aK:Q cW)(M:Q tT):∀p∈kr.gs,Q p:=λp hp=>by
 have hp:p∈[gX,cW,tT]:=hp;simp at hp;rcases hp with rfl|rfl|rfl<;>assumption
def gh(H:bm):Prop:=∀p∈kr.gs,H p.1=some p.2
variable{H:bm}
def gh.up{Z:bm}(h:cL H Z)(F:gh H):gh Z:=λp hp=>h _ _<|F p hp
def aac:∀p∈kr.gs,kS.cC.get p.1=some p.1/\w8 p.2 p.2 kS=some kS:=
 H9 ⟨cw,cw⟩ ⟨cw,cw⟩ ⟨cw,cw⟩
def anV{s:dA}{gs:ac (Nat×bG)}{aC:Nat}{st:ao}{t:Bool}(ah:s.a4<=aC)(h:yT st.h gs s=some s):(⟨[],gs,[],.bool t,[],aC⟩:eu).app s [] st=some (.ret (.bool t) ⟨st.h,st.ag+(aC-s.a4)⟩ false):=by
 show bx (yT st.h gs s) _ none=_;rw[h];show cond (Nat.beq s.a4<|Nat.add s.a4 0) (cond (Nat.ble s.a4 aC) (hd (Nat.add st.ag<|Nat.sub aC s.a4) λn=>some<|ev.ret (.bool t) ⟨st.h,n⟩ false) none) none=_;rw[show Nat.beq s.a4 (Nat.add s.a4 0)=true from kA _,show Nat.ble s.a4 aC=true from Dq ah];rw[hd,kA];rfl
def anW{st:ao}(h:∀p∈kr.gs,st.h.get p.1=some p.2):kr.app kS [] st=some (.ret (.bool true) ⟨st.h,st.ag+(12721-kS.a4)⟩ false):=
 anV (by exact jb cw)<|aab kr.gs λR ay=>⟨(aac R ay).1,h R ay,(aac R ay).2⟩
def anX:eb cv.ctx 5 (Ot gh gh.up).spec:=by
 rintro ab st ⟨⟨l,H⟩,_,F,U,S⟩;subst S;refine⟨.bool true,⟨st.h,st.ag+(12721-kS.a4)⟩,?_,?_⟩
 .rintro⟨c,Z⟩ ⟨_,N,A,_⟩;have hw:∀b,st.ag+(12721-kS.a4)<=b->st.h.get b=none:=λb aa=>A.wf b J;exact aph aph
 .intro L W w D hw;exact QP aiy oT.1 oT.2.1 oT.2.2 (anW λp hp=>U.le _ _<|F p hp) L W w D hw
theorem zi{H:bm}{k:f5}:∀l:ac Int,cT H (l.map λn=>.i k n) [] (l.map λn=>Value.int k n)
 |[]=>rfl
 |n::l=>⟨_,_,o,o,zi l⟩
def anY(h:gh H):im H:=by
 refine⟨_,_,_,_,(h cW<|by show cW∈[gX,cW,tT];simp),λZ=>?_⟩;have:=zi (H:=Z) (k:=.u64)<|(List.range 20).map λk=>↑(10^k);exact this
def anZ:ac Int:=Hg.flatMap λp=>[(p.1:Int),(p.2:Int)]
def an0(h:gh H):o0 H:=by
 exact arI arI
def an1:eb cv.ctx 3 (Ou gh gh.up).spec:=anU (λh=>⟨an0 h,anY h⟩) anX
