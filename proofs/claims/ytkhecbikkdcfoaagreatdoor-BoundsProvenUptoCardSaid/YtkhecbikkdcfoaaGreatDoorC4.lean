/- What the functions of the program and of the document compute, for every input, and the plain laws of it (part 4); conditions as in the statements. -/
import Derived.Sort.Defs
import Derived.Sort.AssemblyPlain
import Derived.Test.YtkhecbikkdcfoaaGreatDoorC3
import Derived.Test.YtkhecbikkdcfoaaGreatDoorS3
import Derived.Test.YtkhecbikkdcfoaaGreatDoorC2
import Derived.Test.YtkhecbikkdcfoaaGreatDoorC1
noncomputable section
set_option linter.all false
namespace Go.bI.ds
open Go.bI
set_option maxRecDepth 100000
set_option maxHeartbeats 4000000
def g8(l:ac Nat):Nat:=l.foldr (· +·) 0
def Nv(l m:ac Nat):g8 (l++m)=g8 l+g8 m:=by
 induction l with
 |nil=>simp[g8]
 |cons a l U=>show a+g8 (l++m)=a+g8 l+g8 m;omega
theorem Nw{B:Nat}:∀{l:ac Nat},(∀n∈l,n<=B)->g8 l<=l.length*B
 |[],_=>dg _
 |a::l,h=>by
  have aE:=Nw λn aj=>h n<|e3 _ aj;have G:=h a gT;show a+g8 l<=(l.length+1)*B;rw[fP];omega
theorem YZ:b4 128 (cR λ(l:ac Nat)=>([.bs 1 Nat fL l],l.length<=1000/\∀n∈l,n<=1000000,.ae (g8 l:Nat))):=by
 refine cJ [] LP.1 ?_;intro(l:ac Nat) ⟨aI,aa⟩ H ax;have O:∀i,g8 (l.take i)<=1000000000:=λi=>by
  have Y:=Nw (l:=l.take i) λn aj=>aa n<|wg aj;have G:(l.take i).length<=1000:=by grind
  omega
 refine vH (λi=>i<=l.length) (λ(i:Nat)=>⟨[],0,[(5,.bs 1 Nat fL l),(6,.ae l.length),(7,.ae i),(2,.ae (g8 (l.take i):Nat))]⟩) (λi=>l.length-i) [] 0 (dg _) ?_;rintro i af;refine Cr (λh=>?_) λh=>?_
 .have h:i<l.length:=by omega
  have aj:=aa _<|eO h;have Y:=O i;have e:g8 (l.take<|i+1)=g8 (l.take i)+l[i]:=by
   rw[om h,Nv];simp[g8]
  exact U 6<|iW l[i] (ba h) o<|U 16<|bL [] (i+1) ⟨J,J⟩ (Cd apC)
 .have h:i=l.length:=by omega
  refine zm ?_
  grind [g8]
def alK(K:ac (Nat×dT)){f:d8}(a7:c7){S:PP}(i:Nat)(D:∀l v,S.out l= .aY v->∀(ad T:bN) (u:bv),bo T v u->bo ad v u)
 (h:∀l,S.pre l->∀H ax ab,S.hp H->Fit H [] ax [] 0->cT H (S.args l) [] ab->∃bJ:ac ai,cT H bJ [] ab/\jg ⟨cf aV (cm cv.ctx<|bE K)<|bz+1,bz+1,f,H,[],ax,LD S l ab i H a7.res⟩ a7.body ⟨[],0,iJ 0 bJ⟩)
 (dF:aV.get f=some a7:=by kernel_rfl) (aI:∀l,(S.args l).length<=a7.aR:=by exactλ_=>jb o):l9 cv.ctx f S.spec:=afZ cv.gP hv (bE K) dF i aI D h
def aM.n(k:aM):ac Nat:=[k.a,k.b,k.c,k.d,k.e,k.f]
def aM.o7(k:aM):Nat:=g8 k.n
def k1(f:Poly):Bool:=decide (f.length<=200)&&f.all λp=>decide (p.1.o7<=16)
def uA(f:Poly):sV:=if k1 f=true then .ret (.g<|fU<|fe f)else .aY (eT 3)
def Y0:PP where
 L:=Poly
 args:=λf=>[.g<|fU<|fe f]
 pre:=λf=>f.eM/\(∀p∈f,p.1.gR)/\f.length<=1000000
 out:=uA
theorem vY:l9 cv.ctx 91 Y0.spec:=by
 refine alK [(87,z4),YZ] UF.1 0 ?_ ?_
 .intro f v h ad aF u ah;have h:uA f= .aY v:=h;unfold uA at h;split at h
  .cases h
  .cases h;exact by
    cases ah with
    |iface _ _ w ah=>
     refine .iface _ _ _ ?_;cases ah with
     |agg xs ak Y G=>
      obtain⟨ak⟩:=ak;obtain⟨y,aJ,rfl,q,aw⟩:=(bO.va Y G).cons_inv;have:=aw.rh;subst this;cases q;exact bo.sv<|bO.cons (.int _ _)<|bO.nil _
 rintro(f:Poly) ⟨D,T,aA⟩ H ax ab _ aB cd;obtain⟨v1,aK,rfl,W,d4⟩:=cd;subst d4;have F:=W;obtain⟨dX,ag,al,rfl,ae,R⟩:=W;have aE:(fe f).length=f.length:=by unfold fe;rw[hV]
 refine⟨[.v<|.map<|some dX],arn,?_⟩;refine ik<|gO ?_;refine U 3<|bh ?_;by_cases G:f.length<=200
 case neg=>
  have ai:uA f= .aY (eT 3):=by unfold uA k1;rw[dk G];rfl
  refine ik<|gO ?_;exact U 2<|SY (SJ ae R) (U 1<|ee 6<|lh jz (false,3) aP (eT 3) o<|bh (.inr ⟨_,o,ai⟩))
 refine ik<|gO ?_;refine U 2<|SY (SJ ae R) ?_;refine U 1<|eD 6<|mH jz (true,3) aP (.br []) o<|U 1<|bh ?_;refine zg (L:=Unit) (λ_=>f.all (λp=>decide (p.1.o7<=16))=true) (λ_=>⟨[],0,[(0,.v<|.map<|some dX)]⟩) ?_ ?_
 .refine ik<|gO ?_;refine U 2<|xD ae ?_;refine U 1<|bh ?_;refine vA ?_;refine xy (λ(A,a')=>(∀s∈A,s<al)/\(∀m∈ag,m.born∈A↔∃k∈a',m.key=eG k)/\∀k∈a',k.o7<=16)
   (λ(A,a')=>⟨[.g<|mJ dX al A],1,[(0,.v<|.map<|some dX),(9,.p 0 0)]⟩)
   (λl=>left ag l.1) [0] ([],[]) ⟨apZ,(λm _=>aoU),λk h=>by cases h⟩ ?_ cr ?_
  .show left ag []<bz+1;have Y:=z2 ag [];have G:=R.len;unfold bz;omega
  rintro⟨A,a'⟩ ⟨B,V,aq⟩;refine ik<|vB o o ae B (λm hm az=>?_) λaH=>?_
  .refine U 2<|bh ?_;refine gO ?_;refine U 7 ?_;obtain⟨p,hp,u,v,w,Y,G,C,N⟩:=vV R hm;refine xE (mY p.1) (bQ p.2) ae hm R.jM (R.born m hm) (λZ _=>?_) (λZ hle=>?_) ?_
   .exact apJ
   .exact atk
   refine U 6<|kb 1 fL p.1.n ?_;refine e6 (zd o o o o (dg _) J qo) ?_;refine ju 14 ?_ (aj:=show p.1.n.length=6-0 from rfl);refine bn YZ p.1.n ⟨by show 6<=1000;decide,λn aj=>?_⟩ ?_
   .have aa:=T p hp;unfold aM.gR at aa;unfold aM.n at aj;simp at aj;omega
   by_cases aN:p.1.o7<=16
   .refine U 1<|a9 16 (.b true) o (cj (c9<|by unfold aM.o7 at aN;omega))<|mH jz (true,3) aP (.br []) o<|U 2<|bh ⟨[0],(A++[m.born],a'++[p.1]),⟨xT hm az,λs M=>?_,λO ao=>xV R hm ao Y<|V O ao,λk E=>?_⟩,iz ⟨o,o,aP⟩ fJ⟩
    .rcases ie.1 M with M|M
     .exact B s M
     .rw[fX]at M;rw[M];exact R.born m hm
    .rcases ie.1 E with E|E
     .exact aq k E
     .rw[fX]at E;rw[E];exact aN
   .have ai:uA f= .aY (eT 3):=by
     grind [uA,k1]
    exact U 1<|a9 16 (.b false) o (cj (dk<|by unfold aM.o7 at aN;omega))<|lh jz (false,3) aP (eT 3) o<|U 1<|bh (.inr ⟨_,o,ai⟩)
  .have e:f.all (λp=>decide (p.1.o7<=16))=true:=ja.2 λq aD=>by
    grind [vW,key_inj]
   refine U 2<|bh ?_;refine gO ?_;exact U 4<|bh (⟨[],(),e,Cd ⟨o,aP⟩⟩)
 rintro⟨⟩ ay;exact gO<|U 7<|bh (.inl ⟨.inr o,_,_,o,o,by show uA f=_;unfold uA k1;rw[c9 G,ay];rfl,F⟩)
def bX.Y1{ms o:ac (bv×ai)}(h:qF ms o):bX (.g<|fU ms) (.g<|fU o):=λ_ _ _ ⟨r,L,c,e,T,d⟩=>⟨r,L,c,e,T,d.SO h⟩
theorem Nx{cp:Nat}{L:gL}:∀P:Poly,qF (fE cp L P) (fe P)
 |[]=>trivial
 |p::P=>⟨o,YQ,Nx P⟩
def aM.zero:aM:=⟨0,0,0,0,0,0⟩
def Ny:b4 95 (cR λ(x:Rat)=>([bQ x],bg 268435456 x,.g<|fU<|fe<|eA [] aM.zero x)):=by
 apply cJ [(89,z0.jT y1)] T4.1;intro x dF H ax;refine U 8<|Cq ?_;refine U 8<|afY C0 1 (ax.ag,λ_=>none,[],aM.zero,x) ⟨List.Pairwise.nil,ao7,by unfold aM.gR aM.zero;decide,dF⟩ (ct _) ?_;exact U 5<|Ls 9 (zl<|bX.Y1<|Nx _)
def aM.var(i:Nat):aM:=⟨if i=0 then 1 else 0,if i=1 then 1 else 0,if i=2 then 1 else 0,if i=3 then 1 else 0,if i=4 then 1 else 0,if i=5 then 1 else 0⟩
section
variable{an:e2}{K:ac dC}{own bk:ac a0}{aC:Nat}{e:bV}
variable{l:ac (bt×cz)}{bl:ac a0}{bc:bV}{a4 b3:Nat}{ms:ac (bv×ai)}
def Nz{d:Tmp}{aF:ac Tmp}(k:bP.ok an ⟨K,.d l bl (jt d bc) a4 b3,⟨bk,aC+1,(d,.mp aC)::e⟩⟩)(ay:ma own (.g<|h8 []) some=some bk:=by rfl):bP.ok an ⟨K,.d ((⟨some d,.p6,none⟩,.hM aF)::l) bl bc a4 b3,⟨own,aC,e⟩⟩:=by
 have:=mE ay;cases this;refine Rz (λH u st I U D=>?_) o k;have V:u.length=aC:=U.len;refine⟨.map<|some st.ag,_,u++[st.ag],?_,(U.add ⟨[],0,o,SK _⟩),⟨st.ag,by rw[<-V];simp,o⟩,ck.app _ _,λ_ _ _ B=>B.add _,kB _,λb aa _=>tJ aa⟩;have e:bD an.call .p6 I st=st.iD (.map [] 0) λid st=>.ok (.map<|some id) I st:=rfl;rw[e,gV]
def alL{cn:fR}{m k v:ce}{j:Nat}{aa a:ai}{a':bv}(o:ac (bv×ai))(E:xA ms a' a o)(aj:vD aa a')(ah:∀p∈ms,cn.ok p.1=true)(bE:bP.ok an ⟨K,.d l (bl.map λ_=>.x) bc (a4+1) aC,⟨bk,aC,e⟩⟩)(hm:bb e m=some (.mp j):=by rfl)(a3:own[j]? =some (.g<|h8 ms):=by rfl)
 (aB:bb e k=some aa:=by rfl) (ae:bb e v=some a:=by rfl) (fO:h3 a=true:=by rfl) (jx:cn.ok a'=true:=by rfl) (ay:gN own j (.g<|h8 o) some=some bk:=by rfl):bP.ok an ⟨K,.d ((⟨none,.ext<|.fl cn m k v,none⟩,.dJ)::l) bl bc a4 b3,⟨own,aC,e⟩⟩:=by
 have:=hR ay;cases this;refine Gd (a:=.br []) (λH u st I O U D=>?_) bE;obtain⟨v1,al,F,Z,Y,G,C,N,J,B,M,_⟩:=(SL hm a3 aB aj ae fO jx ah E) H u st I U D;exact⟨v1,al,F,Z,Y,G,C,N,J,B _ _ _ O,M⟩
def alM(t:Nat){c:dz}{k:Nat}(bE:bP.ok an ⟨K,.c c,⟨bk,aC,(t,.g<|fU ms)::e⟩⟩)(aN:dx e t=some (.mp k):=by rfl)(aB:own[k]? =some (.g<|h8 ms):=by rfl)(ay:gN own k .x some=some bk:=by rfl):bP.ok an ⟨K,.c c,⟨own,aC,e⟩⟩:=by
 cases hR ay;intro H u st I O U D;have⟨b,V,B⟩:=D.get t _ aN;have⟨⟨es,clock,bj,d⟩,_⟩:=U.own k _ b aB V;have hle:=rJ U aB o V;refine bE (fs H st b) u st I (O.fs U aB o V) (U.fs aB o V) ⟨(D.mono hle aoN).pl,λj q A=>?_⟩;rw[mD]at A;cases E:Nat.beq t j with
 |false=>exact ata
 |true=>
  rw[E]at A;cases A;rw[<-dy E];exact⟨b,es,clock,B,by rw[fs];rw[aA o];exact bj,d.mono hle⟩
end
variable{s:ac ci}{x:Rat}{l:ac Int}
def alN{k:aM}{a:ai}:xA [] (eG k) a [(eG k,a)]:=⟨az,az,ao7,(λp hp=>by simp at hp;exact .inl hp),o⟩
def Y2:b4 93 (cR λ(i:Nat)=>([.ae (i:Int)],i<6,.g<|fU<|fe [(aM.var i,1)])):=by
 refine cJ [jk] T3.1 ?_;intro(i:Nat) (af:i<6) H ax;rcases(show i=0\/i=1\/i=2\/i=3\/i=4\/i=5 by omega)with rfl|rfl|rfl|rfl|rfl|rfl
 all_goals
  refine U 15<|e6 (tR o o av) ?_;refine U 5<|cS jk (1:Int) apt<|Nz ?_;refine U 1<|alL [(eG ⟨_,_,_,_,_,_⟩,bQ 1)] alN (xS _) ao7 ?_ (jx:=qQ<|by unfold aM.gR;decide);refine U 2<|gF o ?_;refine alM 2 ?_;exact U 1<|fc
def eh(s:ac ci):be Rat:=if dO s=0 then some (eI s)else none
theorem C4(h:eh s=some x):dO s=0/\eI s=x:=by grind [eh]
def Y3(h:eh s=none):dO s≠0:=λe=>by
 rw[eh]at h;rw[aA e]at h;cases h
def alO(h:eh s=some x):hF s=some x:=by
 have⟨Y,G⟩:=C4 h;rw[eI]at G;rw[aA Y]at G;rw[dO]at Y;split at Y
 case isFalse=>cases Y
 split at Y
 case isTrue=>cases Y
 split at Y
 case isFalse=>cases Y
 rename_i M;have⟨y,N⟩:=Am.1 M;rw[N]at G⊢;rw[<-G];rfl
def HF(h:eh s=some x):bg 250 x:=by
 rw[<-(C4 h).2];exact uj s
def alP(h:eh s=some x):nu s= .br [bQ x,.ae 0]:=by rw[nu];rw[(C4 h).1,(C4 h).2]
def alQ(h:eh s=none):nu s= .br [bQ 0,.ae<|dO s]:=by rw[nu];rw[Hb<|Y3 h]
def C5(s:ac ci):sV:=match eh s with
 |some x=>.ret (bQ x)
 |none=>.aY<|eT<|dO s
def C6(h:eh s=some x):C5 s= .ret (bQ x):=by rw[C5];rw[h]
def NA(h:eh s=none):C5 s= .aY (eT<|dO s):=by rw[C5];rw[h]
def HG:PP where
 L:=ac ci
 args:=λs=>[.s s]
 pre:=λs=>s.length<=1048576
 out:=C5
def z5:l9 cv.ctx 88 HG.spec:=by
 apply z3 [s5,(36,Nu)] UE.1;intro s M H ax _;cases h:eh s with
 |some x=>
  exact U 8<|bn s5 s M<|a9 7 (.br [bQ x,.ae 0]) o (alP h)<|U 11<|mH HE (0:Int) aP (.br []) o<|U 9<|bh (vy o o (C6 h) asz)
 |none=>
  exact U 8<|bn s5 s M<|a9 7 (.br [bQ 0,.ae<|dO s]) o (alQ h)<|U 11<|lh HE (dO s) aP (eT<|dO s) (au<|Y3 h)<|U 1<|bh (kQ<|NA h)
def o8(l:ac Int)(j i:Nat):Int:=if i<j then l.getD i 0 else 0
def C7(l:ac Int)(j:Nat):ac ai:=[.ae<|o8 l j 0,.ae<|o8 l j 1,.ae<|o8 l j 2,.ae<|o8 l j 3,.ae<|o8 l j 4,.ae<|o8 l j 5]
def mZ(l:ac Int):aM:=⟨(l.getD 0 0).toNat,(l.getD 1 0).toNat,(l.getD 2 0).toNat,(l.getD 3 0).toNat,(l.getD 4 0).toNat,(l.getD 5 0).toNat⟩
def vZ(l:ac Int):Bool:=l.all λk=>decide (0<=k/\k<=16)
theorem alR{j:Nat}(h:j<l.length){i:Nat}:o8 l (j+1) i=if i=j then l[j]else o8 l j i:=by
 grind [o8]
def NB(h:vZ l=true)(j i:Nat):0<=o8 l j i/\o8 l j i<=16:=by
 rw[o8];split
 .rw[wv];cases e:l[i]? with
  |none=>exact apt apt
  |some x=>
   have:=ja.1 h x<|fQ e;exact jD this
 .exact apt apt
theorem NC(h:vZ l=true)(i:Nat):((l.getD i 0).toNat:Int)=o8 l l.length i:=by
 have G:=NB h (i+1) i
 grind [o8]
def alS(h:vZ l=true):ai.agg (C7 l l.length)=mY (mZ l):=by
 show _=ai.agg [_,_,_,_,_,_];unfold C7 mZ;simp only[NC h]
def uB(n:Nat)(t:bT):Bool:=decide (t.cF.length=n)&&vZ t.cF&&decide ((mZ t.cF).o7<=16)
def qR(n:Nat)(t:bT):sV:=match eh t.bY with
 |some x=>if uB n t=true then .ret (.br [mY<|mZ t.cF,bQ x])else .aY (eT 7)
 |none=>.aY<|eT<|dO t.bY
def Y4:PP where
 L:=hx×bT
 args:=λ(p,t)=>[ll p,.agg<|ef t]
 pre:=λ(p,t)=>t.bY.length<=5100/\p.ins.length<=6
 out:=λ(p,t)=>qR p.ins.length t
theorem Y5:b4 128 (kP λ(l:ac Nat)=>([.a 168 false 1 Nat fL l],[.aL 0 1 0 l.length l.length],l.length<=1000/\∀n∈l,n<=1000000,[.a 168 false 1 Nat fL l],.ae (g8 l:Nat))):=by
 refine kT [] LP.1 ?_;intro(l:ac Nat) ⟨aI,aa⟩ H i0 ax af;obtain⟨B,rfl⟩:∃b,i0=[b]:=m7.1 af;have O:∀i,g8 (l.take i)<=1000000000:=λi=>by
  have Y:=Nw (l:=l.take i) λn aj=>aa n<|wg aj;have G:(l.take i).length<=1000:=by grind
  omega
 refine vH (λi=>i<=l.length) (λ(i:Nat)=>⟨[.a 168 false 1 Nat fL l],1,[(5,.aL 0 1 0 l.length l.length),(6,.ae l.length),(7,.ae i),(2,.ae (g8 (l.take i):Nat))]⟩) (λi=>l.length-i) [0] 0 (dg _) ?_;rintro i af;refine Cr (λh=>?_) λh=>?_
 .have h:i<l.length:=by omega
  have aj:=aa _<|eO h;have Y:=O i;have e:g8 (l.take<|i+1)=g8 (l.take i)+l[i]:=by
   rw[om h,Nv];simp[g8]
  refine U 6<|n1 ?_;refine n2 l[i] (show l[0+i]? =some l[i] by rw[jn];exact ba h) ?_;exact U 15<|bL [0] (i+1) ⟨J,J⟩ (cr (aK:=apC))
 .have h:i=l.length:=by omega
  refine U 12<|bh ⟨.inr o,⟨_,o,o,.of ?_⟩,[0],o,iz aP jU⟩
  grind [g8]
def Y6:l9 cv.ctx 90 Y4.spec:=by
 refine z3 [(88,HG),(87,z4),Y5] Vd.1 ?_;rintro⟨p,t⟩ ⟨(ah:t.bY.length<=5100),(hp:p.ins.length<=6)⟩ H ax _;cases dF:eh t.bY with
 |none=>
  exact U 12<|lh z5 t.bY (cN ah av) (eT<|dO t.bY) (NA dF)<|U 1<|bh (kQ<|by show qR _ _=_;unfold qR;rw[dF])
 |some x=>
 have bad:uB p.ins.length t≠true->qR p.ins.length t= .aY (eT 7):=λh=>by unfold qR;rw[dF];exact au h
 refine U 12<|mH z5 t.bY (cN ah av) (bQ x) (C6 dF)<|U 12 ?_;by_cases aI:t.cF.length=p.ins.length
 case neg=>
  exact ee 17<|lh jz (false,7) aP (eT 7) o<|U 1<|bh (kQ (bad<|by unfold uB;rw[dk aI];simp))
 refine eD 17<|mH jz (true,7) aP (.br []) o<|U 12<|dN (L:=Nat) (λj=>j<=t.cF.length/\vZ (t.cF.take j)=true) (λ(j:Nat)=>⟨[.c 47<|oZ p,.c 90<|ef t,.c 168<|C7 t.cF j,.c 27<|cc x],4,[(4,.p 2 0),(5,.p 3 0),(20,.b8 1 Int h9 t.cF),(21,.ae t.cF.length),(22,.ae (j:Nat))]⟩) (λj=>t.cF.length-j) [0,1,2,3] 0 apl asq cb ?_;rintro(j:Nat) ⟨D,aw⟩;refine Cr (λh=>?_) λh=>?_
 .have h:j<t.cF.length:=by omega
  have O:t.cF≠[]:=λe=>by rw[e]at h;exact m6 _ h
  refine fI 20 (.bs 1 Int h9 t.cF) o (.iH O)<|U 7<|iW t.cF[j] (ba h) o<|fI 20 (.b8 1 Int h9 t.cF) rfl .b8<|U 9 ?_;have u:¬(0<=t.cF[j]/\t.cF[j]<=16)->qR p.ins.length t= .aY (eT 7):=λaj=>bad λe=>by
   unfold uB at e;rw[cQ,cQ]at e;exact aj<|jD<|ja.1 e.1.2 _<|eO h
  by_cases T:0<=t.cF[j]
  case neg=>
   exact ee 28<|U 4<|lh jz (false,7) aP (eT 7) o<|U 6<|bh (kQ<|u λe=>T e.1)
  refine eD 28<|U 5 ?_;by_cases R:t.cF[j]<=16
  case neg=>
   exact ee 31<|U 1<|lh jz (false,7) aP (eT 7) o<|U 6<|bh (kQ<|u λe=>R e.2)
  refine eD 31<|U 1<|mH jz (true,7) aP (.br []) o<|U 5 ?_;have W:vZ (t.cF.take<|j+1)=true:=by
   unfold vZ at aw⊢;rw[om h,D3,aw,x7,List.all_nil,c9 ⟨T,R⟩];rfl
  rcases(show j=0\/j=1\/j=2\/j=3\/j=4\/j=5 by omega)with rfl|rfl|rfl|rfl|rfl|rfl
  all_goals
   refine e6 (tR o o av) ?_;refine U 8 ?_;refine bL [0,1,2,3] (_+1) ⟨by show _-(_+1)<_-_;omega,h,W⟩<|cr (aE:=⟨fJ,fJ,⟨_,o,?_⟩,fJ,aP⟩);unfold C7;simp only[alR h];rfl
 .have h:j=t.cF.length:=by omega
  rw[h,nG]at aw;have E:=alS aw;rw[<-h]at E;have E:C7 t.cF j=(mZ t.cF).n.flatMap fL:=ai.agg.inj E;rw[E];refine U 7<|kb 2 fL (mZ t.cF).n ?_;refine e6 (zd (p:=0) (q:=6) o o o o (dg _) J qo) ?_;refine lN Y5 2 (mZ t.cF).n ⟨by show 6<=1000;decide,λn aj=>?_⟩ ?_
  .show n<=1000000;have aa:=λi=>NB aw t.cF.length i;have A:=λi=>NC aw i;have T:=aa 0;have Y:=aa 1;have G:=aa 2;have C:=aa 3;have N:=aa 4;have B:=aa 5;rw[<-A]at T Y G C N B;unfold aM.n mZ at aj;simp only[fg,List.not_mem_nil,or_false]at aj;omega
  refine R9 2 ?_;refine U 1 ?_;by_cases R:(mZ t.cF).o7<=16
  case neg=>
   refine a9 40 (.b false) o (cj (dk<|by show¬((g8 (mZ t.cF).n:Nat):Int)<=16;unfold aM.o7 at R;omega))<|lh jz (false,7) aP (eT 7) o<|U 1 ?_;exact bh (kQ (bad λe=>by
    unfold uB at e;rw[cQ,cQ]at e;exact R<|jD e.2))
  refine a9 40 (.b true) o (cj (c9<|by show((g8 (mZ t.cF).n:Nat):Int)<=16;unfold aM.o7 at R;omega))<|mH jz (true,7) aP (.br []) o<|U 11 ?_;refine bh (vy o o (show qR _ _= .ret (.br [mY<|mZ t.cF,bQ x]) by
   unfold qR uB;rw[dF];exact aA<|by rw[c9 aI,aw,c9 R];rfl) asz)
abbrev g9:=Rat×Rat
variable{k:Nat}{t:bT}{a:Rat}{v:Nat}{gJ:aM×Rat}{P:Poly}
def mm(s:g9):ac ai:=cc s.1++cc s.2
def ia:ac c8->be (ac g9)
 |[]=>some []
 |s::l=>match eh s.1 with
  |some a=>(match eh s.2 with
   |some b=>(ia l).map ((a,b)::·)
   |none=>none)
  |none=>none
def uC(ab:ac g9):Bool:=ab.all λv=>decide (¬v.2<v.1)
def xX(n:Nat)(l:ac c8):sV:=if l.length=n then(match ia l with
 |some ab=>if uC ab=true then .ret (.bs 6 g9 mm ab)else .aY (eT 7)
 |none=>.aY<|eT 6)else .aY (eT 2)
def alT{s:c8}{l:ac c8}{ab:ac g9}{b:Rat}(bK:eh s.1=some a)(aa:eh s.2=some b):(ia<|s::l).map (ab++·)=(ia l).map ((ab++[(a,b)])++·):=by
 have e:ia (s::l)=(ia l).map ((a,b)::·):=by
  show(match eh s.1 with|some a=>(match eh s.2 with|some b=>(ia l).map ((a,b)::·)|none=>none)|none=>none)=_;rw[bK,aa]
 rw[e];cases ia l with
 |none=>rfl
 |some w=>show some (ab++(a,b)::w)=some ((ab++[(a,b)])++w);rw[D2];rfl
def Y7{s:c8}{l:ac c8}(bK:eh s.1=none):ia (s::l)=none:=by
 show(match eh s.1 with|some a=>(match eh s.2 with|some b=>(ia l).map ((a,b)::·)|none=>none)|none=>none)=_;rw[bK]
def Y8{s:c8}{l:ac c8}(bK:eh s.1=some a)(aa:eh s.2=none):ia (s::l)=none:=by
 show(match eh s.1 with|some a=>(match eh s.2 with|some b=>(ia l).map ((a,b)::·)|none=>none)|none=>none)=_;rw[bK,aa]
theorem ND:∀{l:ac c8} {ab:ac g9},ia l=some ab->∀v∈ab,bg 250 v.1/\bg 250 v.2
 |[],ab,h,v,Z=>by cases h;cases Z
 |s::l,ab,h,v,Z=>by
  cases bK:eh s.1 with
  |none=>rw[Y7 bK]at h;cases h
  |some a=>
   cases aa:eh s.2 with
   |none=>rw[Y8 bK aa]at h;cases h
   |some b=>
    have e:ia (s::l)=(ia l).map ((a,b)::·):=by
     show(match eh s.1 with|some a=>(match eh s.2 with|some b=>(ia l).map ((a,b)::·)|none=>none)|none=>none)=_;rw[bK,aa]
    rw[e]at h;cases hw:ia l with
    |none=>rw[hw]at h;cases h
    |some w=>
     rw[hw]at h;cases h;obtain rfl|Z:=fg.1 Z
     .exact⟨HF bK,HF aa⟩
     .exact ND hw v Z
theorem Y9{y:Rat}:jY x y<=0↔¬y<x:=by
 grind [jY]
def Za:PP where
 L:=hx×ac c8
 args:=λ(p,l)=>[ll p,.b8 2 c8 hG l]
 pre:=λ(p,l)=>p.ins.length<=6/\∀s∈l,(s.1.length<=1048576/\s.2.length<=1048576)/\eh s.1≠none/\eh s.2≠none
 out:=λ(p,l)=>xX p.ins.length l
def alU(l:ac c8)(k:Nat):ac g9->cg
 |[]=>⟨[],0,[(16,.b8 2 c8 hG l),(17,.ae (l.length:Int)),(18,.ae (k:Nat)),(4,.nl)]⟩
 |v::ab=>⟨[.a 175 true 6 g9 mm<|v::ab],1,[(16,.b8 2 c8 hG l),(17,.ae (l.length:Int)),(18,.ae (k:Nat)),(4,.aL 0 6 0 (ab.length+1)<|ab.length+1)]⟩
def Zb:l9 cv.ctx 38 Za.spec:=by
 refine z3 [(88,HG),(87,z4),lR] Uv.1 ?_;rintro⟨p,l⟩ ⟨(hp:p.ins.length<=6),(M:∀s∈l,(s.1.length<=1048576/\s.2.length<=1048576)/\eh s.1≠none/\eh s.2≠none)⟩ H ax _;refine U 14 ?_;by_cases aI:l.length=p.ins.length
 case neg=>
  exact ee 14<|lh jz (false,2) aP (eT 2) o<|U 1<|bh (kQ (show xX _ l=_ from au aI))
 have A:∀{R:sV},(match ia l with
  |some ab=>if uC ab=true then sV.ret (.bs 6 g9 mm ab)else .aY (eT 7)
  |none=>.aY<|eT 6)=R->xX p.ins.length l=R:=λh=>(aA aI).trans h
 refine eD 14<|mH jz (true,2) aP (.br []) o<|U 11<|dN (L:=Nat×ac g9) (λ(k,ab)=>k<=l.length/\ab.length=k/\ia l=(ia<|l.drop k).map (ab++·)) (λ(k,ab)=>alU l k ab) (λx=>l.length-x.1) [] (0,[]) ⟨dg _,o,by rw[kC];cases ia l<;>rfl⟩ aoT cb ?_;rintro⟨k,ab⟩ ⟨E,Y,dY⟩;by_cases aT:k<l.length
 .have hm:=M l[k]<|ha aT;have B:l≠[]:=λe=>by rw[e]at aT;exact m6 _ aT
  rw[hL aT]at dY;rcases ab with _|⟨v,ab⟩<;>(
   refine U 3<|eD 19<|fI 16 (.bs 2 c8 hG l) o (.iH B)<|U 10<|iW l[k] aq6 o<|fI 16 (.b8 2 c8 hG l) rfl .b8 ?_;refine st ?_;cases D:eh l[k].1 with
   |none=>exact absurd D hm.2.1
   |some a=>
   refine xu z5 l[k].1 hm.1.1 (bQ a) (C6 D)<|st ?_;cases aa:eh l[k].2 with
   |none=>exact absurd aa hm.2.2
   |some b=>
   refine xu z5 l[k].2 hm.1.2 (bQ b) (C6 aa)<|U 3 ?_;have u:=dY.trans (alT D aa)
   (try refine Lf mm [(a,b)] (hg (ak:=mm) [(a,b)] o) ?_);(try refine Lg (ak:=mm) [(a,b)] (hg (ak:=mm) [(a,b)] o) ?_ (aj:=az) (aa:=by show(5*(ab.length+1+1)+1792)*113<=1125899906842624;have:=Y;simp only[iQ]at this;omega))
   refine U 6<|b5 32 ((k+1:Nat):Int)<|U 2 ?_
   first
    |exact bL [2] (k+1,[(a,b)]) ⟨by show l.length-(k+1)<l.length-k;omega,aT,by have:=Y;simp only[Im]at this;show 0+1=k+1;omega,u⟩ cr
    |exact bL [3] (k+1,_::(_++[(a,b)])) ⟨by show l.length-(k+1)<l.length-k;omega,aT,by have:=Y;simp only[iQ]at this;simp;omega,u⟩<|cr (aK:=⟨o,o,o,congrArg (λk=>some<|ai.aL 3 6 0 k k) az,aP⟩))
 .have V:k=l.length:=by omega
  subst V;have dY:ia l=some ab:=by
   rw[dY,wm];show some (ab++[])=_;rw[wi]
  have O:uC ab≠true->xX p.ins.length l= .aY (eT 7):=λh=>A (by rw[dY];exact au h);have q:uC ab=true->xX p.ins.length l= .ret (.bs 6 g9 mm ab):=λh=>A (by rw[dY];exact aA h);rcases ab with _|⟨v,ab⟩
  .refine U 3<|ee 19<|U 18<|dN (L:=Unit) (λ_=>True) (λ_=>⟨[],0,[(35,.ae 0),(34,.ae 0),(4,.nl)]⟩) (λ_=>0) [] () aP (by show 0<bz+1;unfold bz;decide) cb ?_;rintro _ _;exact U 19<|bh (vy o o (q o) bX.nl)
  .refine U 3<|ee 19<|U 18<|dN (L:=Nat) (λi=>i<=ab.length+1/\uC ((v::ab).take i)=true) (λ(i:Nat)=>⟨[.a 175 true 6 g9 mm<|v::ab],1,[(35,.ae (i:Nat)),(34,.ae ((ab.length+1:Nat):Int)),(33,.aL 0 6 0 (ab.length+1)<|ab.length+1),(4,.aL 0 6 0 (ab.length+1)<|ab.length+1)]⟩) (λi=>ab.length+1-i) [0] 0 apl (by show ab.length+1-0<bz+1;have:=Y;simp only[iQ]at this;unfold bz;omega) cb ?_;rintro(i:Nat) ⟨af,aa⟩;refine Cr (λh=>?_) λh=>?_
   .have h:i<(v::ab).length:=by show i<ab.length+1;omega
    refine U 6<|n1 ?_;refine Ga (v::ab)[i] (show(v::ab)[0+i]? =some (v::ab)[i] by rw[jn];exact ba h) ?_;have aj:=ND dY _<|ha h;refine U 9<|bn lR ((v::ab)[i].1,(v::ab)[i].2) ⟨b0 aj.1,b0 aj.2⟩<|U 1 ?_;by_cases ah:(v::ab)[i].2<(v::ab)[i].1
    .refine v0 44 (λg=>Y9.1 g ah) ?_;exact lh jz (false,7) aP (eT 7) o<|U 5<|bh (kQ<|O λe=>jD (ja.1 e _<|ha h) ah)
    .refine v1 44 (Y9.2 ah)<|mH jz (true,7) aP (.br []) o<|U 7<|bL [0] (i+1) ⟨by show ab.length+1-(i+1)<ab.length+1-i;omega,J,?_⟩ cr;unfold uC at aa⊢;rw[om h,D3,aa,x7,List.all_nil,c9 ah];rfl
   .have h:i=(v::ab).length:=by show i=ab.length+1;omega
    rw[h,nG]at aa;refine U 8<|ju 47 ?_;exact U 4<|bh (vy o o (q aa) asz)
def alV(h:v<10^k):dU (k/9+1) v:=by
 refine sZ<|r8 h ?_
 calc 10^k<=10^(9*(k/9+1)):=k5 av J
  _=(10^9)^(k/9+1):=yb 10 9 (k/9+1)
  _<=4294967296^(k/9+1):=D1 av _
def Zc{m:Nat}(h:v<10^k)(aB:k<=m):dU (m/9+2) v:=c1 (alV h) J
def alW(h:hF s=some x):bg (s.length/9+2) x:=by
 have⟨P,q,Z,_,_,Y,aD,R,hint,D⟩:=Mt<|ct s.length;by_cases u:kt (eR s).1 P q Z
 .have⟨V,B,bj⟩:=u;have E:=Zc (s4 V.2.1) Y;cases Z with
  |false=>
   have e:=hint ⟨V,B,bj⟩ o;rw[h]at e;cases e;exact n9 (by rwa [xH]) (c1 (iM av) J) av
  |true=>
   have⟨C,N,A⟩:=bj o;have e:=D ⟨V,B,bj⟩ o;rw[h]at e;split at e
   .cases e;exact n9 (by rw[xH];exact E) (Zc (s4 C.2.1) aD) λh=>N<|G3 C h
   .cases e
 .rw[R u]at h;cases h
def lU(n:Nat)(t:bT):Except Int (aM×Rat):=match eh t.bY with
 |some x=>if uB n t=true then .ok (mZ t.cF,x)else .error 7
 |none=>.error<|dO t.bY
def alX{n:Nat}(h:lU n t= .ok gJ):qR n t= .ret (.br [mY gJ.1,bQ gJ.2]):=by
 rw[lU]at h;rw[qR];cases dF:eh t.bY with
 |none=>rw[dF]at h;cases h
 |some x=>
  rw[dF]at h;dsimp only at h⊢;split at h
  .cases h;rename_i e;exact aA e
  .cases h
def alY{n:Nat}{c:Int}(h:lU n t= .error c):qR n t= .aY (eT c):=by
 rw[lU]at h;rw[qR];cases dF:eh t.bY with
 |none=>rw[dF]at h;cases h;rfl
 |some x=>
  rw[dF]at h;dsimp only at h⊢;split at h
  .cases h
  .cases h;rename_i e;exact au e
def alZ(h:vZ l=true):(mZ l).iP:=by
 have aa:=λi=>NB h l.length i;have T:=aa 0;have Y:=aa 1;have G:=aa 2;have C:=aa 3;have N:=aa 4;have J:=aa 5;rw[<-(λi=>NC h i)]at T Y G C N J;unfold aM.iP mZ;dsimp only;omega
def Zd{n:Nat}(h:lU n t= .ok gJ):gJ.1.iP/\bg (t.bY.length/9+2) gJ.2:=by
 rw[lU]at h;cases dF:eh t.bY with
 |none=>rw[dF]at h;cases h
 |some x=>
  rw[dF]at h;dsimp only at h;split at h
  .rename_i e;cases h;rw[uB]at e;rw[cQ,cQ]at e;exact⟨alZ e.1.2,alW<|alO dF⟩
  .cases h
def jA(n:Nat):Poly->ac bT->Except Int Poly
 |P,[]=>.ok P
 |P,t::l=>match lU n t with
  |.ok gJ=>jA n (eA P gJ.1 gJ.2) l
  |.error c=>.error c
def ky(l:ac bT):Nat:=g8<|l.map λt=>t.bY.length/9+3
def HH(aB:2<=k):bg k 0:=⟨c1 (iM av) aB,c1 (iM av) aB⟩
theorem HI(aB:2<=k)(h:∀p∈P,bg k p.2)(j:aM):bg k (bY P j):=by
 induction P with
 |nil=>exact HH aB
 |cons p P U=>
  grind [bY]
def NF{a b:Nat}(bK:2<=a)(M:P.eM)(h:∀p∈P,p.1.iP/\bg a p.2){k:aM}(aB:k.iP)(dF:bg b x):∀p∈eA P k x,p.1.iP/\bg (b+a+1) p.2:=λp hp=>by
 obtain⟨Y,G,_⟩|⟨Y,_⟩:=(ml M k x p).1 hp
 .rw[Y,G];exact asU asU
 .exact⟨(h p Y).1,b0 (h p Y).2 J⟩
theorem Ze{n:Nat}:∀{l:ac bT} {P f:Poly} {a:Nat},2<=a->P.eM->P.ij->(∀p∈P,p.1.iP/\bg a p.2)->jA n P l= .ok f->f.eM/\f.ij/\∀p∈f,p.1.iP/\bg (a+ky l) p.2
 |[],P,f,a,_,M,aj,h,e=>by cases e;exact⟨M,aj,h⟩
 |t::l,P,f,a,bK,M,aj,h,e=>by
  rw[jA]at e;cases aN:lU n t with
  |error c=>rw[aN]at e;cases e
  |ok gJ=>
   rw[aN]at e;have aB:=Zd aN;have G:=Ze J (mX M gJ.1 gJ.2) (zZ M aj gJ.1 gJ.2) (NF bK M h aB.1 aB.2) e;refine⟨G.1,G.2.1,λp hp=>⟨(G.2.2 p hp).1,b0 (G.2.2 p hp).2 ?_⟩⟩;show t.bY.length/9+2+a+1+ky l<=a+(t.bY.length/9+3+ky l);omega
structure hz where
 c:Rat
 k:Int
 f:Poly
def v3(x:hz):ac ai:=cc x.c++[.ae x.k,.g<|fU<|fe x.f]
def lV(n:Nat)(s:dV):Except Int hz:=match eh s.bY with
 |some c=>if¬c<0/\-1<=s.jl/\s.jl<(n:Int)then(match jA n [] s.ej with
  |.ok f=>.ok ⟨c,s.jl,f⟩
  |.error e=>.error e)else .error 7
 |none=>.error<|dO s.bY
def ib(n:Nat):ac dV->Except Int (ac hz)
 |[]=>.ok []
 |s::l=>match lV n s with
  |.ok x=>(match ib n l with
   |.ok xs=>.ok (x::xs)
   |.error e=>.error e)
  |.error e=>.error e
def nB(cM:ac g9)(x:hz):be Poly:=
 if k1 x.f=true then
  let g:=eS (k0 x.f x.f)
  if k1 g=true then
   (if 0<=x.k then
    let b:=cM.getD x.k.toNat (0,0)
    let v:Poly:=[(aM.var x.k.toNat,1)]
    let B:=eS (k0 g<|eS<|k0 (fM v (-1)<|eA [] aM.zero b.1)<|fM (eA [] aM.zero b.2) (-1) v)
    if k1 B=true then some B else none
   else some g)
  else none
 else none
def lx(cM:ac g9):Poly->ac hz->be Poly
 |S,[]=>some S
 |S,x::l=>match nB cM x with
  |some g=>if k1 (fM S x.c g)=true then lx cM (fM S x.c g) l else none
  |none=>none
def v5(n:Nat)(cM:ac g9)(l:ac dV):sV:=
 if l.length<=20/\(∀s∈l,s.ej.length<=200)then(match ib n l with
  |.ok xs=>(match lx cM [] xs with
   |some S=>.ret (.g<|fU<|fe S)
   |none=>.aY<|eT 3)
  |.error e=>.aY<|eT e)else .aY (eT 3)
def NG:PP where
 L:=hx×ac g9×ac dV
 args:=λ(p,cM,l)=>[ll p,.bs 6 g9 mm cM,.b8 3 dV fC l]
 pre:=λ(p,cM,l)=>p.ins.length<=6/\cM.length=p.ins.length/\(∀v∈cM,bg 250 v.1/\bg 250 v.2)/\∀s∈l,s.bY.length<=5100/\(∀t∈s.ej,t.bY.length<=5100)/\(ky s.ej<=5200/\s.ej.length<=20)
 out:=λ(p,cM,l)=>v5 p.ins.length cM l
theorem C8:∀(P:Poly) (k:aM) (x:Rat),(eA P k x).length<=P.length+1
 |[],k,x=>by unfold eA;split<;>simp
 |p::P,k,x=>by
  have:=C8 P k x
  grind [eA]
def al0(W:nA):(eS W).length<=W.length:=vX (p:=λW=>(eS W).length<=W.length) (ct _) (λW w U=>by
 rw[uy,k4];have:=C8 (eS W) (w.1.1.add w.2.1)<|w.1.2*w.2.2;show _<=W.length+1;omega) W
def al1(f g:Poly):(k0 f g).length=f.length*g.length:=by
 rw[k0]
 induction f with
 |nil=>simp
 |cons p f U=>rw[Aw,k4,hV,U,iQ,fP];omega
theorem Zf{x:Rat}:∀(W P:Poly),(fM P x W).length<=P.length+W.length
 |[],P=>ct _
 |p::W,P=>by
  have aE:=Zf (x:=x) W<|eA P p.1<|p.2*x
  grind [C8,fM,eA]
theorem Zg{Q:aM->Prop}{x:Rat}:∀{W P:Poly},P.eM->(∀p∈P,Q p.1)->(∀p∈W,Q p.1)->∀p∈fM P x W,Q p.1
 |[],P,_,h,_,p,hp=>h p hp
 |w::W,P,M,h,Z,p,hp=>Zg (mX M w.1<|w.2*x) (λq aD=>by
  obtain⟨aE,_⟩|⟨aE,_⟩:=(ml M w.1 (w.2*x) q).1 aD
  .rw[aE];exact Z w gT
  .exact h q aE) (λq aD=>Z q<|e3 _ aD) p hp
def al2{W:Poly}{a b c:Nat}(bK:2<=a)(aa:2<=b)(M:P.eM)(hw:W.eM)(Y:∀p∈P,bg a p.2)(Z:∀p∈W,bg b p.2)(dF:bg c x):∀p∈fM P x W,bg (b+c+a+1) p.2:=λp hp=>by
 have e:=lv (ux M) hp;rw[C1 M<|Nm hw]at e;rw[<-e];exact s0 (lT (HI aa Z p.1) dF)<|HI bK Y p.1
def al3{Q:aM->Prop}(W:nA):(∀w∈W,Q<|w.1.1.add w.2.1)->∀p∈eS W,Q p.1:=vX (p:=λW=>(∀w∈W,Q<|w.1.1.add w.2.1)->∀p∈eS W,Q p.1) (λ_ p hp=>by cases hp) (λW w U h p hp=>by
 rw[uy]at hp;obtain⟨Y,_⟩|⟨Y,_⟩:=(ml (r4 W) _ _ p).1 hp
 .rw[Y];exact h w<|ie.2<|.inr<|fX.2 o
 .exact U (λv Z=>h v<|ie.2<|.inl Z) p Y) W
def aM.le(n:Nat)(k:aM):Prop:=k.a<=n/\k.b<=n/\k.c<=n/\k.d<=n/\k.e<=n/\k.f<=n
def al4{m n:Nat}{k j:aM}(h:k.le m)(D:j.le n):(k.add j).le (m+n):=by
 unfold aM.le at h D ⊢;rw[aM.add];dsimp only;omega
def HJ{n:Nat}{k:aM}(h:k.le n)(aj:n<2048):k.iP:=by rw[aM.le]at h;rw[aM.iP];omega
def HK:aM.zero.le 1:=by unfold aM.le aM.zero;decide
structure ff(n m a:Nat)(f:Poly):Prop where
 s:f.eM
 z:f.ij
 l:f.length<=n
 k:∀p∈f,p.1.le m
 b:∀p∈f,bg a p.2
variable{m:Nat}{f:Poly}{b:Nat}
def ff.var(i:Nat):ff 1 1 2 [(aM.var i,1)]:=
 ⟨DI _ _,(λp hp=>by rw[fX]at hp;rw[hp];exact az),ct _,(λp hp=>by rw[fX]at hp;rw[hp];exact by unfold aM.le aM.var;dsimp only;refine⟨?_,?_,?_,?_,?_,?_⟩<;>split<;>decide),(λp hp=>by rw[fX]at hp;rw[hp];exact(asN:bg 2 1))⟩
def ff.nil:ff 0 1 2 []:=⟨List.Pairwise.nil,ao7,ct _,ao7,ao7⟩
def ff.put{n a:Nat}{k:aM}(h:ff n m a f)(bK:2<=a)(aB:k.le m)(dF:bg b x):ff (n+1) m (b+a+1) (eA f k x):=
 ⟨mX h.s k x,zZ h.s h.z k x,cN (C8 f k x)<|DU h.l 1,λp hp=>by
  obtain⟨Y,_⟩|⟨Y,_⟩:=(ml h.s k x p).1 hp
  .rw[Y];exact aB
  .exact h.k p Y,λp hp=>by
  obtain⟨_,G,_⟩|⟨Y,_⟩:=(ml h.s k x p).1 hp
  .rw[G];exact s0 dF<|HI bK h.b k
  .exact b0 (h.b p Y) J⟩
def ff.r5{n F a c:Nat}{g:Poly}(h:ff n m a f)(D:ff F m b g)(bK:2<=a)(aa:2<=b)(dF:bg c x):ff (n+F) m (b+c+a+1) (fM f x g):=
 ⟨ux h.s,z1 h.s h.z,cN (Zf g f)<|Nat.add_le_add h.l D.l,Zg h.s h.k D.k,al2 bK aa h.s D.s h.b D.b dF⟩
theorem ff.eS{n F m O a b:Nat}{f g:Poly}(h:ff n m a f)(D:ff F O b g):ff (n*F) (m+O) (F*(a+b+1)+2) (eS<|k0 f g):=
 ⟨r4 _,C2 _,cN (al0 _)<|by rw[al1];exact po h.l D.l,al3 _ λw hw=>al4 (h.k _ (uz.1 hw).1)<|D.k _ (uz.1 hw).2,
  λp hp=>b0 (YX h.s (YV (HC h.s)<|HC D.s) (λw hw=>uz.1 hw) h.b D.b p hp)<|DU (iZ _ D.l) 2⟩
def ff.fit{n a:Nat}(h:ff n m a f)(D:k1 f=true):ff 200 16 a f:=by
 rw[k1]at D;rw[cQ]at D;refine⟨h.s,h.z,jD D.1,λp hp=>?_,h.b⟩;have aN:=jD<|ja.1 D.2 p hp;have e:p.1.o7=p.1.a+(p.1.b+(p.1.c+(p.1.d+(p.1.e+(p.1.f+0))))):=rfl;rw[aM.le];omega
def ff.Zh{n a:Nat}(h:ff n m a f)(D:k1 f=true):ff n 16 a f:=⟨h.s,h.z,h.l,(h.fit D).k,h.b⟩
theorem Zi{n:Nat}:∀{l:ac bT} {P f:Poly},jA n P l= .ok f->f.length<=P.length+l.length
 |[],P,f,e=>by cases e;exact ct _
 |t::l,P,f,e=>by
  rw[jA]at e;cases aN:lU n t with
  |error c=>rw[aN]at e;cases e
  |ok gJ=>
   rw[aN]at e;have h:=Zi e;have:=C8 P gJ.1 gJ.2;rw[iQ];omega
structure rz(n:Nat)(x:hz):Prop where
 f:ff 20 2047 5202 x.f
 c:bg 250 x.c
 a5: -1<=x.k
 bU:x.k<(n:Int)
variable{c:Rat}{cM:ac g9}{e:Int}{g r6:Poly}{y:Int}
theorem NH{n:Nat}:∀{l:ac dV} {xs:ac hz},(∀s∈l,s.bY.length<=5100/\(ky s.ej<=5200/\s.ej.length<=20)/\s.ej.length<=200)->ib n l= .ok xs->∀x∈xs,rz n x
 |[],xs,_,h,x,dF=>by cases h;cases dF
 |s::l,xs,M,h,x,dF=>by
  unfold ib at h;cases aE:lV n s with
  |error e=>rw[aE]at h;cases h
  |ok y=>
   rw[aE]at h;cases aK:ib n l with
   |error e=>rw[aK]at h;cases h
   |ok q=>
    rw[aK]at h;cases h;rcases fg.1 dF with rfl|dF
    .have:=M s gT;unfold lV at aE;cases ah:eh s.bY with
     |none=>rw[ah]at aE;cases aE
     |some c=>
      rw[ah]at aE;dsimp only at aE;split at aE
      .rename_i F;cases aw:jA n [] s.ej with
       |error e=>rw[aw]at aE;cases aE
       |ok f=>
        rw[aw]at aE;cases aE;obtain⟨U,T,o⟩:=Ze (ct 2) List.Pairwise.nil ao7 ao7 aw;have B:=Zi aw;refine⟨⟨U,T,by rw[Im]at B;show f.length<=20;omega,λp hp=>?_,λp hp=>b0 (o p hp).2 J⟩,HF ah,F.2.1,F.2.2⟩;have:=(o p hp).1;unfold aM.iP at this;unfold aM.le;omega
      .cases aE
    .exact NH (λt aN=>M t<|e3 _ aN) aK x dF
def al5(p:hx)(cM:ac g9)(l:ac dV)(k:Nat):ac hz->cg
 |[]=>⟨[.c 47<|oZ p],1,[(1,.bs 6 g9 mm cM),(3,.p 0 0),(38,.b8 3 dV fC l),(39,.ae l.length),(40,.ae (k:Nat)),(9,.nl)]⟩
 |x::xs=>⟨[.c 47<|oZ p,.a 165 true 5 hz v3<|x::xs],2,[(1,.bs 6 g9 mm cM),(3,.p 0 0),(38,.b8 3 dV fC l),(39,.ae l.length),(40,.ae (k:Nat)),(9,.aL 1 5 0 (xs.length+1)<|xs.length+1)]⟩
def C9(r:ac hz):Except Int (ac hz)->Except Int (ac hz)
 |.ok xs=>.ok (r++xs)
 |.error e=>.error e
def Da{n:Nat}{s:dV}{l:ac dV}(h:lV n s= .error e)(r:ac hz):C9 r (ib n<|s::l)= .error e:=by
 unfold ib;rw[h];rfl
def al6{n:Nat}{s:dV}{l:ac dV}{x:hz}(h:lV n s= .ok x)(r:ac hz):C9 r (ib n<|s::l)=C9 (r++[x]) (ib n l):=by
 show C9 r (match lV n s with
  |.ok x=>(match ib n l with
   |.ok xs=>.ok (x::xs)
   |.error e=>.error e)
  |.error e=>.error e)=_
 rw[h];cases ib n l with
 |error e=>rfl
 |ok xs=>show Except.ok (r++x::xs)=Except.ok ((r++[x])++xs);rw[D2];rfl
def al7{n:Nat}{s:dV}(h:eh s.bY=none):lV n s= .error (dO s.bY):=by unfold lV;rw[h]
def NI{n:Nat}{s:dV}(h:eh s.bY=some c)(aK:¬(¬c<0/\-1<=s.jl/\s.jl<(n:Int))):lV n s= .error 7:=by unfold lV;rw[h];exact au aK
def al8{n:Nat}{s:dV}(h:eh s.bY=some c)(aK:¬c<0/\-1<=s.jl/\s.jl<(n:Int)):lV n s=(match jA n [] s.ej with
 |.ok f=>.ok ⟨c,s.jl,f⟩
 |.error e=>.error e):=by unfold lV;rw[h];exact aA aK
def al9{n:Nat}{l:ac bT}(h:lU n t= .error e):jA n P (t::l)= .error e:=by
 show(match lU n t with
  |.ok gJ=>jA n (eA P gJ.1 gJ.2) l
  |.error c=>.error c)=_
 rw[h]
def ama{n:Nat}{l:ac bT}(h:lU n t= .ok gJ):jA n P (t::l)=jA n (eA P gJ.1 gJ.2) l:=by
 show(match lU n t with
  |.ok gJ=>jA n (eA P gJ.1 gJ.2) l
  |.error c=>.error c)=_
 rw[h]
def Zj(l m:ac bT):ky (l++m)=ky l+ky m:=by unfold ky;rw[oq,Nv]
def amb{l:ac bT}{j:Nat}(h:j<l.length):ky (l.take<|j+1)=ky (l.take j)+(l[j].bY.length/9+3):=by
 rw[om h,Zj];rfl
def Zk(l:ac bT)(j:Nat):ky (l.take j)<=ky l:=by
 have h:=Zj (l.take j)<|l.drop j;rw[wc]at h;omega
def ff.up{n F O a m0:Nat}(h:ff n m a f)(aE:n<=F)(aK:m<=O)(o:a<=m0):ff F O m0 f:=apN
def ff.gR{n a:Nat}(h:ff n m a f)(hm:m<2048):∀p∈f,p.1.gR:=λp hp=>xW<|HJ (h.k p hp) hm
def ff.iP{n a:Nat}(h:ff n m a f)(hm:m<2048)(aa:a<=b):∀p∈f,p.1.iP/\bg b p.2:=λp hp=>⟨HJ (h.k p hp) hm,b0 (h.b p hp) aa⟩
def ff.z6{n a:Nat}(h:ff n m a f)(hm:m<2048)(aa:a<=b):∀p∈f,p.1.gR/\bg b p.2:=λp hp=>⟨xW<|HJ (h.k p hp) hm,b0 (h.b p hp) aa⟩
def Db{S:Poly}{x:hz}{l:ac hz}:lx cM S (x::l)=(match nB cM x with
 |some g=>if k1 (fM S x.c g)=true then lx cM (fM S x.c g) l else none
 |none=>none):=rfl
def amc{S:Poly}{x:hz}{l:ac hz}(aD:nB cM x=some g)(M:fM S x.c g=r6)(h:k1 r6=true):lx cM S (x::l)=lx cM r6 l:=by
 rw[Db,aD];subst M;exact aA h
def amd{S:Poly}{x:hz}{l:ac hz}(aD:nB cM x=some g)(M:fM S x.c g=r6)(h:¬k1 r6=true):lx cM S (x::l)=none:=by
 rw[Db,aD];subst M;exact au h
def ame{S:Poly}{x:hz}{l:ac hz}(aD:nB cM x=none):lx cM S (x::l)=none:=by
 rw[Db,aD]
def amf(h:¬c<0):0<=c.num.sign:=Int.sign_nonneg_iff.2<|IA.2<|yg.1 h
def amg(h:0<=c.num.sign):¬c<0:=yg.2<|IA.1<|Int.sign_nonneg_iff.1 h
def Zl:l9 cv.ctx 37 NG.spec:=by
 refine z3 [(87,z4),(88,HG),kU,(90,Y4),(89,z0.jT y1),jk,(91,Y0),HD,Y2,Ny,HB] TR.1 ?_;rintro⟨p,cM,l⟩ ⟨(hp:p.ins.length<=6),(bS:cM.length=p.ins.length),(bF:∀v∈cM,bg 250 v.1/\bg 250 v.2),(M:∀s∈l,s.bY.length<=5100/\(∀t∈s.ej,t.bY.length<=5100)/\(ky s.ej<=5200/\s.ej.length<=20))⟩ H ax _;have a3:¬(l.length<=20/\(∀s∈l,s.ej.length<=200))->v5 p.ins.length cM l= .aY (eT 3):=λh=>au h;refine st ?_;by_cases aI:l.length<=20
 case neg=>
  refine ee 24<|st ?_;refine lh jz (false,3) aP (eT 3) o<|st ?_;exact bh<|kQ<|a3 λh=>aI h.1
 refine eD 24<|st ?_;refine mH jz (true,3) aP (.br []) o<|st ?_;refine dN (L:=Nat) (λk=>k<=l.length/\∀s∈l.take k,s.ej.length<=200) (λ(k:Nat)=>⟨[.c 47<|oZ p],1,[(1,.bs 6 g9 mm cM),(2,.b8 3 dV fC l),(3,.p 0 0),(26,.b8 3 dV fC l),(27,.ae l.length),(28,.ae (k:Nat))]⟩) (λk=>l.length-k) [0] 0 ⟨dg _,λs h=>by cases h⟩ aoT cb ?_;rintro(k:Nat) ⟨E,aD⟩;refine bf 29 ?_;by_cases aT:k<l.length
 .have aZ:l≠[]:=λe=>by rw[e]at aT;exact m6 _ aT
  refine eD 29 ?_;refine fI 26 (.bs 3 dV fC l) o (.iH aZ)<|st ?_;refine hh l[k] aq6 ?_;refine fI 26 (.b8 3 dV fC l) rfl .b8<|st ?_;by_cases G:l[k].ej.length<=200
  case neg=>
   refine ee 35<|st ?_;refine lh jz (false,3) aP (eT 3) o<|st ?_;exact bh<|kQ<|a3 λh=>G<|h.2 _<|ha aT
  refine eD 35<|st ?_;refine mH jz (true,3) aP (.br []) o<|st ?_;refine bL [0] (k+1) ⟨by show l.length-(k+1)<l.length-k;omega,J,λs hm=>?_⟩ cr;rw[om aT]at hm;rcases ie.1 hm with hm|hm
  .exact aD s hm
  .rw[fX]at hm;rw[hm];exact G
 have V:k=l.length:=J
 rw[V,nG]at aD;have A:v5 p.ins.length cM l=(match ib p.ins.length l with
  |.ok xs=>(match lx cM [] xs with
   |some S=>.ret (.g<|fU<|fe S)
   |none=>.aY<|eT 3)
  |.error e=>.aY<|eT e):=aA ⟨aI,aD⟩
 refine ee 29<|st ?_;have dW:∀{e:Int},ib p.ins.length l= .error e->v5 p.ins.length cM l= .aY (eT e):=λh=>by rw[A,h]
 refine dN (L:=Nat×ac hz) (λ(k,r)=>k<=l.length/\r.length=k/\ib p.ins.length l=C9 r (ib p.ins.length<|l.drop k)) (λ(k,r)=>al5 p cM l k r) (λx=>l.length-x.1) [0] (0,[]) ⟨dg _,o,by rw[kC];cases ib p.ins.length l<;>rfl⟩ aoT cb ?_;rintro⟨k,r⟩ ⟨E,aB,dY⟩;by_cases aT:k<l.length
 .have aZ:l≠[]:=λe=>by rw[e]at aT;exact m6 _ aT
  have hm:=M l[k]<|ha aT;have bN:=aD l[k]<|ha aT;rw[hL aT]at dY;rcases r with _|⟨x,xs⟩
  all_goals
   refine bf 41 ?_;refine eD 41 ?_;refine fI 38 (.bs 3 dV fC l) o (.iH aZ)<|st ?_;refine hh l[k] aq6 ?_;refine fI 38 (.b8 3 dV fC l) rfl .b8<|st ?_;cases ah:eh l[k].bY with
   |none=>
    refine Cj z5 l[k].bY (cN hm.1 av) (eT<|dO l[k].bY) (NA ah) ?_ (bE:=by
     refine st ?_;refine Nz ?_;refine st ?_;exact bh o)
    refine st ?_;exact bh (kQ<|dW<|dY.trans<|Da (al7 ah) _)
   |some c=>
   refine xu z5 l[k].bY (cN hm.1 av) (bQ c) (C6 ah)<|st ?_;refine Nz ?_;refine st ?_;refine bn kU c aP<|bf 54 ?_;by_cases aO:c<0
   .refine v0 54 (λg=>amg g aO)<|st ?_;refine lh jz (false,7) aP (eT 7) o<|st ?_;exact bh<|kQ<|dW<|dY.trans<|Da (NI ah λg=>g.1 aO) _
   refine v1 54 (amf aO)<|bf 58 ?_;by_cases Y: -1<=l[k].jl
   case neg=>
    refine ee 58<|st ?_;refine lh jz (false,7) aP (eT 7) o<|st ?_;exact bh<|kQ<|dW<|dY.trans<|Da (NI ah λg=>Y g.2.1) _
   refine eD 58<|bf 66 ?_;by_cases G:l[k].jl<(p.ins.length:Int)
   case neg=>
    refine ee 66<|st ?_;refine lh jz (false,7) aP (eT 7) o<|st ?_;exact bh<|kQ<|dW<|dY.trans<|Da (NI ah λg=>G g.2.2) _
   refine eD 66<|st ?_;refine mH jz (true,7) aP (.br []) o<|st ?_;have b':=al8 ah ⟨aO,Y,G⟩
   first
   |refine dN (L:=Nat×gL×Poly) (λ(j,L,P)=>j<=l[k].ej.length/\P.eM/\P.ij/\(∀w∈P,w.1.iP/\bg (2+ky (l[k].ej.take j)) w.2)/\jA p.ins.length [] l[k].ej=jA p.ins.length P (l[k].ej.drop j)) (λ((j:Nat),(L:gL),(P:Poly))=>⟨[.c 47<|oZ p,.a 165 true 5 hz v3<|x::xs,.g<|h8<|fE ax.ag L P,.c 165<|cc c++[.ae l[k].jl,.mp 2]],4,[(1,.bs 6 g9 mm cM),(3,.p 0 0),(38,.b8 3 dV fC l),(39,.ae l.length),(40,.ae (k:Nat)),(9,.aL 1 5 0 (xs.length+1)<|xs.length+1),(12,.p (2+1) 0),(70,.b8 2 bT ef l[k].ej),(71,.ae l[k].ej.length),(72,.ae (j:Nat))]⟩) (λx=>l[k].ej.length-x.1) [0,1,3,4] (0,(λ_=>none),[]) ard ase cb ?_
   |refine dN (L:=Nat×gL×Poly) (λ(j,L,P)=>j<=l[k].ej.length/\P.eM/\P.ij/\(∀w∈P,w.1.iP/\bg (2+ky (l[k].ej.take j)) w.2)/\jA p.ins.length [] l[k].ej=jA p.ins.length P (l[k].ej.drop j)) (λ((j:Nat),(L:gL),(P:Poly))=>⟨[.c 47<|oZ p,.g<|h8<|fE ax.ag L P,.c 165<|cc c++[.ae l[k].jl,.mp 1]],3,[(1,.bs 6 g9 mm cM),(3,.p 0 0),(38,.b8 3 dV fC l),(39,.ae l.length),(40,.ae (k:Nat)),(9,.nl),(12,.p (1+1) 0),(70,.b8 2 bT ef l[k].ej),(71,.ae l[k].ej.length),(72,.ae (j:Nat))]⟩) (λx=>l[k].ej.length-x.1) [0,2,3] (0,(λ_=>none),[]) ard ase cb ?_
   rintro⟨j,L,P⟩ ⟨bJ,aq,bx,aJ,ao⟩;refine bf 73 ?_;by_cases a':j<l[k].ej.length
   .have bD:l[k].ej≠[]:=λe=>by rw[e]at a';exact m6 _ a'
    rw[hL a']at ao;refine eD 73 ?_;refine fI 70 (.bs 2 bT ef l[k].ej) o (.iH bD)<|st ?_;refine hh l[k].ej[j] (ba a') ?_;refine fI 70 (.b8 2 bT ef l[k].ej) rfl .b8<|st ?_;have bj:=hm.2.1 _<|ha a';have bH:=amb a';have bO:=Zk l[k].ej j;have bG:=Zk l[k].ej<|j+1;cases ar:lU p.ins.length l[k].ej[j]with
    |error e=>
     refine Cj Y6 (p,l[k].ej[j]) ⟨bj,hp⟩ (eT e) (alY ar)<|st ?_;exact bh (kQ<|dW<|dY.trans<|Da (b'.trans<|by rw[ao,al9 ar]) _)
    |ok gJ=>
    have E:=Zd ar;refine xu Y6 (p,l[k].ej[j]) ⟨bj,hp⟩ (.br [mY gJ.1,bQ gJ.2]) (alX ar)<|st ?_
    first|(have:=xs;refine zk C0 2 (ax.ag,L,P,gJ.1,gJ.2) ?_ (ct _) ?_)|refine zk C0 1 (ax.ag,L,P,gJ.1,gJ.2) ?_ (ct _) ?_
    .exact are are
    refine st ?_
    first|(have:=xs;refine bL [0,1,2,3] (j+1,L.kZ gJ.1,eA P gJ.1 gJ.2) ?_ cr)|refine bL [0,1,2] (j+1,L.kZ gJ.1,eA P gJ.1 gJ.2) ?_ cr
    exact⟨by show l[k].ej.length-(j+1)<l[k].ej.length-j;omega,a',mX aq _ _,zZ aq bx _ _,λw hw=>⟨(NF J aq aJ E.1 E.2 w hw).1,b0 (NF J aq aJ E.1 E.2 w hw).2 J⟩,ao.trans<|ama ar⟩
   .have a':j=l[k].ej.length:=by omega
    rw[a',wm]at ao;have bq:lV p.ins.length l[k]= .ok ⟨c,l[k].jl,P⟩:=b'.trans (by rw[ao];rfl);have bb:=dY.trans<|al6 bq _;refine ee 73<|bf 86 ?_;refine af0 86 4 ?_;refine fI 86 (.agg<|v3 ⟨c,l[k].jl,P⟩) o (.agg ⟨.refl _,.refl _,.refl _,.refl _,bX.Y1<|Nx _,aP⟩)<|st ?_
    first
    |have:=xs
     refine qB (ak:=v3) [(⟨c,l[k].jl,P⟩:hz)] (hg (ak:=v3) [⟨c,l[k].jl,P⟩] o) ?_ (aj:=az) (aa:=by show(5*(xs.length+1+1)+1792)*73<=1125899906842624;have:=aB;simp only[iQ]at this;omega);refine bf 89 ?_;refine b5 89 ((k+1:Nat):Int)<|st ?_;exact bL [0,5] (k+1,x::(xs++[⟨c,l[k].jl,P⟩])) ⟨by show l.length-(k+1)<l.length-k;omega,aT,by have:=aB;simp at this ⊢;omega,bb.trans o⟩ (cr (aK:=⟨o,o,o,o,o,congrArg (λk=>some<|ai.aL 5 5 0 k k) az,aP⟩))
    |refine rL v3 [⟨c,l[k].jl,P⟩] (hg (ak:=v3) [⟨c,l[k].jl,P⟩] o)<|bf 89 ?_
     refine b5 89 ((k+1:Nat):Int)<|st ?_;exact bL [0,4] (k+1,[⟨c,l[k].jl,P⟩]) ⟨by show l.length-(k+1)<l.length-k;omega,aT,by have:=aB;simp at this ⊢;omega,bb.trans o⟩ cr
 .have V:k=l.length:=by omega
  have u:ib p.ins.length l= .ok r:=by
   rw[dY,V,wm];show Except.ok (r++[])=_;rw[wi]
  have bB:=NH (λs hm=>⟨(M s hm).1,(M s hm).2.2,aD s hm⟩) u;have A:v5 p.ins.length cM l=(match lx cM [] r with
   |some S=>.ret (.g<|fU<|fe S)
   |none=>.aY<|eT 3):=by rw[A,u]
  rcases r with _|⟨x,xs⟩
  .refine bf 41 ?_;refine ee 41<|st ?_;refine Cq ?_;refine Ls 90<|st ?_;refine bn jk (-1:Int) apt<|st ?_;refine dN (L:=Unit) (λ_=>True) (λ_=>⟨[],0,[(94,.ae 0),(93,.ae 0),(15,.g<|fU [])]⟩) (λ_=>0) [] () aP (by show 0<bz+1;unfold bz;decide) cb ?_;rintro _ _;refine st ?_;exact bh<|vy o o A asz
  .refine bf 41 ?_;refine ee 41<|st ?_;refine Cq ?_;refine Ls 90<|st ?_;refine bn jk (-1:Int) apt<|st ?_;have aR:lx cM [] (x::xs)=none->v5 p.ins.length cM l= .aY (eT 3):=λh=>by rw[A,h]
   refine dN (L:=Nat×Poly) (λ(i,S)=>i<=xs.length+1/\lx cM [] (x::xs)=lx cM S ((x::xs).drop i)/\ff 200 16 (2+i*1700000) S)
    (λ((i:Nat),(S:Poly))=>⟨[.a 165 true 5 hz v3<|x::xs,.c 27<|cc<|mkRat (-1) 1],2,[(1,.bs 6 g9 mm cM),(92,.aL 0 5 0 (xs.length+1)<|xs.length+1),(93,.ae ((xs.length+1:Nat):Int)),(94,.ae (i:Nat)),(16,.p 1 0),(15,.g<|fU<|fe S)]⟩)
    (λq=>xs.length+1-q.1) [1,3] (0,[]) ⟨dg _,o,ff.nil.up av av av⟩ (by show xs.length+1-0<bz+1;have:=aB;simp only[iQ]at this;unfold bz;omega) cb ?_
   rintro⟨i,S⟩ ⟨af,C,T⟩;have bM:xs.length+1<=20:=by have:=aB;simp only[iQ]at this;omega
   refine bf 95 ?_;by_cases h:i<(x::xs).length
   .rw[hL h]at C;refine v1 95 (show(i:Int)<((xs.length+1:Nat):Int) by have:i<xs.length+1:=h;omega)<|st ?_;refine n1 ?_;refine Ga (x::xs)[i] (show(x::xs)[0+i]? =some (x::xs)[i] by rw[jn];exact ba h) ?_;have N:=bB _<|ha h;generalize(x::xs)[i]=y at *;obtain⟨c,z,f⟩:=y;obtain⟨D,ah,a2,a0⟩:=N;replace D:ff 20 2047 5202 f:=D;replace ah:bg 250 c:=ah;replace a2: -1<=z:=a2;replace a0:z<(p.ins.length:Int):=a0;refine st ?_;by_cases f0:k1 f=true
    case neg=>
     refine lh vY f ⟨D.s,D.gR av,cN D.l av⟩ (eT 3) (au f0)<|st ?_;exact bh<|kQ<|aR (C.trans<|by unfold lx nB;rw[au f0])
    refine mH vY f ⟨D.s,D.gR av,cN D.l av⟩ (.g<|fU<|fe f) (aA f0) ?_;have D:=D.Zh f0;refine st ?_;refine bn HD (f,f,5202,5202) ⟨D.s,D.s,D.iP av<|ct _,D.iP av<|ct _,av,by have:=D.l;omega,cN D.l av,cN D.l av⟩ ?_;have F:=D.eS D;refine fI 103 (.g<|fU<|fe<|eS<|k0 f f) o kK ?_;generalize aW:eS (k0 f f)=g at *;by_cases W:k1 g=true
    case neg=>
     refine lh vY g ⟨F.s,F.gR av,cN F.l av⟩ (eT 3) (au W)<|st ?_;exact bh<|kQ<|aR (C.trans<|by unfold lx nB;rw[aA f0];dsimp only;rw[aW,au W])
    refine mH vY g ⟨F.s,F.gR av,cN F.l av⟩ (.g<|fU<|fe g) (aA W) ?_;have F:=F.fit W;refine bf 107 ?_;by_cases aH:0<=z;obtain⟨m,rfl⟩:=Ox aH;refine v1 107 aH<|st ?_;refine cS Y2 m (by show m<6;omega)<|st ?_;have aU:m<cM.length:=J
    have aa:=bF _<|ha aU;refine tP cM[m] (ba aU) ?_;generalize bA:cM[m]=b at *;refine st ?_;refine cS Ny b.1 (b0 aa.1) ?_;have U:=ff.var m;have aQ:=ff.nil.put av HK aa.1;have O:=ff.nil.put av HK aa.2;have hQ:bg 2 (mkRat (-1) 1):=asN;refine st ?_;refine cS HB ([(aM.var m,1)],eA [] aM.zero b.1,mkRat (-1) 1) ⟨U.s,aQ.s,U.z,U.z6 av av,aQ.z6 av av,b0 hQ,cN U.l av,cN aQ.l av⟩ ?_;have fA:=U.r5 aQ av av hQ;refine st ?_;refine cS Ny b.2 (b0 aa.2)<|st ?_;refine cS HB (eA [] aM.zero b.2,[(aM.var m,1)],mkRat (-1) 1) ⟨O.s,U.s,O.z,O.z6 av av,U.z6 av av,b0 hQ,cN O.l av,cN U.l av⟩ ?_;have Z:=O.r5 U av av hQ;refine st ?_;refine cS HD (fM [(aM.var m,1)] (mkRat (-1) 1)<|eA [] aM.zero b.1,fM (eA [] aM.zero b.2) (mkRat (-1) 1) [(aM.var m,1)],258,258) ⟨fA.s,Z.s,fA.iP av av,Z.iP av av,av,by have:=Z.l;omega,cN fA.l av,cN Z.l av⟩ ?_;have aE:=fA.eS Z;generalize a9:eS (k0 (fM [(aM.var m,1)] (mkRat (-1) 1)<|eA [] aM.zero b.1)<|fM (eA [] aM.zero b.2) (mkRat (-1) 1) [(aM.var m,1)])=Q at *;refine fI 129 (.g<|fU<|fe Q) o (.of<|by rw[<-a9])<|st ?_;refine cS HD (g,Q,208102,1036) ⟨F.s,aE.s,F.iP av av,aE.iP av av,av,by have:=aE.l;omega,cN F.l av,cN aE.l av⟩ ?_;have I:=F.eS aE;generalize a6:eS (k0 g Q)=B at *;refine fI 130 (.g<|fU<|fe B) o (.of<|by rw[<-a6])<|st ?_;have bC:mkRat (-1) 1=(-1:Rat):=by decide +kernel
    have a1:nB cM ⟨c,(m:Int),f⟩=if k1 B=true then some B else none:=by
     have bm:cM.getD m (0,0)=b:=by rw[wv,qV aU];exact bA
     unfold nB;dsimp only;rw[aA f0,aW,aA W,aA aH,tb,bm,<-bC,a9,a6]
    by_cases aw:k1 B=true
    rotate_left
    .refine Cj vY B ⟨I.s,I.gR av,cN I.l av⟩ (eT 3) (au aw)<|st ?_;exact bh (kQ<|aR<|C.trans<|ame<|a1.trans<|au aw)
    rotate_left
    refine xu vY B ⟨I.s,I.gR av,cN I.l av⟩ (.g<|fU<|fe B) (aA aw) ?_;replace I:ff 200 16 1608158 B:=(I.fit aw).up (ct _) (ct _) av;have aD:=a1.trans (aA aw)
    rotate_left
    refine v0 107 aH ?_;have aD:nB cM ⟨c,z,f⟩=some g:=by
     unfold nB;dsimp only;rw[aA f0,aW,aA W,au aH]
    have I:ff 200 16 1608158 g:=F.up (ct _) (ct _) av;generalize g=B at *
    all_goals
     refine st ?_;refine bn HB (S,B,c) ⟨T.s,I.s,T.z,T.z6 av J,I.z6 av av,b0 ah,cN T.l av,cN I.l av⟩ ?_;have al:=T.r5 I J av ah;refine fI 136 (.g<|fU<|fe<|fM S c B) o kK ?_;generalize a5:fM S c B=r6 at *;by_cases ay:k1 r6=true
     case neg=>
      refine lh vY r6 ⟨al.s,al.gR av,cN al.l av⟩ (eT 3) (au ay)<|st ?_;exact bh<|kQ<|aR<|C.trans<|amd aD a5 ay
     refine mH vY r6 ⟨al.s,al.gR av,cN al.l av⟩ (.g<|fU<|fe r6) (aA ay) ?_;have bw:=al.fit ay;refine st ?_;refine bL [0,1] (i+1,r6) ⟨by show xs.length+1-(i+1)<xs.length+1-i;have:i<xs.length+1:=h;omega,h,C.trans<|amc aD a5 ay,bw.up (ct _) (ct _) J⟩ cr
   .refine v0 95 (show¬(i:Int)<((xs.length+1:Nat):Int) by have:¬i<xs.length+1:=h;omega) ?_;rw[th J]at C;refine st ?_;exact bh<|vy o o (A.trans<|by rw[C];rfl) asz
def NJ:b4 179 (cR λ(x:Int)=>([.ae x],True,.b false)):=by
 refine cJ [] US.1 ?_;intro x _ H ax;exact U 14<|bh (dc o o<|.of<|cj<|dk λh=>h o)
def nC(x y:Int):Int:=if x<y then -1 else if y<x then 1 else 0
def Zm:b4 131 (cR λ((x,y):Int×Int)=>([.ae x,.ae y],True,.ae<|nC x y)):=by
 refine cJ [NJ] Tt.1 ?_;intro⟨x,y⟩ _ H ax;refine U 8<|bn NJ x aP<|U 6<|bn NJ y aP<|U 27 ?_;by_cases h:x<y
 .exact v1 16 h<|zm (by show ai.ae (-1)=ai.ae (nC x y);unfold nC;rw[aA h])
 .refine v0 16 h<|U 11 ?_;by_cases G:y<x
  .exact v1 19 (G)<|zm (by show ai.ae 1=ai.ae (nC x y);unfold nC;rw[au h,aA G])
  .exact v0 19 (G)<|zm (by show ai.ae 0=ai.ae (nC x y);unfold nC;rw[au h,au G])
def iY:ac Nat->ac Nat->Int
 |a::l,b::m=>if nC a b=0 then iY l m else nC a b
 |_,_=>0
def amh{x:Int}:nC x y<0↔x<y:=by rw[nC];split<;>(try split)<;>omega
def ami{x:Int}:nC x y=0↔x=y:=by rw[nC];split<;>(try split)<;>omega
def HL(k j:aM):iY k.n j.n<0↔aM.lt k j:=by
 unfold aM.n aM.lt;simp only[iY,ami]
 repeat' split
 all_goals first|(rw[amh];omega)|omega
end Go.bI.ds
namespace Go.bI.ds
open Go.bI Sym
set_option maxRecDepth 100000
set_option maxHeartbeats 4000000
section
variable{an:e2}{K:ac dC}{own:ac a0}{aC:Nat}{e:bV}
def Zn{n z a5:Nat}{el:d7}{α:Type}{ak:α->ac ai}{w:ac α}{x:ce}{d:Tmp}{aF:ac Tmp}{back:Nat}{l:ac (bt×cz)}{bl:ac a0}{bc:bV}{a4 b3:Nat}(E:dB an K l bl ((d,.aL a5 z 0 n n)::bc) a4 b3 own aC ((d,.aL a5 z 0 n n)::e))
 (dF:bb (eF aF bc) x=some (.p a5 0):=by rfl) (aB:bl[a5]? =some (.a el false z α ak w):=by rfl) (aj:0<n:=by decide) (aa:back<a4:=by decide):dB an K ((⟨some d,.wA n z x none none none,none⟩,.read back aF)::l) bl bc a4 b3 own aC e:=
 mF aa (λH u st I D _ A=>by
  obtain⟨b,Y,G⟩:=D.aq dF;obtain⟨ab,bj,dj⟩:=A a5 _ b aB o Y;refine⟨_,aq1,λL _ N=>?_⟩;show tl n z x none none none an.call I L=_;unfold tl ao.gy;rw[G,lL,Sym.et,((N a5 _ b aB o Y).trans bj),sT,sT,sT];congr 2;rw[rB J,nX,jn]
  first|rfl|exact B (λk=>some<|Addr.mk b k none) J) E
end
def Zo{a b m0 o9:a0}{rest:ac a0}(aE:n3 [0,1] m0 m0)(aK:n3 [0,1] o9 o9):vt [0,1] (a::b::rest) (m0::o9::rest) [m0,o9]:=by
 refine⟨o,λj A=>?_,λi k C E ay=>?_⟩
 .match j with
  |0=>exact absurd az A
  |1=>exact absurd az A
  |j+2=>rfl
 .match i with
  |0=>cases E;cases ay;exact⟨_,o,aE⟩
  |1=>cases E;cases ay;exact⟨_,o,aK⟩
  |i+2=>simp at E
section
variable{X:Ctx}{aV:ar c7}{bp:d8->dT}{a8 n:Nat}{fn:d8}{aX:bm}{i0:ac Nat}{ax:ao}{Q:c6->cg->Prop}{K:ac dC}{rest:ac a0}{aC:Nat}{e:bV}{g:d8}{S:gh}{a b m0 o9 g3 eX:a0}
def Zp(aE:lg [0,1] g3 a)(aK:lg [0,1] eX b):Sub 0 [0,1] ⟨a::b::rest,aC,e⟩ ⟨[g3,eX],2,[]⟩:=
 ⟨az,o,⟨⟨_,o,aE⟩,⟨_,o,aK⟩,aP⟩,aP,o⟩
theorem amj(ah:eb X g S.spec){bJ:ac ce}{F:ac ai}{d:Tmp}{xs:ac (bt×cz)}{bl:ac a0}{bc:bV}{a4 b3:Nat}(l:S.L)(hp:S.pre l)
 (k:dB (gf X aV bp n a8 fn aX i0 ax Q) K xs (bl.map λ_=>.x) (jt d bc) (a4+1) aC (m0::o9::rest) aC ((d,jQ [0,1]<|S.res l)::e)) (ay:S.own l=[g3,eX]:=by rfl) (N:S.bk l=[m0,o9]:=by rfl)
 (aE:lg [0,1] g3 a:=by exact sU) (aK:lg [0,1] eX b:=by exact sU)
 (cy:n3 [0,1] m0 m0:=by exact sU) (o:n3 [0,1] o9 o9:=by exact sU)
 (bK:gM e bJ=some F:=by rfl) (he:F=kM [0,1] (S.args l):=by rfl) (J:bp g=S.spec.K:=by rfl) (cl:S.hp aX:=by first|exact aP|assumption):
 dB (gf X aV bp n a8 fn aX i0 ax Q) K ((⟨some d,.call (.func g) bJ,none⟩,.dJ)::xs) bl bc a4 b3 (a::b::rest) aC e:=
 Gd (λH u st I O U D=>RZ ah [0,1] l hp cl (by rw[ay];exact Zp aE aK) (by rw[N];exact Zo cy o) bK he J O U D) k
end
def Zq:b4 98 (kP λ((l,m):ac Nat×ac Nat)=>([.a 168 false 1 Nat fL l,.a 168 false 1 Nat fL m],[.aL 0 1 0 l.length l.length,.aL 1 1 0 m.length m.length],l.length=m.length/\l.length<=1000000,[.a 168 false 1 Nat fL l,.a 168 false 1 Nat fL m],.ae<|iY l m)):=by
 refine kT [Zm] T5.1 ?_;intro⟨l,m⟩ ⟨V,aI⟩ H i0 ax af;obtain⟨B,Z,rfl⟩:∃b c,i0=[b,c]:=by
  match i0,af with
  |[b,c],_=>exact⟨b,c,o⟩
 refine vH (λi=>i<=l.length/\iY (l.drop i) (m.drop i)=iY l m) (λ(i:Nat)=>⟨[.a 168 false 1 Nat fL l,.a 168 false 1 Nat fL m],2,[(0,.aL 0 1 0 l.length l.length),(1,.aL 1 1 0 m.length m.length),(9,.aL 0 1 0 l.length l.length),(10,.ae l.length),(11,.ae i)]⟩) (λi=>l.length-i) [0,1] 0 apl ?_;rintro i ⟨af,ah⟩;have fin:∀{c:Int},c=iY l m->ai.ae c=ai.ae (iY l m):=λh=>by rw[h]
 refine U 3 ?_;by_cases h:i<l.length
 .have hm:i<m.length:=by omega
  rw[hL h,hL hm]at ah;replace ah:(if nC l[i] m[i]=0 then iY (l.drop<|i+1) (m.drop<|i+1)else nC l[i] m[i])=iY l m:=ah;refine eD 12<|U 11<|n1 ?_;refine n2 l[i] (show l[0+i]? =some l[i] by rw[jn];exact ba h) ?_;refine U 11<|ee 19<|U 9<|n1 ?_;refine n2 m[i] (show m[0+i]? =some m[i] by rw[jn];exact ba hm) ?_;refine U 7<|bn Zm ((l[i]:Int),(m[i]:Int)) aP<|U 7 ?_;by_cases T:nC l[i] m[i]=0
  .rw[aA T]at ah;exact ee 28<|U 10<|bL [0,1] (i+1) ⟨J,h,ah⟩ cr
  .rw[au T]at ah;exact eD 28<|U 15<|bh asH
 .refine ee 12 ?_;rw[th J]at ah;exact U 17<|ee 35<|U 11<|bh asH
def k2:b4 97 (cR λ((a,b):aM×aM)=>([mY a,mY b],True,.ae<|iY a.n b.n)):=by
 apply cJ [Zq] UH.1;intro⟨a,b⟩ _ H ax
 repeat(first|(refine kb 0 fL a.n ?_)|(refine kb 1 fL b.n ?_)|refine gF o ?_)
 refine Zn ?_;refine Zn ?_;exact amj Zq (a.n,b.n) ⟨o,by show 6<=1000000;decide⟩<|U 4<|fc
end Go.bI.ds
namespace Go.bI.ds
open Go.bI
set_option maxRecDepth 100000
set_option maxHeartbeats 4000000
def NK:b4 130 xJ:=by
 refine cJ [(178,xJ)] Ua.1 ?_;intro x dF H ax;exact U 12<|bn W5 x dF<|U 4<|fc
def hj(k:aM):ac ai:=k.n.flatMap fL
instance:Inhabited aM:=⟨aM.zero⟩
abbrev c5(d:bi aM):a0:=.a 168 true 6 aM hj d.toList
variable{j:Nat}{c:bi aM}{i a:Nat}{w:bi aM}{af f r:Nat}{d:bi aM}
def eN:ai:=.fn (.func 97) [] []
def swp_size(c:bi aM)(i j:Nat):(Go.Sort.swp c i j).size=c.size:=by rw[Go.Sort.swp];simp
def oh(af:i<c.toList.length)(a3:j<c.toList.length):(c.toList.set i c.toList[j]).set j c.toList[i]=(Go.Sort.swp c i j).toList:=by
 have G:i<c.size:=by rwa [<-Array.length_toList]
 have E:j<c.size:=by rwa [<-Array.length_toList]
 rw[Go.Sort.swp,OC,OC,getElem!_pos c j E,getElem!_pos c i G];rfl
def amk(h:i<j):Go.Sort.reverseLoop i j c=Go.Sort.reverseLoop (i+1) (j-1) (Go.Sort.swp c i j):=by
 rw[Go.Sort.reverseLoop.eq_def i j c,aA h]
def aml(h:¬i<j):Go.Sort.reverseLoop i j c=c:=by
 rw[Go.Sort.reverseLoop.eq_def i j c,au h]
def Zr:b4 173 (kP λ((d,a,b):bi aM×Nat×Nat)=>([c5 d],[.aL 0 6 0 d.size d.size,.ae (a:Nat),.ae (b:Nat),eN],a<b/\b<=d.size/\d.size<=1000000,[c5<|Go.Sort.reverseRange d a b],.br [])):=by
 refine kT [] Vq.1 ?_;intro⟨d,a,b⟩ ⟨(F:a<b),(aa:b<=d.size),(cd:d.size<=_)⟩ H i0 ax af;obtain⟨B,rfl⟩:∃b,i0=[b]:=m7.1 af;show bP.ok _ ⟨_,_,⟨[c5 d],1,[(0,.aL 0 6 0 d.size d.size),(1,.ae (a:Nat)),(2,.ae (b:Nat)),(3,eN)]⟩⟩;refine U 10<|b5 12 ((b-1:Nat):Int)<|vH (L:=Nat×Nat×bi aM) (λ(i,j,c)=>i<=d.size/\j<d.size/\c.size=d.size/\Go.Sort.reverseLoop i j c=Go.Sort.reverseRange d a b) (λ((i:Nat),(j:Nat),(c:bi aM))=>⟨[c5 c],1,[(0,.aL 0 6 0 d.size d.size),(8,.ae (i:Nat)),(9,.ae (j:Nat))]⟩) (λx=>x.2.1-x.1) [0] (a,b-1,d) ⟨J,J,o,o⟩ ?_;rintro⟨i,j,c⟩ ⟨q,A,ah,aw⟩;refine U 6 ?_;by_cases h:i<j
 .refine eD 15 ?_;have Y:c.toList.length=d.size:=by rw[jm];exact ah
  refine U 12<|c0 o o<|ed c.toList[j] (ba J) ?_;refine U 2<|c0 o o<|ed c.toList[i] (ba J) ?_;refine c0 o o (hi c.toList[j] (w:=c.toList[i]) (ba J) ?_) (a3:=J);refine U 2<|c0 o o (hi (l:=c.toList.set i c.toList[j]) (ak:=hj) c.toList[i] (w:=c.toList[j]) (show(c.toList.set i c.toList[j])[j]? =some c.toList[j] by rw[nH J];exact ba J) ?_) (a3:=J);refine U 15 ?_;have M:=oh (c:=c) (i:=i) (j:=j) J J;refine bL [0] (i+1,j-1,Go.Sort.swp c i j) ⟨by show j-1-(i+1)<j-i;omega,J,J,by rw[swp_size];exact ah,(amk h).symm.trans aw⟩ atd
 .refine ee 15 ?_;have aw:c=Go.Sort.reverseRange d a b:=(aml h).symm.trans aw;subst aw;exact U 7<|bh apG
def aZ(x y:aM):Bool:=decide (aM.lt x y)
def Zs{b:Nat}(h:i<b):Go.Sort.insOuter aZ a b i c=Go.Sort.insOuter aZ a b (i+1) (Go.Sort.insInner aZ a i c):=by
 rw[Go.Sort.insOuter.eq_def,aA h]
def amm(h:j<=a):Go.Sort.insInner aZ a j w=w:=by
 cases j with
 |zero=>rfl
 |succ j=>rw[Go.Sort.insInner];rw[au];intro g;rw[cQ]at g;exact absurd (jD g.1) J
def amn(h:0<j)(aK:aZ w[j]! w[j-1]! =false):Go.Sort.insInner aZ a j w=w:=by
 obtain⟨j,rfl⟩:∃k,j=k+1:=⟨j-1,J⟩;replace aK:aZ w[j+1]! w[j]! =false:=aK;rw[Go.Sort.insInner,aK,IB,au av]
def amo(h:a<j)(aK:aZ w[j]! w[j-1]! =true):Go.Sort.insInner aZ a j w=Go.Sort.insInner aZ a (j-1) (Go.Sort.swp w j<|j-1):=by
 obtain⟨j,rfl⟩:∃k,j=k+1:=⟨j-1,J⟩;replace aK:aZ w[j+1]! w[j]! =true:=aK;rw[Go.Sort.insInner,aK,AJ,aA<|c9 h];rfl
def HM:b4 169 (kP λ((d,a,b):bi aM×Nat×Nat)=>([c5 d],[.aL 0 6 0 d.size d.size,.ae (a:Nat),.ae (b:Nat),eN],a<=b/\b<=d.size/\d.size<=1000000,[c5<|Go.Sort.insertionSort aZ d a b],.br [])):=by
 refine kT [k2] LR.1 ?_;intro⟨d,a,b⟩ ⟨(F:a<=b),(aa:b<=d.size),(cd:d.size<=_)⟩ H i0 ax af;obtain⟨B,rfl⟩:∃b,i0=[b]:=m7.1 af;show bP.ok _ ⟨_,_,⟨[c5 d],1,[(0,.aL 0 6 0 d.size d.size),(1,.ae (a:Nat)),(2,.ae (b:Nat)),(3,eN)]⟩⟩;refine U 4<|b5 11 ((a+1:Nat):Int)<|vH (L:=Nat×bi aM) (λ(i,c)=>i<=d.size+1/\c.size=d.size/\Go.Sort.insOuter aZ a b i c=Go.Sort.insertionSort aZ d a b) (λ((i:Nat),(c:bi aM))=>⟨[c5 c],1,[(0,.aL 0 6 0 d.size d.size),(1,.ae (a:Nat)),(2,.ae (b:Nat)),(3,eN),(8,.ae (i:Nat))]⟩) (λx=>d.size+1-x.1) [0] (a+1,d) ⟨J,o,o⟩ ?_;rintro⟨i,c⟩ ⟨af,ah,aw⟩;refine U 6 ?_;by_cases h:i<b
 .refine eD 14<|vH (L:=Nat×bi aM) (λ(j,w)=>j<=i/\w.size=d.size/\Go.Sort.insInner aZ a j w=Go.Sort.insInner aZ a i c) (λ((j:Nat),(w:bi aM))=>⟨[c5 w],1,[(0,.aL 0 6 0 d.size d.size),(1,.ae (a:Nat)),(2,.ae (b:Nat)),(3,eN),(8,.ae (i:Nat)),(9,.ae (j:Nat))]⟩) (λx=>x.1) [0] (i,c) ⟨ct _,ah,o⟩ ?_;rintro⟨j,w⟩ ⟨A,hw,D⟩;refine U 7 ?_;by_cases Y:a<j
  .refine ea 21 (.b true) o o (cj<|c9 J) ?_;have V:w.toList.length=d.size:=by rw[jm];exact hw
   refine U 7<|c0 o o (U 1<|ed w.toList[j] (ba J) ?_) (a3:=J);refine U 7<|ea 29 (.ae ((j-1:Nat):Int)) o o (gg J)<|c0 o o (U 1<|ed w.toList[j-1] (ba J) ?_) (a3:=J);refine U 1<|np k2 (w.toList[j],w.toList[j-1]) aP<|U 5 ?_;have T:w[j]! =w.toList[j]:=(getElem!_pos w j J).trans o;have q:w[j-1]! =w.toList[j-1]:=(getElem!_pos w (j-1) J).trans o;by_cases G:iY w.toList[j].n w.toList[j-1].n<0
   .refine v1 34 G<|U 11<|ea 44 (.ae ((j-1:Nat):Int)) o o (gg J)<|c0 o o (ed w.toList[j-1] (ba J) ?_) (a3:=J);refine U 2<|c0 o o (ed w.toList[j] (ba J) ?_) (a3:=J);refine c0 o o (hi w.toList[j-1] (w:=w.toList[j]) (ba J) ?_) (a3:=J);refine U 3<|ea 41 (.ae ((j-1:Nat):Int)) o o (gg J)<|c0 o o (hi (l:=w.toList.set j w.toList[j-1]) (ak:=hj) w.toList[j] (w:=w.toList[j-1]) (show(w.toList.set j w.toList[j-1])[j-1]? =some w.toList[j-1] by rw[nH J];exact ba J) ?_) (a3:=J);refine U 8 ?_;have M:=oh (c:=w) (i:=j) (j:=j-1) J J;refine bL [0] (j-1,Go.Sort.swp w j<|j-1) ⟨by show j-1<j;omega,J,by rw[swp_size];exact hw,by rw[<-D,amo (j:=j) Y<|by rw[T,q];exact c9<|(HL _ _).1 G]⟩ atd
   .refine v0 34 G ?_;have u:Go.Sort.insInner aZ a i c=w:=by
     rw[<-D,amn J<|by rw[T,q];exact dk λg=>G<|(HL _ _).2 g]
    exact U 12<|bL [0] (i+1,w) ari cr
  .refine ea 21 (.b false) o o (cj<|dk J)<|U 27 ?_;have u:Go.Sort.insInner aZ a i c=w:=by rw[<-D,amm J]
   exact bL [0] (i+1,w) ari cr
 .refine ee 14 ?_;have aw:c=Go.Sort.insertionSort aZ d a b:=by rw[<-aw,Go.Sort.insOuter.eq_def,au h]
  subst aw;exact U 7<|bh apG
def NL(h:¬2*r+1<af):Go.Sort.siftDown aZ af f r d=d:=by
 rw[Go.Sort.siftDown.eq_def,uN J]
theorem NM{bF:Nat}(h:2*r+1<af)(E:(bF=2*r+2/\2*r+2<af/\aZ d[f+(2*r+1)]! d[f+(2*r+2)]! =true)\/(bF=2*r+1/\¬(2*r+2<af/\aZ d[f+(2*r+1)]! d[f+(2*r+2)]! =true))):
 Go.Sort.siftDown aZ af f r d=if aZ d[f+r]! d[f+bF]! =true then Go.Sort.siftDown aZ af f bF (Go.Sort.swp d (f+r)<|f+bF)else d:=by
 rw[Go.Sort.siftDown.eq_def,dif_neg J];obtain⟨rfl,Y,G⟩|⟨rfl,Y⟩:=E
 .rw[aA aoM,uN Y];cases aZ d[f+r]! d[f+(2*r+2)]! <;>rfl
 .rw[au aoM];cases aZ d[f+r]! d[f+(2*r+1)]! <;>rfl
section
variable{p:aM->Bool}{d:bi aM}{i j:Nat}
def NN(h:i<=j)(hp:p d[i]! =true):Go.Sort.scanUp p d j i=Go.Sort.scanUp p d j (i+1):=by
 rw[Go.Sort.scanUp.eq_def p d j i,hp,AJ,aA<|c9 h]
def NO(h:¬i<=j):Go.Sort.scanUp p d j i=i:=by
 rw[Go.Sort.scanUp.eq_def p d j i,au];rw[cQ];exactλg=>h<|jD g.1
def NP(hp:p d[i]! =false):Go.Sort.scanUp p d j i=i:=by
 rw[Go.Sort.scanUp.eq_def p d j i,hp,IB,au av]
def NQ(bS:0<i)(h:i<=j)(hp:p d[j]! =true):Go.Sort.scanDown p d i j=Go.Sort.scanDown p d i (j-1):=by
 obtain⟨j,rfl⟩:∃k,j=k+1:=⟨j-1,J⟩;rw[Go.Sort.scanDown,hp,AJ,aA<|c9 h];rfl
def NR(h:¬i<=j):Go.Sort.scanDown p d i j=j:=by
 cases j with
 |zero=>rfl
 |succ j=>
  rw[Go.Sort.scanDown,au];rw[cQ];exactλg=>h<|jD g.1
def NS(hp:p d[j]! =false):Go.Sort.scanDown p d i j=j:=by
 cases j with
 |zero=>rfl
 |succ j=>rw[Go.Sort.scanDown,hp,IB,au av]
end
section
variable{a i j i2 gw:Nat}{d:bi aM}
def amp(aE:Go.Sort.scanUp (λx=>aZ x d[a]!) d j i=i2)(aK:Go.Sort.scanDown (λx=> !aZ x d[a]!) d i2 j=gw)(h:¬i2<=gw):Go.Sort.partLoop aZ a i j d=(gw,d):=by
 rw[Go.Sort.partLoop.eq_def];dsimp only;rw[aE,aK,aA J]
def amq(aE:Go.Sort.scanUp (λx=>aZ x d[a]!) d j i=i2)(aK:Go.Sort.scanDown (λx=> !aZ x d[a]!) d i2 j=gw)(h:i2<=gw)(af:i<=i2)(a3:gw<=j)(bS:0<i):Go.Sort.partLoop aZ a i j d=Go.Sort.partLoop aZ a (i2+1) (gw-1) (Go.Sort.swp d i2 gw):=by
 rw[Go.Sort.partLoop.eq_def aZ a i j d];dsimp only;rw[aE,aK,au J,uN J]
def amr(aE:Go.Sort.scanUp (λx=> !aZ d[a]! x) d j i=i2)(aK:Go.Sort.scanDown (λx=>aZ d[a]! x) d i2 j=gw)(h:¬i2<=gw):Go.Sort.partEqLoop aZ a i j d=(i2,d):=by
 rw[Go.Sort.partEqLoop.eq_def];dsimp only;rw[aE,aK,aA J]
def ams(aE:Go.Sort.scanUp (λx=> !aZ d[a]! x) d j i=i2)(aK:Go.Sort.scanDown (λx=>aZ d[a]! x) d i2 j=gw)(h:i2<=gw)(af:i<=i2)(a3:gw<=j)(bS:0<i):Go.Sort.partEqLoop aZ a i j d=Go.Sort.partEqLoop aZ a (i2+1) (gw-1) (Go.Sort.swp d i2 gw):=by
 rw[Go.Sort.partEqLoop.eq_def aZ a i j d];dsimp only;rw[aE,aK,au J,uN J]
end
section
variable{b i:Nat}{d:bi aM}
def amt(h:i<b)(hp:aZ d[i]! d[i-1]! =false):Go.Sort.scanSorted aZ d b i=Go.Sort.scanSorted aZ d b (i+1):=by
 rw[Go.Sort.scanSorted.eq_def aZ d b i,hp,aA];rw[cQ];exact⟨c9 h,o⟩
def amu(h:¬i<b):Go.Sort.scanSorted aZ d b i=i:=by
 rw[Go.Sort.scanSorted.eq_def aZ d b i,au];rw[cQ];exactλg=>h<|jD g.1
def amv(hp:aZ d[i]! d[i-1]! =true):Go.Sort.scanSorted aZ d b i=i:=by
 rw[Go.Sort.scanSorted.eq_def aZ d b i,hp,au];rw[cQ];exactλg=>by cases g.2
def amw(bS:0<i)(hp:aZ d[i]! d[i-1]! =false):Go.Sort.shiftDown aZ i d=d:=by
 obtain⟨i,rfl⟩:∃k,i=k+1:=⟨i-1,J⟩;have hp:aZ d[i+1]! d[i]! =false:=hp;rw[Go.Sort.shiftDown,hp];rfl
def amx(bS:0<i)(hp:aZ d[i]! d[i-1]! =true):Go.Sort.shiftDown aZ i d=Go.Sort.shiftDown aZ (i-1) (Go.Sort.swp d i<|i-1):=by
 obtain⟨i,rfl⟩:∃k,i=k+1:=⟨i-1,J⟩;have hp:aZ d[i+1]! d[i]! =true:=hp;rw[Go.Sort.shiftDown,hp];rfl
def amy(h:¬i<b):Go.Sort.shiftUp aZ b i d=d:=by
 rw[Go.Sort.shiftUp.eq_def aZ b i d,au h]
def amz(hp:aZ d[i]! d[i-1]! =false):Go.Sort.shiftUp aZ b i d=d:=by
 rw[Go.Sort.shiftUp.eq_def aZ b i d,hp];split<;>rfl
def amA(h:i<b)(hp:aZ d[i]! d[i-1]! =true):Go.Sort.shiftUp aZ b i d=Go.Sort.shiftUp aZ b (i+1) (Go.Sort.swp d i<|i-1):=by
 rw[Go.Sort.shiftUp.eq_def aZ b i d,aA h,hp,au av]
end
variable{x y:aM}
def pV(h:iY x.n y.n<0):aZ x y=true:=c9<|(HL _ _).1 h
def pW(h:¬iY x.n y.n<0):aZ x y=false:=dk λg=>h<|(HL _ _).2 g
def cu(h:i<c.toList.length):c[i]! =c.toList[i]:=(getElem!_pos c i J).trans o
def z7:Go.Sort.SWO aZ where
 irrefl:=λx=>dk (aM.qP x)
 trans:=λx y z h D=>c9 (aM.zY (jD h)<|jD D)
 ntrans:=λx y z h D=>dk λg=>by
  have D:=of_decide_eq_false D;by_cases e:x=y
  .subst e;exact D g
  .have Y:=aM.Nk (of_decide_eq_false h) e;exact D<|aM.zY Y g
def amB{o:ac aM}{f:Poly}(M:f.eM)(hp:o.Perm (f.map (·.1))):Go.Sort.sort aZ o.toArray=(f.map (·.1)).toArray:=by
 have⟨⟨Y,_,G⟩,C⟩:=Go.Sort.sort_sorts aZ z7 o.toArray;generalize Go.Sort.sort aZ o.toArray=d at *;rw[Array.extract_size,<-Y,Array.extract_size]at G;rw[<-Y]at C;have e:d.toList=f.map (·.1):=by
  refine List.Perm.eq_of_pairwise (le:=λx y=>aZ y x=false) (λa b _ _ h D=>?_) ?_ ?_ (G.trans hp)
  .have h:=of_decide_eq_false h;by_cases e:a=b
   .exact e
   .exact absurd (aM.Nk (of_decide_eq_false D) e) h
  .rw[lA];intro i j af A O;have u:i<d.size:=by rwa [<-Array.length_toList]
   have E:j<d.size:=by rwa [<-Array.length_toList]
   have:=C i j (dg _) O E
   rwa [cu af,cu A]at this
  .refine pj.2<|M.imp λ{p q} h=>dk λg=>aM.qP _<|aM.zY h g
 rw[<-e]
def m1(c:bi aM)(a b:Nat)(dv:Bool):bi aM:=if(!dv)=true then Go.Sort.breakPatterns c a b else c
def pX(l:Nat)(dv:Bool):Nat:=if(!dv)=true then l-1 else l
def mn(d:bi aM)(a b:Nat):bi aM×Nat×Go.Sort.Hint:=
 (if(Go.Sort.choosePivot aZ d a b).2= .decreasing then Go.Sort.reverseRange d a b else d,
  if(Go.Sort.choosePivot aZ d a b).2= .decreasing then(b-1)-((Go.Sort.choosePivot aZ d a b).1-a)else(Go.Sort.choosePivot aZ d a b).1,
  if(Go.Sort.choosePivot aZ d a b).2= .decreasing then Go.Sort.Hint.increasing else(Go.Sort.choosePivot aZ d a b).2)
def ly(x:bi aM×Nat×Go.Sort.Hint)(a b:Nat)(dv wp:Bool):bi aM×Bool:=
 if(dv&&wp&&decide (x.2.2= .increasing))=true then Go.Sort.partialInsertionSort aZ x.1 a b else(x.1,false)
section
variable{c:bi aM}{a b l:Nat}{dv wp:Bool}
def Zt(h:b-a<=12):Go.Sort.pdq aZ c a b l dv wp=Go.Sort.insertionSort aZ c a b:=by
 rw[Go.Sort.pdq.eq_def,aA h]
def amC(h:¬b-a<=12)(aI:l=0):Go.Sort.pdq aZ c a b l dv wp=Go.Sort.heapSort aZ c a b:=by
 rw[Go.Sort.pdq.eq_def,au h,aA aI]
def HN(h:¬b-a<=12)(aI:¬l=0):Go.Sort.pdq aZ c a b l dv wp=
 if(ly (mn (m1 c a b dv) a b) a b dv wp).2=true then(ly (mn (m1 c a b dv) a b) a b dv wp).1 else
 if(decide (a>0)&& !aZ (ly (mn (m1 c a b dv) a b) a b dv wp).1[a-1]! (ly (mn (m1 c a b dv) a b) a b dv wp).1[(mn (m1 c a b dv) a b).2.1]!)=true then
  match Go.Sort.partitionEqual aZ (ly (mn (m1 c a b dv) a b) a b dv wp).1 a b (mn (m1 c a b dv) a b).2.1 with
  |(eo,d4)=>if I:a<eo/\eo<=b then Go.Sort.pdq aZ d4 eo b (pX l dv) dv wp else d4
 else
  match Go.Sort.partition aZ (ly (mn (m1 c a b dv) a b) a b dv wp).1 a b (mn (m1 c a b dv) a b).2.1 with
  |(eo,ap,d4)=>if I:a<=eo/\eo<b then
   if eo-a<b-eo then
    Go.Sort.pdq aZ (Go.Sort.pdq aZ d4 a eo (pX l dv) true true) (eo+1) b (pX l dv) (decide (eo-a>=(b-a)/8)) ap
   else
    Go.Sort.pdq aZ (Go.Sort.pdq aZ d4 (eo+1) b (pX l dv) true true) a eo (pX l dv) (decide (b-eo>=(b-a)/8)) ap
   else d4:=by
 rw[Go.Sort.pdq.eq_def aZ c a b l dv wp,au h,au aI];rfl
section
variable{d2 d3 d4:bi aM}{gS eo:Nat}{aN:Go.Sort.Hint}{ap:Bool}(h:¬b-a<=12)(aI:¬l=0)(dF:mn (m1 c a b dv) a b=(d2,gS,aN))
include h aI dF
def amD(hp:ly (d2,gS,aN) a b dv wp=(d3,true)):Go.Sort.pdq aZ c a b l dv wp=d3:=by
 rw[HN h aI,dF,hp];rfl
theorem amE(hp:ly (d2,gS,aN) a b dv wp=(d3,false))(bK:0<a)(aB:aZ d3[a-1]! d3[gS]! =false)(he:Go.Sort.partitionEqual aZ d3 a b gS=(eo,d4))(aw:a<eo/\eo<=b):Go.Sort.pdq aZ c a b l dv wp=Go.Sort.pdq aZ d4 eo b (pX l dv) dv wp:=by
 rw[HN h aI,dF,hp];dsimp only;rw[au av,aB,aA aoM,he,uN aw]
theorem amF(hp:ly (d2,gS,aN) a b dv wp=(d3,false))(aj:¬(0<a/\aZ d3[a-1]! d3[gS]! =false))(he:Go.Sort.partition aZ d3 a b gS=(eo,ap,d4))(aw:a<=eo/\eo<b)(aT:eo-a<b-eo):Go.Sort.pdq aZ c a b l dv wp=Go.Sort.pdq aZ (Go.Sort.pdq aZ d4 a eo (pX l dv) true true) (eo+1) b (pX l dv) (decide (eo-a>=(b-a)/8)) ap:=by
 rw[HN h aI,dF,hp];dsimp only;rw[au av,au aoM,he,uN aw,aA aT]
theorem amG(hp:ly (d2,gS,aN) a b dv wp=(d3,false))(aj:¬(0<a/\aZ d3[a-1]! d3[gS]! =false))(he:Go.Sort.partition aZ d3 a b gS=(eo,ap,d4))(aw:a<=eo/\eo<b)(aT:¬eo-a<b-eo):Go.Sort.pdq aZ c a b l dv wp=Go.Sort.pdq aZ (Go.Sort.pdq aZ d4 (eo+1) b (pX l dv) true true) a eo (pX l dv) (decide (b-eo>=(b-a)/8)) ap:=by
 rw[HN h aI,dF,hp];dsimp only;rw[au av,au aoM,he,uN aw,au aT]
end
open Go.Sort in
def amH(F:a<=b)(aa:b<=c.size):PermIn a b c (m1 c a b dv):=by
 rw[m1];split
 .exact breakPatterns_holds c a b F aa
 .exact permIn_refl c a b
open Go.Sort in
def amI(F:a<b)(aa:b<=c.size):PermIn a b c (mn c a b).1/\a<=(mn c a b).2.1/\(mn c a b).2.1<b:=by
 have T:=choosePivot_holds aZ c a b F;rw[mn];dsimp only;split
 .exact⟨reverseRange_holds c a b J aa,J,J⟩
 .exact⟨permIn_refl c a b,T⟩
open Go.Sort in
def amJ{x:bi aM×Nat×Hint}(F:a<b)(aa:b<=x.1.size)(O:Below aZ a b x.1):PermIn a b x.1 (ly x a b dv wp).1:=by
 rw[ly];split
 .exact(partialInsertionSort_holds z7 x.1 a b F aa O).1
 .exact permIn_refl x.1 a b
end
section
variable{an:e2}{K:ac dC}{own:ac a0}{aC:Nat}{e:bV}{c:bu}
variable{P:Prop}{cd:Decidable P}
theorem v7(t:Nat)(h:¬P)(k:bP.ok an ⟨K,c,⟨own,aC,(t,.b true)::e⟩⟩)(aI:dx e t=some (.b<|!decide P):=by rfl)(ah:c.nY=false:=by rfl):bP.ok an ⟨K,c,⟨own,aC,e⟩⟩:=a9 t (.b true) aI aoM k ah
theorem v8(t:Nat)(h:P)(k:bP.ok an ⟨K,c,⟨own,aC,(t,.b false)::e⟩⟩)(aI:dx e t=some (.b<|!decide P):=by rfl)(ah:c.nY=false:=by rfl):bP.ok an ⟨K,c,⟨own,aC,e⟩⟩:=a9 t (.b false) aI aoM k ah
def xY(t n:Nat){m:Nat}{b:Int}(k:bP.ok an ⟨K,c,⟨own,aC,(t,.ae ((m/n:Nat):Int))::e⟩⟩)(aI:dx e t=some (.ae<|IntKind.i64.wrap<|Int.tdiv (m:Int) b):=by rfl)(aa:b=(n:Int):=by rfl)(hm:m<9223372036854775808:=by omega)(ah:c.nY=false:=by rfl):bP.ok an ⟨K,c,⟨own,aC,e⟩⟩:=a9 t _ aI (by
 subst aa;have Y:Int.tdiv (m:Int) n=↑(m/n):=rfl;have G:=mr m n;obtain⟨q,aD⟩:∃q,q=m/n:=dq;rw[Y];rw[j9 J J]) k ah
end
variable{b s p i2:Nat}
def NT:b4 211 (kP λ((d,aQ,af,f):bi aM×Nat×Nat×Nat)=>([c5 d],[.aL 0 6 0 d.size d.size,.ae (aQ:Nat),.ae (af:Nat),.ae (f:Nat),eN],aQ<=d.size/\f+af<=d.size/\d.size<=1000000,[c5<|Go.Sort.siftDown aZ af f aQ d],.br [])):=by
 refine kT [k2] UW.1 ?_;intro⟨d,aQ,af,f⟩ ⟨(fA:aQ<=d.size),(q:f+af<=d.size),(cd:d.size<=_)⟩ H i0 ax Z;obtain⟨B,rfl⟩:∃b,i0=[b]:=m7.1 Z;show bP.ok _ ⟨_,_,⟨[c5 d],1,[(0,.aL 0 6 0 d.size d.size),(1,.ae (aQ:Nat)),(2,.ae (af:Nat)),(3,.ae (f:Nat)),(4,eN)]⟩⟩;refine vH (L:=Nat×bi aM) (λ(r,c)=>r<=d.size/\c.size=d.size/\Go.Sort.siftDown aZ af f r c=Go.Sort.siftDown aZ af f aQ d) (λ((r:Nat),(c:bi aM))=>⟨[c5 c],1,[(0,.aL 0 6 0 d.size d.size),(2,.ae (af:Nat)),(3,.ae (f:Nat)),(4,eN),(10,.ae (r:Nat))]⟩) (λx=>af-x.1) [0] (aQ,d) ⟨fA,o,o⟩ ?_;rintro⟨r,c⟩ ⟨aw,ah,T⟩;have Y:c.toList.length=d.size:=by rw[jm];exact ah
 refine U 5<|b5 14 ((2*r:Nat):Int)<|U 1<|b5 15 ((2*r+1:Nat):Int)<|U 9 ?_;by_cases h:2*r+1<af
 case neg=>
  refine eD 18 ?_;have T:c=Go.Sort.siftDown aZ af f aQ d:=(NL h).symm.trans T;subst T;exact U 8<|bh apG
 refine ee 18 ?_
 iterate 4 refine gF o ?_
 refine KQ (L:=Nat) (λbF=>(bF=2*r+2/\2*r+2<af/\aZ c[f+(2*r+1)]! c[f+(2*r+2)]! =true)\/(bF=2*r+1/\¬(2*r+2<af/\aZ c[f+(2*r+1)]! c[f+(2*r+2)]! =true))) (λ(bF:Nat)=>⟨[c5 c],1,[(0,.aL 0 6 0 d.size d.size),(2,.ae (af:Nat)),(3,.ae (f:Nat)),(4,eN),(10,.ae (r:Nat)),(11,.ae (bF:Nat))]⟩) ?_ ?_
 .refine U 4<|ww 20 ((2*r+2:Nat):Int)<|U 3 ?_;by_cases G:2*r+2<af
  .refine fj 23 (show((2*r+2:Nat):Int)<(af:Int) by omega)<|U 10 (ww 28 ((f+(2*r+1):Nat):Int)<|U 1<|c0 o o (U 1<|ed c.toList[f+(2*r+1)] (ba J) ?_) (a3:=J));refine U 8<|ww 34 ((f+(2*r+1):Nat):Int)<|U 2 (ww 35 ((f+(2*r+2):Nat):Int)<|U 1<|c0 o o (U 1<|ed c.toList[f+(2*r+2)] (ba J) ?_) (a3:=J));refine U 1<|np k2 (c.toList[f+(2*r+1)],c.toList[f+(2*r+2)]) aP<|U 5 ?_;by_cases C:iY c.toList[f+(2*r+1)].n c.toList[f+(2*r+2)].n<0
   .exact v1 40 C<|U 4<|b5 42 ((2*r+2:Nat):Int)<|U 2<|fk [0] (2*r+2) (.inl ⟨o,G,by rw[cu J,cu J];exact pV C⟩)
   .exact v0 40 C<|U 2<|fk [0] (2*r+1) (.inr ⟨o,λg=>by have:=g.2;rw[cu J,cu J,pW C]at this;cases this⟩)
  .exact dR 23 (show¬((2*r+2:Nat):Int)<(af:Int) by omega)<|U 21<|fk [0] (2*r+1) (.inr ⟨o,λg=>G g.1⟩)
 rintro bF A;have F:=NM h A;have u:r<bF/\bF<af:=J
 refine U 8<|ww 47 ((f+r:Nat):Int)<|c0 o o (ed c.toList[f+r] (ba J) ?_) (a3:=J);refine U 4<|ww 53 ((f+bF:Nat):Int)<|c0 o o (ed c.toList[f+bF] (ba J) ?_) (a3:=J);refine np k2 (c.toList[f+r],c.toList[f+bF]) aP<|U 4 ?_;by_cases C:iY c.toList[f+r].n c.toList[f+bF].n<0
 .have E:aZ c[f+r]! c[f+bF]! =true:=by rw[cu J,cu J];exact pV C
  rw[aA E]at F;refine v8 58 C ?_;refine U 9<|ww 62 ((f+r:Nat):Int)<|U 4 (ww 70 ((f+bF:Nat):Int)<|c0 o o (ed c.toList[f+bF] (ba J) ?_) (a3:=J));refine U 4<|ww 76 ((f+r:Nat):Int)<|c0 o o (ed c.toList[f+r] (ba J) ?_) (a3:=J);refine c0 o o (hi c.toList[f+bF] (w:=c.toList[f+r]) (ba J) ?_) (a3:=J);refine U 4<|ww 66 ((f+bF:Nat):Int)<|c0 o o (hi (l:=c.toList.set (f+r) c.toList[f+bF]) (ak:=hj) c.toList[f+r] (j:=f+bF) (ba ep) ?_) (a3:=J);refine U 7 ?_;have M:=oh (c:=c) (i:=f+r) (j:=f+bF) J J;exact bL [0] (bF,Go.Sort.swp c (f+r)<|f+bF) ⟨by show af-bF<af-r;omega,J,by rw[swp_size];exact ah,F.symm.trans T⟩ atd
 .have E:¬aZ c[f+r]! c[f+bF]! =true:=by rw[cu J,cu J,pW C];decide
  rw[au E]at F;have T:c=Go.Sort.siftDown aZ af f aQ d:=F.symm.trans T;subst T;refine v7 58 C ?_;exact U 6<|bh ar1
def Zu(af f:Nat):∀(n r:Nat) (d:bi aM),af-r<=n->(Go.Sort.siftDown aZ af f r d).size=d.size:=by
 intro n
 induction n with
 |zero=>intro r d h;rw[NL J]
 |succ n U=>
  intro r d h;by_cases Y:2*r+1<af
  .by_cases G:2*r+2<af/\aZ d[f+(2*r+1)]! d[f+(2*r+2)]! =true
   .rw[NM Y<|.inl ⟨o,G⟩];split
    .rw[U _ _ J,swp_size]
    .rfl
   .rw[NM Y<|.inr ⟨o,G⟩];split
    .rw[U _ _ J,swp_size]
    .rfl
  .rw[NL Y]
def z8{n:Nat}{x y z w:ai}(h:c.size=n):[ai.aL 0 6 0 n n,x,y,z,w]=[ai.aL 0 6 0 c.size c.size,x,y,z,w]:=by rw[h]
def Zv:b4 170 (kP λ((d,a,b):bi aM×Nat×Nat)=>([c5 d],[.aL 0 6 0 d.size d.size,.ae (a:Nat),.ae (b:Nat),eN],a<b/\b<=d.size/\d.size<=1000000,[c5<|Go.Sort.heapSort aZ d a b],.br [])):=by
 refine kT [NT] Vp.1 ?_;intro⟨d,a,b⟩ ⟨(F:a<b),(aa:b<=d.size),(cd:d.size<=_)⟩ H i0 ax af;obtain⟨B,rfl⟩:∃b,i0=[b]:=m7.1 af;show bP.ok _ ⟨_,_,⟨[c5 d],1,[(0,.aL 0 6 0 d.size d.size),(1,.ae (a:Nat)),(2,.ae (b:Nat)),(3,eN)]⟩⟩;refine U 16<|b5 16 ((b-a:Nat):Int)<|U 8<|b5 18 ((b-a-1:Nat):Int)<|U 1 (xY 19 2 (m:=b-a-1)<|U 4<|dN (L:=Nat×bi aM) (λ(k,c)=>k<=b-a/\c.size=d.size/\Go.Sort.heapBuild aZ (b-a) a k c=Go.Sort.heapBuild aZ (b-a) a ((b-a-1)/2+1) d) (λ((k:Nat),(c:bi aM))=>⟨[c5 c],1,[(0,.aL 0 6 0 d.size d.size),(3,eN),(8,.ae (a:Nat)),(9,.ae 0),(10,.ae ((b-a:Nat):Int)),(11,.ae<|(k:Int)-1)]⟩) (λx=>x.1) [0] ((b-a-1)/2+1,d) ⟨J,o,o⟩ (by show(b-a-1)/2+1<bz+1;unfold bz;omega) cr ?_);rintro⟨k,c⟩ ⟨E,ah,O⟩;refine U 5 ?_;by_cases T:k=0
 case neg=>
  obtain⟨m,rfl⟩:∃m,k=m+1:=⟨k-1,J⟩;refine eD 21<|vx 11 ((m:Nat):Int)<|U 13<|lN NT 0 (c,m,b-a,a) ary ?_ (he:=z8 ah);exact U 8<|bL [0] (m,Go.Sort.siftDown aZ (b-a) a m c) ⟨nI _,J,by rw[Zu _ _ _ _ _<|ct _];exact ah,O⟩ cr
 subst T;refine ee 21 ?_;have O:c=Go.Sort.heapBuild aZ (b-a) a ((b-a-1)/2+1) d:=O;refine U 12<|b5 31 ((b-a:Nat)-1:Int)<|U 4<|dN (L:=Nat×bi aM) (λ(k,w)=>k<=b-a/\w.size=d.size/\Go.Sort.heapPop aZ a k w=Go.Sort.heapSort aZ d a b) (λ((k:Nat),(c:bi aM))=>⟨[c5 c],1,[(0,.aL 0 6 0 d.size d.size),(3,eN),(8,.ae (a:Nat)),(9,.ae 0),(12,.ae<|(k:Int)-1)]⟩) (λx=>x.1) [0] (b-a,c) ⟨ct _,ah,by rw[O];rfl⟩ (by show b-a<bz+1;unfold bz;omega) cr ?_;clear O ah;rintro⟨k,w⟩ ⟨E,hw,Y⟩;have V:w.toList.length=d.size:=by rw[jm];exact hw
 refine U 5 ?_;by_cases T:k=0
 case neg=>
  obtain⟨m,rfl⟩:∃m,k=m+1:=⟨k-1,J⟩;refine eD 33<|vx 12 ((m:Nat):Int) ?_;refine U 15<|ww 45 ((a+m:Nat):Int)<|c0 o o (ed w.toList[a+m] (ba J) ?_) (a3:=J);refine U 2<|c0 o o (ed w.toList[a] (ba J) ?_) (a3:=J);refine c0 o o (hi w.toList[a+m] (w:=w.toList[a]) (ba J) ?_) (a3:=J);refine U 4<|ww 41 ((a+m:Nat):Int)<|c0 o o (hi (l:=w.toList.set (a) w.toList[a+m]) (ak:=hj) w.toList[a] (j:=a+m) (ba ep) ?_) (a3:=J);refine U 8 ?_;have M:=oh (c:=w) (i:=a) (j:=a+m) J J;have q:(Go.Sort.swp w a<|a+m).size=d.size:=by rw[swp_size];exact hw
  refine lN NT 0 (Go.Sort.swp w a<|a+m,0,m,a) ary ?_ (R:=c5<|Go.Sort.swp w a<|a+m) (aB:=⟨_,o,congrArg (a0.a 168 true 6 aM hj) M,λ_=>o⟩) (he:=z8 q);exact U 8<|bL [0] (m,Go.Sort.siftDown aZ m a 0<|Go.Sort.swp w a<|a+m) ⟨nI _,J,by rw[Zu _ _ _ _ _<|ct _];exact q,Y⟩ cr
 subst T;refine ee 33 ?_;have Y:w=Go.Sort.heapSort aZ d a b:=Y;subst Y;exact U 7<|bh apG
def amK(aE:Go.Sort.scanUp (λx=>aZ x (Go.Sort.swp d a p)[a]!) (Go.Sort.swp d a p) (b-1) (a+1)=i)(aK:Go.Sort.scanDown (λx=> !aZ x (Go.Sort.swp d a p)[a]!) (Go.Sort.swp d a p) i (b-1)=j)(h:¬i<=j):Go.Sort.partition aZ d a b p=(j,true,Go.Sort.swp (Go.Sort.swp d a p) j a):=by
 unfold Go.Sort.partition;dsimp only;rw[aE,aK,aA J]
def amL{r:Nat×bi aM}(aE:Go.Sort.scanUp (λx=>aZ x (Go.Sort.swp d a p)[a]!) (Go.Sort.swp d a p) (b-1) (a+1)=i)(aK:Go.Sort.scanDown (λx=> !aZ x (Go.Sort.swp d a p)[a]!) (Go.Sort.swp d a p) i (b-1)=j)(h:i<=j)(o:Go.Sort.partLoop aZ a (i+1) (j-1) (Go.Sort.swp (Go.Sort.swp d a p) i j)=r):Go.Sort.partition aZ d a b p=(r.1,false,Go.Sort.swp r.2 r.1 a):=by
 unfold Go.Sort.partition;dsimp only;rw[aE,aK,au J,o]
def Zw{x y:Nat×Bool×bi aM}(h:x=y):ai.br [.ae (y.1:Nat),.b y.2.1]=ai.br [.ae (x.1:Nat),.b x.2.1]:=by rw[h]
def Zx{x y:Nat×Bool×bi aM}{l:ac aM}(h:x=y)(aI:l=y.2.2.toList):some (a0.a 168 true 6 aM hj l)=some (c5 x.2.2):=by rw[h,aI]
def Zy:b4 176 (kP λ((d,a,b,p):bi aM×Nat×Nat×Nat)=>([c5 d],[.aL 0 6 0 d.size d.size,.ae (a:Nat),.ae (b:Nat),.ae (p:Nat),eN],a<b/\b<=d.size/\p<d.size/\d.size<=1000000,[c5 (Go.Sort.partition aZ d a b p).2.2],.br [.ae ((Go.Sort.partition aZ d a b p).1:Nat),.b (Go.Sort.partition aZ d a b p).2.1])):=by
 refine kT [k2] UR.1 ?_;intro⟨d,a,b,p⟩ ⟨(F:a<b),(aa:b<=d.size),(hp:p<d.size),(cd:d.size<=_)⟩ H i0 ax af;obtain⟨ay,rfl⟩:∃b,i0=[b]:=m7.1 af;have G:d.toList.length=d.size:=jm;show bP.ok _ ⟨_,_,⟨[c5 d],1,[(0,.aL 0 6 0 d.size d.size),(1,.ae (a:Nat)),(2,.ae (b:Nat)),(3,.ae (p:Nat)),(4,eN)]⟩⟩;refine U 12<|c0 o o (ed d.toList[p] (ba J) ?_) (a3:=J);refine U 2<|c0 o o (ed d.toList[a] (ba J) ?_) (a3:=J);refine c0 o o (hi d.toList[p] (w:=d.toList[a]) (ba J) ?_) (a3:=J);refine U 2<|c0 o o (hi (l:=d.toList.set (a) d.toList[p]) (ak:=hj) d.toList[a] (j:=p) (ba ep) ?_) (a3:=J);refine U 14 ?_;have M:=oh (c:=d) (i:=a) (j:=p) J J;refine b5 12 ((a+1:Nat):Int)<|b5 13 ((b-1:Nat):Int) ?_;have B:(Go.Sort.swp d a p).size=d.size:=swp_size _ _ _;obtain⟨c,Y⟩:∃c,c=Go.Sort.swp d a p:=dq;rw[<-Y]at M B;have ai:c.toList.length=d.size:=by rw[jm];exact B
 refine qD (L:=Nat) (λu=>Go.Sort.scanUp (λx=>aZ x c[a]!) c (b-1) (a+1)=u/\(a+1)<=u/\u<=d.size+2) (λ(u:Nat)=>⟨[c5 c],1,[(0,.aL 0 6 0 d.size d.size),(1,.ae (a:Nat)),(4,eN),(12,.ae ((u:Nat):Int)),(13,.ae ((b-1:Nat):Int))]⟩) ?_ ?_
 .refine dN (L:=Nat) (λu=>Go.Sort.scanUp (λx=>aZ x c[a]!) c (b-1) u=Go.Sort.scanUp (λx=>aZ x c[a]!) c (b-1) (a+1)/\(a+1)<=u/\u<=d.size+2) (λ(u:Nat)=>⟨[c5 c],1,[(0,.aL 0 6 0 d.size d.size),(1,.ae (a:Nat)),(4,eN),(12,.ae ((u:Nat):Int)),(13,.ae ((b-1:Nat):Int))]⟩) (λu=>b-1+1-u) [0] (a+1) z9 asw atm ?_;rintro(u:Nat) ⟨T,W,N⟩;refine U 7 ?_;by_cases h:u<=b-1
  .refine fj 35 (show((u:Nat):Int)<=((b-1:Nat):Int) by omega)<|U 7<|c0 o o (U 1<|ed c.toList[u] (ba J) ?_) (a3:=J);refine U 5<|c0 o o (U 1<|ed c.toList[a] (ba J) ?_) (a3:=J);refine U 1<|np k2 (c.toList[u],c.toList[a]) aP<|U 5 ?_;by_cases C:iY c.toList[u].n c.toList[a].n<0
   .exact v1 47 C<|U 10<|bL [0] (u+1) ⟨by show b-1+1-(u+1)<b-1+1-u;omega,(NN h<|by show aZ c[u]! c[a]! =true;rw[cu J,cu J,pV C]).symm.trans T,J,J⟩ cr
   .exact v0 47 C<|U 5<|fk [0] u ⟨T.symm.trans (NP<|by show aZ c[u]! c[a]! =false;rw[cu J,cu J,pW C]),W,N⟩
  .exact dR 35 (show¬((u:Nat):Int)<=((b-1:Nat):Int) by omega)<|U 19<|fk [0] u ⟨T.symm.trans<|NO h,W,N⟩
 rintro(i:Nat) ⟨hu,A,aj⟩;refine U 2<|qD (L:=Nat) (λq=>Go.Sort.scanDown (λx=> !aZ x c[a]!) c i (b-1)=q/\q<=(b-1)/\a<=q) (λ(q:Nat)=>⟨[c5 c],1,[(0,.aL 0 6 0 d.size d.size),(1,.ae (a:Nat)),(4,eN),(12,.ae ((i:Nat):Int)),(13,.ae ((q:Nat):Int))]⟩) ?_ ?_
 .refine jh (L:=Nat) (λq=>Go.Sort.scanDown (λx=> !aZ x c[a]!) c i q=Go.Sort.scanDown (λx=> !aZ x c[a]!) c i (b-1)/\q<=(b-1)/\a<=q) (λ(q:Nat)=>⟨[c5 c],1,[(0,.aL 0 6 0 d.size d.size),(1,.ae (a:Nat)),(4,eN),(12,.ae ((i:Nat):Int)),(13,.ae ((q:Nat):Int))]⟩) (λq=>q) [0] (b-1) z9 ?_;rintro(q:Nat) ⟨T,W,N⟩;refine U 7 ?_;by_cases h:i<=q
  .refine fj 53 (show((i:Nat):Int)<=((q:Nat):Int) by omega)<|U 7<|c0 o o (U 1<|ed c.toList[q] (ba J) ?_) (a3:=J);refine U 5<|c0 o o (U 1<|ed c.toList[a] (ba J) ?_) (a3:=J);refine U 1<|np k2 (c.toList[q],c.toList[a]) aP<|U 7 ?_;by_cases C:iY c.toList[q].n c.toList[a].n<0
   .refine v8 66 C ?_;exact U 5<|fk [0] q ⟨T.symm.trans (NS<|by show(!aZ c[q]! c[a]!)=false;rw[cu J,cu J,pV C];rfl),W,N⟩
   .refine v7 66 C ?_;exact U 10<|bL [0] (q-1) ⟨by show(q-1)<q;omega,(NQ J h<|by show(!aZ c[q]! c[a]!)=true;rw[cu J,cu J,pW C];rfl).symm.trans T,J,J⟩ cr
  .exact dR 53 (show¬((i:Nat):Int)<=((q:Nat):Int) by omega)<|U 20<|fk [0] q ⟨T.symm.trans<|NR h,W,N⟩
 rintro(j:Nat) ⟨Z,ah,V⟩;refine U 6 ?_;by_cases O:i<=j
 case neg=>
  refine eD 71<|U 9<|c0 o o (ed c.toList[a] (ba J) ?_) (a3:=J);refine U 2<|c0 o o (ed c.toList[j] (ba J) ?_) (a3:=J);refine c0 o o (hi c.toList[a] (w:=c.toList[j]) (ba J) ?_) (a3:=J);refine U 2<|c0 o o (hi (l:=c.toList.set (j) c.toList[a]) (ak:=hj) c.toList[j] (j:=a) (ba ep) ?_) (a3:=J);refine U 11 ?_;have M:=oh (c:=c) (i:=j) (j:=a) J J;have D:Go.Sort.partition aZ d a b p=(j,true,Go.Sort.swp c j a):=by
   rw[Y]at hu Z⊢;exact amK hu Z O
  exact aqZ
 refine ee 71<|U 11<|c0 o o (ed c.toList[j] (ba J) ?_) (a3:=J);refine U 2<|c0 o o (ed c.toList[i] (ba J) ?_) (a3:=J);refine c0 o o (hi c.toList[j] (w:=c.toList[i]) (ba J) ?_) (a3:=J);refine U 2<|c0 o o (hi (l:=c.toList.set (i) c.toList[j]) (ak:=hj) c.toList[i] (j:=j) (ba ep) ?_) (a3:=J);refine U 18 ?_;have M:=oh (c:=c) (i:=i) (j:=j) J J;refine b5 12 ((i+1:Nat):Int)<|b5 13 ((j-1:Nat):Int) ?_;have D:∀r,Go.Sort.partLoop aZ a (i+1) (j-1) (Go.Sort.swp c i j)=r->Go.Sort.partition aZ d a b p=(r.1,false,Go.Sort.swp r.2 r.1 a):=λr h=>by
  rw[Y]at hu Z h;exact amL hu Z O h
 have a':(Go.Sort.swp c i j).size=d.size:=by rw[swp_size];exact B
 obtain⟨E,ag⟩:∃E,E=Go.Sort.swp c i j:=dq;rw[<-ag]at M a' D;refine dN (L:=Nat×Nat×bi aM) (λ(i,j,w)=>a<i/\i<=d.size+2/\a<=j/\j<b/\w.size=d.size/\∀r,Go.Sort.partLoop aZ a i j w=r->Go.Sort.partition aZ d a b p=(r.1,false,Go.Sort.swp r.2 r.1 a)) (λ((i:Nat),(j:Nat),(w:bi aM))=>⟨[c5 w],1,[(0,.aL 0 6 0 d.size d.size),(1,.ae (a:Nat)),(4,eN),(12,.ae ((i:Nat):Int)),(13,.ae ((j:Nat):Int))]⟩) (λx=>x.2.1+1-x.1) [0] (i+1,j-1,E) ⟨J,J,J,J,a',D⟩ (by show j-1+1-(i+1)<bz+1;unfold bz;omega) atm ?_;clear D a' M ag hu Z ai Y B;rintro⟨i,j,w⟩ ⟨aq,av,aw,al,hw,D⟩;have ao:w.toList.length=d.size:=by rw[jm];exact hw
 refine U 3<|qD (L:=Nat) (λu=>Go.Sort.scanUp (λx=>aZ x w[a]!) w j i=u/\i<=u/\u<=d.size+2) (λ(u:Nat)=>⟨[c5 w],1,[(0,.aL 0 6 0 d.size d.size),(1,.ae (a:Nat)),(4,eN),(12,.ae ((u:Nat):Int)),(13,.ae ((j:Nat):Int))]⟩) ?_ ?_
 .refine jh (L:=Nat) (λu=>Go.Sort.scanUp (λx=>aZ x w[a]!) w j u=Go.Sort.scanUp (λx=>aZ x w[a]!) w j i/\i<=u/\u<=d.size+2) (λ(u:Nat)=>⟨[c5 w],1,[(0,.aL 0 6 0 d.size d.size),(1,.ae (a:Nat)),(4,eN),(12,.ae ((u:Nat):Int)),(13,.ae ((j:Nat):Int))]⟩) (λu=>j+1-u) [0] i z9 ?_;rintro(u:Nat) ⟨T,W,N⟩;refine U 7 ?_;by_cases h:u<=j
  .refine fj 108 (show((u:Nat):Int)<=((j:Nat):Int) by omega)<|U 7<|c0 o o (U 1<|ed w.toList[u] (ba J) ?_) (a3:=J);refine U 5<|c0 o o (U 1<|ed w.toList[a] (ba J) ?_) (a3:=J);refine U 1<|np k2 (w.toList[u],w.toList[a]) aP<|U 5 ?_;by_cases C:iY w.toList[u].n w.toList[a].n<0
   .exact v1 120 C<|U 10<|bL [0] (u+1) ⟨by show j+1-(u+1)<j+1-u;omega,(NN h<|by show aZ w[u]! w[a]! =true;rw[cu J,cu J,pV C]).symm.trans T,J,J⟩ cr
   .exact v0 120 C<|U 5<|fk [0] u ⟨T.symm.trans (NP<|by show aZ w[u]! w[a]! =false;rw[cu J,cu J,pW C]),W,N⟩
  .exact dR 108 as2<|U 19<|fk [0] u ⟨T.symm.trans<|NO h,W,N⟩
 rintro(i2:Nat) ⟨hu,A,aj⟩;refine U 2<|qD (L:=Nat) (λq=>Go.Sort.scanDown (λx=> !aZ x w[a]!) w i2 j=q/\q<=j/\a<=q) (λ(q:Nat)=>⟨[c5 w],1,[(0,.aL 0 6 0 d.size d.size),(1,.ae (a:Nat)),(4,eN),(12,.ae ((i2:Nat):Int)),(13,.ae ((q:Nat):Int))]⟩) ?_ ?_
 .refine jh (L:=Nat) (λq=>Go.Sort.scanDown (λx=> !aZ x w[a]!) w i2 q=Go.Sort.scanDown (λx=> !aZ x w[a]!) w i2 j/\q<=j/\a<=q) (λ(q:Nat)=>⟨[c5 w],1,[(0,.aL 0 6 0 d.size d.size),(1,.ae (a:Nat)),(4,eN),(12,.ae ((i2:Nat):Int)),(13,.ae ((q:Nat):Int))]⟩) (λq=>q) [0] j z9 ?_;rintro(q:Nat) ⟨T,W,N⟩;refine U 7 ?_;by_cases h:i2<=q
  .refine fj 126 as8<|U 7<|c0 o o (U 1<|ed w.toList[q] (ba J) ?_) (a3:=J);refine U 5<|c0 o o (U 1<|ed w.toList[a] (ba J) ?_) (a3:=J);refine U 1<|np k2 (w.toList[q],w.toList[a]) aP<|U 7 ?_;by_cases C:iY w.toList[q].n w.toList[a].n<0
   .refine v8 139 C ?_;exact U 5<|fk [0] q ⟨T.symm.trans (NS<|by show(!aZ w[q]! w[a]!)=false;rw[cu J,cu J,pV C];rfl),W,N⟩
   .refine v7 139 C ?_;exact U 10<|bL [0] (q-1) ⟨by show(q-1)<q;omega,(NQ J h<|by show(!aZ w[q]! w[a]!)=true;rw[cu J,cu J,pW C];rfl).symm.trans T,J,J⟩ cr
  .exact dR 126 asW<|U 20<|fk [0] q ⟨T.symm.trans<|NR h,W,N⟩
 rintro(gw:Nat) ⟨Z,ah,V⟩;refine U 6 ?_;by_cases O:i2<=gw
 case neg=>
  refine eD 144 ?_;have D:=D _<|amp hu Z O;refine U 15<|c0 o o (ed w.toList[a] (ba J) ?_) (a3:=J);refine U 2<|c0 o o (ed w.toList[gw] (ba J) ?_) (a3:=J);refine c0 o o (hi w.toList[a] (w:=w.toList[gw]) (ba J) ?_) (a3:=J);refine U 2<|c0 o o (hi (l:=w.toList.set (gw) w.toList[a]) (ak:=hj) w.toList[gw] (j:=a) (ba ep) ?_) (a3:=J);refine U 10 ?_;have M:=oh (c:=w) (i:=gw) (j:=a) J J;exact aqZ
 refine ee 144<|U 11<|c0 o o (ed w.toList[gw] (ba J) ?_) (a3:=J);refine U 2<|c0 o o (ed w.toList[i2] (ba J) ?_) (a3:=J);refine c0 o o (hi w.toList[gw] (w:=w.toList[i2]) (ba J) ?_) (a3:=J);refine U 2<|c0 o o (hi (l:=w.toList.set (i2) w.toList[gw]) (ak:=hj) w.toList[i2] (j:=gw) (ba ep) ?_) (a3:=J);refine U 15 ?_;have M:=oh (c:=w) (i:=i2) (j:=gw) J J;exact bL [0] (i2+1,gw-1,Go.Sort.swp w i2 gw) ⟨by show gw-1+1-(i2+1)<j+1-i;omega,J,J,J,J,by rw[swp_size];exact hw,λr h=>D r<|(amq hu Z O A ah J).trans h⟩ atd
def Zz:b4 175 (kP λ((d,a,b,p):bi aM×Nat×Nat×Nat)=>([c5 d],[.aL 0 6 0 d.size d.size,.ae (a:Nat),.ae (b:Nat),.ae (p:Nat),eN],a<b/\b<=d.size/\p<d.size/\d.size<=1000000,[c5 (Go.Sort.partitionEqual aZ d a b p).2],.ae ((Go.Sort.partitionEqual aZ d a b p).1:Nat))):=by
 refine kT [k2] TD.1 ?_;intro⟨d,a,b,p⟩ ⟨(F:a<b),(aa:b<=d.size),(hp:p<d.size),(cd:d.size<=_)⟩ H i0 ax af;obtain⟨al,rfl⟩:∃b,i0=[b]:=m7.1 af;have G:d.toList.length=d.size:=jm;show bP.ok _ ⟨_,_,⟨[c5 d],1,[(0,.aL 0 6 0 d.size d.size),(1,.ae (a:Nat)),(2,.ae (b:Nat)),(3,.ae (p:Nat)),(4,eN)]⟩⟩;refine U 11<|c0 o o (ed d.toList[p] (ba J) ?_) (a3:=J);refine U 2<|c0 o o (ed d.toList[a] (ba J) ?_) (a3:=J);refine c0 o o (hi d.toList[p] (w:=d.toList[a]) (ba J) ?_) (a3:=J);refine U 2<|c0 o o (hi (l:=d.toList.set (a) d.toList[p]) (ak:=hj) d.toList[a] (j:=p) (ba ep) ?_) (a3:=J);refine U 14 ?_;have M:=oh (c:=d) (i:=a) (j:=p) J J;refine b5 11 ((a+1:Nat):Int)<|b5 12 ((b-1:Nat):Int) ?_;have B:(Go.Sort.swp d a p).size=d.size:=swp_size _ _ _;refine dN (L:=Nat×Nat×bi aM) (λ(i,j,w)=>a<i/\i<=d.size+2/\a<=j/\j<b/\w.size=d.size/\Go.Sort.partEqLoop aZ a i j w=Go.Sort.partitionEqual aZ d a b p) (λ((i:Nat),(j:Nat),(w:bi aM))=>⟨[c5 w],1,[(0,.aL 0 6 0 d.size d.size),(1,.ae (a:Nat)),(4,eN),(11,.ae ((i:Nat):Int)),(12,.ae ((j:Nat):Int))]⟩) (λx=>x.2.1+1-x.1) [0] (a+1,b-1,Go.Sort.swp d a p) ⟨J,J,J,J,B,o⟩ asw atm ?_;clear B M;rintro⟨i,j,w⟩ ⟨Y,ah,aj,E,hw,D⟩;have V:w.toList.length=d.size:=by rw[jm];exact hw
 refine U 3<|qD (L:=Nat) (λu=>Go.Sort.scanUp (λx=> !aZ w[a]! x) w j i=u/\i<=u/\u<=d.size+2) (λ(u:Nat)=>⟨[c5 w],1,[(0,.aL 0 6 0 d.size d.size),(1,.ae (a:Nat)),(4,eN),(11,.ae ((u:Nat):Int)),(12,.ae ((j:Nat):Int))]⟩) ?_ ?_
 .refine jh (L:=Nat) (λu=>Go.Sort.scanUp (λx=> !aZ w[a]! x) w j u=Go.Sort.scanUp (λx=> !aZ w[a]! x) w j i/\i<=u/\u<=d.size+2) (λ(u:Nat)=>⟨[c5 w],1,[(0,.aL 0 6 0 d.size d.size),(1,.ae (a:Nat)),(4,eN),(11,.ae ((u:Nat):Int)),(12,.ae ((j:Nat):Int))]⟩) (λu=>j+1-u) [0] i z9 ?_;rintro(u:Nat) ⟨T,W,N⟩;refine U 7 ?_;by_cases h:u<=j
  .refine fj 34 (show((u:Nat):Int)<=((j:Nat):Int) by omega)<|U 7<|c0 o o (U 1<|ed w.toList[a] (ba J) ?_) (a3:=J);refine U 5<|c0 o o (U 1<|ed w.toList[u] (ba J) ?_) (a3:=J);refine U 1<|np k2 (w.toList[a],w.toList[u]) aP<|U 7 ?_;by_cases C:iY w.toList[a].n w.toList[u].n<0
   .refine v8 47 C ?_;exact U 5<|fk [0] u ⟨T.symm.trans (NP<|by show(!aZ w[a]! w[u]!)=false;rw[cu J,cu J,pV C];rfl),W,N⟩
   .refine v7 47 C ?_;exact U 10<|bL [0] (u+1) ⟨by show j+1-(u+1)<j+1-u;omega,(NN h<|by show(!aZ w[a]! w[u]!)=true;rw[cu J,cu J,pW C];rfl).symm.trans T,J,J⟩ cr
  .exact dR 34 as2<|U 20<|fk [0] u ⟨T.symm.trans<|NO h,W,N⟩
 rintro(i2:Nat) ⟨hu,A,ao⟩;refine U 2<|qD (L:=Nat) (λq=>Go.Sort.scanDown (λx=>aZ w[a]! x) w i2 j=q/\q<=j/\a<=q) (λ(q:Nat)=>⟨[c5 w],1,[(0,.aL 0 6 0 d.size d.size),(1,.ae (a:Nat)),(4,eN),(11,.ae ((i2:Nat):Int)),(12,.ae ((q:Nat):Int))]⟩) ?_ ?_
 .refine jh (L:=Nat) (λq=>Go.Sort.scanDown (λx=>aZ w[a]! x) w i2 q=Go.Sort.scanDown (λx=>aZ w[a]! x) w i2 j/\q<=j/\a<=q) (λ(q:Nat)=>⟨[c5 w],1,[(0,.aL 0 6 0 d.size d.size),(1,.ae (a:Nat)),(4,eN),(11,.ae ((i2:Nat):Int)),(12,.ae ((q:Nat):Int))]⟩) (λq=>q) [0] j z9 ?_;rintro(q:Nat) ⟨T,W,N⟩;refine U 7 ?_;by_cases h:i2<=q
  .refine fj 53 as8<|U 7<|c0 o o (U 1<|ed w.toList[a] (ba J) ?_) (a3:=J);refine U 5<|c0 o o (U 1<|ed w.toList[q] (ba J) ?_) (a3:=J);refine U 1<|np k2 (w.toList[a],w.toList[q]) aP<|U 5 ?_;by_cases C:iY w.toList[a].n w.toList[q].n<0
   .exact v1 65 C<|U 10<|bL [0] (q-1) ⟨by show(q-1)<q;omega,(NQ J h<|by show aZ w[a]! w[q]! =true;rw[cu J,cu J,pV C]).symm.trans T,J,J⟩ cr
   .exact v0 65 C<|U 5<|fk [0] q ⟨T.symm.trans (NS<|by show aZ w[a]! w[q]! =false;rw[cu J,cu J,pW C]),W,N⟩
  .exact dR 53 asW<|U 19<|fk [0] q ⟨T.symm.trans<|NR h,W,N⟩
 rintro(gw:Nat) ⟨Z,a',aq⟩;refine U 6 ?_;by_cases O:i2<=gw
 case neg=>
  refine eD 70 ?_;have D:(i2,w)=Go.Sort.partitionEqual aZ d a b p:=(amr hu Z O).symm.trans D;refine U 16<|bh ⟨.inr o,⟨_,o,o,.of ?_⟩,[0],o,iz aP ⟨_,?_,o,λ_=>o⟩⟩
  .show ai.ae ((i2:Nat):Int)=ai.ae ((Go.Sort.partitionEqual aZ d a b p).1:Nat);rw[<-D]
  .show some (c5 w)=some (c5 (Go.Sort.partitionEqual aZ d a b p).2);rw[<-D]
 refine ee 70<|U 11<|c0 o o (ed w.toList[gw] (ba J) ?_) (a3:=J);refine U 2<|c0 o o (ed w.toList[i2] (ba J) ?_) (a3:=J);refine c0 o o (hi w.toList[gw] (w:=w.toList[i2]) (ba J) ?_) (a3:=J);refine U 2<|c0 o o (hi (l:=w.toList.set (i2) w.toList[gw]) (ak:=hj) w.toList[i2] (j:=gw) (ba ep) ?_) (a3:=J);refine U 15 ?_;have M:=oh (c:=w) (i:=i2) (j:=gw) J J;exact bL [0] (i2+1,gw-1,Go.Sort.swp w i2 gw) ⟨by show gw-1+1-(i2+1)<j+1-i;omega,J,J,J,J,by rw[swp_size];exact hw,(ams hu Z O A a' J).symm.trans D⟩ atd
def Dc(a b i:Nat)(d:bi aM):bi aM:=if 2<=i-a then Go.Sort.shiftDown aZ (i-1) d else d
def Dd(b i:Nat)(d:bi aM):bi aM:=if 2<=b-i then Go.Sort.shiftUp aZ b (i+1) d else d
def amM(aE:Go.Sort.scanSorted aZ d b i=b):Go.Sort.partialIns aZ a b (s+1) i d=(d,true):=by
 rw[Go.Sort.partialIns];rw[aE,aA o]
def amN(aE:Go.Sort.scanSorted aZ d b i=i2)(aK:i2≠b)(o:b-a<50):Go.Sort.partialIns aZ a b (s+1) i d=(d,false):=by
 rw[Go.Sort.partialIns];rw[aE,au aK,aA o]
def amO(aE:Go.Sort.scanSorted aZ d b i=i2)(aK:i2≠b)(o:¬b-a<50):Go.Sort.partialIns aZ a b (s+1) i d=Go.Sort.partialIns aZ a b s i2 (Dd b i2<|Dc a b i2<|Go.Sort.swp d i2<|i2-1):=by
 rw[Go.Sort.partialIns];rw[aE,au aK,au o];rfl
def NU{x y:bi aM×Bool}(h:x=y):ai.b y.2=ai.b x.2:=by rw[h]
def NV{x y:bi aM×Bool}(h:x=y):some (c5 y.1)=some (c5 x.1):=by rw[h]
def ZA:b4 174 (kP λ((d,a,b):bi aM×Nat×Nat)=>([c5 d],[.aL 0 6 0 d.size d.size,.ae (a:Nat),.ae (b:Nat),eN],a<b/\b<=d.size/\d.size<=1000000,[c5 (Go.Sort.partialInsertionSort aZ d a b).1],.b (Go.Sort.partialInsertionSort aZ d a b).2)):=by
 refine kT [k2] Ug.1 ?_;intro⟨d,a,b⟩ ⟨(F:a<b),(aa:b<=d.size),(cd:d.size<=_)⟩ H i0 ax af;obtain⟨aD,rfl⟩:∃b,i0=[b]:=m7.1 af;show bP.ok _ ⟨_,_,⟨[c5 d],1,[(0,.aL 0 6 0 d.size d.size),(1,.ae (a:Nat)),(2,.ae (b:Nat)),(3,eN)]⟩⟩;refine U 9<|b5 14 ((a+1:Nat):Int)<|U 10<|jh (L:=Nat×Nat×bi aM) (λ(j,i,w)=>j<=5/\a<i/\i<=b/\w.size=d.size/\Go.Sort.partialIns aZ a b (5-j) i w=Go.Sort.partialInsertionSort aZ d a b) (λ((j:Nat),(i:Nat),(w:bi aM))=>⟨[c5 w],1,[(0,.aL 0 6 0 d.size d.size),(1,.ae (a:Nat)),(2,.ae (b:Nat)),(3,eN),(9,.ae (i:Nat)),(10,.ae (j:Nat))]⟩) (λx=>5-x.1) [0] (0,a+1,d) ⟨J,J,J,o,o⟩ ?_;rintro⟨j,i,w⟩ ⟨az,av,ay,hw,D⟩;have aq:w.toList.length=d.size:=by rw[jm];exact hw
 refine U 5 ?_;by_cases A:j<5
 case neg=>
  refine ee 16 ?_;have D:(w,false)=Go.Sort.partialInsertionSort aZ d a b:=by
   rw[<-D,show 5-j=0 by omega];rfl
  exact U 14<|bh ⟨.inr o,⟨_,o,o,.of<|NU D.symm⟩,[0],o,iz aP ⟨_,NV D.symm,o,λ_=>o⟩⟩
 refine eD 16 ?_;obtain⟨s,al⟩:∃s,5-j=s+1:=⟨4-j,J⟩;rw[al]at D;refine U 9<|qD (L:=Nat) (λk=>Go.Sort.scanSorted aZ w b i=k/\i<=k/\k<=b) (λ(k:Nat)=>⟨[c5 w],1,[(0,.aL 0 6 0 d.size d.size),(1,.ae (a:Nat)),(2,.ae (b:Nat)),(3,eN),(9,.ae (k:Nat)),(10,.ae (j:Nat))]⟩) ?_ ?_
 .refine jh (L:=Nat) (λk=>Go.Sort.scanSorted aZ w b k=Go.Sort.scanSorted aZ w b i/\i<=k/\k<=b) (λ(k:Nat)=>⟨[c5 w],1,[(0,.aL 0 6 0 d.size d.size),(1,.ae (a:Nat)),(2,.ae (b:Nat)),(3,eN),(9,.ae (k:Nat)),(10,.ae (j:Nat))]⟩) (λk=>b-k) [0] i z9 ?_;rintro(k:Nat) ⟨T,ai,N⟩;refine U 7 ?_;by_cases h:k<b
  .refine fj 22 (show((k:Nat):Int)<(b:Int) by omega)<|U 7<|c0 o o (U 1<|ed w.toList[k] (ba J) ?_) (a3:=J);refine U 6<|ww 30 ((k-1:Nat):Int)<|U 1<|c0 o o (U 1<|ed w.toList[k-1] (ba J) ?_) (a3:=J);refine U 1<|np k2 (w.toList[k],w.toList[k-1]) aP<|U 7 ?_;by_cases C:iY w.toList[k].n w.toList[k-1].n<0
   .refine v8 36 C ?_;exact U 5<|fk [0] k ⟨T.symm.trans<|amv arF,ai,N⟩
   .refine v7 36 C ?_;exact U 10<|bL [0] (k+1) ⟨by show b-(k+1)<b-k;omega,(amt h arE).symm.trans T,J,J⟩ cr
  .exact dR 22 (show¬((k:Nat):Int)<(b:Int) by omega)<|U 21<|fk [0] k ⟨T.symm.trans<|amu h,ai,N⟩
 rintro(k:Nat) ⟨T,ai,N⟩;refine U 6 ?_;by_cases q:k=b
 .refine eD 41 ?_;rw[q]at T;have D:Go.Sort.partialInsertionSort aZ d a b=(w,true):=D.symm.trans<|amM T;exact aqL
 refine ee 41<|U 11<|b5 44 ((b-a:Nat):Int)<|U 1 ?_;by_cases aj:b-a<50
 .refine eD 45 ?_;have D:Go.Sort.partialInsertionSort aZ d a b=(w,false):=D.symm.trans<|amN T q aj;exact aqL
 refine ee 45 ?_;replace D:=(amO T q aj).symm.trans D;refine U 12<|ww 53 ((k-1:Nat):Int)<|c0 o o (ed w.toList[k-1] (ba J) ?_) (a3:=J);refine U 2<|c0 o o (ed w.toList[k] (ba J) ?_) (a3:=J);refine c0 o o (hi w.toList[k-1] (w:=w.toList[k]) (ba J) ?_) (a3:=J);refine U 3<|ww 50 ((k-1:Nat):Int)<|c0 o o (hi (l:=w.toList.set (k) w.toList[k-1]) (ak:=hj) w.toList[k] (w:=(w.toList.set (k) w.toList[k-1])[k-1]'aqC) (ba aqC) ?_) (a3:=J);refine U 8 ?_;have M:=oh (c:=w) (i:=k) (j:=k-1) J J;have B:(Go.Sort.swp w k<|k-1).size=d.size:=by rw[swp_size];exact hw
 obtain⟨c,Y⟩:∃c,c=Go.Sort.swp w k (k-1):=dq;rw[<-Y]at M B D;refine b5 64 ((k-a:Nat):Int)<|U 3<|jS (L:=bi aM) (λv=>v=Dc a b k c/\v.size=d.size) (λ(v:bi aM)=>⟨[c5 v],1,[(0,.aL 0 6 0 d.size d.size),(1,.ae (a:Nat)),(2,.ae (b:Nat)),(3,eN),(9,.ae (k:Nat)),(10,.ae (j:Nat))]⟩) ?_ ?_
 .by_cases G:2<=k-a
  .have ag:Dc a b k c=Go.Sort.shiftDown aZ (k-1) c:=aA G;refine eD 65<|U 5<|b5 67 ((k-1:Nat):Int)<|U 4<|dN (L:=Nat×bi aM) (λ(m,v)=>m<=k-1/\v.size=d.size/\Go.Sort.shiftDown aZ m v=Dc a b k c) (λ((m:Nat),(v:bi aM))=>⟨[c5 v],1,[(0,.aL 0 6 0 d.size d.size),(1,.ae (a:Nat)),(2,.ae (b:Nat)),(3,eN),(9,.ae (k:Nat)),(10,.ae (j:Nat)),(11,.ae (m:Nat))]⟩) (λx=>x.1) [0] (k-1,c) ⟨ct _,B,ag.symm⟩ (by show k-1<bz+1;unfold bz;omega) atm ?_;rintro⟨m,v⟩ ⟨hm,Z,V⟩;have W:v.toList.length=d.size:=by rw[jm];exact Z
   refine U 5 ?_;by_cases a':m=0
   .exact ee 69<|U 7<|fk [0] v ⟨by rw[<-V,a'];rfl,Z⟩
   refine eD 69<|U 13<|c0 o o (ed v.toList[m] (ba J) ?_) (a3:=J);refine U 3<|ww 79 ((m-1:Nat):Int)<|c0 o o (ed v.toList[m-1] (ba J) ?_) (a3:=J);refine np k2 (v.toList[m],v.toList[m-1]) aP<|U 4 ?_;by_cases C:iY v.toList[m].n v.toList[m-1].n<0
   .refine v8 84 C ?_;refine U 9<|ww 92 ((m-1:Nat):Int)<|c0 o o (ed v.toList[m-1] (ba J) ?_) (a3:=J);refine U 2<|c0 o o (ed v.toList[m] (ba J) ?_) (a3:=J);refine c0 o o (hi v.toList[m-1] (w:=v.toList[m]) (ba J) ?_) (a3:=J);refine U 3<|ww 89 ((m-1:Nat):Int)<|c0 o o (hi (l:=v.toList.set (m) v.toList[m-1]) (ak:=hj) v.toList[m] (w:=(v.toList.set (m) v.toList[m-1])[m-1]'aqC) (ba aqC) ?_) (a3:=J);refine U 8 ?_;have M:=oh (c:=v) (i:=m) (j:=m-1) J J;exact bL [0] (m-1,Go.Sort.swp v m<|m-1) ⟨by show m-1<m;omega,J,by rw[swp_size];exact Z,(amx J arF).symm.trans V⟩ atd
   .refine v7 84 C ?_;exact U 7<|fk [0] v ⟨(amw J arE).symm.trans V,Z⟩
  .have ag:Dc a b k c=c:=au G;exact ee 65<|U 2<|bL [0] c ⟨ag.symm,B⟩ atm
 rintro v ⟨O,Z⟩;rw[<-O]at D;clear M Y B O;have W:v.toList.length=d.size:=by rw[jm];exact Z
 refine U 5<|b5 103 ((b-k:Nat):Int)<|U 3<|qD (L:=bi aM) (λu=>u=Dd b k v/\u.size=d.size) (λ(v:bi aM)=>⟨[c5 v],1,[(0,.aL 0 6 0 d.size d.size),(1,.ae (a:Nat)),(2,.ae (b:Nat)),(3,eN),(9,.ae (k:Nat)),(10,.ae (j:Nat))]⟩) ?_ ?_
 .by_cases G:2<=b-k
  .have ah:Dd b k v=Go.Sort.shiftUp aZ b (k+1) v:=aA G;refine eD 104<|U 5<|b5 106 ((k+1:Nat):Int)<|U 4<|jh (L:=Nat×bi aM) (λ(m,u)=>1<=m/\m<=b/\u.size=d.size/\Go.Sort.shiftUp aZ b m u=Dd b k v) (λ((m:Nat),(v:bi aM))=>⟨[c5 v],1,[(0,.aL 0 6 0 d.size d.size),(1,.ae (a:Nat)),(2,.ae (b:Nat)),(3,eN),(9,.ae (k:Nat)),(10,.ae (j:Nat)),(12,.ae (m:Nat))]⟩) (λx=>b-x.1) [0] (k+1,v) ⟨J,J,Z,ah.symm⟩ ?_;rintro⟨m,u⟩ ⟨aF,aw,E,V⟩;have aB:u.toList.length=d.size:=by rw[jm];exact E
   refine U 6 ?_;by_cases a':m<b
   case neg=>
    exact ee 109<|U 8<|fk [0] u ⟨(amy a').symm.trans V,E⟩
   refine eD 109<|U 13<|c0 o o (ed u.toList[m] (ba J) ?_) (a3:=J);refine U 3<|ww 119 ((m-1:Nat):Int)<|c0 o o (ed u.toList[m-1] (ba J) ?_) (a3:=J);refine np k2 (u.toList[m],u.toList[m-1]) aP<|U 4 ?_;by_cases C:iY u.toList[m].n u.toList[m-1].n<0
   .refine v8 124 C ?_;refine U 9<|ww 132 ((m-1:Nat):Int)<|c0 o o (ed u.toList[m-1] (ba J) ?_) (a3:=J);refine U 2<|c0 o o (ed u.toList[m] (ba J) ?_) (a3:=J);refine c0 o o (hi u.toList[m-1] (w:=u.toList[m]) (ba J) ?_) (a3:=J);refine U 3<|ww 129 ((m-1:Nat):Int)<|c0 o o (hi (l:=u.toList.set (m) u.toList[m-1]) (ak:=hj) u.toList[m] (w:=(u.toList.set (m) u.toList[m-1])[m-1]'aqC) (ba aqC) ?_) (a3:=J);refine U 8 ?_;have M:=oh (c:=u) (i:=m) (j:=m-1) J J;exact bL [0] (m+1,Go.Sort.swp u m<|m-1) ⟨by show b-(m+1)<b-m;omega,J,J,by rw[swp_size];exact E,(amA a' arF).symm.trans V⟩ atd
   .refine v7 124 C ?_;exact U 8<|fk [0] u ⟨(amz arE).symm.trans V,E⟩
  .have ah:Dd b k v=v:=au G;exact ee 104<|U 3<|fk [0] v ⟨ah.symm,Z⟩
 rintro u ⟨ao,E⟩;rw[<-ao]at D;exact U 3<|b5 18 ((j+1:Nat):Int)<|U 2<|pJ [0] (j+1,k,u) ⟨J,J,J,E,by rw[show 5-(j+1)=s by omega];exact D⟩
section
variable{X:Ctx}{aV:ar c7}{bp:d8->dT}{a8 n:Nat}{fn:d8}{aX:bm}{i0:ac Nat}{ax:ao}{Q:c6->cg->Prop}{K:ac dC}{rest:ac a0}{aC:Nat}{e:bV}{g:d8}{S:gh}{a b m0 o9 g3 eX:a0}
theorem uD(ah:eb X g S.spec){bJ:ac ce}{F:ac ai}{d:be Tmp}{xs:ac bt}(l:S.L)(hp:S.pre l)
 (k:cE (gf X aV bp n a8 fn aX i0 ax Q) K xs (m0::o9::rest) aC (ec d (jQ [0,1]<|S.res l) e)) (ay:S.own l=[g3,eX]:=by rfl) (N:S.bk l=[m0,o9]:=by rfl)
 (aE:lg [0,1] g3 a:=by exact sU) (aK:lg [0,1] eX b:=by first|exact o|exact sU)
 (cy:n3 [0,1] m0 m0:=by exact sU) (u:n3 [0,1] o9 o9:=by first|exact o|exact sU)
 (bK:gM e bJ=some F:=by rfl) (he:F=kM [0,1] (S.args l):=by rfl) (J:bp g=S.spec.K:=by rfl) (cl:S.hp aX:=by first|exact aP|assumption):
 cE (gf X aV bp n a8 fn aX i0 ax Q) K (⟨d,.call (.func g) bJ,none⟩::xs) (a::b::rest) aC e:=
 R0 ah [0,1] l hp (by rw[ay];exact Zp aE aK) (by rw[N];exact Zo cy u) k bK he J cl
end
abbrev uE(s:Nat):a0:=.c 3 [.ae (s:Nat)]
variable{m:Nat}
def ZB{x y:Nat×Nat×Nat}(h:x=y):ai.br [.ae (y.1:Nat),.ae (y.2.1:Nat)]=ai.br [.ae (x.1:Nat),.ae (x.2.1:Nat)]:=by rw[h]
def ZC{x y:Nat×Nat×Nat}(h:x=y):some (uE y.2.2)=some (uE x.2.2):=by rw[h]
def HO:b4 242 (kP λ((d,a,b,s):bi aM×Nat×Nat×Nat)=>([c5 d,uE s],[.aL 0 6 0 d.size d.size,.ae (a:Nat),.ae (b:Nat),.p 1 0,eN],a<d.size/\b<d.size/\s<=1000/\d.size<=1000000,[c5 d,uE (Go.Sort.order2 aZ d a b s).2.2],.br [.ae ((Go.Sort.order2 aZ d a b s).1:Nat),.ae ((Go.Sort.order2 aZ d a b s).2.1:Nat)])):=by
 refine kT [k2] Vx.1 ?_;intro⟨d,a,b,s⟩ ⟨D,aa,M,cd⟩ H i0 ax af;refine U 12<|c0 o o (ed d.toList[b] (ba J) ?_);refine U 2<|c0 o o (ed d.toList[a] (ba J) ?_);refine np k2 (d.toList[b],d.toList[a]) aP<|U 3 ?_;by_cases C:iY d.toList[b].n d.toList[a].n<0
 .have e:Go.Sort.order2 aZ d a b s=(b,a,s+1):=by unfold Go.Sort.order2;rw[cu J,cu J,pV C];rfl
  exact v1 22 C<|U 7<|b5 26 ((s+1:Nat):Int)<|U 14<|bh aqK
 .have e:Go.Sort.order2 aZ d a b s=(a,b,s):=by unfold Go.Sort.order2;rw[cu J,cu J,pW C];rfl
  exact v0 22 C<|U 12<|bh aqK
def De{n:Nat}(bK:a<n)(aa:b<n)(M:s<=m):(Go.Sort.order2 aZ d a b s).1<n/\(Go.Sort.order2 aZ d a b s).2.1<n/\(Go.Sort.order2 aZ d a b s).2.2<=m+1:=by
 rw[Go.Sort.order2];split<;>(dsimp only;omega)
def NW{c n:Nat}(bK:a<n)(aa:b<n)(ah:c<n)(M:s<=m):(Go.Sort.median aZ d a b c s).1<n/\(Go.Sort.median aZ d a b c s).2<=m+3:=by
 rw[Go.Sort.median];have Y:=De (d:=d) bK aa M;have G:=De (d:=d) Y.2.1 ah Y.2.2;have C:=De (d:=d) Y.1 G.1 G.2.2;exact⟨C.2.1,C.2.2⟩
def Df:b4 215 (kP λ((d,a,b,c,s):bi aM×Nat×Nat×Nat×Nat)=>([c5 d,uE s],[.aL 0 6 0 d.size d.size,.ae (a:Nat),.ae (b:Nat),.ae (c:Nat),.p 1 0,eN],a<d.size/\b<d.size/\c<d.size/\s<=500/\d.size<=1000000,[c5 d,uE (Go.Sort.median aZ d a b c s).2],.ae ((Go.Sort.median aZ d a b c s).1:Nat))):=by
 refine kT [HO] TH.1 ?_;intro⟨d,a,b,c,s⟩ ⟨D,aa,ah,M,cd⟩ H i0 ax af;have Y:=De (d:=d) D aa M;have G:=De (d:=d) Y.2.1 ah Y.2.2;refine U 12<|uD HO (d,a,b,s) ⟨D,aa,J,cd⟩ ?_;refine U 14<|uD HO (d,_,c,_) ⟨Y.2.1,ah,cN Y.2.2 J,cd⟩ ?_;exact U 14<|uD HO (d,_,_,_) ⟨Y.1,G.1,cN G.2.2 J,cd⟩ (U 14<|bh ⟨.inr o,lQ,[0,1],o,cb (aE:=⟨jU,fJ,aP⟩)⟩)
def HP:b4 214 (kP λ((d,a,s):bi aM×Nat×Nat)=>([c5 d,uE s],[.aL 0 6 0 d.size d.size,.ae (a:Nat),.p 1 0,eN],0<a/\a+1<d.size/\s<=500/\d.size<=1000000,[c5 d,uE (Go.Sort.medianAdjacent aZ d a s).2],.ae ((Go.Sort.medianAdjacent aZ d a s).1:Nat))):=by
 refine kT [Df] Vv.1 ?_;intro⟨d,a,s⟩ ⟨T,D,M,cd⟩ H i0 ax af;refine U 10<|b5 11 ↑(a-1)<|U 3<|b5 14 ↑(a+1)<|U 2<|uD Df (d,a-1,a,a+1,s) ⟨J,J,D,M,cd⟩ ?_;exact U 4<|bh ⟨.inr o,lQ,[0,1],o,cb⟩
def Dg(d:bi aM)(a b:Nat):Nat×Nat:=
 if 8<=b-a then
  if 50<=b-a then
   let V:=Go.Sort.medianAdjacent aZ d (a+(b-a)/4*1) 0
   let u:=Go.Sort.medianAdjacent aZ d (a+(b-a)/4*2) V.2
   let q:=Go.Sort.medianAdjacent aZ d (a+(b-a)/4*3) u.2
   Go.Sort.median aZ d V.1 u.1 q.1 q.2
  else Go.Sort.median aZ d (a+(b-a)/4*1) (a+(b-a)/4*2) (a+(b-a)/4*3) 0
 else(a+(b-a)/4*2,0)
def amP(d:bi aM)(a b:Nat):Go.Sort.choosePivot aZ d a b=((Dg d a b).1,if(Dg d a b).2=0 then .increasing else if(Dg d a b).2=12 then .decreasing else .unknown):=rfl
def xZ:Go.Sort.Hint->Int
 |.unknown=>0
 |.increasing=>1
 |.decreasing=>2
def NX{h:Go.Sort.Hint}{z:Int}(e:Go.Sort.choosePivot aZ d a b=(j,h))(aH:z=xZ h):ai.br [.ae (j:Nat),.ae z]=ai.br [.ae ((Go.Sort.choosePivot aZ d a b).1:Nat),.ae<|xZ (Go.Sort.choosePivot aZ d a b).2]:=by rw[e,aH]
def ZD:b4 172 (kP λ((d,a,b):bi aM×Nat×Nat)=>([c5 d],[.aL 0 6 0 d.size d.size,.ae (a:Nat),.ae (b:Nat),eN],a<b/\b<=d.size/\d.size<=1000000,[c5 d],.br [.ae ((Go.Sort.choosePivot aZ d a b).1:Nat),.ae<|xZ (Go.Sort.choosePivot aZ d a b).2])):=by
 refine kT [HP,Df] Uf.1 ?_;intro⟨d,a,b⟩ ⟨(F:a<b),(aa:b<=d.size),(cd:d.size<=_)⟩ H i0 ax af;obtain⟨B,rfl⟩:∃b,i0=[b]:=m7.1 af;show fz _ _ _ [c5 d] 1 [(0,.aL 0 6 0 d.size d.size),(1,.ae (a:Nat)),(2,.ae (b:Nat)),(3,eN)];refine U 11<|b5 17 ((b-a:Nat):Int)<|U 13 (xY 20 4 (m:=b-a)<|U 1<|b5 21 (((b-a)/4*1:Nat):Int)<|U 1<|b5 22 ((a+(b-a)/4*1:Nat):Int)<|U 8 (xY 25 4 (m:=b-a)<|U 1<|b5 26 (((b-a)/4*2:Nat):Int)<|U 1<|b5 27 ((a+(b-a)/4*2:Nat):Int)<|U 8 (xY 30 4 (m:=b-a)<|U 1<|b5 31 (((b-a)/4*3:Nat):Int)<|U 1<|b5 32 ((a+(b-a)/4*3:Nat):Int)<|U 10 ?_)));have D:Dg d a b=(if 8<=b-a then
  if 50<=b-a then
   let V:=Go.Sort.medianAdjacent aZ d (a+(b-a)/4*1) 0
   let u:=Go.Sort.medianAdjacent aZ d (a+(b-a)/4*2) V.2
   let q:=Go.Sort.medianAdjacent aZ d (a+(b-a)/4*3) u.2
   Go.Sort.median aZ d V.1 u.1 q.1 q.2
  else Go.Sort.median aZ d (a+(b-a)/4*1) (a+(b-a)/4*2) (a+(b-a)/4*3) 0
 else(a+(b-a)/4*2,0)):=rfl
 refine jS (L:=Nat×Nat) (λx=>Dg d a b=x) (λx=>⟨[c5 d,uE x.2],2,[(11,.p 1 0),(13,.ae (x.1:Nat))]⟩) ?_ ?_
 .by_cases E:8<=b-a
  .rw[aA E]at D;refine eD 34<|U 6 ?_;by_cases R:50<=b-a
   .rw[aA R]at D;dsimp only at D;have aD:12<=(b-a)/4:=by omega
    have Z:=NW (d:=d) (a:=a+(b-a)/4*1-1) (b:=a+(b-a)/4*1) (c:=a+(b-a)/4*1+1) (s:=0) (n:=d.size) (m:=0) J J J<|ct _;have C:=NW (d:=d) (a:=a+(b-a)/4*2-1) (b:=a+(b-a)/4*2) (c:=a+(b-a)/4*2+1) (n:=d.size) J J J Z.2;have M:=NW (d:=d) (a:=a+(b-a)/4*3-1) (b:=a+(b-a)/4*3) (c:=a+(b-a)/4*3+1) (n:=d.size) J J J C.2;refine eD 36<|U 8<|uD HP (d,a+(b-a)/4*1,0) ⟨J,J,J,cd⟩ ?_;refine U 8<|uD HP (d,a+(b-a)/4*2,_) ⟨J,J,cN Z.2 J,cd⟩ ?_;refine U 7<|uD HP (d,a+(b-a)/4*3,_) ⟨J,J,cN C.2 J,cd⟩ ?_;refine U 9<|uD Df (d,_,_,_,_) ⟨Z.1,C.1,M.1,cN M.2 J,cd⟩ ?_;exact U 2<|bL [0,1] _ D cr
   .rw[au R]at D;refine ee 36<|U 11<|uD Df (d,a+(b-a)/4*1,a+(b-a)/4*2,a+(b-a)/4*3,0) ⟨J,J,J,J,cd⟩ ?_;exact U 2<|bL [0,1] _ D cr
  .rw[au E]at D;exact ee 34<|U 2<|bL [0,1] _ D cr
 rintro⟨j,s⟩ dF;have A:=amP d a b;rw[dF]at A;dsimp only at A;refine U 9 ?_;by_cases Y:s=0
 .rw[aA Y]at A;exact eD 58<|U 13<|bh apU
 rw[au Y]at A;refine ee 58<|U 7 ?_;by_cases G:s=12
 .rw[aA G]at A;exact eD 61<|U 13<|bh apU
 .rw[au G]at A;exact ee 61<|U 13<|bh apU
theorem ZE{n:Nat}(hm:m<18446744073709551616)(aj:n<18446744073709551616):IntKind.u64.wrap (BitVec.ofInt 64 (m:Int)^^^BitVec.ofInt 64 (n:Int)).toNat=((m^^^n:Nat):Int):=by
 have h:=Nat.xor_lt_two_pow (n:=64) hm aj
 grind [Ke]
def HQ(r:UInt64):r.toNat<18446744073709551616:=r.toNat_lt
def ZF(r:UInt64)(k:Nat)(aB:k<64){n:Nat}(aj:n=r.toNat*2^k%18446744073709551616):ai.i .u64 (IntKind.u64.wrap (BitVec.ofInt 64 (r.toNat:Int)^^^BitVec.ofInt 64 (n:Int)).toNat)= .i .u64 ((r^^^(r<<<UInt64.ofNat k)).toNat:Nat):=by
 have h:n=(r<<<UInt64.ofNat k).toNat:=by
  rw[UInt64.toNat_shiftLeft,UInt64.toNat_ofNat',p0 (show k<2^64 by omega),p0 aB,IC,aj]
 rw[ZE (HQ r) J,h,<-UInt64.toNat_xor]
def amQ(r:UInt64)(k:Nat)(aB:k<64){n:Nat}(aj:n=r.toNat/2^k):ai.i .u64 (IntKind.u64.wrap (BitVec.ofInt 64 (r.toNat:Int)^^^BitVec.ofInt 64 (n:Int)).toNat)= .i .u64 ((r^^^(r>>>UInt64.ofNat k)).toNat:Nat):=by
 have h:n=(r>>>UInt64.ofNat k).toNat:=by
  rw[UInt64.toNat_shiftRight,UInt64.toNat_ofNat',p0 (show k<2^64 by omega),p0 aB,Nat.shiftRight_eq_div_pow,aj]
 rw[ZE (HQ r)<|by rw[h];exact HQ _,h,<-UInt64.toNat_xor]
abbrev Aa(r:UInt64):a0:=.c 302 [.i .u64 (r.toNat:Nat)]
def ZG:b4 213 (kP λ(r:UInt64)=>([Aa r],[.p 0 0],True,[Aa<|Go.Sort.xorNext r],.i .u64 ((Go.Sort.xorNext r).toNat:Nat))):=by
 refine kT [] Vu.1 ?_;intro(r:UInt64) _ H i0 ax af;refine U 15<|ea 10 _ o o (ZF r 13 av o) ?_;obtain⟨dX,Y⟩:∃dX,dX=r^^^(r<<<UInt64.ofNat 13):=dq;rw[<-Y];refine U 14<|ea 19 _ o o (amQ dX 7 av o) ?_;obtain⟨e5,G⟩:∃e5,e5=dX^^^(dX>>>UInt64.ofNat 7):=dq;rw[<-G];refine U 14<|ea 28 _ o o (ZF e5 17 av o) ?_;obtain⟨ni,C⟩:∃ni,ni=e5^^^(e5<<<UInt64.ofNat 17):=dq;rw[<-C];have e:ni=Go.Sort.xorNext r:=by rw[C,G,Y];rfl
 subst e;exact U 13<|bh ⟨.inr o,lQ,[0],o,cb⟩
def HR(n:Nat):Go.Sort.bitsLen n=cx n:=by rfl
def amR{n:Nat}(bS:0<n):1<<<Go.Sort.bitsLen n<=2*n/\n<1<<<Go.Sort.bitsLen n:=by
 rw[Go.Sort.bitsLen,au J,IC];have Y:=Nat.log2_self_le (n:=n) J;have G:n<2^(Nat.log2 n+1):=Nat.lt_log2_self;omega
theorem ZH:b4 212 (cR λ(n:Nat)=>([.ae (n:Nat)],n<=1000000,.i .u64 ((1<<<Go.Sort.bitsLen n:Nat):Int))):=by
 apply cJ [(130,xJ)] TG.1;intro(n:Nat) (aj:n<=1000000) H ax;refine U 9<|a9 4 (.i .u64 n) o aoM<|bn NK n (by show n<_;omega) ?_;have aa:cx n<=20:=by
  rw[<-HR];unfold Go.Sort.bitsLen;split
  .omega
  .have:=(Nat.log2_lt (k:=20) J).2 J;omega
 refine zm ?_;have h:(2:Nat)^cx n<=2^20:=k5 av aa;show ai.i .u64 ((1*2^cx n%18446744073709551616:Nat):Int)= .i .u64 ↑(1<<<Go.Sort.bitsLen n);rw[HR,IC,p0 J]
def HS(d:bi aM)(a b:Nat):Nat->UInt64×bi aM
 |0=>(UInt64.ofNat<|b-a,d)
 |k+1=>Go.Sort.breakStep a (b-a) (1<<<Go.Sort.bitsLen (b-a)) (HS d a b k)<|a+(b-a)/4*2-1+k
def amS(h:8<=b-a):Go.Sort.breakPatterns d a b=(HS d a b 3).2:=by
 rw[Go.Sort.breakPatterns,aA h];rfl
def ZI:b4 171 (kP λ((d,a,b):bi aM×Nat×Nat)=>([c5 d],[.aL 0 6 0 d.size d.size,.ae (a:Nat),.ae (b:Nat),eN],a+8<=b/\b<=d.size/\d.size<=1000000,[c5<|Go.Sort.breakPatterns d a b],.br [])):=by
 refine kT [ZH,ZG] Ue.1 ?_;intro⟨d,a,b⟩ ⟨(D:a+8<=b),(aa:b<=d.size),(cd:d.size<=_)⟩ H i0 ax af;obtain⟨B,rfl⟩:∃b,i0=[b]:=m7.1 af;show bP.ok _ ⟨_,_,⟨[c5 d],1,[(0,.aL 0 6 0 d.size d.size),(1,.ae (a:Nat)),(2,.ae (b:Nat)),(3,eN)]⟩⟩;refine U 5<|b5 15 ((b-a:Nat):Int)<|U 7<|eD 17<|U 7<|a9 19 (.i .u64 ((UInt64.ofNat<|b-a).toNat:Nat)) o (by show ai.i .u64 (((b-a)%18446744073709551616:Nat):Int)=_;rw[UInt64.toNat_ofNat'])<|U 7<|bn ZH (b-a) (by show b-a<=_;omega) ?_;obtain⟨m,hm⟩:∃m,m=1<<<Go.Sort.bitsLen (b-a):=dq;have W:=amR (n:=b-a) J;rw[<-hm]at W;refine a9 21 (.i .u64 (m:Nat)) o (by rw[hm])<|U 8 (xY 24 4 (m:=b-a)<|U 1<|b5 25 (((b-a)/4*2:Nat):Int)<|U 1<|b5 26 ((a+(b-a)/4*2:Nat):Int)<|U 1<|b5 27 ((a+(b-a)/4*2-1:Nat):Int)<|U 4<|dN (L:=Nat×UInt64×bi aM) (λ(k,r,w)=>k<=3/\w.size=d.size/\HS d a b k=(r,w)) (λ((k:Nat),(r:UInt64),(w:bi aM))=>⟨[c5 w,Aa r],2,[(0,.aL 0 6 0 d.size d.size),(1,.ae (a:Nat)),(8,.ae ((b-a:Nat):Int)),(9,.p 1 0),(10,.i .u64 (m:Nat)),(11,.ae ((a+(b-a)/4*2-1+k:Nat):Int))]⟩) (λx=>3-x.1) [0,1] (0,UInt64.ofNat<|b-a,d) ⟨J,o,o⟩ (by show 3-0<bz+1;unfold bz;omega) cr ?_);rintro⟨k,r,w⟩ ⟨G,hw,u⟩;have V:w.toList.length=d.size:=by rw[jm];exact hw
 refine U 7<|xY 31 4 (m:=b-a)<|U 1<|b5 32 (((b-a)/4*2:Nat):Int)<|U 1<|b5 33 ((a+(b-a)/4*2:Nat):Int)<|U 1<|b5 34 ((a+(b-a)/4*2+1:Nat):Int)<|U 1 ?_;by_cases C:k<3
 case neg=>
  refine ee 35 ?_;have e:w=Go.Sort.breakPatterns d a b:=by
   rw[amS J,show 3=k by omega,u]
  subst e;exact U 7<|bh apG
 refine eD 35<|U 9<|lN ZG 1 r aP ?_ (R:=Aa r) (cq:=Aa<|Go.Sort.xorNext r) (aB:=fJ) (aa:=o);obtain⟨q,aD⟩:∃q,q=Go.Sort.xorNext r:=dq;rw[<-aD];refine U 2 ?_;refine a9 40 (.i .u64 ((m-1:Nat):Int)) o (by
  show ai.i .u64 (((m+(18446744073709551616*1-1))%18446744073709551616:Nat):Int)=_;rw[show(m+(18446744073709551616*1-1))%18446744073709551616=m-1 by omega]) ?_
 have Z:q.toNat&&&(m-1)<=m-1:=Nat.and_le_right;obtain⟨R,ay⟩:∃R,R=q.toNat&&&(m-1):=dq;rw[<-ay]at Z;refine U 1 ?_;refine a9 41 (.i .u64 (R:Nat)) o (by
  have E:=HQ q;rw[ay];rw[aD]at E⊢;show ai.i .u64 ((((Go.Sort.xorNext r).toNat%18446744073709551616)&&&((m-1)%18446744073709551616):Nat):Int)=_;rw[p0 E,p0 (show m-1<18446744073709551616 by omega)]) ?_
 refine U 1<|b5 42 ((R:Nat):Int)<|U 11<|jS (L:=Nat) (λp=>p=if b-a<=R then R-(b-a)else R) (λ(p:Nat)=>⟨[c5 w,Aa q],2,[(0,.aL 0 6 0 d.size d.size),(1,.ae (a:Nat)),(8,.ae ((b-a:Nat):Int)),(9,.p 1 0),(10,.i .u64 (m:Nat)),(11,.ae ((a+(b-a)/4*2-1+k:Nat):Int)),(12,.ae (p:Nat))]⟩) ?_ ?_
 .by_cases F:b-a<=R
  .exact eD 45<|U 5<|b5 48 ((R-(b-a):Nat):Int)<|U 2<|bL [0,1] (R-(b-a)) (by rw[aA F]) cr
  .exact ee 45<|U 2<|bL [0,1] R (by rw[au F]) cr
 rintro(p:Nat) (hp:p=_);have A:p<b-a:=by rw[hp];split<;>omega
 obtain⟨x,dF⟩:∃x,x=a+(b-a)/4*2-1+k:=dq;have T:x<d.size:=J
 rw[<-dF];refine U 7<|ww 58 ((a+p:Nat):Int)<|c0 o o (ed w.toList[a+p] (ba J) ?_) (a3:=J);refine U 2<|c0 o o (ed w.toList[x] (ba J) ?_) (a3:=J);refine c0 o o (hi w.toList[a+p] (w:=w.toList[x]) (ba J) ?_) (a3:=J);refine U 4<|ww 54 ((a+p:Nat):Int)<|c0 o o (hi (l:=w.toList.set (x) w.toList[a+p]) (ak:=hj) w.toList[x] (j:=a+p) (ba ep) ?_) (a3:=J);refine U 8 ?_;have M:=oh (c:=w) (i:=x) (j:=a+p) J J;refine bL [0,1] (k+1,q,Go.Sort.swp w x<|a+p) ⟨by show 3-(k+1)<3-k;omega,J,by rw[swp_size];exact hw,?_⟩<|cr (aE:=⟨⟨_,congrArg (λw=>some<|a0.a 168 true 6 aM hj w) M,o,λ_=>o⟩,fJ,aP⟩);show Go.Sort.breakStep a (b-a) (1<<<Go.Sort.bitsLen (b-a)) (HS d a b k) (a+(b-a)/4*2-1+k)=_;rw[u,<-dF,<-hm];unfold Go.Sort.breakStep;dsimp only;rw[<-aD,<-ay,hp]
set_option maxHeartbeats 8000000
def Ab(n:Nat):gh:=kP λ((d,a,b,l):bi aM×Nat×Nat×Nat)=>([c5 d],[.aL 0 6 0 d.size d.size,.ae (a:Nat),.ae (b:Nat),.ae (l:Nat),eN],b-a<=n+12/\a<=b/\b<=d.size/\l<=64/\Go.Sort.Below aZ a b d/\d.size<=1000000,[c5<|Go.Sort.pdq aZ d a b l true true],.br [])
def Ac{n:Nat}{x y z:ai}(h:c.size=n):[ai.aL 0 6 0 n n,x,y,z]=[ai.aL 0 6 0 c.size c.size,x,y,z]:=by rw[h]
abbrev ZJ(n:Nat)(c:bi aM)(a b l:Nat)(dv wp:Bool):cg:=⟨[c5 c],1,[(0,.aL 0 6 0 n n),(1,.ae (a:Nat)),(2,.ae (b:Nat)),(3,.ae (l:Nat)),(4,eN),(10,.b dv),(11,.b wp)]⟩
def HT{h:Go.Sort.Hint}{z:Int}{g:Go.Sort.Hint}(aH:z=xZ g):(xZ h=z)↔h=g:=by subst aH;cases h<;>cases g<;>simp[xZ]
def ZK{x y:Nat}:decide (((x:Nat):Int)>=((y:Nat):Int))=decide (x>=y):=by
 by_cases h:x>=y
 .rw[c9 h,c9 J]
 .rw[dk h,dk J]
def amT:eb cv.ctx 129 (Ab 0).spec:=by
 refine kT [HM] Gr.1 ?_;intro⟨d,a,b,l⟩ ⟨aj,F,aa,aI,O,cd⟩ H i0 ax af;obtain⟨B,rfl⟩:∃b,i0=[b]:=m7.1 af;refine U 11<|jh (λ_=>True) (λ_=>ZJ d.size d a b l true true) (λ_=>0) [0] () aP ?_;rintro⟨⟩ _;refine U 6<|b5 23 ((b-a:Nat):Int)<|U 8<|eD 25<|U 9<|lN HM 0 (d,a,b) ⟨F,aa,cd⟩ ?_;exact U 7<|bh ⟨.inr o,lQ,[0],o,iz aP ⟨_,by show some (c5 _)=some (c5 _);rw[Zt aj],o,λ_=>o⟩⟩
def amU(n:Nat)(aR:eb cv.ctx 129 (Ab n).spec):eb cv.ctx 129 (Ab<|n+1).spec:=by
 refine kT [HM,Zv,ZI,ZD,Zr,ZA,Zz,Zy,k2,(129,(Ab n).spec)] Gr.1 ?_;intro⟨d,q,a',E⟩ ⟨(bj:a'-q<=n+1+12),(bg:q<=a'),(bm:a'<=d.size),(bo:E<=64),bd,(cd:d.size<=_)⟩ H i0 ax af;obtain⟨bu,rfl⟩:∃b,i0=[b]:=m7.1 af;show bP.ok _ ⟨_,_,⟨[c5 d],1,[(0,.aL 0 6 0 d.size d.size),(1,.ae (q:Nat)),(2,.ae (a':Nat)),(3,.ae (E:Nat)),(4,eN)]⟩⟩;refine U 11<|jh (L:=bi aM×Nat×Nat×Nat×Bool×Bool) (λ(c,a,b,l,dv,wp)=>b-a<=n+1+12/\a<=b/\b<=d.size/\l<=64/\Go.Sort.Below aZ a b c/\c.size=d.size/\Go.Sort.pdq aZ c a b l dv wp=Go.Sort.pdq aZ d q a' E true true) (λ(c,a,b,l,dv,wp)=>ZJ d.size c a b l dv wp) (λx=>x.2.2.1-x.2.1) [0] (d,q,a',E,true,true) ⟨bj,bg,bm,bo,bd,o,o⟩ ?_;rintro⟨c,a,b,l,dv,wp⟩ ⟨aj,F,aa,aI,bb,ah,D⟩;have fin:∀{w:bi aM},w=Go.Sort.pdq aZ d q a' E true true->some (c5 w)=some (c5<|Go.Sort.pdq aZ d q a' E true true):=λh=>by rw[h]
 refine U 6<|b5 23 ((b-a:Nat):Int)<|U 8 ?_;by_cases ao:b-a<=12
 .refine eD 25<|U 9<|lN HM 0 (c,a,b) ⟨F,J,J⟩ ?_ (he:=Ac ah);exact U 7<|bh ⟨.inr o,lQ,[0],o,iz aP ⟨_,fin<|(Zt ao).symm.trans D,o,λ_=>o⟩⟩
 refine ee 25<|U 10 ?_;by_cases aq:l=0
 .refine eD 32<|U 9<|lN Zv 0 (c,a,b) ary ?_ (he:=Ac ah);exact U 7<|bh ⟨.inr o,lQ,[0],o,iz aP ⟨_,fin<|(amC ao aq).symm.trans D,o,λ_=>o⟩⟩
 refine ee 32 ?_;have aH:=amH (dv:=dv) F (show b<=c.size by omega);have a5:=bb.perm (show b<=c.size by omega) aH;have T:(m1 c a b dv).size=d.size:=by rw[aH.1];exact ah
 have al:=amI (c:=m1 c a b dv) (show a<b by omega) (show b<=(m1 c a b dv).size by omega);have bq:pX l dv<=64:=by unfold pX;split<;>omega
 refine U 12<|jS (L:=bi aM×Nat) (λx=>x.1=m1 c a b dv/\x.2=pX l dv) (λx=>⟨[c5 x.1],1,[(0,.aL 0 6 0 d.size d.size),(1,.ae (a:Nat)),(2,.ae (b:Nat)),(3,.ae (x.2:Nat)),(4,eN),(10,.b dv),(11,.b wp),(12,.ae ((b-a:Nat):Int))]⟩) ?_ ?_
 .cases dv with
  |true=>
   exact U 2<|fk [0] (c,l) e9
  |false=>
   refine U 7<|lN ZI 0 (c,a,b) ary ?_ (he:=Ac ah);exact U 7<|bL [0] (Go.Sort.breakPatterns c a b,l-1) e9 cr
 rintro⟨W,u⟩ ⟨(Y:W=_),(G:u=_)⟩;rw[<-Y]at aH a5 T al;refine U 6<|lN ZD 0 (W,a,b) ary ?_ (he:=Ac T);have bw:=Go.Sort.choosePivot_holds aZ W a b (show a<b by omega);refine U 14<|jS (L:=bi aM×Nat×Go.Sort.Hint) (λx=>mn W a b=x) (λx=>⟨[c5 x.1],1,[(0,.aL 0 6 0 d.size d.size),(1,.ae (a:Nat)),(2,.ae (b:Nat)),(3,.ae (u:Nat)),(4,eN),(10,.b dv),(11,.b wp),(12,.ae ((b-a:Nat):Int)),(13,.ae (x.2.1:Nat)),(14,.ae<|xZ x.2.2)]⟩) ?_ ?_
 .by_cases V:(Go.Sort.choosePivot aZ W a b).2= .decreasing
  .refine v1 56 ((HT (g:=.decreasing) o).2 V)<|U 7<|lN Zr 0 (W,a,b) ary ?_ (he:=Ac T);exact U 6<|b5 63 ((b-1:Nat):Int)<|U 3<|b5 66 (((Go.Sort.choosePivot aZ W a b).1-a:Nat):Int)<|U 1<|b5 67 ((b-1-((Go.Sort.choosePivot aZ W a b).1-a):Nat):Int)<|U 6<|fk [0] (Go.Sort.reverseRange W a b,b-1-((Go.Sort.choosePivot aZ W a b).1-a),.increasing) (by unfold mn;rw[aA V,aA V,aA V])
  .refine v0 56 (λg=>V<|(HT (g:=.decreasing) o).1 g) ?_;exact U 2<|fk [0] (W,(Go.Sort.choosePivot aZ W a b).1,(Go.Sort.choosePivot aZ W a b).2) (by unfold mn;rw[au V,au V,au V])
 rintro⟨d2,gS,aN⟩ dF;have aw:mn (m1 c a b dv) a b=(d2,gS,aN):=by rw[<-Y];exact dF
 rw[dF]at al;obtain⟨(al:Go.Sort.PermIn a b W d2),(aO:a<=gS),(aQ:gS<b)⟩:=al;have a2:d2.size=d.size:=by rw[al.1];exact T
 have B:=a5.perm (show b<=W.size by omega) al;have aJ:=amJ (x:=(d2,gS,aN)) (dv:=dv) (wp:=wp) (show a<b by omega) (show b<=d2.size by omega) B;have ak:(ly (d2,gS,aN) a b dv wp).1.size=d.size:=by rw[aJ.1];exact a2
 have M:=B.perm (show b<=d2.size by omega) aJ;have b':∀{d3},ly (d2,gS,aN) a b dv wp=(d3,true)->d3=Go.Sort.pdq aZ d q a' E true true:=λh=>(amD ao aq aw h).symm.trans D;refine KQ (L:=bi aM) (λd3=>ly (d2,gS,aN) a b dv wp=(d3,false)) (λd3=>⟨[c5 d3],1,[(0,.aL 0 6 0 d.size d.size),(1,.ae (a:Nat)),(2,.ae (b:Nat)),(3,.ae (u:Nat)),(4,eN),(10,.b dv),(11,.b wp),(12,.ae ((b-a:Nat):Int)),(13,.ae (gS:Nat))]⟩) ?_ ?_
 .have no:(dv&&wp&&decide (aN= .increasing))=false->ly (d2,gS,aN) a b dv wp=(d2,false):=λh=>by
   unfold ly;dsimp only;rw[h];rfl
  cases dv with
  |false=>
   exact U 14<|fk [0] d2 (no o)
  |true=>
   cases wp with
   |false=>
    exact U 15<|fk [0] d2 (no o)
   |true=>
    refine U 15 ?_;by_cases V:aN= .increasing
    .have aD:ly (d2,gS,aN) a b true true=Go.Sort.partialInsertionSort aZ d2 a b:=by
      unfold ly;dsimp only;rw[V];rfl
     refine v1 75 ((HT (g:=.increasing) o).2 V)<|U 7<|lN ZA 0 (d2,a,b) ary ?_ (he:=Ac a2);cases N:(Go.Sort.partialInsertionSort aZ d2 a b).2 with
     |true=>
      exact a9 80 (.b true) o (by show ai.b _=_;rw[N])<|U 8<|bh ⟨.inr o,lQ,[0],o,iz aP ⟨_,fin<|b'<|aD.trans<|by rw[<-N],o,λ_=>o⟩⟩
     |false=>
      exact a9 80 (.b false) o (by show ai.b _=_;rw[N])<|U 4<|fk [0] (Go.Sort.partialInsertionSort aZ d2 a b).1 (aD.trans<|by rw[<-N])
    .refine v0 75 (λg=>V<|(HT (g:=.increasing) o).1 g) ?_;exact U 2<|fk [0] d2 (no<|by rw[dk V];rfl)
 rintro d3 (aD:ly (d2,gS,aN) a b dv wp=(d3,false));rw[aD]at ak M;replace ak:d3.size=d.size:=ak;replace M:Go.Sort.Below aZ a b d3:=M;have bs:d3.toList.length=d.size:=by rw[jm];exact ak
 refine KQ (L:=Unit) (λ_=>¬(0<a/\aZ d3[a-1]! d3[gS]! =false)) (λ_=>⟨[c5 d3],1,[(0,.aL 0 6 0 d.size d.size),(1,.ae (a:Nat)),(2,.ae (b:Nat)),(3,.ae (u:Nat)),(4,eN),(10,.b dv),(12,.ae ((b-a:Nat):Int)),(13,.ae (gS:Nat))]⟩) ?_ ?_
 .refine U 5 ?_;by_cases aF:0<a
  .refine fj 83 (show(((a:Nat):Int)>0) by omega)<|U 8 (ww 87 ((a-1:Nat):Int)<|U 1<|c0 o o (U 1<|ed d3.toList[a-1] (ba J) ?_) (a3:=J));refine U 5<|c0 o o (U 1<|ed d3.toList[gS] (ba J) ?_) (a3:=J);refine U 1<|np k2 (d3.toList[a-1],d3.toList[gS]) aP<|U 7 ?_;by_cases C:iY d3.toList[a-1].n d3.toList[gS].n<0
   .refine v8 97 C ?_;exact U 2<|fk [0] () λg=>by have:=g.2;rw[cu J,cu J,pV C]at this;cases this
   .have a1:aZ d3[a-1]! d3[gS]! =false:=by rw[cu J,cu J];exact pW C
    refine v7 97 C ?_;refine U 8<|lN Zz 0 (d3,a,b,gS) ⟨J,J,J,J⟩ ?_ (he:=z8 ak);obtain⟨eo,d4,A⟩:∃eo d4,Go.Sort.partitionEqual aZ d3 a b gS=(eo,d4):=⟨_,_,o⟩;obtain⟨dX,e5,ni,rR,_⟩:=Go.Sort.round_eq z7 (Go.Sort.partitionEqual_holds aZ) aF aO aQ (show b<=d3.size by omega) M a1 A;have dY:=(amE ao aq aw aD aF a1 A ⟨dX,e5⟩).symm.trans D;rw[<-G]at dY;exact U 12<|bL [0] (d4,eo,b,u,dv,wp) ⟨by show b-eo<b-a;omega,J,e5,aa,J,rR,J,dY⟩ (cb (aE:=⟨⟨_,by show some (c5 (Go.Sort.partitionEqual aZ d3 a b gS).2)=some (c5 d4);rw[A],o,λ_=>o⟩,aP⟩) (aK:=⟨o,by show some (ai.ae ((Go.Sort.partitionEqual aZ d3 a b gS).1:Nat))=some (.ae (eo:Nat));rw[A],o,o,o,o,o,aP⟩))
  .exact dR 83 (show¬(((a:Nat):Int)>0) by omega)<|U 18<|fk [0] () λg=>aF g.1
 rintro⟨⟩ aW;obtain⟨eo,ap,d4,A⟩:∃eo ap d4,Go.Sort.partition aZ d3 a b gS=(eo,ap,d4):=⟨_,_,_,o⟩;obtain⟨dX,e5,ni,rR,oS,zr,zs⟩:=Go.Sort.round_part z7 (Go.Sort.partition_holds aZ) aO aQ (show b<=d3.size by omega) M A;have av:d4.size=d.size:=ni.trans ak;refine U 7<|lN Zy 0 (d3,a,b,gS) ⟨J,J,J,J⟩ ?_ (he:=z8 ak);refine a9 111 (.br [.ae (eo:Nat),.b ap]) o (by show ai.br [.ae ((Go.Sort.partition aZ d3 a b gS).1:Nat),.b (Go.Sort.partition aZ d3 a b gS).2.1]=_;rw[A])<|U 18<|b5 117 ((eo-a:Nat):Int)<|U 3<|b5 120 ((b-eo:Nat):Int)<|U 8 (xY 122 8 (m:=b-a)<|U 8 ?_);have ay:∃g3,[a0.a 168 true 6 aM hj (Go.Sort.partition aZ d3 a b gS).2.2.toList][0]? =some g3/\lg [0] (c5 d4) g3:=⟨_,o,by rw[A],λ_=>o⟩;by_cases aT:eo-a<b-eo
 .have dY:=(amF ao aq aw aD aW A ⟨dX,e5⟩ aT).symm.trans D;rw[<-G]at dY;obtain⟨O,az⟩:=Go.Sort.pdq_sorts aZ z7 d4 a eo u true true J J rR;obtain⟨Z,_⟩:=zr _ O az;refine eD 125<|U 18<|lN aR 0 (d4,a,eo,u) ⟨J,J,J,J,rR,J⟩ ?_ (R:=c5 d4) (aB:=ay) (he:=z8 av);exact U 5<|b5 136 ((eo+1:Nat):Int)<|U 3<|bL [0] (Go.Sort.pdq aZ d4 a eo u true true,eo+1,b,u,decide (eo-a>=(b-a)/8),ap) ⟨by show b-(eo+1)<b-a;omega,J,J,aa,J,Z,by rw[O.1];exact av,dY⟩ arK
 .have dY:=(amG ao aq aw aD aW A ⟨dX,e5⟩ aT).symm.trans D;rw[<-G]at dY;obtain⟨O,az⟩:=Go.Sort.pdq_sorts aZ z7 d4 (eo+1) b u true true J J oS;obtain⟨Z,_⟩:=zs _ O az;refine ee 125<|U 16<|b5 142 ((eo+1:Nat):Int)<|U 3<|lN aR 0 (d4,eo+1,b,u) ⟨J,J,J,J,oS,J⟩ ?_ (R:=c5 d4) (aB:=ay) (he:=z8 av);exact U 7<|bL [0] (Go.Sort.pdq aZ d4 (eo+1) b u true true,a,eo,u,decide (b-eo>=(b-a)/8),ap) ⟨by show eo-a<b-a;omega,J,J,J,J,Z,by rw[O.1];exact av,dY⟩ arK
def amV(n:Nat):eb cv.ctx 129 (Ab n).spec:=by
 induction n with
 |zero=>exact amT
 |succ n U=>exact amU n U
end Go.bI.ds
namespace Go.bI.ds
open Go.bI
open Sym
variable{X:Ctx}
variable{b:Nat}{cs ab:ac bv}
def NY(cp:Nat)(l:ac Int):BZ:=⟨λH v=>∃b R c ab el D aW,v= .slice (some ⟨b,R,none⟩) l.length c/\l.length<=c/\cp<=b/\H b=some (.cells ab el D aW)/\∀i x,l[i]? =some x->ab[R+i]? =some (.int .i64 x),
 λh _ ⟨b,R,c,ab,el,D,aW,e,ah,aj,T,d⟩=>⟨b,R,c,ab,el,D,aW,e,ah,aj,h _ _ T,d⟩,true,λ_ _ _ ⟨_,_,_,_,_,_,_,e,_⟩=>by rw[e];rfl⟩
def v9(cp:Nat)(t:bT):ac ai:=[.s t.bY,.g<|NY cp t.cF]
def lz(st:ao)(cs:ac bv):ao:=match cs with
 |[]=>⟨st.h,st.ag+1⟩
 |cs=>st.new<|.cells cs 0 (0,cs.length) true
def Ad(st:ao)(cs:ac bv):(lz st cs).ag=st.ag+1:=by cases cs<;>rfl
def HU(st:ao)(cs:ac bv)(aa:b≠st.ag):(lz st cs).h.get b=st.h.get b:=by
 cases cs with
 |nil=>rfl
 |cons d C=>exact ar.fu _ _ aa
def ZL(st:ao)(h:cs≠[]):(lz st cs).h.get st.ag=some (.cells cs 0 (0,cs.length) true):=by
 cases cs with
 |nil=>exact absurd o h
 |cons d C=>exact ar.nO _ _ _
def ZM{st:ao}(h:∀i,st.ag<=i->st.h.get i=none):∀i,(lz st cs).ag<=i->(lz st cs).h.get i=none:=λi af=>by
 rw[Ad]at af;rw[HU _ _ J];exact h i J
theorem ZN{ad T aJ:bN}{st ca Z:ao}{dR w:d9}(G:ei ad T dR w)(M:bZ X T ca w)(D:∀i,st.ag<=i->ad i=none)(hold:∀b,b<st.ag->ca.h.get b=st.h.get b)(h:Way X ad st ca T dR w Z aJ){n R c:Nat}(O:cs≠[])(aa:st.ag<=b){el:d7}{ai:Nat×Nat}{aW:Bool}(F:ca.h.get b=some (.cells ab el ai aW))
 (cd:∀i (h:i<cs.length),∃x,ab[R+i]? =some x/\∀u,bo T x u->bo aJ cs[i] u) (ah:n<=c) (aj:0<n):
 ∃ae,Way X ad st ca T dR w (lz Z cs) ae/\aJ.le ae/\∀u,bo T (.slice (some ⟨b,R,none⟩) n c) u->bo ae (.slice (some ⟨Z.ag,0,none⟩) n n) u:=by
 obtain⟨l,aI,C,aG,L⟩:=M.eJ _ _ F az;have V:=qY.2 O;have aP:R+cs.length<=ab.length:=by
  obtain⟨x,dF,_⟩:=cd (cs.length-1) J;have:=(dG.1 dF).1;omega
 have W:=L.kH;have hle:aJ.le (gK aJ Z.ag ⟨l.cA,l.de+R,c+l.ex-n,eU⟩):=λi aS af=>by
  show(if i=_ then _ else aJ i)=_;rw[au];exact af;intro e;subst e;rw[(h.wr.fresh _<|ct _).1]at af;cases af
 have aM:∀i p m,Z.h.get i=some p->p≠.dead->aJ i=some m->(m.bM≠eU\/eU≠eU)->m.cA≠l.cA:=λi p m hp a' hm H e=>by
  have H:=H.elim id λh=>absurd o h;rcases h.obj i p m hp a' hm with⟨Y,aK,av⟩|⟨Y,_⟩
  .have:=M.inj i b p _ m l (by rw[hold i Y];exact av) a' F az (G.le _ _ aK) aI (.inl H) e;omega
  .exact H Y
 have A:hA X (gK aJ Z.ag ⟨l.cA,l.de+R,c+l.ex-n,eU⟩) w (.cells cs 0 (0,cs.length) true) ⟨l.cA,l.de+R,c+l.ex-n,eU⟩:=by
  have B:¬((0,cs.length).2<=(0,cs.length).1\/true=false):=λh=>by
   rcases h with h|h
   .have h:=h;omega
   .cases h
  obtain⟨U,Y,_⟩:=L.there;refine⟨C,aG,⟨U,Y,λh=>absurd h B⟩,?_,λh=>absurd h B,λi af=>?_,λh=>absurd (.inl h) B,λh=>by cases h⟩
  .show l.de+R+cs.length<=_;omega
  .obtain⟨x,dF,aB⟩:=cd i af;obtain⟨u,aL,I⟩:=L.cell (R+i) J;have aw:ab[R+i]'J=x:=by grind
   rw[aw]at I;refine⟨u,?_,(aB u I).mono hle⟩;rw[<-aL];rw[x4]
 obtain⟨bU,aD⟩:=bZ.name h.wr A (M.fY b l aI) aM λ_=>V;have aF:lz Z cs=⟨Z.h.set Z.ag<|.cells cs 0 (0,cs.length) true,Z.ag+1⟩:=by cases cs<;>first|exact absurd o O|rfl
 have aH:=D _ h.ag;have aq:=D _ aa;rw[aF];refine⟨_,⟨bU,h.sW.name aH ?_,uJ h.ag,λi p m hp a' hm=>?_⟩,aD,λu E=>?_⟩
 .rcases G.new b l aI with q|q|q
  .rw[aq]at q;cases q
  .exact .inl q
  .exact .inr q
 .rw[ar.eP]at hp;have hm:(if i=Z.ag then some _ else aJ i)=some m:=hm;by_cases e:i=Z.ag
  .rw[aA e]at hm;cases hm;exact .inr ⟨o,b,ab,el,ai,aW,l,F,aI,o⟩
  .rw[au e]at hp hm;exact h.obj i p m hp a' hm
 .cases E with
  |fv _ aQ N _ _ ak aO ay=>
   rw[aI]at ak;cases ak;have ay:=ay.elim id λh=>J
   subst ay;have e:c+l.ex=n+(c+l.ex-n):=J
   have q:bo (gK aJ Z.ag ⟨l.cA,l.de+R,c+l.ex-n,eU⟩) (.slice (some ⟨Z.ag,0,none⟩) n n) (.slice (some ⟨l.cA,l.de+R,none⟩) n<|n+(c+l.ex-n)):=
    .fv ⟨Z.ag,0,none⟩ ⟨l.cA,l.de+R,c+l.ex-n,eU⟩ (l.de+R) _ _ (aA o) o nQ
   rw[<-e]at q;exact q
def k3(l:ac Int):ac bv:=l.map λn=>.int .i64 n
def ZO(n:Nat)(l:ac Int):bv:=match l with
 |[]=>.chan none
 |l=>.slice (some ⟨n,0,none⟩) l.length l.length
def hJ:ac bT->ao->ac bv×ao
 |[],st=>([],st)
 |t::l,st=>(.string ⟨⟨t.bY⟩⟩::ZO st.ag t.cF::(hJ l<|lz st<|k3 t.cF).1,(hJ l<|lz st<|k3 t.cF).2)
theorem ZP:∀(l:ac bT) (st:ao),st.ag<=(hJ l st).2.ag
 |[],_=>ct _
 |t::l,st=>by have:=ZP l<|lz st<|k3 t.cF;rw[Ad]at this;show _<=(hJ l<|lz st<|k3 t.cF).2.ag;omega
theorem NZ:∀(l:ac bT) (st:ao) {b:Nat},b<st.ag->(hJ l st).2.h.get b=st.h.get b
 |[],_,_,_=>rfl
 |t::l,st,b,aa=>by
  show(hJ l<|lz st<|k3 t.cF).2.h.get b=_;rw[NZ l _<|by rw[Ad];omega,HU _ _ J]
theorem N0:∀(l:ac bT) (st:ao),(∀b,st.ag<=b->st.h.get b=none)->∀b,(hJ l st).2.ag<=b->(hJ l st).2.h.get b=none
 |[],_,h=>h
 |t::l,st,h=>N0 l (lz st<|k3 t.cF)<|ZM h
def amW{g:bm}{l:ac Int}(h:g b=some (.cells (k3 l) 0 (0,(k3 l).length) true)):den g (.b8 1 Int h9 l) [] (.slice (some ⟨b,0,none⟩) l.length l.length):=by
 refine .inr<|.inr ⟨b,0,l.length,k3 l,0,(0,(k3 l).length),true,o,ct _,h,λi x dF=>?_⟩;have af:=(dG.1 dF).1;have dF:=(dG.1 dF).2;have aI:(k3 l).length=l.length:=by simp[k3]
 have e:((k3 l).drop<|0+i*1).take 1=[.int .i64 x]:=by
  rw[show 0+i*1=i by omega,hL J];simp[List.take_succ_cons,Ip,k3,uL,dF]
 rw[e];exact arn arn
theorem ZQ:∀(l:ac bT) (st:ao) (j:Nat) (t:bT),l[j]? =some t->∀{g:bm},(∀b R,st.ag<=b->(hJ l st).2.h.get b=some R->g b=some R)->cT g (ef t) [] (((hJ l st).1.drop<|j*2).take 2)
 |[],_,_,_,h,_,_=>by simp at h
 |t::l,st,0,B,h,g,F=>by
  cases h;refine⟨_,_,o,o,_,_,o,?_,o⟩;cases hp:t.cF with
  |nil=>exact .inl e9
  |cons p bd=>
   refine amW<|F _ _ (ct _) ?_;show(hJ l<|lz st<|k3 t.cF).2.h.get st.ag=_;rw[NZ _ _<|by rw[Ad];omega,ZL _<|by rw[hp];simp[k3],hp]
 |t::l,st,j+1,B,h,g,F=>by
  have e:((hJ (t::l) st).1.drop<|(j+1)*2).take 2=((hJ l<|lz st<|k3 t.cF).1.drop<|j*2).take 2:=by
   rw[show(j+1)*2=j*2+1+1 by omega];rfl
  rw[e];exact ZQ l _ j B h λb R aa ay=>F b R (by rw[Ad]at aa;omega) ay
def amX{a b:bv}(h:ab.take 2=[a,b]):∃r,ab=a::b::r:=by
 match ab,h with
 |x::y::r,h=>cases h;exact⟨r,o⟩
theorem ZR{ad T:bN}{st ca:ao}{dR w:d9}(G:ei ad T dR w)(M:bZ X T ca w)(D:∀i,st.ag<=i->ad i=none)(hold:∀b,b<st.ag->ca.h.get b=st.h.get b){H1:bm}(a':∀b R,H1 b=some R->ca.h.get b=some R):
 ∀(l:ac bT) (ab:ac bv) {Z:ao} {aJ:bN},Way X ad st ca T dR w Z aJ->(∀i t,l[i]? =some t->cT H1 (v9 st.ag t) [] ((ab.drop<|i*2).take 2))->
  ∃J,Way X ad st ca T dR w (hJ l Z).2 J/\aJ.le J/\∀(j:Nat) (h:j<(hJ l Z).1.length),∃x,ab[j]? =some x/\∀u,bo T x u->bo J (hJ l Z).1[j] u
 |[],_,Z,aJ,h,_=>⟨aJ,h,bN.le.refl _,λj aE=>by simp[hJ]at aE⟩
 |t::l,ab,Z,aJ,h,cd=>by
  obtain⟨v1,ak,U,aE,aq,L,h4,aK,C⟩:=cd 0 t o;subst C h4;obtain⟨ai,rfl⟩:=amX (by exact U);subst aE;obtain⟨b,R,c,au,el,aj,aW,rfl,ah,aa,F,aw⟩:=aK;have one:∃Y,Way X ad st ca T dR w (lz Z<|k3 t.cF) Y/\aJ.le Y/\∀u,bo T (.slice (some ⟨b,R,none⟩) t.cF.length c) u->bo Y (ZO Z.ag t.cF) u:=by
   cases hp:t.cF with
   |nil=>exact arQ arQ
   |cons p N=>
    refine ZN G M D hold h (by simp[k3]) aa (a' _ _ F) (λi af=>?_) (by rw[<-hp];exact ah) az;have H:i<(p::N).length:=by simpa[k3]using af
    refine⟨_,aw i _<|by rw[hp];exact ba H,λu E=>?_⟩;cases E;simp only[k3,uL];exact .int _ _
  obtain⟨Y,V,B,bj⟩:=one;obtain⟨I,W,O,q⟩:=ZR G M D hold a' l ai V λi ae aN=>by
   have:=cd (i+1) ae aN;rw[show(i+1)*2=i*2+1+1 by omega]at this;exact this
  refine⟨I,W,B.trans O,λj A=>?_⟩
  match j,A with
  |0,_=>exact⟨_,o,λu E=>by cases E;exact .string _⟩
  |1,_=>exact⟨_,o,λu E=>(bj u E).mono O⟩
  |j+2,A=>exact q j<|by simp[hJ,iQ]at A;omega
structure Ae(st:ao)(l:ac bT)(v:bv)(ca:ao)(H1:bm):Prop where
 val:(l=[]∧v= .slice none 0 0)∨l≠[]∧∃b c ab el aW,v= .slice (some ⟨b,0,none⟩) l.length c∧l.length<=c∧st.ag<=b∧ca.h.get b=some (.cells ab el (0,0) aW)∧∀i t,l[i]? =some t->cT H1 (v9 st.ag t) [] ((ab.drop (i*2)).take 2)
 le:∀b R,H1 b=some R->ca.h.get b=some R
 dZ:∀b,b<st.ag->ca.h.get b=st.h.get b
variable{l:ac bT}{ad:bN}{w:d9}{v:bv}{ca:ao}{H1:bm}
def HV(l:ac bT)(st:ao):bv:=match l with
 |[]=>.slice none 0 0
 |l=>.slice (some ⟨(hJ l st).2.ag,0,none⟩) l.length l.length
def Dh(l:ac bT)(st:ao):ao:=match l with
 |[]=>st
 |l=>lz (hJ l st).2 (hJ l st).1
def ZS{st:ao}(h:l≠[]):(hJ l st).1≠[]:=by
 cases l with
 |nil=>exact absurd o h
 |cons=>simp[hJ]
def ZT{st:ao}(h:l≠[]):Dh l st=lz (hJ l st).2 (hJ l st).1:=by
 cases l with
 |nil=>exact absurd o h
 |cons=>rfl
def ZU{st:ao}(h:l≠[]):HV l st= .slice (some ⟨(hJ l st).2.ag,0,none⟩) l.length l.length:=by
 cases l with
 |nil=>exact absurd o h
 |cons=>rfl
def ZV{o:bN}{aG:d9}(h:ei ad o w aG):ei ad ad w aG:=⟨bN.le.refl _,h.size,h.kept,λ_ _ q=>.inl q,h.fZ⟩
def Ae.can{st:ao}{b:dQ}{bu:Bool->ac Frame}{s:Machine}(h:Ae st l v ca H1)(o:bZ X ad st w)(D:hP X ad w b bu s (.ret v ca false)):hP X ad w b bu s (.ret (HV l st) (Dh l st) false):=by
 obtain⟨T,A,E,F,Y,M,G,N,J,B,C⟩:=D;rcases h.val with⟨rfl,rfl⟩|⟨O,b,c,ab,el,aW,rfl,ah,aa,L,cd⟩
 .exact⟨ad,A,E,F,by cases Y;exact .kl _ _,bZ.back G.le o M h.dZ,ZV G,N,J,B,C⟩
 have aT:∀{i:Nat} {p:bG},st.h.get i=some p->i<st.ag:=λ{i p} hp=>by
  rcases fW i st.ag with q|q
  .exact q
  .rw[(o.fresh i q).2]at hp;cases hp
 have u:∀i,st.ag<=i->ad i=none:=λi af=>(o.fresh i af).1;have U:Way X ad st ca T w E st ad:=⟨bZ.back G.le o M h.dZ,ZV G,ct _,λi p m hp ae hm=>.inl ⟨aT hp,hm,hp⟩⟩;obtain⟨H,V,Z,bj⟩:=ZR G M u h.dZ h.le l ab U cd;obtain⟨I,W,a',R⟩:=ZN G M u h.dZ V (ZS O) aa L (λi af=>by rw[jn];exact bj i af) ah<|qY.2 O;rw[ZU O,ZT O];exact⟨I,A,E,F,R A Y,W.wr,W.sW,N,J,B,C⟩
theorem Ae.uniq{st:ao}{Z:ac bT}{ag:bm}(h:Ae st l v ca H1)(aK:Ae st Z v ca ag):l=Z:=by
 rcases h.val with⟨rfl,rfl⟩|⟨O,b,c,ab,el,aW,rfl,ah,aa,F,cd⟩
 .rcases aK.val with⟨rfl,_⟩|⟨_,_,_,_,_,_,e,_⟩
  .rfl
  .cases e
 .rcases aK.val with⟨_,e⟩|⟨_,a',E,az,L,V,e,_,_,I,au⟩
  .cases e
  simp at e;obtain⟨rfl,ai,rfl⟩:=e;have T:=F.symm.trans I;obtain⟨rfl,_⟩:=T;refine As ai λi a ew=>?_;obtain⟨v1,aB,U,Y,aD,av,cW,aK,C⟩:=cd i _<|ba a;obtain⟨M,aw,W,bU,aA,ay,ae,H,ak⟩:=au i _<|ba ew;subst C cW ak ae;rw[U]at W;cases W;have bU:v1= .string ⟨⟨Z[i].bY⟩⟩:=bU;obtain⟨b,R,c,G,el,D,aW,rfl,_,_,aq,dX⟩:=aK;obtain⟨a',eX,E,av,L,u,V,e,_,_,B,e5⟩:=H;simp at e;obtain⟨⟨rfl,rfl⟩,A,rfl⟩:=e;have q:=(h.le _ _ aq).symm.trans<|aK.le _ _ B;obtain⟨rfl,_⟩:=q;rw[Y]at bU;simp at bU;have hp:=As A λj aj a'=>by
   have:=(dX j _<|ba aj).symm.trans<|e5 j _<|ba a';exact aoX
  cases dF:l[i]with
  |mk c p=>cases N:Z[i]with
   |mk E ae=>rw[dF,N]at bU hp;simp only at bU hp;rw[bU,hp]
def amY{st:ao}(u:∀b,st.ag<=b->st.h.get b=none){M:bm}(l:ac bT)(F:∀b R,M b=some R->st.h.get b=some R):
 ∃Z,Fit Z [] (Dh l st) [] 0/\cZ M [] st Z [] (Dh l st)/\den Z (.gq 2 bT ef l) [] (HV l st):=by
 have I:∀b R,M b=some R->b<st.ag:=λb R e=>by
  rcases fW b st.ag with q|q
  .exact q
  .have:=F b R e;rw[u b q]at this;cases this
 by_cases O:l=[]
 .subst O;exact aqf aqf
 have H:=ZP l st;rw[ZT O,ZU O];have Y:∀b,b<st.ag->(lz (hJ l st).2 (hJ l st).1).h.get b=st.h.get b:=λb aa=>by rw[HU _ _ J,NZ l st aa]
 obtain⟨Z,N⟩:∃Z:bm,∀b,Z b=if b<st.ag then M b else(lz (hJ l st).2 (hJ l st).1).h.get b:=⟨_,λ_=>o⟩;have hle:cL M Z:=λb R e=>by rw[N,aA<|I b R e];exact e
 refine⟨Z,⟨ZM<|N0 l st u,λb R e=>?_,o,o,pk,λb aa=>by simp at aa,λk R b E=>by simp at E⟩,⟨hle,λb aa _=>by rw[N,aA aa],λb aa _=>Y b aa,by rw[Ad];omega,ck.refl _,λb aa=>.inl aa⟩,.inr ⟨O,(hJ l st).2.ag,0,l.length,(hJ l st).1,0,(0,(hJ l st).1.length),true,o,ct _,?_,λi x dF=>?_⟩⟩
 .rw[N]at e;split at e
  .rename_i aa;rw[Y b aa];exact F b R e
  .exact e
 .rw[N,au J];exact ZL _<|ZS O
 .rw[jn];refine ZQ l st i x dF λb R aa ay=>?_;rw[N,au J];by_cases e:b=(hJ l st).2.ag
  .subst e;rw[N0 l st u _<|ct _]at ay;cases ay
  .rw[HU _ _ e];exact ay
def HW(l:ac bT)(cp:Nat)(res:ac gU)(x:c6)(s:cg):Prop:=(x= .norm\/x= .ret)/\((l=[]/\Fin.kO s res=some .nl)\/l≠[]/\∃k c el aW,Fin.kO s res=some (.aL k 2 0 l.length c)/\l.length<=c/\s.own[k]? =some (.a el aW 2 bT (v9 cp) l))
variable{f:d8}{a7:c7}
def ZW{call:bR}{n:Nat}{st:ao}{H:bm}{G:ac bT}{bJ:ac ai}(aI:ab.length<=a7.aR)(cd:cT H bJ [] ab)(U:Fit H [] st [] 0)
 (h:jg ⟨call,n,f,H,[],st,HW G st.ag a7.res⟩ a7.body ⟨[],0,iJ 0 bJ⟩):nU call n f a7 ab st≠[]/\∀q∈nU call n f a7 ab st,∃v ca H1,q= .ret v ca false/\Ae st G v ca H1:=by
 have e:nU call n f a7 ab st=(eg call n f a7.body (en ab) st).map (w6 call a7.res):=by
  unfold nU;rw[l0,fi,aA aI];rfl
 rw[e];refine⟨λh=>Lv a7.body (en ab) st<|wj.1 h,λq aD=>?_⟩;obtain⟨r,aw,rfl⟩:=db.1 aD;obtain⟨x,I,ca,rfl,H1,u,s,O,F,D,dF,ah⟩:=h H [] st (en ab) apk U (cY.zero cd) r aw;rcases ah with⟨W,B⟩|⟨W,k,c,el,aW,B,ah,E⟩
 .obtain⟨v,Z,A⟩:=rK F D B;exact⟨v,ca,H1,by rw[Gn dF,A],.inl ⟨W,Z⟩,F.le,λc ah=>O.dZ c ah az⟩
 .obtain⟨v,Z,A⟩:=rK F D B;obtain⟨b,aa,rfl⟩:=Z;obtain⟨⟨T,ay,_,hm⟩,_⟩:=F.own k _ b E aa;refine⟨_,ca,H1,by rw[Gn dF,A],.inr ⟨W,b,c,T,el,aW,o,ah,?_,ay,λi t aN=>?_⟩,F.le,λc ah=>O.dZ c ah az⟩
  .rcases O.new b (fQ aa)with h|h
   .simp at h
   .exact h
  .obtain⟨v1,V,M,Y,N,L,cW,R,C⟩:=hm i t aN;exact⟨v1,V,M,Y,N,L,cW,R,C⟩
def amZ{aV:ar c7}(a':Good X)(o:l8 X aV)(bp:d8->dT)(dF:aV.get f=some a7){S:da}(G:S.L->ac bT)(E:∀l,S.res l= .gq 2 bT ef (G l))(aI:∀l,(S.args l).length<=a7.aR)
 (h:∀l,S.pre l->∀H ax ab,S.hp H->Fit H [] ax [] 0->cT H (S.args l) [] ab->∃bJ:ac ai,cT H bJ [] ab/\jg ⟨cf aV (cm X bp)<|bz+1,bz+1,f,H,[],ax,HW (G l) ax.ag a7.res⟩ a7.body ⟨[],0,iJ 0 bJ⟩):eb X f S.spec:=by
 rintro ab st ⟨⟨l,H⟩,hp,ay,U,cd⟩;obtain⟨bJ,aa,R⟩:=h l hp H st ab ay U cd;have Y:ab.length<=a7.aR:=by rw[gr cd];exact aI l
 obtain⟨O,I⟩:=ZW Y aa U R;refine⟨HV (G l) st,Dh (G l) st,?_,?_⟩
 .rintro⟨aq,M⟩ ⟨u,ah,F,N⟩;obtain⟨aE,ak,ae⟩:=h aq u M st ab ah F N;obtain⟨_,aj⟩:=ZW Y ak F ae;obtain⟨q,aD⟩:=DK _ O;obtain⟨v,ca,H1,rfl,g3⟩:=I q aD;obtain⟨aG,aF,aA,e,eX⟩:=aj _ aD;cases e;obtain⟨Z,V,B,bj⟩:=amY U.wf (G l) F.le;exact⟨Z,V,B,by rw[E,<-g3.uniq eX];exact bj⟩
 .obtain⟨aB,c,ok⟩:=o f a7 dF;obtain⟨T,C⟩:=w3 a' o (BX bp)<|bz+1;intro ad W w D hw;refine⟨ok.enters,λK bu aw=>?_⟩;obtain⟨q,A,az⟩:=JK a' C T (λb aR bu _=>w1 C b aR bu) ok (bz+1) D hw aw (λr aw e=>by
   obtain⟨v,ca,_,al,_⟩:=I r aw;subst e;cases al)
  obtain⟨v,ca,H1,rfl,g3⟩:=I q A;exact g3.can hw az
end Go.bI.ds
namespace Go.bI.ds
open Go.bI Sym
set_option maxRecDepth 100000
set_option maxHeartbeats 4000000
variable{α:Type}{z:Nat}
def Di:ai:=.v<|.func (.func 97) #[] #[]
theorem ZX:b4 96 (kP λ(d:bi aM)=>([c5 d],[.aL 0 6 0 d.size d.size,Di],d.size<=1000000,[c5<|Go.Sort.sort aZ d],.br [])):=by
 apply kT [(130,xJ),(129,(Ab 1000000).spec)] LO.1;intro d (cd:d.size<=_) H i0 ax af;refine fI 1 eN o (λH u v d=>⟨[],[],d,o,o⟩) ?_;refine U 12<|a9 10 (.i .u64 d.size) o aoM<|bn NK d.size (by show d.size<_;omega)<|U 1<|lN (amV 1000000) 0 (d,0,d.size,cx d.size) ⟨J,dg _,ct _,(by
  rw[<-HR];unfold Go.Sort.bitsLen;split
  .omega
  .have:=(Nat.log2_lt (k:=20) J).2 J;omega),.inl o,cd⟩ ?_
 exact U 1<|bh ⟨.inl o,lQ,[0],o,iz aP ⟨_,by show some (c5 _)=some (c5<|Go.Sort.sort aZ d);unfold Go.Sort.sort;rw[HR],o,λ_=>o⟩⟩
theorem am0{H:bm}{u:ac Nat}{ak:α->ac ai}(aH:∀w,(ak w).length=z){ab:ac bv}:∀{l:ac α},(∀i x,l[i]? =some x->cT H (ak x) u ((ab.drop<|i*z).take z))->∀n,n<=l.length->n*z<=ab.length/\jR H u ak z (l.take n) (ab.take<|n*z):=by
 intro l h n
 induction n with
 |zero=>intro _;exact apY apY
 |succ n U=>
  intro aj;have⟨Y,G⟩:=U J;have C:=h n _<|ba J;have aI:=gr C;have hle:(n+1)*z<=ab.length:=by grind
  refine⟨hle,?_⟩;rw[om J];have e:ab.take ((n+1)*z)=ab.take (n*z)++(ab.drop<|n*z).take z:=by
   rw[fP,te,List.take_add]
  rw[e];exact vr G<|Cf C<|aH _
theorem ZY{s:cg}{x:ce}{k n c:Nat}{el:d7}{aW:Bool}{ak:α->ac ai}{l:ac α}(dF:bb s.env x=some (.aL k z 0 n c))(aB:s.own[k]? =some (.a el aW z α ak l))(aj:n<=l.length)(aH:∀w,(ak w).length=z)(ah:∀w,pE (ak w)=true):nZ s x ak z (l.take n):=by
 intro H u st I U D;have⟨b,Y,G⟩:=D.aq dF;have⟨⟨ab,C,N,o⟩,_⟩:=U.own k _ b aB Y;have⟨V,B⟩:=am0 aH o n aj
 grind [KU]
section
variable{an:e2}{K:ac dC}{own bk:ac a0}{aC:Nat}{e:bV}
variable{el:d7}
def ZZ{n a5 q:Nat}{cs:ac ai}{x i:ce}{bE:f5}{d:Tmp}{aF:ac Tmp}{back:Nat}{l:ac (bt×cz)}{bl:ac a0}{bc:bV}{a4 b3:Nat}(E:bP.ok an ⟨K,.d l bl ((d,.aL a5 z 0 q n)::bc) a4 b3,⟨own,aC,(d,.aL a5 z 0 q n)::e⟩⟩)
 (dF:bb (eF aF bc) x=some (.p a5 0):=by rfl) (af:bb (eF aF bc) i=some (.i bE (q:Int)):=by rfl) (aB:bl[a5]? =some (.c el cs):=by rfl) (aj:0<n:=by decide) (aD:q<=n:=by omega) (aa:back<a4:=by decide):bP.ok an ⟨K,.d ((⟨some d,.wA n z x none (some i) none,none⟩,.read back aF)::l) bl bc a4 b3,⟨own,aC,e⟩⟩:=
 mF aa (λH u st I D _ A=>by
  have⟨b,Y,G⟩:=D.aq dF;obtain⟨ab,bj,dj⟩:=A a5 _ b aB o Y;refine⟨_,aq1,λL _ N=>?_⟩;have dp:=(N a5 _ b aB o Y).trans bj;have Z:∀(k:Nat->a2),ft I (some i) n n k=k q:=λk=>by
   show gk (I.aq i) (λ_ F=>hW F (λF=>eB F n (k F) .no) .no) .no=_;rw[(D.aq af),nk,qu,h7 aD]
  show tl n z x none (some i) none an.call I L=_;unfold tl ao.gy;rw[G,lL,Sym.et,dp,sT,Z,sT];congr 2;rw[rB J,nX,jn]
  first|rfl|exact B (λk=>some<|Addr.mk b k none) J) E
def Z0{call:bR}{a8:Nat}{fn:d8}{aX:bm}{uu:Nat}{ax:ao}{Q:c6->cg->Prop}{xs:ac bt}{a5 n c:Nat}(t cp:Nat){aW:Bool}{l:ac Nat}(a':cp<=ax.ag)(k:bP.ok ⟨call,a8,fn,aX,[uu],ax,Q⟩ ⟨K,.R xs,⟨bk,aC,(t,.g<|NY cp<|l.map Int.ofNat)::e⟩⟩)(aN:dx e t=some (.aL a5 1 0 n c):=by rfl)(aB:own[a5]? =some (.a el aW 1 Nat fL l):=by rfl)
 (aj:l.length=n:=by first|rfl|omega) (ah:n<=c:=by first|exact ct _|omega) (F:0<a5:=by decide) (ay:gN own a5 .x some=some bk:=by rfl):bP.ok ⟨call,a8,fn,aX,[uu],ax,Q⟩ ⟨K,.R xs,⟨own,aC,e⟩⟩:=by
 cases hR ay;intro H u st I O U D;obtain⟨b,V,B⟩:=D.get t _ aN;obtain⟨⟨ab,bj,dj,dp⟩,_⟩:=U.own a5 _ b aB V;have hle:=rJ U aB o V;have L:ax.ag<=b:=by
  rcases O.new b (fQ V)with h|h
  .rw[fX]at h;have Y:=O.jf 0 uu o;have T:=(dG.1 Y);obtain⟨W,Z⟩:=(dG.1 V);obtain⟨cW,M⟩:=T;have:=(uP (h₀:=W) (h₁:=cW) U.c2).1 J;omega
  .exact h
 refine k (fs H st b) u st I (O.fs U aB o V) (U.fs aB o V) ⟨(D.mono hle aoN).pl,λj q A=>?_⟩;rw[mD]at A;cases E:Nat.beq t j with
 |false=>exact ata
 |true=>
  rw[E]at A;cases A;rw[<-dy E];refine⟨b,0,c,ab,el,(0,0),aW,by rw[B,hV,aj],by rw[hV];omega,J,by unfold fs;rw[aA o];exact bj,λi x dF=>?_⟩;have af:=(dG.1 dF).1;rw[hV]at af;obtain⟨v,G,C,T,N⟩:=dp i _<|ba af;subst T N;rw[ba<|by rwa [hV]]at dF;cases dF;have:=congrArg (λl=>l[0]?) C;exact aoX
end
def N1:gh:=kP λ((cp,l,q):Nat×ac Nat×Nat)=>([.c 168<|l.flatMap fL],[.aL 0 1 0 q l.length],q<=l.length/\l.length<=1000,[.a 168 false 1 Nat fL l],.g<|NY cp<|(l.take q).map Int.ofNat)
def Z1(l:N1.L):Nat:=l.1
def Z2:eb cv.ctx 99 (N1.jT Z1):=by
 apply YP [] LJ.1;intro⟨cp,l,q⟩ ⟨aD,aI⟩ H i0 ax af C;obtain⟨B,rfl⟩:∃b,i0=[b]:=m7.1 af;show bP.ok _ ⟨_,_,⟨[.c 168<|l.flatMap fL],1,[(0,.aL 0 1 0 q l.length)]⟩⟩;refine U 19<|kb 0 fL l ?_;apply kb 1 fL ([]:ac Nat);by_cases T:q=0
 .subst T;refine aeq (ZY o o (dg _) qj qj) ?_;exact Z0 7 cp C<|U 4<|bh ⟨.inr o,lQ,[0],o,iz aP ⟨_,o,o,λ_=>o⟩⟩
 .refine K5 (l.take q) (ZY o o aD qj qj) (l.take q) ?_ (bS:=by intro g;have h:=congrArg List.length g;rw[kD]at h;have h:min q l.length=0:=h;omega);exact Z0 7 cp C<|U 4<|bh ⟨.inr o,lQ,[0],o,iz aP ⟨_,o,o,λ_=>o⟩⟩
