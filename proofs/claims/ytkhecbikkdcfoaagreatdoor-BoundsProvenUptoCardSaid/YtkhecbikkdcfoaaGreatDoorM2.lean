/- An abstract machine, and that its evaluations stand for runs of the model (part 2); no condition. -/
import Derived.Orders
import Derived.Defers
import Derived.RangeFuncLeaves
import Derived.RangeFuncRecord
import Derived.KernelRfl
import Derived.LaidLaws
import Derived.Test.YtkhecbikkdcfoaaGreatDoorM1
noncomputable section
set_option linter.all false
namespace Go.bI
variable{X:Ctx}{call:bR}
def lJ(I:aO)(g:be (Tmp×Bool))(b:Bool):Prop:=hl I g (some true) (some false) none=some b
variable{β:Type}
def Bv{α:Type}{I:aO}{g:be (Tmp×Bool)}{S J z r:α}(h:hl I g S J z=r)(aH:z≠r):(lJ I g true/\S=r)\/(lJ I g false/\J=r):=by
 cases g with
 |none=>exact .inl ⟨o,h⟩
 |some p=>
  have D:kj (I.tmp p.1) (λb=>cond b (cond p.2 S J)<|cond p.2 J S) (q6 (I.tmp p.1) (λ_=>J) z)=r:=h;show(kj (I.tmp p.1) (λb=>cond b (cond p.2 (some true)<|some false)<|cond p.2 (some false)<|some true) (q6 (I.tmp p.1) (λ_=>some false) none)=some true/\_)\/
   (kj (I.tmp p.1) (λb=>cond b (cond p.2 (some true)<|some false)<|cond p.2 (some false)<|some true) (q6 (I.tmp p.1) (λ_=>some false) none)=some false/\_)
  generalize I.tmp p.1=W at D;cases W with
  |bool qp=>
   cases qp<;>cases hp:p.2<;>rw[hp]at D
   .exact .inl ⟨o,D⟩
   .exact .inr ⟨o,D⟩
   .exact .inr ⟨o,D⟩
   .exact .inl ⟨o,D⟩
  |tuple xs=>exact .inr ⟨o,D⟩
  |_=>exact absurd D aH
def E9(t:ar bv)(aF:ac Tmp):ar bv:=jI t aF λm=>m
def aO.only(I:aO)(aF:ac Tmp):aO:=⟨E9 I.t aF,[],none,false,none⟩
def oG(t:ar bv)(aF:ac Tmp)(k:ar bv->β)(m:ar bv):β:=
 List.rec (motive:=λ_=>ar bv->β) (λm=>k m) (λx _ U m=>bx (t.get x) (λv=>ar.jc (Nat.succ x) m x v U)<|U m) aF m
theorem Jv{β:Type}(t:ar bv)(k:ar bv->β):∀(aF:ac Tmp) (m:ar bv),oG t aF k m=k (oG t aF (λm=>m) m)
 |[],_=>rfl
 |x::aF,m=>by
  show bx (t.get x) (λv=>ar.jc (Nat.succ x) m x v<|oG t aF k) (oG t aF k m)=k (bx (t.get x) (λv=>ar.jc (Nat.succ x) m x v<|oG t aF λm=>m)<|oG t aF (λm=>m) m);cases t.get x with
  |none=>exact Jv t k aF m
  |some v=>
   show ar.jc (Nat.succ x) m x v (oG t aF k)=k (ar.jc (Nat.succ x) m x v<|oG t aF λm=>m);simpa[ar.wN,ar.wN]using Jv t k aF _
def oH(t:ar bv)(aF:ac Tmp)(k:ar bv->β):jI t aF k=k (E9 t aF):=Jv t k aF .nil
theorem Jw(t:ar bv):∀(aF:ac Tmp) (m:ar bv) (j:Nat),(oG t aF (λm=>m) m).get j=if j∈aF/\(t.get j).isSome then t.get j else m.get j
 |[],m,j=>by rfl
 |x::aF,m,j=>by
  show(bx (t.get x) (λv=>ar.jc (Nat.succ x) m x v<|oG t aF λm=>m)<|oG t aF (λm=>m) m).get j=_;cases O:t.get x with
  |none=>
   show(oG t aF (λm=>m) m).get j=_;rw[Jw t aF m j]
   grind
  |some v=>
   show(ar.jc (Nat.succ x) m x v<|oG t aF λm=>m).get j=_;rw[ar.wN,Jw t aF _ j,ar.eP]
   grind
theorem PT(I:aO)(aF:ac Tmp)(j:Nat):(I.only aF).tmp j=if j∈aF then I.tmp j else jG:=by
 have h:=Jw I.t aF .nil j;have e:(I.only aF).t.get j=(oG I.t aF (λm=>m) .nil).get j:=rfl;show Option.rec (motive:=λ_=>bv) (.chan<|some 0) (λv=>v) ((I.only aF).t.get j)=_;rw[e,h];by_cases A:j∈aF
 .rw[aA A];cases d:I.t.get j with
  |none=>simp[aO.tmp,d]
  |some v=>rw[aA ⟨A,o⟩];simp[aO.tmp,d]
 .rw[au λh=>A h.1,au A];rfl
theorem PU:∀(aF:ac Tmp) (I:aO),(∀j,(qc I aF).tmp j=if j∈aF then jG else I.tmp j)/\(qc I aF).aY=I.aY/\(qc I aF).b7=I.b7/\(qc I aF).cU=I.cU/\(qc I aF).di=I.di
 |[],I=>⟨λj=>by simp[qc],o,o,o,o⟩
 |t::aF,I=>by
  have⟨aE,aK,C,d,J⟩:=PU aF<|I.put (some t) jG
  grind [tt,jG,qc,su]
theorem PV{R:dm}{I:aO}{v:bv}{ag:Nat}:∀(n:Nat) (M:ac (ar bG)),sameAt call R I v ag n M=true->∀j,j<n->∃h bC al,M[j]? =some h/\bD call R I ⟨h,ag⟩= .ok v bC al
 |0,_,_,j,a3=>by omega
 |n+1,[],h,_,_=>by cases h
 |n+1,h::M,cl,j,a3=>by
  have r:a2.rec (λbA _ _=>cond (dE v bA) (sameAt call R I v ag n M) false) (λ_ _=>false) false (bD call R I ⟨h,ag⟩)=true:=cl;cases A:bD call R I ⟨h,ag⟩with
  |ok bA bC al=>
   rw[A]at r;obtain⟨C,d⟩:=jK r az;have:=j4 _ _ C;subst this;cases j with
   |zero=>exact⟨h,bC,al,o,A⟩
   |succ j=>
    have⟨D,u,s,g,B⟩:=PV n M d j J;exact⟨D,u,s,by simpa using g,B⟩
  |_=>rw[A]at r;cases r
def DStep(call:bR)(x:bt)(c:cz)(I:aO)(st:ao)(N:ac (ar bG))(v:bv)(e4:aO)(ca:ao)(y:ac (ar bG)):Prop:=
 match c with
 |.dJ=>((lJ I x.g false\/(lJ I x.g true/\∃u J,bD call x.R I st= .aY u J))/\v=undef/\e4=I.put x.d undef/\ca=st/\y=st.h::N)\/
  (lJ I x.g true/\∃bC,bD call x.R I st= .ok v bC ca/\st.ag<=ca.ag/\e4=aO.put ⟨I.t,bC.di,bC.aY,bC.cU,bC.b7⟩ x.d v/\y=ca.h::N)
 |.hM aF=>e4=I.put x.d v/\y=N/\((lJ (I.only aF) x.g false/\v=undef/\ca=st)\/(lJ (I.only aF) x.g true/\∃bC,bD call x.R (I.only aF) st= .ok v bC ca))
 |.read back aF=>e4=I.put x.d v/\y=N/\ca=st/\((lJ (I.only aF) x.g false/\v=undef)\/(lJ (I.only aF) x.g true/\sameAt call x.R (I.only aF) v st.ag (Nat.succ back) N=true))
def yG(call:bR)(x:bt)(c:cz)(I:aO)(st:ao):Prop:=c= .dJ->lJ I x.g true->∀u J,bD call x.R I st≠.aY u J
variable{I:aO}
def abM{g:be (Tmp×Bool)}(h:lJ I g false)(D:lJ I g true):False:=by
 unfold lJ at h D;rw[h]at D;cases D
theorem abN{x:bt}{c:cz}{L:ac (bt×cz)}{N:ac (ar bG)}{st:ao}{e:c6}{bC:aO}{al:ao}{O:tn}(h:hn call O ((x,c)::L) N I st= .out e bC al):
 (∃v e4 ca y,DStep call x c I st N v e4 ca y/\yG call x c I st/\hn call O L y e4 ca= .out e bC al)\/
 (c= .dJ/\lJ I x.g true/\x.R.lE=true/\bC=I/\O L (st.h::N) (I.put x.d undef) st=true/\∃u,e= .aY u/\bD call x.R I st= .aY u al):=by
 cases c with
 |dJ=>
  have D:=h;obtain⟨Y,G⟩|⟨Y,G⟩:=Bv D az
  .cases A:bD call x.R I st with
   |ok v U gW=>
    rw[A]at G;have⟨C,j⟩:=jo G az;exact .inl ⟨v,aO.put ⟨I.t,U.di,U.aY,U.cU,U.b7⟩ x.d v,gW,gW.h::N,.inr ⟨Y,U,A,C,o,o⟩,(λ_ _ u J r=>by rw[A]at r;cases r),j⟩
   |aY u J=>
    rw[A]at G
    grind
   |no=>rw[A]at G;cases G
  .exact .inl ⟨undef,I.put x.d undef,st,st.h::N,.inl ⟨.inl Y,o,o,o,o⟩,(λ_ aN=>(abM Y aN).elim),G⟩
 |hM aF=>
  have D:jI I.t aF (λt=>hl ⟨t,[],none,false,none⟩ x.g
   (a2.rec (λv _ al=>hn call O L N (I.put x.d v) al) (λ_ _=>.no) .no<|bD call x.R ⟨t,[],none,false,none⟩ st)
   (hn call O L N (I.put x.d undef) st) .no)= .out e bC al:=h
  rw[oH]at D;have B:hl (I.only aF) x.g (a2.rec (λv _ al=>hn call O L N (I.put x.d v) al) (λ_ _=>.no) .no<|bD call x.R (I.only aF) st)
   (hn call O L N (I.put x.d undef) st) .no= .out e bC al:=D
  obtain⟨Y,G⟩|⟨Y,G⟩:=Bv B az
  .cases A:bD call x.R (I.only aF) st with
   |ok v U gW=>
    rw[A]at G;exact .inl ⟨v,I.put x.d v,gW,N,⟨o,o,.inr ⟨Y,U,A⟩⟩,ao6,G⟩
   |_=>rw[A]at G;cases G
  .exact .inl ⟨undef,I.put x.d undef,st,N,⟨o,o,.inl ⟨Y,o,o⟩⟩,ao6,G⟩
 |read back aF=>
  have D:jI I.t aF (λt=>hl ⟨t,[],none,false,none⟩ x.g
   (a2.rec (λv _ _=>cond (sameAt call x.R ⟨t,[],none,false,none⟩ v st.ag (Nat.succ back) N) (hn call O L N (I.put x.d v) st) .no) (λ_ _=>.no) .no<|bD call x.R ⟨t,[],none,false,none⟩ st)
   (hn call O L N (I.put x.d undef) st) .no)= .out e bC al:=h
  rw[oH]at D;have B:hl (I.only aF) x.g (a2.rec (λv _ _=>cond (sameAt call x.R (I.only aF) v st.ag (Nat.succ back) N) (hn call O L N (I.put x.d v) st) .no) (λ_ _=>.no) .no<|bD call x.R (I.only aF) st)
   (hn call O L N (I.put x.d undef) st) .no= .out e bC al:=D
  obtain⟨Y,G⟩|⟨Y,G⟩:=Bv B az
  .cases A:bD call x.R (I.only aF) st with
   |ok v U gW=>
    rw[A]at G;have⟨C,j⟩:=jK G az;exact .inl ⟨v,I.put x.d v,st,N,⟨o,o,o,.inr ⟨Y,C⟩⟩,ao6,j⟩
   |_=>rw[A]at G;cases G
  .exact .inl ⟨undef,I.put x.d undef,st,N,⟨o,o,o,.inl ⟨Y,o⟩⟩,ao6,G⟩
def Fa(x:bt)(c:cz)(I:aO)(st:ao)(N:ac (ar bG))(v:bv)(e4:aO)(ca:ao)(y:ac (ar bG)):Prop:=v=undef/\e4=I.put x.d undef/\ca=st/\y=(match c with|.dJ=>st.h::N|_=>N)
structure j8(call:bR)(Z:Nat->Bool)(L:ac (bt×cz))(fp:ac (ar bG))(I:aO)(st:ao)(bC:aO)(al:ao)(F:Nat->aO)(T:Nat->ao)(N:Nat->ac (ar bG))(V:Nat->bv):Prop where
 f0:F 0=I
 t0:T 0=st
 cp:N 0=fp
 fn:F L.length=bC
 aoB:T L.length=al
 step:∀p x c,L[p]? =some (x,c)->(Z p=false∧DStep call x c (F p) (T p) (N p) (V p) (F (p+1)) (T (p+1)) (N (p+1)))∨(Z p=true∧Fa x c (F p) (T p) (N p) (V p) (F (p+1)) (T (p+1)) (N (p+1)))
def Jx(call:bR)(Z:Nat->Bool)(L:ac (bt×cz))(F:Nat->aO)(T:Nat->ao)(n:Nat):Prop:=∀p x c,p≠n->Z p=false->L[p]? =some (x,c)->yG call x c (F p) (T p)
def abO(call:bR)(ms:ac Nat)(Z:Nat->Bool)(L:ac (bt×cz))(F:Nat->aO)(T:Nat->ao)(e:c6)(bC:aO)(al:ao):Prop:=
 (e= .norm/\(∀p,Z p=false)/\Jx call Z L F T L.length/\F L.length=bC/\T L.length=al)\/
 (∃n x u,L[n]? =some (x,.dJ)/\(∀p,Z p=true->n<p/\(ms.getD p 0).testBit n=true)/\Jx call Z L F T n/\lJ (F n) x.g true/\x.R.lE=true/\bC=F n/\e= .aY u/\bD call x.R (F n) (T n)= .aY u al)
theorem PW{O:tn}{e:c6}{bC:aO}{al:ao}:∀(L:ac (bt×cz)) (fp:ac (ar bG)) (I:aO) (st:ao),hn call O L fp I st= .out e bC al->∃(F:Nat->aO) (T:Nat->ao) (N:Nat->ac (ar bG)) (V:Nat->bv),(F 0=I/\T 0=st/\N 0=fp)/\
 ((e= .norm/\F L.length=bC/\T L.length=al/\∀p x c,L[p]? =some (x,c)->DStep call x c (F p) (T p) (N p) (V p) (F<|p+1) (T<|p+1) (N<|p+1)/\yG call x c (F p) (T p))\/
  (∃n x u,L[n]? =some (x,.dJ)/\(∀p x c,p<n->L[p]? =some (x,c)->DStep call x c (F p) (T p) (N p) (V p) (F<|p+1) (T<|p+1) (N<|p+1)/\yG call x c (F p) (T p))/\lJ (F n) x.g true/\x.R.lE=true/\bC=F n/\e= .aY u/\bD call x.R (F n) (T n)= .aY u al/\
   O (L.drop<|n+1) ((T n).h::N n) ((F n).put x.d undef) (T n)=true))
 |[],fp,I,st,h=>by
  have D:=h;cases D;exact aqs aqs
 |(x,c)::L,fp,I,st,h=>by
  rcases abN h with⟨v,r,W,y,S,ab,Y⟩|⟨rfl,hw,a',rfl,C,u,rfl,K⟩
  .obtain⟨F,T,N,V,⟨f0,t0,cp⟩,z⟩:=PW L y r W Y;refine⟨λp=>Nat.casesOn p I F,λp=>Nat.casesOn p st T,λp=>Nat.casesOn p fp N,λp=>Nat.casesOn p v V,sA,?_⟩;have j:∀s cX,((x,c)::L)[0]? =some (s,cX)->DStep call s cX I st fp v (F 0) (T 0) (N 0)/\yG call s cX I st:=λs cX hp=>by
    grind
   rcases z with⟨A,U,G,M⟩|⟨n,aa,w,H,M,B,bj,dj,dp,fa,gC⟩
   .refine .inl ⟨A,U,G,λp s cX hp=>?_⟩;cases p with
    |zero=>exact j s cX hp
    |succ p=>exact M p s cX<|by simpa using hp
   .refine .inr ⟨n+1,aa,w,by simpa using H,λp s cX ae hp=>?_,B,bj,dj,dp,fa,by simpa using gC⟩;cases p with
    |zero=>exact j s cX hp
    |succ p=>exact M p s cX J<|by simpa using hp
  .exact aqi aqi
theorem PX{a b c:Bool}(h:cond a b c=true):(a=true/\b=true)\/(a=false/\c=true):=by
 grind
theorem PY{ms:ac Nat}{n:Nat}:∀(M:ac (bt×cz)) (p:Nat) (fp:ac (ar bG)) (I:aO) (st:ao),j7 call ms n M p fp I st=true->∃(F:Nat->aO) (T:Nat->ao) (N:Nat->ac (ar bG)) (V:Nat->bv),(F 0=I/\T 0=st/\N 0=fp)/\
 ∀q x c,M[q]? =some (x,c)->((ms.getD (p+q) 0).testBit n=false/\DStep call x c (F q) (T q) (N q) (V q) (F<|q+1) (T<|q+1) (N<|q+1)/\c≠.dJ)\/((ms.getD (p+q) 0).testBit n=true/\Fa x c (F q) (T q) (N q) (V q) (F<|q+1) (T<|q+1) (N<|q+1))
 |[],p,fp,I,st,_=>⟨λ_=>I,λ_=>st,λ_=>fp,λ_=>undef,sA,λq x c aD=>by simp at aD⟩
 |(x,c)::M,p,fp,I,st,h=>by
  have key:∃v e4 ca y,j7 call ms n M (p+1) y e4 ca=true/\(((ms.getD p 0).testBit n=false/\DStep call x c I st fp v e4 ca y/\c≠.dJ)\/((ms.getD p 0).testBit n=true/\Fa x c I st fp v e4 ca y)):=by
   rcases PX h with⟨aa,Y⟩|⟨aa,Y⟩
   .cases c with
    |_=>exact⟨undef,_,_,_,Y,.inr ⟨aa,o,o,o,o⟩⟩
   .cases c with
    |dJ=>cases Y
    |hM aF=>
     have G:jI I.t aF (λt=>hl ⟨t,[],none,false,none⟩ x.g
      (a2.rec (λv _ al=>j7 call ms n M (p+1) fp (I.put x.d v) al) (λ_ _=>false) false<|bD call x.R ⟨t,[],none,false,none⟩ st)
      (j7 call ms n M (p+1) fp (I.put x.d undef) st) false)=true:=Y
     rw[oH]at G;rcases Bv G az with⟨j,B⟩|⟨j,B⟩
     .cases A:bD call x.R (I.only aF) st with
      |ok v U gW=>
       have B:a2.rec (λv _ al=>j7 call ms n M (p+1) fp (I.put x.d v) al) (λ_ _=>false) false (bD call x.R (I.only aF) st)=true:=B;rw[A]at B;exact arP arP
      |aY _ _=>
       exact apd
      |no=>
       exact apd
     .exact arw arw
    |read back aF=>
     have G:jI I.t aF (λt=>hl ⟨t,[],none,false,none⟩ x.g
      (a2.rec (λv _ _=>cond (sameAt call x.R ⟨t,[],none,false,none⟩ v st.ag (Nat.succ back) fp) (j7 call ms n M (p+1) fp (I.put x.d v) st) false) (λ_ _=>false) false<|bD call x.R ⟨t,[],none,false,none⟩ st)
      (j7 call ms n M (p+1) fp (I.put x.d undef) st) false)=true:=Y
     rw[oH]at G;rcases Bv G az with⟨j,B⟩|⟨j,B⟩
     .have B:a2.rec (λv _ _=>cond (sameAt call x.R (I.only aF) v st.ag (Nat.succ back) fp) (j7 call ms n M (p+1) fp (I.put x.d v) st) false) (λ_ _=>false) false (bD call x.R (I.only aF) st)=true:=B;cases A:bD call x.R (I.only aF) st with
      |ok v U gW=>
       rw[A]at B;rcases PX B with⟨bj,dj⟩|⟨_,dj⟩
       .exact arH arH
       .cases dj
      |_=>rw[A]at B;cases B
     .exact arv arv
  obtain⟨v,e4,ca,y,Y,r⟩:=key;obtain⟨F,T,N,V,⟨f0,t0,cp⟩,u⟩:=PY M (p+1) y e4 ca Y;refine⟨λp=>Nat.casesOn p I F,λp=>Nat.casesOn p st T,λp=>Nat.casesOn p fp N,λp=>Nat.casesOn p v V,sA,λq s cX aD=>?_⟩;cases q with
  |zero=>
   have:(x,c)=(s,cX):=by grind
   cases this;show(_/\DStep call x c I st fp v (F 0) (T 0) (N 0)/\_)\/(_/\Fa x c I st fp v (F 0) (T 0) (N 0));rw[f0,t0,cp];exact r
  |succ q=>
   grind
theorem abP{ms:ac Nat}(L:ac (bt×cz))(fp:ac (ar bG))(I:aO)(st:ao)(e:c6)(bC:aO)(al:ao)(h:hn call (ss call ms<|dK L) L fp I st= .out e bC al):∃Z F T N V,j8 call Z L fp I st (F L.length) (T L.length) F T N V/\abO call ms Z L F T e bC al:=by
 obtain⟨F,T,N,V,⟨f0,t0,cp⟩,z⟩:=PW L fp I st h;rcases z with⟨A,U,aw,M⟩|⟨n,x,u,a',M,B,bj,dj,dp,fa,gC⟩
 .exact apj apj
 .have aj:=(dG.1 a').1;have gC:j7 call ms (L.length-(L.drop<|n+1).length.succ) (L.drop<|n+1) (L.length-(L.drop<|n+1).length) ((T n).h::N n) ((F n).put x.d undef) (T n)=true:=by
   have:=gC;unfold ss at this
   rwa [fi,fi]at this
  rw[m5,show L.length-(L.length-(n+1)).succ=n by omega,show L.length-(L.length-(n+1))=n+1 by omega]at gC;obtain⟨js,aa,D,G,⟨O,ax,hY⟩,C⟩:=PY _ _ _ _ _ gC
  let Z:Nat->Bool:=λp=>decide (n<p)&&(ms.getD p 0).testBit n
  let Y:Nat->aO:=λp=>if p<=n then F p else js (p-(n+1))
  let gL:Nat->ao:=λp=>if p<=n then T p else aa (p-(n+1))
  let K:Nat->ac (ar bG):=λp=>if p<=n then N p else D (p-(n+1))
  let W:Nat->bv:=λp=>if p<n then V p else if p=n then undef else G (p-(n+1))
  have aQ:∀p,p<=n->Y p=F p/\gL p=T p/\K p=N p:=λp hp=>⟨aA hp,aA hp,aA hp⟩;have af:∀r,Y (n+1+r)=js r/\gL (n+1+r)=aa r/\K (n+1+r)=D r:=λr=>by
   grind
  have aq:∀p,p<=n->Z p=false:=λp hp=>by
   show(decide (n<p)&&_)=false;rw[dk J];rfl
  have an:∀r,Z (n+1+r)=(ms.getD (n+1+r) 0).testBit n:=λr=>by
   show(decide (n<n+1+r)&&_)=_;rw[c9 J];rfl
  refine⟨Z,Y,gL,K,W,⟨(aQ 0<|dg _).1.trans f0,(aQ 0<|dg _).2.1.trans t0,(aQ 0<|dg _).2.2.trans cp,o,o,λp y c hp=>?_⟩,.inr ⟨n,x,u,a',λp hp=>aoM,λp y c g aH hp=>?_,(by rw[(aQ n<|c4 _).1];exact B),bj,(by rw[(aQ n<|c4 _).1];exact dj),dp,(by rw[(aQ n<|c4 _).1,(aQ n<|c4 _).2.1];exact fa)⟩⟩
  .rcases p2 p n with aT|rfl|av
   .grind
   .obtain⟨eV,ew,s⟩:=aQ p<|c4 _;obtain⟨ai,S,ak⟩:=af 0;have ae:W p=undef:=by
     grind
    rw[a']at hp;cases hp;rw[eV,ew,s,ai,S,ak,ae,O,ax,hY];exact .inl ⟨aq p<|c4 _,.inl ⟨.inr ⟨B,u,_,fa⟩,o,o,o,o⟩⟩
   .obtain⟨r,rfl⟩:∃r,p=n+1+r:=⟨p-(n+1),J⟩;obtain⟨ai,S,ak⟩:=af<|r+1;have ae:W (n+1+r)=G r:=by
     show(if n+1+r<n then _ else if n+1+r=n then _ else G (n+1+r-(n+1)))=_;rw[au J,au J,show n+1+r-(n+1)=r by omega]
    grind
  .rcases p2 p n with aT|rfl|av
   .obtain⟨eV,ew,_⟩:=aQ p J;rw[eV,ew];exact(M p y c aT hp).2
   .exact absurd o g
   .obtain⟨r,rfl⟩:∃r,p=n+1+r:=⟨p-(n+1),J⟩;rw[an r]at aH;rcases C r y c (by rw[p3];exact hp)with⟨_,_,H⟩|⟨j,_⟩
    .exactλah=>absurd ah H
    .rw[aH]at j;cases j
def abQ{α:Type}(l:ac α)(n:Nat)(ab:ac α):(∃out,∀(k:ac α->a2),p9 l n ab k .no=k out)\/(∀k:ac α->a2,p9 l n ab k .no= .no):=by
 by_cases h:n+ab.length<=l.length
 .exact .inl ⟨_,λk=>by rw[rk,aA h]⟩
 .by_cases G:ab=[]
  .exact .inl ⟨l,λk=>by rw[rk,au h,aA G]⟩
  .exact .inr λk=>by rw[rk,au h,au G]
theorem PZ(I:aO):∀(bd:ac (Nat×Nat×ce)) (cs:ac bv),(∃out,∀c,oz I bd cs c=c out)\/(∀c,oz I bd cs c= .no)
 |[],cs=>.inl ⟨cs,λ_=>o⟩
 |p::bd,cs=>by
  have h:∀c,oz I (p::bd) cs c=cond (tk<|I.aq p.2.2) .no (dL (dK<|h0<|I.aq p.2.2) p.2.1 (eB (Nat.add p.1 p.2.1) (dK cs) (p9 cs p.1 (h0<|I.aq p.2.2) (λdP=>oz I bd dP c) .no) .no) .no):=λ_=>o;simp[h];cases tk (I.aq p.2.2)with
  |true=>exact .inr λ_=>o
  |false=>
   simp only[mx,l0];split
   .split
    .obtain⟨out,ay⟩|aj:=abQ cs p.1<|h0<|I.aq p.2.2
     .obtain⟨g,d⟩|j:=PZ I bd out
      .exact .inl ⟨g,λc=>by rw[ay];exact d c⟩
      .exact .inr λc=>by rw[ay];exact j c
     .exact .inr λc=>aj _
    .exact .inr λ_=>o
   .exact .inr λ_=>o
def P0{x:dm}{bC:aO}{bS:ar bG}{ag:Nat}{v:bv}{al:ao}(O:x.rp=true)(h:bD call x I ⟨bS,ag⟩= .ok v bC al):
 ∃R,R≠.dead/\bC=I/\al=⟨bS.set ag R,ag+1⟩/\∀D,bD call x I ⟨D,ag⟩= .ok v I ⟨D.set ag R,ag+1⟩:=by
 cases x with
 |alloc z e=>
  have h:ys z e call I ⟨bS,ag⟩= .ok v bC al:=h;rw[ys]at h;rw[gV]at h;cases h;exact arj arj
 |box e p=>
  obtain⟨Y,G⟩:=yx h az;rw[gV]at G;cases G;exact aqo aqo
 |q3 e n z bd=>
  have h:A2 e n z bd call I ⟨bS,ag⟩= .ok v bC al:=h;rw[A2]at h;obtain⟨out,ay⟩|aj:=PZ I bd z
  .rw[ay,gV]at h;cases h;exact aqU aqU
  .rw[aj]at h;cases h
 |wz e p=>
  obtain⟨s,M,Y⟩:=yu h az;have⟨hle,G⟩:=jo Y az;rw[gV]at G;cases G;exact⟨_,az,o,o,λD=>by
   show IQ e p call I ⟨D,ag⟩=_;rw[IQ];rw[M];show eB (dK s.data.toList) (2^40) _ _=_;rw[l0,aA hle,gV]⟩
 |si e bH z l c=>
  obtain⟨bU,j,W,Y⟩:=oA h az;have⟨H,u,ah,G⟩:=oA Y az;have⟨cV,d,C⟩:=qf G az;have⟨jN,y,g⟩:=qf C az;have⟨hle,J⟩:=jo g az;have⟨r,B⟩:=jo J az;rw[gV]at B;cases B;exact⟨_,az,o,o,λD=>by
   show A3 e bH z l c call I ⟨D,ag⟩=_;rw[A3];rw[W,ah,d,y];show eB cV jN (eB (Nat.mul jN<|Nat.succ bH) (2^40) _ _) _=_;rw[l0,aA hle,l0,aA r,gV]⟩
 |p6=>
  have h:wL call I ⟨bS,ag⟩= .ok v bC al:=h;rw[wL]at h;rw[gV]at h;cases h;exact arD arD
 |_=>cases O
end Go.bI
namespace Go.bI
def cz.wV:cz->Bool
 |.dJ=>true
 |_=>false
def cz.looks:cz->ac Tmp
 |.dJ=>[]
 |.hM aF=>aF
 |.read _ aF=>aF
def tu(L:ac (bt×cz))(q:Nat):Bool:=((L[q]?).map (·.2.wV)).getD false
structure l3(X:Ctx)(aR:Nat)(ops:bi Oper)(L:ac (bt×cz))(cB:ac Nat)(fh:ac Tmp)(ms:ac Nat):Prop where
 tv:L.length=ops.size
 yH:cB.length=ops.size
 op:∀(p i:Nat) x c,cB[p]? =some i->L[p]? =some (x,c)->∃R,ops[i]? =some R∧l2 X aR ops x R=true
 hM:∀(p:Nat) x aF,L[p]? =some (x,.hM aF)->x.R.rp=true
 rd:∀(p:Nat) x n aF,L[p]? =some (x,.read n aF)->x.R.qn=true
 inj:∀(p q i:Nat),cB[p]? =some i->cB[q]? =some i->p=q
 abR:∀i,i<ops.size->∃p:Nat,cB[p]? =some i
 abS:∀(p i:Nat) R,cB[p]? =some i->ops[i]? =some R->∀e∈R.after,Region.binds .any e=true->∃q,q<p∧cB[q]? =some e.on
 mask:∀(p i:Nat) R q,cB[p]? =some i->ops[i]? =some R->(ms.getD p 0).testBit q=true->∃e∈R.after,Region.binds .any e=true∧∃r,r<p∧cB[r]? =some e.on∧(q=r∨(ms.getD r 0).testBit q=true)
 dJ:∀(p:Nat) x q,L[p]? =some (x,.dJ)->q<p->(ms.getD p 0).testBit q=true
 back:∀(p:Nat) x n aF,L[p]? =some (x,.read n aF)->(List.range p).countP (fun q=>tu L q&& !(ms.getD p 0).testBit q)<=n
 dst:∀(p q:Nat) x y c d t,L[p]? =some (x,c)->L[q]? =some (y,d)->x.d=some t->y.d=some t->p=q
 abT:∀(p q:Nat) x y c d t,L[p]? =some (x,c)->L[q]? =some (y,d)->p<q->y.d=some t->t∉fh->(c= .dJ∨t∈c.looks)->(ms.getD q 0).testBit p=true
 dep:∀(p q:Nat) x y c d t,L[p]? =some (x,c)->L[q]? =some (y,d)->q<p->y.d=some t->t∈c.looks->(ms.getD p 0).testBit q=true
section
variable{X:Ctx}{aR:Nat}{ops:bi Oper}{L:ac (bt×cz)}{cB:ac Nat}{fh:ac Tmp}{ms:ac Nat}{call:bR}
def nR(ops:bi Oper)(cB:ac Nat)(E:Nat->Prop)(p:Nat):Prop:=∀i R,cB[p]? =some i->ops[i]? =some R->∀e∈R.after,Region.binds .any e=true->∀r:Nat,cB[r]? =some e.on->E r
theorem l3.before(D:l3 X aR ops L cB fh ms){E:Nat->Prop}(dW:∀p,E p->nR ops cB E p)(p:Nat):nR ops cB E p->p<ops.size->∀q,(ms.getD p 0).testBit q=true->E q:=by
 induction p using Nat.strongRecOn with
 |_ p U=>
  intro aw hp q aD;have j:p<cB.length:=by rwa [D.yH]
  have af:=ba j;obtain⟨x,O⟩:∃x,L[p]? =some x:=⟨_,ba<|by rwa [D.tv]⟩;have⟨R,ay,_⟩:=D.op p _ x.1 x.2 af O;have⟨e,he,aa,r,s,d,h⟩:=D.mask p _ R q af ay aD;have g:=aw _ R af ay e he aa r d
  grind
variable{Z:Nat->Bool}{fp:ac (ar bG)}{I bC:aO}{st al:ao}{F:Nat->aO}{T:Nat->ao}{N:Nat->ac (ar bG)}{V:Nat->bv}
variable{p q:Nat}{x:bt}{c:cz}
def j8.P1(aN:j8 call Z L fp I st bC al F T N V)(D:l3 X aR ops L cB fh ms)(hp:p<L.length):(T p).ag<=(T<|p+1).ag:=by
 obtain⟨⟨x,c⟩,O⟩:∃x,L[p]? =some x:=⟨_,ba hp⟩;obtain⟨_,M⟩|⟨_,M⟩:=aN.step p x c O
 case inr=>rw[M.2.2.1];exact c4 _
 cases c with
 |dJ=>
  obtain⟨_,_,_,h,_⟩|⟨_,_,_,h,_⟩:=M
  .rw[h];exact c4 _
  .exact h
 |hM aF=>
  have⟨_,_,h⟩:=M;obtain⟨_,_,h⟩|⟨_,U,h⟩:=h
  .rw[h];exact c4 _
  .have g:=D.hM p x aF O;have⟨R,_,_,G,_⟩:=P0 g h;rw[G];exact kB _
 |read n aF=>have⟨_,_,h,_⟩:=M;rw[h];exact c4 _
def j8.l4(aN:j8 call Z L fp I st bC al F T N V)(D:l3 X aR ops L cB fh ms)(h:p<=q)(aD:q<=L.length):(T p).ag<=(T q).ag:=by
 induction q with
 |zero=>have:p=0:=by omega
        subst this;exact c4 _
 |succ q U=>
  by_cases e:p=q+1
  .subst e;exact c4 _
  .exact cN (U J J)<|aN.P1 D J
def j8.P2(aN:j8 call Z L fp I st bC al F T N V)(O:L[p]? =some (x,c))(t:Nat):(F<|p+1).tmp t=if x.d=some t then V p else(F p).tmp t:=by
 obtain⟨_,M⟩|⟨_,M⟩:=aN.step p x c O
 case inr=>rw[M.2.1,su,M.1]
 cases c with
 |dJ=>
  obtain⟨_,Y,h,_⟩|⟨_,U,_,_,h,_⟩:=M
  .rw[h,su,Y]
  .rw[h,su];rfl
 |_=>obtain⟨h,_⟩:=M;rw[h,su]
def j8.Fb(aN:j8 call Z L fp I st bC al F T N V)(t:Nat):∀p,p<=L.length->(∀(q:Nat) x c,q<p->L[q]? =some (x,c)->x.d≠some t)->(F p).tmp t=(F 0).tmp t
 |0,_,_=>rfl
 |p+1,hp,h=>by
  obtain⟨⟨x,c⟩,O⟩:∃x,L[p]? =some x:=⟨_,ba J⟩;rw[aN.P2 O,au<|h p x c J O];exact aN.Fb t p J λq x c aD=>h q x c J
theorem j8.Jy(aN:j8 call Z L fp I st bC al F T N V)(D:l3 X aR ops L cB fh ms){y:bt}{d:cz}{t:Nat}(o:L[q]? =some (y,d))(S:y.d=some t):∀p,q<p->p<=L.length->(F p).tmp t=V q
 |0,h,_=>by omega
 |p+1,h,hp=>by
  obtain⟨⟨x,c⟩,O⟩:∃x,L[p]? =some x:=⟨_,ba J⟩;rw[aN.P2 O];by_cases e:p=q
  .grind
  .rw[au λh=>e<|D.dst p q x y c d t O o h S];exact aN.Jy D o S p J J
def j8.same(aN:j8 call Z L fp I st bC al F T N V)(O:L[p]? =some (x,c))(ah:c≠.dJ):(F<|p+1).di=(F p).di/\(F<|p+1).cU=(F p).cU/\(F<|p+1).aY=(F p).aY/\(F<|p+1).b7=(F p).b7:=by
 obtain⟨_,M⟩|⟨_,M⟩:=aN.step p x c O
 case inr=>have⟨W,cW,A,C⟩:=tt (F p) x.d undef;rw[M.2.1];exact⟨C,A,W,cW⟩
 cases c with
 |dJ=>exact absurd o ah
 |_=>obtain⟨h,_⟩:=M;obtain⟨W,cW,A,C⟩:=tt (F p) x.d<|V p;rw[h];exact⟨C,A,W,cW⟩
theorem j8.snap(aN:j8 call Z L [st.h] I st bC al F T N V){c:Nat}(ah:c=0\/∃p x,c=p+1/\L[p]? =some (x,cz.dJ)):∀p,c<=p->p<=L.length->
 (N p)[(List.range p).countP λq=>decide (c<=q)&&tu L q]? =some (T c).h
 |0,h,_=>by
  have:c=0:=J
  subst this;simp[aN.cp,aN.t0]
 |p+1,h,hp=>by
  obtain⟨⟨x,k⟩,O⟩:∃x,L[p]? =some x:=⟨_,ba J⟩;have W:=aN.step p x k O;by_cases e:c=p+1
  .subst e;have aH:(List.range<|p+1).countP (λq=>decide (p+1<=q)&&tu L q)=0:=by
    grind
   rw[aH];rcases ah with ah|⟨d,s,ah,g⟩
   .omega
   .have:d=p:=by omega
    subst this;rw[O]at g;cases g;rcases W with⟨_,⟨_,_,_,Y,G⟩|⟨_,_,_,_,_,G⟩⟩|⟨_,_,_,Y,G⟩
    .rw[G,Y];rfl
    .rw[G];rfl
    .rw[G,Y];rfl
  .have U:=aN.snap ah p J J;rw[Ij,List.countP_append,List.countP_singleton];have j:decide (c<=p)=true:=by simp;omega
   have r:tu L p=k.wV:=by simp[tu,O]
   simp[j,r];cases k with
   |dJ=>
    have:∃h,N (p+1)=h::N p:=by
     rcases W with⟨_,⟨_,_,_,_,G⟩|⟨_,_,_,_,_,G⟩⟩|⟨_,_,_,_,G⟩
     .exact⟨_,G⟩
     .exact⟨_,G⟩
     .exact⟨_,G⟩
    obtain⟨h,dY⟩:=this;rw[dY];simpa[cz.wV]using U
   |hM aF=>
    have G:N (p+1)=N p:=by
     rcases W with⟨_,_,G,_⟩|⟨_,_,_,_,G⟩
     .exact G
     .exact G
    rw[G];simpa[cz.wV]using U
   |read n aF=>
    have G:N (p+1)=N p:=by
     rcases W with⟨_,_,G,_⟩|⟨_,_,_,_,G⟩
     .exact G
     .exact G
    rw[G];simpa[cz.wV]using U
end
end Go.bI
namespace Go.bI
variable{X:Ctx}
variable{ad:bN}{n:Nat}{l:Loc}{aJ:bN}{m:Nat}{w:d9}
def gm(ad:bN)(n:Nat):bN:=λid=>if id<n then ad id else none
def kn{id:Nat}:gm ad n id=some l↔id<n/\ad id=some l:=by
 rw[gm];by_cases h:id<n<;>simp[h]
def P3(ad:bN)(n:Nat):(gm ad n).le ad:=λ_ _ h=>(kn.1 h).2
def sE(h:ad.le aJ)(aj:m<=n):(gm ad m).le (gm aJ n):=λ_ _ W=>kn.2 ⟨fG (kn.1 W).1 aj,h _ _ (kn.1 W).2⟩
theorem P4(h:∀id,n<=id->ad id=none):gm ad n=ad:=by
 grind [gm]
def bZ.look{h:ar bG}(hw:bZ X ad ⟨h,n⟩ w)(hle:ad.le aJ)(D:∀id,m<=id->aJ id=none)(aj:n<=m)(aa:∀id l,aJ id=some l->l.cA<w.heap.size):bZ X aJ ⟨h,m⟩ w:=by
 refine⟨λid R ay S=>?_,λi j R p l O af Y A C y G s e=>?_,λid H=>⟨D id H,(hw.fresh id<|cN aj H).2⟩,aa,λg s=>hle _ _<|hw.k8 g s,cN hw.nP aj,λi l R W M ay S=>?_⟩
 .have⟨l,W,hm⟩:=hw.eJ id R ay S;exact⟨l,hle _ _ W,hA.mono X hm hle o⟩
 .have⟨bq,K,_⟩:=hw.eJ i R af Y;have⟨d,r,_⟩:=hw.eJ j p A C;have U:=(hle _ _ K).symm.trans y;have u:=(hle _ _ r).symm.trans G;cases U;cases u;exact hw.inj i j R p _ _ af Y A C K r s e
 .have⟨bq,K,_⟩:=hw.eJ i R ay S;cases(hle _ _ K).symm.trans W;exact hw.k9 i _ R K M ay S
theorem bZ.abU{st:ao}(hw:bZ X ad st w){R:bG}(ay:hA X (gK ad st.ag l) w R l)(aa:l.cA<w.heap.size)(a':l.bM≠eU)(O:∀id bq,ad id=some bq->bq.cA≠l.cA):
 bZ X (gK ad st.ag l) ⟨st.h.set st.ag R,st.ag+1⟩ w:=by
 have hle:ad.le (gK ad st.ag l):=by
  intro id bq W;show(if id=st.ag then some l else ad id)=some bq;exact aqD
 have ae:gK ad st.ag l st.ag=some l:=aA o;have r:∀id,id≠st.ag->gK ad st.ag l id=ad id:=λid h=>au h;refine⟨λid p hp S=>?_,λi j p q u z af Y A C D G d e=>?_,λid H=>?_,λid bq K=>?_,λg d=>hle _ _<|hw.k8 g d,uJ hw.nP,λi u p y M hp S=>?_⟩
 .rw[ar.eP]at hp;by_cases e:id=st.ag
  .grind
  .rw[au e]at hp;have⟨bq,K,hm⟩:=hw.eJ id p hp S;exact⟨bq,hle _ _ K,hA.mono X hm hle o⟩
 .rw[ar.eP]at af A;by_cases U:i=st.ag
  .grind
  .by_cases s:j=st.ag
   .grind
   .rw[au U]at af;rw[au s]at A;rw[r i U]at D;rw[r j s]at G;exact hw.inj i j p q u z af Y A C D G d e
 .have B:st.ag+1<=id:=H;refine⟨?_,?_⟩
  .rw[r id J];exact(hw.fresh id J).1
  .exact aqt
 .by_cases e:id=st.ag
  .grind
  .rw[r id e]at K;exact hw.fY id bq K
 .rw[ar.eP]at hp;by_cases e:i=st.ag
  .grind
  .rw[au e]at hp;rw[r i e]at y;exact hw.k9 i u p y M hp S
def vi(L:ac (bt×cz))(F:Nat->aO)(p:Nat):Prop:=∃x aF,L[p]? =some (x,cz.hM aF)/\lJ ((F p).only aF) x.g true
structure ko(X:Ctx)(aR:Nat)(L:ac (bt×cz))(F:Nat->aO)(T:Nat->ao)(V:Nat->bv)(ho:bN)(dR:d9)(E:Nat->Prop)(c:Nat)(ad:bN)(a:Act)(w:d9):Prop where
 low:∀p,p<c->E p
 Fc:c<=L.length
 start:c=0∨∃p x,c=p+1∧L[p]? =some (x,cz.dJ)
 Bw:∀(p:Nat) x,c<=p->E p->L[p]? ≠some (x,cz.dJ)
 wr:bZ X (gm ad (T c).ag) (T c) w
 l5:∀id l,ad id=some l->id<(T c).ag∨∃p,c<=p∧p<L.length∧E p∧vi L F p∧id=(T p).ag
 gA:∀p,c<=p->E p->vi L F p->∃R l,T (p+1)=⟨(T p).h.set (T p).ag R,(T p).ag+1⟩∧ad (T p).ag=some l∧hA X (gm ad ((T p).ag+1)) w R l∧
  l.bM≠eU∧∀id bq,ad id=some bq->id≠(T p).ag->bq.cA≠l.cA
 fY:∀id l,ad id=some l->l.cA<w.heap.size
 keeps:ei ho ad dR w
 size:a.tmps.size=aR
 di:tr (gm ad (T c).ag) (F c).di a.defers
 Bx:∀(p:Nat) x gn t,L[p]? =some (x,gn)->x.d=some t->E p->bo (gm ad (max (T (p+1)).ag (T c).ag)) (V p) (a.tmps.getD t undef)
 yI:∀t,(∀(p:Nat) x gn,L[p]? =some (x,gn)->x.d=some t->¬E p)->bo ho ((F 0).tmp t) (a.tmps.getD t undef)
section
variable{aR:Nat}{ops:bi Oper}{L:ac (bt×cz)}{cB:ac Nat}{fh:ac Tmp}{ms:ac Nat}{call:bR}
variable{Z:Nat->Bool}{I bC:aO}{st al:ao}{F:Nat->aO}{T:Nat->ao}{N:Nat->ac (ar bG)}{V:Nat->bv}{ho:bN}{dR:d9}{E:Nat->Prop}{c:Nat}{ad:bN}{a:Act}{w:d9}
def ko.look(u:ko X aR L F T V ho dR E c ad a w)(aN:j8 call Z L [st.h] I st bC al F T N V)(D:l3 X aR ops L cB fh ms)(bS:∀id,st.ag<=id->ho id=none)(aH:∀t∈fh,(F 0).tmp t=jG)
 (dW:∀p,E p->nR ops cB E p) {p:Nat} {x:bt} {gn:cz} (O:L[p]? =some (x,gn)) (aw:nR ops cB E p) (aj:¬E p) {t:Nat} (aI:gn= .dJ\/t∈gn.looks):
 bo (gm ad (T p).ag) ((F p).tmp t) (a.tmps.getD t undef):=by
 have A:=(dG.1 O).1;have U:c<=p:=by
  obtain h|h:=fW p c
  .exact absurd (u.low p h) aj
  .exact h
 have z:p<ops.size:=by rwa [<-D.tv]
 have C:ho.le (gm ad (T p).ag):=by
  intro id l aI;refine kn.2 ⟨?_,u.keeps.le _ _ aI⟩;obtain h|h:=fW id st.ag
  .have:=aN.l4 D (dg p) J;rw[aN.t0]at this;omega
  .rw[bS id h]at aI;cases aI
 by_cases hw:∃(q:Nat) (y:bt) (d:cz),L[q]? =some (y,d)/\y.d=some t
 .have⟨q,y,d,M,S⟩:=hw;obtain H|H:=fW q p
  .have aa:(ms.getD p 0).testBit q=true:=by
    obtain rfl|aI:=aI
    .exact D.dJ p x q O H
    .exact D.dep p q x y gn d t O M H S aI
   rw[aN.Jy D M S p H J];refine(u.Bx q y d t M S<|D.before dW p aw z q aa).mono<|sE as3 ?_;have Y:=aN.l4 D (p:=q+1) H J;have G:=aN.l4 D U J;omega
  .have hold:=aN.Fb t p J λo s cX K g W=>by
    have:=D.dst o q s y cX d t g M W S;omega
   rw[hold];by_cases j:t∈fh
   .rw[aH t j];exact .top _
   .refine(u.yI t λo s cX g W r=>?_).mono C;obtain rfl:=D.dst o q s y cX d t g M W S;by_cases e:o=p
    .subst e;exact aj r
    .have aa:=D.abT p o x y gn d t O M J S j aI;exact aj<|D.before dW o (dW o r) (by rw[<-D.tv];exact(dG.1 M).1) p aa
 .have B:∀(q:Nat) s cX,L[q]? =some (s,cX)->s.d≠some t:=λq s cX g W=>hw ⟨q,s,cX,g,W⟩;rw[aN.Fb t p J λq s cX _ g=>B q s cX g];exact(u.yI t λq s cX g W=>absurd W<|B q s cX g).mono C
theorem ko.upto(u:ko X aR L F T V ho dR E c ad a w)(aN:j8 call Z L [st.h] I st bC al F T N V)(y:l3 X aR ops L cB fh ms):∀q,c<=q->q<=L.length->(∀r,c<=r->r<q->E r)->
 bZ X (gm ad (T q).ag) (T q) w/\(F q).di=(F c).di/\(F q).cU=(F c).cU/\(F q).aY=(F c).aY/\(F q).b7=(F c).b7:=by
 intro q g
 induction q with
 |zero=>
  intro _ _;have:c=0:=J
  subst this;exact asy asy
 |succ q U=>
  intro aD D;by_cases e:c=q+1
  .subst e;exact asy asy
  have⟨i1,i2,i3,i4,i5⟩:=U J J λr Y G=>D r Y J;obtain⟨⟨x,gn⟩,O⟩:∃x,L[q]? =some x:=⟨_,ba J⟩;have s:=D q J J;have A:gn≠.dJ:=λh=>u.Bw q x J s (by rw[O,h]);have⟨s1,s2,z,d⟩:=aN.same O A;refine⟨?_,s1.trans i2,s2.trans i3,z.trans i4,d.trans i5⟩;obtain⟨_,M⟩|⟨_,M⟩:=aN.step q x gn O
  case inr=>rw[M.2.2.1];exact i1
  cases gn with
  |dJ=>exact absurd o A
  |read n aF=>have⟨_,_,h,_⟩:=M;rw[h];exact i1
  |hM aF=>
   have⟨_,_,h⟩:=M;obtain⟨_,_,h⟩|⟨j,_⟩:=h
   .rw[h];exact i1
   .have⟨R,l,Y,G,C,W,S⟩:=u.gA q J s ⟨x,aF,O,j⟩;have H:gm ad ((T q).ag+1)=gK (gm ad (T q).ag) (T q).ag l:=by
     funext id;unfold gm gK
     grind
    rw[Y];rw[H]at C⊢;refine i1.abU C (u.fY _ _ G) W λid bq K=>?_;have⟨a',B⟩:=kn.1 K;exact S id bq B J
end
def By(E:Nat->Prop)(p:Nat):Nat->Prop:=λq=>E q\/q=p
def wW(a:Act)(d:be Tmp)(v:bv)(t:Nat):(a.put d v).tmps.getD t undef=if d=some t/\t<a.tmps.size then v else a.tmps.getD t undef:=by
 cases d with
 |none=>simp[Act.put]
 |some d=>
  by_cases e:d=t
  .subst e;by_cases h:d<a.tmps.size
   .simp[Act.put,h]
   .simp[Act.put,h]
  .simp[Option.some.injEq,e];simp[Act.put,Ie e]
section
variable{aR:Nat}{ops:bi Oper}{L:ac (bt×cz)}{cB:ac Nat}{fh:ac Tmp}{ms:ac Nat}{call:bR}
variable{Z:Nat->Bool}{I bC:aO}{st al:ao}{F:Nat->aO}{T:Nat->ao}{N:Nat->ac (ar bG)}{V:Nat->bv}{ho:bN}{dR:d9}{E:Nat->Prop}{c:Nat}{ad:bN}{a:Act}{w:d9}
variable{p:Nat}{x:bt}
def ko.float(u:ko X aR L F T V ho dR E c ad a w)(D:l3 X aR ops L cB fh ms){gn:cz}(O:L[p]? =some (x,gn))(ah:gn≠.dJ)(U:c<=p)(a':¬vi L F p){bA:bv}
 (S:∀t,x.d=some t->t<aR) (M:bo (gm ad (T<|p+1).ag) (V p) bA):ko X aR L F T V ho dR (By E p) c ad (a.put x.d bA) w:=by
 have K:(a.put x.d bA).tmps.size=aR:=by rw[<-u.size];cases x.d<;>simp[Act.put]
 refine⟨λq aD=>.inl<|u.low q aD,u.Fc,u.start,λq y aD s=>?_,u.wr,λid l W=>?_,λq aD s z=>?_,u.fY,u.keeps,K,?_,λq y k t j g s=>?_,λt B=>?_⟩
 .obtain s|rfl:=s
  .exact u.Bw q y aD s
  .intro h;rw[O]at h;cases h;exact ah o
 .obtain h|⟨q,Y,G,C,r⟩:=u.l5 id l W
  .exact .inl h
  .exact .inr ⟨q,Y,G,.inl C,r⟩
 .obtain s|rfl:=s
  .exact u.gA q aD s z
  .exact absurd z a'
 .have:(a.put x.d bA).defers=a.defers:=by cases x.d<;>rfl
  rw[this];exact u.di
 .rw[wW];by_cases e:q=p
  .subst e;rw[O]at j;cases j;rw[aA arB];exact M.mono<|sE as3 J
  .rw[au λh=>e<|D.dst q p y x k gn t j O g h.1];obtain s|h:=s
   .exact u.Bx q y k t j g s
   .exact absurd h e
 .rw[wW,au λh=>B p x gn O h.1 qo];exact u.yI t λq y k j g s=>B q y k j g<|.inl s
theorem ko.abV(u:ko X aR L F T V ho dR E c ad a w)(aN:j8 call Z L [st.h] I st bC al F T N V)(D:l3 X aR ops L cB fh ms){aF:ac Tmp}(a':L[p]? =some (x,.hM aF))(U:c<=p)(aH:¬E p)
 {bA:bv} {R:bG} {O:Obj} {l:Loc} {aG:d9} (S:∀t,x.d=some t->t<aR) (an:T (p+1)=⟨(T p).h.set (T p).ag R,(T p).ag+1⟩) (aI:l.cA=w.heap.size) (av:l.bM≠eU) (cl:aG.heap=w.heap.push O) (fZ:rl w aG)
 (aq:bo (gK (gm ad (T p).ag) (T p).ag l) (V p) bA) (ay:hA X (gK (gm ad (T p).ag) (T p).ag l) aG R l):ko X aR L F T V ho dR (By E p) c (gK ad (T p).ag l) (a.put x.d bA) aG:=by
 have A:=(dG.1 a').1;have nS:ad (T p).ag=none:=by
  cases aj:ad (T p).ag with
  |none=>rfl
  |some m=>
   rcases u.l5 _ _ aj with h|⟨q,Y,G,C,ae,aL⟩
   .have:=aN.l4 D U J;omega
   .obtain⟨ah,bq,aw,_⟩:=u.gA q Y C ae;have aM:(T<|q+1).ag=(T q).ag+1:=by rw[aw]
    have j:(T<|p+1).ag=(T p).ag+1:=by rw[an]
    rcases p2 q p with h|h|h
    .have:=aN.l4 D (p:=q+1) h J;omega
    .subst h;exact absurd C aH
    .have:=aN.l4 D (p:=p+1) h J;omega
 have hle:ad.le (gK ad (T p).ag l):=by
  intro id bq K;show(if id=(T p).ag then some l else ad id)=some bq
  grind
 have ai:gK ad (T p).ag l (T p).ag=some l:=aA o;have r:∀id,id≠(T p).ag->gK ad (T p).ag l id=ad id:=λid h=>au h;have H:∀n,(T p).ag<n->(gK (gm ad (T p).ag) (T p).ag l).le (gm (gK ad (T p).ag l) n):=by
  intro n aj id bq K;unfold gK at K;by_cases e:id=(T p).ag
  .rw[aA e]at K;cases K;subst e;exact kn.2 ⟨aj,ai⟩
  .rw[au e]at K;obtain⟨Y,G⟩:=kn.1 K;exact kn.2 ⟨J,by rwa [r id e]⟩
 have hold:∀b,b<w.heap.size->aG.heap[b]? =w.heap[b]? :=λb aa=>by rw[cl,Dr,au J]
 have aK:aG.heap.size=w.heap.size+1:=by grind
 have aB:(a.put x.d bA).tmps.size=aR:=by rw[<-u.size];cases x.d<;>simp[Act.put]
 have aO:=aN.l4 D U J;have W:gm (gK ad (T p).ag l) (T c).ag=gm ad (T c).ag:=by
  funext id;unfold gm
  grind
 have j:(T<|p+1).ag=(T p).ag+1:=by rw[an]
 refine⟨λq aD=>.inl<|u.low q aD,u.Fc,u.start,λq y aD s=>?_,?_,λid bq K=>?_,λq aD s z=>?_,λid bq K=>?_,?_,aB,?_,λq y k t ab g s=>?_,λt B=>?_⟩
 .rcases s with s|rfl
  .exact u.Bw q y aD s
  .intro h;rw[a']at h;cases h
 .rw[W];refine⟨λid ah aC az=>?_,u.wr.inj,u.wr.fresh,λid bq K=>?_,u.wr.k8,u.wr.nP,u.wr.k9⟩
  .obtain⟨bq,Y,G⟩:=u.wr.eJ id ah aC az;exact⟨bq,Y,hA.mono X G kK<|hold _<|u.wr.fY id bq Y⟩
  .have:=u.wr.fY id bq K;omega
 .by_cases e:id=(T p).ag
  .by_cases z:vi L F p
   .exact .inr ⟨p,U,A,.inr o,z,e⟩
   .exfalso;rcases aN.step p x (.hM aF) a' with⟨_,M⟩|⟨_,M⟩
    case inr=>rw[M.2.2.1]at j;omega
    obtain⟨_,_,h⟩:=M;rcases h with⟨_,_,h⟩|⟨h,_⟩
    .rw[h]at j;omega
    .exact z ⟨x,aF,a',h⟩
  .rw[r id e]at K;rcases u.l5 id bq K with h|⟨q,Y,G,C,ae⟩
   .exact .inl h
   .exact .inr ⟨q,Y,G,.inl C,ae⟩
 .by_cases e:q=p
  .subst e;refine⟨R,l,an,ai,hA.mono X ay (H _ J) o,av,λid bq K ak=>?_⟩;rw[r id ak]at K;have:=u.fY id bq K;omega
  .rcases s with s|h
   .obtain⟨ah,bq,Y,G,C,aE,ae⟩:=u.gA q aD s z;refine⟨ah,bq,Y,hle _ _ G,hA.mono X C (sE hle<|c4 _)<|hold _<|u.fY _ _ G,aE,λid m hm ak=>?_⟩;by_cases ao:id=(T p).ag
    .subst ao;rw[ai]at hm;cases hm;have:=u.fY _ _ G;omega
    .rw[r id ao]at hm;exact ae id m hm ak
   .exact absurd h e
 .by_cases e:id=(T p).ag
  .subst e;rw[ai]at K;cases K;omega
  .rw[r id e]at K;have:=u.fY id bq K;omega
 .refine u.keeps.trans ⟨hle,J,λb aa _=>hold b aa,λid bq K=>?_,fZ⟩
  grind
 .have:(a.put x.d bA).defers=a.defers:=by cases x.d<;>rfl
  rw[this,W];exact u.di
 .rw[wW];by_cases e:q=p
  .subst e;rw[a']at ab;cases ab;rw[aA arB];exact aq.mono<|H _ J
  .rw[au λh=>e<|D.dst q p y x k _ t ab a' g h.1];rcases s with s|h
   .exact(u.Bx q y k t ab g s).mono<|sE hle<|c4 _
   .exact absurd h e
 .rw[wW,au λh=>B p x _ a' h.1 qo];exact u.yI t λq y k ab g s=>B q y k ab g<|.inl s
theorem ko.effect(u:ko X aR L F T V ho dR E c ad a w)(aN:j8 call Z L [st.h] I st bC al F T N V)(D:l3 X aR ops L cB fh ms)(O:L[p]? =some (x,.dJ))(U:c<=p)(ax:∀q,q<p->E q)
 {aJ:bN} {ak:Act} {aG:d9} {bA:bv} (S:∀t,x.d=some t->t<aR) (hw:bZ X aJ (T<|p+1) aG) (aB:ei (gm ad (T p).ag) aJ w aG) (bK:ak.tmps=(a.put x.d bA).tmps) (aU:bo aJ (V p) bA\/x.d=none) (aX:tr aJ (F<|p+1).di ak.defers):
 ∃z,ko X aR L F T V ho dR (By E p) (p+1) z ak aG:=by
 have A:=(dG.1 O).1;have aM:=aN.P1 D A;have aW:=aN.l4 D U J;have aC:¬vi L F p:=λ⟨y,aF,ae,_⟩=>by rw[O]at ae;cases ae
 have az:∀q,c<=q->q<L.length->E q->vi L F q->(q<p/\(T q).ag<(T p).ag)\/(p<q/\(T<|p+1).ag<=(T q).ag):=by
  intro q Y G C a';obtain⟨aw,bq,B,_⟩:=u.gA q Y C a';have aV:(T<|q+1).ag=(T q).ag+1:=by rw[B]
  rcases p2 q p with h|h|h
  .left;have:=aN.l4 D (p:=q+1) h J;exact⟨h,J⟩
  .subst h;exact absurd a' aC
  .right;exact⟨h,aN.l4 D h J⟩
 let z:bN:=λid=>if id<(T<|p+1).ag then aJ id else ad id
 have ah:∀id,id<(T<|p+1).ag->z id=aJ id:=λid h=>aA h;have r:∀id,(T<|p+1).ag<=id->z id=ad id:=λid h=>au J;have hle:ad.le z:=by
  intro id l W;rcases fW id (T<|p+1).ag with h|h
  .rw[ah id h];apply aB.le;refine kn.2 ⟨?_,W⟩;rcases u.l5 id l W with Y|⟨q,Y,G,C,a',an⟩
   .omega
   .grind
  .rw[r id h];exact W
 have H:gm z (T<|p+1).ag=aJ:=by
  funext id;unfold gm;by_cases h:id<(T<|p+1).ag
  .rw[aA h,ah id h]
  .rw[au h,(hw.fresh id J).1]
 have aP:∀n,(T<|p+1).ag<=n->aJ.le (gm z n):=by
  intro n aj;rw[<-H];exact sE kK aj
 have aI:ei ad z w aG:=by
  refine⟨hle,aB.size,λb aa af=>aB.kept b aa λid l W M=>af id l (kn.1 W).2 M,λid l W=>?_,aB.fZ⟩;rcases fW id (T<|p+1).ag with h|h
  .rw[ah id h]at W;rcases aB.new id l W with Y|Y|⟨j,m,Y,G,C⟩
   .exact .inl (kn.1 Y).2
   .exact .inr<|.inl Y
   .exact .inr<|.inr ⟨j,m,(kn.1 Y).2,G,C⟩
  .rw[r id h]at W;exact .inl W
 have K:ak.tmps.size=aR:=by rw[bK,<-u.size];cases x.d<;>simp[Act.put]
 refine⟨z,λq aD=>?_,A,.inr ⟨p,x,o,O⟩,λq y aD s=>?_,by rwa [H],λid l W=>?_,λq aD s av=>?_,λid l W=>?_,u.keeps.trans aI,K,by rwa [H],λq y k t ae g s=>?_,λt aq=>?_⟩
 .by_cases e:q=p
  .exact .inr e
  .exact .inl<|ax q J
 .rcases s with s|h
  .exact u.Bw q y J s
  .omega
 .rcases fW id (T<|p+1).ag with h|h
  .exact .inl h
  .rw[r id h]at W;rcases u.l5 id l W with Y|⟨q,Y,G,C,a',an⟩
   .omega
   .rcases az q Y G C a' with⟨_,B⟩|⟨B,_⟩
    .omega
    .exact .inr ⟨q,B,G,.inl C,a',an⟩
 .rcases s with s|h
  .have ay:=av;obtain⟨aw,bq,Y,G,C,aK,a'⟩:=u.gA q J s av;have aO:q<L.length:=by obtain⟨y,aF,ae,_⟩:=ay;exact(dG.1 ae).1
   have aL:=aN.l4 D aD J;refine⟨aw,bq,Y,hle _ _ G,hA.mono X C (sE hle<|c4 _)<|aB.kept bq.cA (u.fY _ _ G) λid m hm _=>a' id m (kn.1 hm).2 (by have:=(kn.1 hm).1;omega),aK,λid m hm ao=>?_⟩
   .rcases fW id (T<|p+1).ag with h|h
    .rw[ah id h]at hm;rcases aB.new id m hm with ai|ai|⟨j,aH,ai,_,aT⟩
     .exact a' id m (kn.1 ai).2 ao
     .have:=u.fY _ _ G;omega
     .have:=a' j aH (kn.1 ai).2 (by have:=(kn.1 ai).1;omega);omega
    .rw[r id h]at hm;exact a' id m hm ao
  .omega
 .rcases fW id (T<|p+1).ag with h|h
  .rw[ah id h]at W;exact hw.fY id l W
  .rw[r id h]at W;exact fG (u.fY id l W) aB.size
 .rw[bK,wW];by_cases e:q=p
  .subst e;rw[O]at ae;cases ae;rw[aA arB]
   grind
  .rw[au λh=>e<|D.dst q p y x k _ t ae O g h.1];rcases s with s|h
   .exact(u.Bx q y k t ae g s).mono<|sE hle J
   .exact absurd h e
 .rw[bK,wW,au λh=>aq p x _ O h.1 qo];exact u.yI t λq y k ae g s=>aq q y k ae g<|.inl s
end
end Go.bI
namespace Go.bI
variable{X:Ctx}{call:bR}
variable{x:dm}
def abW(h:x.qn=true):x.inPlace=true:=by cases x<;>first|rfl|cases h
def abX(h:x.rp=true):x.inPlace=true:=by cases x<;>first|rfl|cases h
def P5{op:Op}(J:X.ql op x=true)(O:x.qn=true\/x.rp=true)(c:Call):op≠.defer c:=by
 intro ah;rw[ah]at J;cases r:x with
 |sh fn p q=>rw[r]at J;cases fn<;>cases J
 |yj p=>rw[r]at O;rcases O with h|h<;>cases h
 |refuse=>rw[r]at O;rcases O with h|h<;>cases h
 |p8 p q=>rw[r]at O;rcases O with h|h<;>cases h
 |ext y=>rw[r]at J;cases y<;>cases J
 |_=>rw[r]at J;cases J
section
variable{aR:Nat}{ops:bi Oper}{L:ac (bt×cz)}{cB:ac Nat}{fh:ac Tmp}{ms:ac Nat}
variable{Z:Nat->Bool}{I bC:aO}{st al:ao}{F:Nat->aO}{T:Nat->ao}{N:Nat->ac (ar bG)}{V:Nat->bv}{ho:bN}{dR:d9}{E:Nat->Prop}{c:Nat}{ad:bN}{a:Act}{w:d9}
variable{b:dQ}{bu:Bool->ac Frame}{k:ac Item}{i:Nat}{rest:ac Nat}
def wX{x:bt}{R:Oper}{t:Bool}(h:l2 X aR ops x R=true)(D:e1 ad I a aR)(aB:lJ I x.g t):Region.wanted R (yielded ops a.tmps)=t:=by
 obtain⟨e,hw⟩|⟨e,hw⟩:=PQ h D aB az
 .cases e;exact hw
 .cases e;exact hw
def ko.P6(u:ko X aR L F T V ho dR E c ad a w)(aN:j8 call Z L [st.h] I st bC al F T N V)(D:l3 X aR ops L cB fh ms)(bS:∀id,st.ag<=id->ho id=none)(aH:∀t∈fh,(F 0).tmp t=jG)
 (dW:∀p,E p->nR ops cB E p) {p:Nat} {x:bt} {gn:cz} (O:L[p]? =some (x,gn)) (aw:nR ops cB E p) (aj:¬E p) (U:c<=p):
 e1 (gm ad (T p).ag) ((F p).only gn.looks) ⟨a.tmps,[]⟩ aR/\bZ X (gm ad (T p).ag) ⟨(T c).h,(T p).ag⟩ w:=by
 have A:=(dG.1 O).1;refine⟨⟨λt=>?_,u.size,aP⟩,?_⟩
 .rw[PT];by_cases h:t∈gn.looks
  .rw[aA h];exact u.look aN D bS aH dW O aw aj<|.inr h
  .rw[au h];exact .top _
 .have d:=aN.l4 D U J;refine bZ.look u.wr (sE as3 d) (λid H=>?_) d λid l W=>u.fY id l (kn.1 W).2;show(if id<(T p).ag then ad id else none)=none;rw[au J]
theorem abY(Y:nh X call)(ae:ko X aR L F T V ho dR E c ad a w)(aN:j8 call Z L [st.h] I st bC al F T N V)(D:l3 X aR ops L cB fh ms)(bS:∀id,st.ag<=id->ho id=none)(aH:∀t∈fh,(F 0).tmp t=jG)
 (dW:∀p,E p->nR ops cB E p) {p:Nat} (hp:p<L.length) (br:Z p=false) (bQ:∀x c,L[p]? =some (x,c)->yG call x c (F p) (T p)) (af:cB[p]? =some i) (aw:nR ops cB E p) (aj:¬E p) (aa:oF ho (F 0).b7 b.b7) (bU:jO b (F 0).aY ho bu) (aI:(F c).aY=(F 0).aY) (aK:(F c).b7=(F 0).b7):
 ∃cX z H aG,Steps X.P (lone (b.at a<|.inRegion ops (i::rest)::k) (bu (F c).cU) w) (lone (b.at H<|.inRegion ops rest::k) (bu (F cX).cU) aG)/\ko X aR L F T V ho dR (By E p) cX z H aG/\
  (F cX).aY=(F 0).aY/\(F cX).b7=(F 0).b7:=by
 obtain⟨⟨x,gn⟩,a'⟩:∃x,L[p]? =some x:=⟨_,ba hp⟩;obtain⟨R,ay,S⟩:=D.op p i x gn af a';obtain⟨C,aq⟩:=E6 S;have bj:p<ops.size:=by rwa [<-D.tv]
 have U:c<=p:=by
  rcases fW p c with h|h
  .exact absurd (ae.low p h) aj
  .exact h
 have M:DStep call x gn (F p) (T p) (N p) (V p) (F<|p+1) (T<|p+1) (N<|p+1):=by
  rcases aN.step p x gn a' with⟨_,M⟩|⟨h,_⟩
  .exact M
  .rw[br]at h;cases h
 have bR:=aN.l4 D (dg p) J;rw[aN.t0]at bR;have bk:ho.le (gm ad (T p).ag):=by
  intro id l W;refine kn.2 ⟨?_,ae.keeps.le _ _ W⟩
  grind
 cases gn with
 |dJ=>
  have aW:∀q,q<p->E q:=λq aD=>D.before dW p aw bj q<|D.dJ p x q a' aD;obtain⟨bg,bL,bn,l6,b'⟩:=ae.upto aN D p U J λr _ h=>aW r h;have aP:e1 (gm ad (T p).ag) (F p) a aR:=⟨λt=>ae.look aN D bS aH dW a' aw aj nQ,ae.size,by rw[bL];exact ae.di.mono<|sE as3<|aN.l4 D U J⟩;rcases M with⟨j|⟨j,u,bF,bW⟩,ai,au,aC,_⟩|⟨j,aB,a1,_,au,_⟩
  .have ah:=wX S aP j;obtain⟨bJ,cW,bK,bP⟩:=tt (F p) x.d undef;obtain⟨z,bh⟩:=ae.effect aN D a' U aW aq (by rw[aC];exact bg) mB o (.inl<|by rw[ai];exact bo.undef _) (by
    rw[au,bP];have:(a.put x.d undef).defers=a.defers:=by cases x.d<;>rfl
    rw[this];exact aP.di)
   refine⟨p+1,z,_,w,?_,bh,?_,?_⟩
   .rw[au,bK,bn,C];exact .one<|E2 (P:=X.P) (b:=b) (k:=k) (cs:=bu (F c).cU) (w:=w) (rest:=rest) ay ah
   .rw[au,bJ,l6,aI]
   .rw[au,cW,b',aK]
  .exact absurd bW<|bQ x .dJ a' o j u bF
  .have ah:=wX S aP j;obtain⟨aJ,H,aG,aU,bc,K,a2,bX,bY,y,bb⟩:=PR (k:=k) (rest:=rest) S Y ay ah aP bg (by rw[b',aK];exact aa.mono bk) (by rw[l6,aI];exact bU.mono bk) a1;have bE:=tt ⟨(F p).t,aB.di,aB.aY,aB.cU,aB.b7⟩ x.d<|V p;have ai:bo aJ (V p) y\/x.d=none:=by
    cases aZ:x.d with
    |none=>exact .inr o
    |some t=>
     left;have:=bc.tmp t
     rwa [su,aA aZ,bb,<-C,wW,aA ⟨aZ,by rw[ae.size];exact aq t aZ⟩]at this
   obtain⟨z,bh⟩:=ae.effect aN D a' U aW aq K a2 (by rw[bb,C]) ai (by
    rw[au,bE.2.2.2];have:=bc.di;rw[(tt aB x.d<|V p).2.2.2]at this;exact this)
   grind
 |read n aF=>
  obtain⟨an,B⟩:=ae.P6 aN D bS aH dW a' aw aj U;have aO:¬vi L F p:=λ⟨a9,bz,ak,_⟩=>by rw[a']at ak;cases ak
  obtain⟨_,_,aC,a4⟩:=M;rcases a4 with⟨j,ai⟩|⟨j,bV⟩
  .have ah:=wX S an j;exact ao8
  .have ah:=wX S an j;have bB:(List.range p).countP (λq=>decide (c<=q)&&tu L q)<n+1:=by
    refine Nat.lt_succ_of_le<|cN (List.countP_mono_left λq aD aM=>?_)<|D.back p x n aF a';simp only[cQ,decide_eq_true_eq]at aM⊢;refine⟨aM.2,?_⟩;cases bp:(ms.getD p 0).testBit q with
    |false=>rfl
    |true=>
     exfalso;have A:=aM.2;unfold tu at A;cases ak:L[q]? with
     |none=>rw[ak]at A;cases A
     |some a9=>
      obtain⟨bA,bw⟩:=a9;rw[ak]at A;cases bw with
      |dJ=>exact ae.Bw q bA aM.1 (D.before dW p aw bj q bp) ak
      |_=>cases A
   obtain⟨aM,bZ,gW,aT,bf⟩:=PV _ _ bV _ bB;rw[(aN.snap ae.start p U J)]at aT;cases aT;have aL:=Bu S;have a6:=D.rd p x n aF a';obtain⟨_,_,bH,_⟩:=E0 aL an B bf<|abW a6;obtain⟨_,_,y,a5,ai⟩:=bH a6;have aU:=E3 (b:=b) (a:=a) (k:=k) (cs:=bu (F c).cU) (rest:=rest) ay ah (.inr<|P5 aL<|.inl a6) a5;exact⟨c,ad,_,w,.one aU,by rw[<-C];exact ae.float D a' az U aO aq<|by rwa [aC],aI,aK⟩
 |hM aF=>
  obtain⟨an,B⟩:=ae.P6 aN D bS aH dW a' aw aj U;obtain⟨_,_,a4⟩:=M;rcases a4 with⟨j,ai,aC⟩|⟨j,aB,a1⟩
  .have ah:=wX S an j;have aO:¬vi L F p:=λ⟨a9,bz,ak,K⟩=>by
    rw[a']at ak;cases ak;have bM:=j;have G:hl ((F p).only aF) x.g (some true) (some false) none=some true:=K;rw[bM]at G;cases G
   exact ao8
  .have ah:=wX S an j;have aV:=D.hM p x aF a';have aL:=Bu S;obtain⟨a0,bD,_,aC,bI⟩:=P0 aV a1;obtain⟨_,_,_,bO⟩:=E0 aL an B (bI (T c).h)<|abX aV;obtain⟨eX,O,ex,y,aG,aT,bf,a5,bs,ai,K,a2⟩:=bO aV;have bT:(some a0:be bG)=some eX:=by
    have:=congrArg (λs:ao=>s.h.get (T p).ag) aT;simp only[ar.eP]at this;exact this
   cases bT;have bl:hA X (gK (gm ad (T p).ag) (T p).ag ⟨w.heap.size,0,ex,id⟩) aG a0 ⟨w.heap.size,0,ex,id⟩:=by
    obtain⟨l,W,hm⟩:=K.eJ (T p).ag a0 az bD
    grind [gK,gm]
   have aU:=E3 (b:=b) (a:=a) (k:=k) (cs:=bu (F c).cU) (rest:=rest) ay ah (.inr<|P5 aL<|.inr aV) a5;exact⟨c,_,_,aG,.one aU,by rw[<-C];exact ae.abV aN D a' U aj aq aC (by rfl) (by exact IZ) bs a2.fZ ai bl,aI,aK⟩
theorem abZ(Y:nh X call)(G:ko X aR L F T V ho dR E c ad a w)(aN:j8 call Z L [st.h] I st bC al F T N V)(D:l3 X aR ops L cB fh ms)(bS:∀id,st.ag<=id->ho id=none)(aH:∀t∈fh,(F 0).tmp t=jG)
 (dW:∀p,E p->nR ops cB E p) {p:Nat} (hp:p<L.length) {x:bt} (O:L[p]? =some (x,.dJ)) (af:cB[p]? =some i) (aw:nR ops cB E p) (aj:¬E p) (ai:(F c).aY=(F 0).aY) (ak:(F c).b7=(F 0).b7)
 (ae:lJ (F p) x.g true) (y:x.R.lE=true) {u:bv} {Jz:ao} (ah:bD call x.R (F p) (T p)= .aY u Jz):
 ∃aJ bA aG,Steps X.P (lone (b.at a<|.inRegion ops (i::rest)::k) (bu (F p).cU) w) (lone (b.panics a (.inRegion ops (i::rest)::k) bA) (bu (F p).cU) aG)/\bo aJ u bA/\bZ X aJ Jz aG/\ei ho aJ dR aG/\e1 aJ (F p) a aR/\
  (F c).cU=(F p).cU/\(F p).aY=(F 0).aY/\(F p).b7=(F 0).b7:=by
 have⟨R,ay,S⟩:=D.op p i x .dJ af O;have z:p<ops.size:=by rwa [<-D.tv]
 have U:c<=p:=by
  obtain h|h:=fW p c
  .exact absurd (G.low p h) aj
  .exact h
 obtain⟨an,aa,s,l6,d⟩:=G.upto aN D p U J λr _ h=>(λq aD=>D.before dW p aw z q<|D.dJ p x q O aD) r h;have j:e1 (gm ad (T p).ag) (F p) a aR:=⟨λt=>G.look aN D bS aH dW O aw aj nQ,G.size,by rw[aa];exact G.di.mono<|sE as3<|aN.l4 D U J⟩;obtain⟨aJ,bA,aG,M,a',K,A⟩:=PS S Y ay (wX S j ae) j an y ah;have H:=aN.l4 D (dg p) J;rw[aN.t0]at H;have C:ho.le (gm ad (T p).ag):=by
  intro id l W;refine kn.2 ⟨?_,G.keeps.le _ _ W⟩
  grind
 have B:ei ho (gm ad (T p).ag) dR w:=⟨C,G.keeps.size,G.keeps.kept,λid l W=>G.keeps.new id l (kn.1 W).2,G.keeps.fZ⟩;exact⟨aJ,bA,aG,M,a',K,B.trans A,j.mono A.le,s.symm,l6.trans ai,d.trans ak⟩
end
theorem P7{α:Type}{p q:α->Bool}:∀{l:ac α},(∀x∈l,p x=true->q x=true)->(∃x∈l,q x=true/\p x=false)->l.countP p<l.countP q
 |[],_,⟨x,O,_⟩=>by cases O
 |y::l,h,⟨x,O,aE,aK⟩=>by
  have hle:=List.countP_mono_left λz aH=>h z<|e3 _ aH;rw[List.countP_cons,List.countP_cons];obtain rfl|O:=fg.1 O
  .simp only[aE,aK];simp;omega
  .have:=P7 (λz aH=>h z<|e3 _ aH) ⟨x,O,aE,aK⟩
   grind
section
variable{aR:Nat}{ops:bi Oper}{L:ac (bt×cz)}{cB:ac Nat}{fh:ac Tmp}{ms:ac Nat}
variable{Z:Nat->Bool}{I bC:aO}{st al:ao}{F:Nat->aO}{T:Nat->ao}{N:Nat->ac (ar bG)}{V:Nat->bv}{ho:bN}{dR:d9}
variable{b:dQ}{bu:Bool->ac Frame}{k:ac Item}
variable{listed:bi Bool}
def l7(cB:ac Nat)(listed:bi Bool):Nat->Prop:=λp=>∃i,cB[p]? =some i/\listed.getD i false=true
def ab0{i:Nat}(af:i<listed.size)(h:listed.getD i false≠true):listed.getD i true=false:=by
 simpa[af]using h
def l3.ab1(D:l3 X aR ops L cB fh ms)(u:listed.size=ops.size)(h:Region.ready .any ops listed=[]):∀p,p<L.length->l7 cB listed p:=by
 intro p
 induction p using Nat.strongRecOn with
 |_ p U=>
  intro hp;have z:p<ops.size:=by rwa [<-D.tv]
  have af:cB[p]? =some (cB[p]'asL):=ba _;obtain⟨⟨x,gn⟩,O⟩:∃x,L[p]? =some x:=⟨_,ba hp⟩;have⟨R,ay,_⟩:=D.op p _ x gn af O;refine⟨_,af,?_⟩;by_cases W:listed.getD (cB[p]'asL) false=true
  .exact W
  .exfalso;have aT:=(uK.1 ay).1;have B:(cB[p]'asL)∈Region.ready .any ops listed:=by
    rw[mem_ready];refine⟨ab0 J W,R,ay,λe d aa=>?_⟩;have⟨q,aD,r⟩:=D.abS p _ R af ay e d aa;have⟨j,A,g⟩:=U q aD J;rw[r]at A;cases A;exact g
   rw[h]at B;cases B
theorem ab2(Y:nh X call)(aN:j8 call Z L [st.h] I st bC al F T N V)(D:l3 X aR ops L cB fh ms)(bS:∀id,st.ag<=id->ho id=none)(aH:∀t∈fh,(F 0).tmp t=jG)
 (aa:oF ho (F 0).b7 b.b7) (bc:jO b (F 0).aY ho bu) (n:Nat) (bb:Jx call Z L F T n) (aU:∀p,Z p=true->n<L.length/\(ms.getD p 0).testBit n=true):∀(y t:Nat) (listed:bi Bool) (c:Nat) (ad:bN) (a:Act) (w:d9),listed.size=ops.size->(List.range ops.size).countP (λi=> !listed.getD i true)<=y->
 (∀p,l7 cB listed p->nR ops cB (l7 cB listed) p)->¬l7 cB listed n->ko X aR L F T V ho dR (l7 cB listed) c ad a w->(F c).aY=(F 0).aY->(F c).b7=(F 0).b7->
 (∃d cX z H aG,Steps X.P (lone (b.at a<|.inRegion ops (Region.linearise.go .any ops y t listed [])::k) (bu (F c).cU) w) (lone (b.at H<|.inRegion ops []::k) (bu (F cX).cU) aG)/\
  (∀p,p<L.length->d p)/\ko X aR L F T V ho dR d cX z H aG/\(F cX).aY=(F 0).aY/\(F cX).b7=(F 0).b7/\(d n->l7 cB listed n))\/
 (∃d cX z H aG i rest,Steps X.P (lone (b.at a<|.inRegion ops (Region.linearise.go .any ops y t listed [])::k) (bu (F c).cU) w) (lone (b.at H<|.inRegion ops (i::rest)::k) (bu (F cX).cU) aG)/\
  n<L.length/\cB[n]? =some i/\(∀p,d p->nR ops cB d p)/\nR ops cB d n/\¬d n/\ko X aR L F T V ho dR d cX z H aG/\(F cX).aY=(F 0).aY/\(F cX).b7=(F 0).b7):=by
 intro y
 induction y with
 |zero=>
  intro t listed c ad a w K aI S aq u B ae;refine .inl ⟨l7 cB listed,c,ad,a,w,.refl _ _,λp hp=>?_,u,B,ae,id⟩;have bj:p<ops.size:=by rwa [<-D.tv]
  have af:cB[p]? =some (cB[p]'asL):=ba _;obtain⟨⟨x,gn⟩,O⟩:∃x,L[p]? =some x:=⟨_,ba hp⟩;obtain⟨R,ay,_⟩:=D.op p _ x gn af O;have aT:=(uK.1 ay).1;refine⟨_,af,?_⟩
  simp_all
 |succ y U=>
  intro t listed c ad a w K aI S aq u B ae;change(∃d cX z H aG,Steps X.P (lone (b.at a (.inRegion ops (match(Region.ready .any ops listed)[t%(Region.ready .any ops listed).length]? with
   |some i=>Region.linearise.go .any ops y (t/(Region.ready .any ops listed).length) (listed.setIfInBounds i true) [i]
   |none=>[].reverse)::k)) (bu (F c).cU) w) _/\_)\/(∃d cX z H aG i rest,Steps X.P (lone (b.at a (.inRegion ops (match(Region.ready .any ops listed)[t%(Region.ready .any ops listed).length]? with
   |some i=>Region.linearise.go .any ops y (t/(Region.ready .any ops listed).length) (listed.setIfInBounds i true) [i]
   |none=>[].reverse)::k)) (bu (F c).cU) w) _/\_)
  cases aC:(Region.ready .any ops listed)[t%(Region.ready .any ops listed).length]? with
  |none=>
   have aO:Region.ready .any ops listed=[]:=by
    cases bf:Region.ready .any ops listed with
    |nil=>rfl
    |cons x xs=>
     rw[bf]at aC;have aT:t%(x::xs).length<(x::xs).length:=fo _ az;simp at aC;simp at aT;omega
   exact .inl ⟨l7 cB listed,c,ad,a,w,.refl _ _,D.ab1 K aO,u,B,ae,id⟩
  |some i=>
   simp only[];rw[linearise_go_acc,List.reverse_singleton];obtain⟨a1,R,ay,J⟩:=mem_ready.1<|fQ aC;have aT:=(uK.1 ay).1;obtain⟨p,hp⟩:=D.abR i aT;have aK:p<L.length:=by rw[D.tv,<-D.yH];exact(dG.1 hp).1
   have aj:¬l7 cB listed p:=by
    rintro⟨j,A,g⟩
    grind
   have aw:nR ops cB (l7 cB listed) p:=by
    intro W C G a' e ai ah r ak;rw[hp]at G;cases G;rw[ay]at a';cases a';exact⟨_,ak,J e ai ah⟩
   by_cases aB:p=n
   .subst aB;exact .inr ⟨l7 cB listed,c,ad,a,w,i,_,.refl _ _,aK,hp,S,aw,aj,u,B,ae⟩
   have aE:Z p=false:=by
    cases aM:Z p with
    |false=>rfl
    |true=>exact absurd (D.before S p aw (by rwa [<-D.tv]) n (aU p aM).2) aq
   obtain⟨cX,z,H,aG,M,aL,a9,a5⟩:=abY Y u aN D bS aH S aK aE (λx c O=>bb p x c aB aE O) hp aw aj aa bc B ae;have dW:By (l7 cB listed) p=l7 cB (listed.setIfInBounds i true):=by
    funext q;apply propext;constructor
    .rintro(⟨j,A,g⟩|rfl)
     .exact⟨j,A,getD_set_true g⟩
     .exact⟨i,hp,by simp[K,aT]⟩
    .rintro⟨j,A,g⟩;by_cases e:j=i
     .subst e;exact .inr<|D.inj q p j A hp
     .left;refine⟨j,A,?_⟩
      rwa [getD_set_ne false<|Ne.symm e]at g
   rw[dW]at aL;have aW:∀p,l7 cB (listed.setIfInBounds i true) p->nR ops cB (l7 cB<|listed.setIfInBounds i true) p:=by
    rw[<-dW];rintro q (aD|rfl) W C G a' e ai ah r ak
    .exact .inl<|S q aD W C G a' e ai ah r ak
    .exact .inl<|aw W C G a' e ai ah r ak
   have a0:¬l7 cB (listed.setIfInBounds i true) n:=by
    rw[<-dW];rintro(h|h)
    .exact aq h
    .exact aB h.symm
   have aZ:(List.range ops.size).countP (λj=> !(listed.setIfInBounds i true).getD j true)<=y:=by
    refine Nat.le_of_lt_succ<|fG (P7 (λj _ A=>?_) ⟨i,Dz.2 aT,(by rw[a1];rfl),by simp[aT]⟩) aI
    .by_cases e:j=i
     .subst e;simp[aT]at A
     .rw[getD_set_ne true<|Ne.symm e]at A;exact A
   rcases U (t/(Region.ready .any ops listed).length) (listed.setIfInBounds i true) cX z H aG (by simp[K]) aZ aW a0 aL a9 a5 with⟨d,ao,au,an,s,aA,aP,aV,a6,a2,bh⟩|⟨d,ao,au,an,s,W,b',aA,a4⟩
   .exact .inl ⟨d,ao,au,an,s,M.trans aA,aP,aV,a6,a2,λh=>aoM⟩
   .exact .inr ⟨d,ao,au,an,s,W,b',M.trans aA,a4⟩
theorem ab3{ad:bN}{a:Act}{w:d9}{id:Nat}(hm:X.P.follows .mixedOrders=true)(Y:nh X call)(D:l3 X aR ops L cB fh ms)(ao:e1 ad I a aR)(hw:bZ X ad st w)(aa:oF ad I.b7 b.b7)(aw:jO b I.aY ad bu):
 gl X b aR bu (lone (b.at a<|.code (.region id ops true)::k) (bu I.cU) w) k I ad w (hn call (ss call ms<|dK L) L [st.h] (qc I fh) st):=by
 cases bm:hn call (ss call ms<|dK L) L [st.h] (qc I fh) st with
 |no=>trivial
 |out e bC al=>
  obtain⟨Z,F,T,N,V,aN,bs⟩:=abP _ _ _ _ _ _ _ bm;obtain⟨j,aq,ak,bD,a4⟩:=PU fh I
  let fj:d9:={w with drawn:=w.drawn+1}
  have bn:bZ X ad st fj:=hw.vc X o;have a':=aN.f0;have an:∀id,st.ag<=id->ad id=none:=λid h=>(hw.fresh id h).1;have aT:gm ad (T 0).ag=ad:=by rw[aN.t0];exact P4 an
  have nS:∀p,¬l7 cB (Array.replicate ops.size false) p:=by
   rintro p ⟨i,_,af⟩;by_cases h:i<ops.size<;>simp[h]at af
  have bc:ko X aR L F T V ad fj (l7 cB<|Array.replicate ops.size false) 0 ad a fj:=by
   refine⟨λp hp=>J,dg _,.inl o,λp x _ h=>absurd h<|nS p,by rwa [aT,aN.t0],λid l W=>.inl ?_,λp _ h=>absurd h<|nS p,bn.fY,.refl _ _,ao.size,by rw[aT,a',a4];exact ao.di,λp x gn t _ _ h=>absurd h<|nS p,λt _=>?_⟩
   .rw[aN.t0]
    grind
   .rw[a',j];by_cases h:t∈fh
    .rw[aA h];exact .top _
    .rw[au h];exact ao.tmp t
  have aC:=abG (P:=X.P) (b:=b) (a:=a) (k:=k) (cs:=bu I.cU) (w:=w) (ops:=ops) (id:=id);have a8:Region.schedule (X.P.follows .mixedOrders) ops (w.tape w.drawn<|.order b.fn id)=Region.linearise.go .any ops ops.size (w.tape w.drawn<|.order b.fn id) (Array.replicate ops.size false) []:=by
   simp[hm];rfl
  rw[a8]at aC;have bz:bu (F 0).cU=bu I.cU:=by grind
  have aF:=λn ah a1=>ab2 (k:=k) Y aN D an (λt h=>by rw[a',j,aA h]) (by rwa [a',ak]) (by rwa [a',aq]) n ah a1 ops.size (w.tape w.drawn<|.order b.fn id) (Array.replicate ops.size false) 0 ad a fj az (by
   apply cN List.countP_le_length;simp) (λp h=>absurd h<|nS p) (nS n) bc o o
  rw[bz]at aF;rcases bs with⟨rfl,a0,ah,aO,a6⟩|⟨n,x,u,O,b',ah,bl,bB,rfl,rfl,aU⟩
  case inr=>
   have aL:=(dG.1 O).1;rcases aF n ah (λp hp=>⟨aL,(b' p hp).2⟩)with⟨ay,cX,z,H,aG,M,ai,K,A,aj,ae⟩|⟨ay,cX,z,H,aG,i,rest,M,aB,af,bw,bx,a9,K,A,aj⟩
   .exact absurd (ae<|ai n aL)<|nS n
   .obtain⟨aJ,bA,br,bo,a5,aZ,bp,aV,U,bh,bb⟩:=abZ Y K aN D an (λt h=>by rw[a',j,aA h]) bw aB O af bx a9 A aj bl bB aU;rw[U]at M;exact⟨aJ,H,br,aV,aZ,ei.trans (aG:=fj) (ei.vc ad o) bp,by rw[bh,a',aq],by rw[bb,a',ak],bA,_,a5,(Steps.head aC M).trans bo⟩
  obtain⟨ay,cX,z,H,aG,M,ai,K,A,aj,_⟩:∃ay cX z H aG,_:=by
   rcases aF L.length ah (λp hp=>by rw[a0 p]at hp;cases hp)with h|⟨_,_,_,_,_,_,_,_,aB,_⟩
   .exact h
   .exact absurd aB J
  obtain⟨aP,aM,aI,l6,aH⟩:=K.upto aN D L.length K.Fc (c4 _) λr _ h=>ai r h;have aW:gm z (T L.length).ag=z:=by
   refine P4 λid bH=>?_;cases W:z id with
   |none=>rfl
   |some l=>
    exfalso;rcases K.l5 id l W with h|⟨p,bk,G,C,a2,bE⟩
    .have:=aN.l4 D K.Fc<|c4 _;omega
    .obtain⟨R,bq,ba,_⟩:=K.gA p bk C a2;have bF:(T<|p+1).ag=(T p).ag+1:=by rw[ba]
     have:=aN.l4 D (p:=p+1) G<|c4 _;omega
  rw[aW,a6]at aP;rw[aO]at aM aI l6 aH;have bf:e1 z bC H aR:=by
   refine⟨λt=>?_,K.size,by rw[aM];exact K.di.mono<|P3 _ _⟩;rw[<-aO];by_cases aK:∃(q:Nat) (y:bt) (d:cz),L[q]? =some (y,d)/\y.d=some t
   .obtain⟨q,y,d,ax,S⟩:=aK;have aD:=(dG.1 ax).1;simpa[aN.Jy D ax S L.length aD<|c4 _]using(K.Bx q y d t ax S<|ai q aD).mono (P3 _ _)
   .have B:∀(q:Nat) s cX,L[q]? =some (s,cX)->s.d≠some t:=λq s cX g ae=>aK ⟨q,s,cX,g,ae⟩;simpa[aN.Fb t L.length (c4 _) λq s cX _ g=>B q s cX g]using(K.yI t λq s cX g ae=>absurd ae<|B q s cX g).mono K.keeps.le
  refine⟨z,H,aG,bf,aP,ei.trans (aG:=fj) (ei.vc ad o) K.keeps,by rw[l6,A,a',aq],by rw[aH,aj,a',ak],?_⟩
  .rw[<-aI]at M;exact(Steps.head aC M).trans<|.one PM
end
end Go.bI
namespace Go.bI
variable{X:Ctx}
abbrev vj:=Nat×(bt×cz)×Nat×Nat
def rr:Nat->ac (bt×cz)->ac Nat->ac Nat->ac vj
 |p,a::L,i::cB,m::ms=>(p,a,i,m)::rr (p+1) L cB ms
 |_,_,_,_=>[]
theorem P8:∀(L:ac (bt×cz)) (cB ms:ac Nat) (u p:Nat) {a:bt×cz} {i m:Nat},L[p]? =some a->cB[p]? =some i->ms[p]? =some m->(u+p,a,i,m)∈rr u L cB ms
 |[],_,_,_,p,_,_,_,h,_,_=>by simp at h
 |_::_,[],_,_,p,_,_,_,_,h,_=>by simp at h
 |_::_,_::_,[],_,p,_,_,_,_,_,h=>by simp at h
 |H::L,W::cB,O::ms,u,p,a,i,m,aE,aK,C=>by
  cases p with
  |zero=>
   simp at aE aK C;subst aE aK C;exact gT
  |succ p=>
   have:=P8 L cB ms (u+1) p (by simpa using aE) (by simpa using aK) (by simpa using C);rw[show u+(p+1)=u+1+p by omega];exact e3 _ this
theorem P9:∀(L:ac (bt×cz)) (cB ms:ac Nat) (u:Nat) {r:vj},r∈rr u L cB ms->∃p:Nat,r.1=u+p/\L[p]? =some r.2.1/\cB[p]? =some r.2.2.1/\ms[p]? =some r.2.2.2
 |[],_,_,_,_,h=>by simp[rr]at h
 |_::_,[],_,_,_,h=>by simp[rr]at h
 |_::_,_::_,[],_,_,h=>by simp[rr]at h
 |H::L,W::cB,O::ms,u,r,h=>by
  obtain rfl|h:=fg.1 h
  .exact⟨0,o,o,o,o⟩
  .have⟨p,Y,G,C,d⟩:=P9 L cB ms (u+1) h;exact⟨p+1,J,G,C,d⟩
def wY(G:ac vj)(p:Nat):ac Edge->be Nat
 |[]=>some 0
 |e::es=>if Region.binds .any e then
  match G.find? λr=>Nat.beq r.2.2.1 e.on,wY G p es with
  |some r,some m=>if Nat.ble (Nat.succ r.1) p then some (m|||((1<<<r.1)|||r.2.2.2))else none
  |_,_=>none
  else wY G p es
theorem Fe{G:ac vj}{p:Nat}:∀(es:ac Edge) (m:Nat),wY G p es=some m->
 (∀e∈es,Region.binds .any e=true->∃r∈G,r.2.2.1=e.on/\r.1<p)/\
 (∀q,m.testBit q=true->∃e∈es,Region.binds .any e=true/\∃r∈G,r.2.2.1=e.on/\r.1<p/\(q=r.1\/r.2.2.2.testBit q=true))
 |[],m,h=>by
  simp[wY]at h
  grind
 |e::es,m,h=>by
  simp only[wY]at h;by_cases aa:Region.binds .any e=true
  .rw[aA aa]at h;split at h
   .rename_i r O aw K;split at h
    .rename_i aT;cases h;obtain⟨g,j⟩:=Fe es O K;have d:r.2.2.1=e.on:=by
      have:=Aq aw;exact dy this
     have s:=lZ.1 aT;refine⟨λU D o=>?_,λq aD=>?_⟩
     .grind
     .rw[Nat.testBit_or,Nat.testBit_or,Au,Au]at aD;rcases aD with aD|aD|aD
      .grind
      .rw[Nat.one_shiftLeft]at aD
       grind
      .grind
    .cases h
   .cases h
  .rw[au aa]at h;obtain⟨g,j⟩:=Fe es m h
   grind
def Qa(d:be Tmp)(t:Tmp):Bool:=match d with|some u=>Nat.beq u t|none=>false
def vk(aF:ac Tmp)(t:Tmp):Bool:=aF.any<|Nat.beq t
theorem Ff{aF:ac Tmp}{t:Tmp}:vk aF t=true↔t∈aF:=by
 rw[vk]
 simp_all
def Bz(X:Ctx)(aR:Nat)(ops:bi Oper)(L:ac (bt×cz))(G:ac vj)(r:vj):Bool:=
 (match ops[r.2.2.1]? with
  |some R=>l2 X aR ops r.2.1.1 R&&(match wY G r.1 R.after.toList with|some m=>Nat.beq m r.2.2.2|none=>false)
  |none=>false)&&
 (match r.2.1.2 with
  |.dJ=>Nat.beq r.2.2.2 (2^r.1-1)
  |.hM _=>r.2.1.1.R.rp
  |.read n _=>r.2.1.1.R.qn&&Nat.ble ((List.range r.1).countP λq=>tu L q&& !r.2.2.2.testBit q) n)
def yJ(fh:ac Tmp)(r s:vj):Bool:=
 (!Nat.beq r.2.2.1 s.2.2.1||Nat.beq r.1 s.1)&&
 (match s.2.1.1.d with
  |none=>true
  |some t=>
   (!Qa r.2.1.1.d t||Nat.beq r.1 s.1)&&
   (!Nat.ble (Nat.succ r.1) s.1||vk fh t|| !(r.2.1.2.wV||vk r.2.1.2.looks t)||s.2.2.2.testBit r.1)&&
   (!Nat.ble (Nat.succ s.1) r.1|| !vk r.2.1.2.looks t||r.2.2.2.testBit s.1))
def JA(X:Ctx)(aR:Nat)(ops:bi Oper)(L:ac (bt×cz))(cB:ac Nat)(fh:ac Tmp)(ms:ac Nat):Bool:=
 (λG=>Nat.beq L.length ops.size&&Nat.beq cB.length ops.size&&Nat.beq ms.length ops.size&&(List.range ops.size).all (λi=>vk cB i)&&G.all (Bz X aR ops L G)&&G.all λr=>G.all<|yJ fh r)<|rr 0 L cB ms
theorem ab4{aR:Nat}{ops:bi Oper}{L:ac (bt×cz)}{cB:ac Nat}{fh:ac Tmp}{ms:ac Nat}(h:JA X aR ops L cB fh ms=true):l3 X aR ops L cB fh ms:=by
 unfold JA at h;simp only[cQ]at h;obtain⟨⟨⟨⟨⟨Y,G⟩,C⟩,ai⟩,ak⟩,aA⟩:=h;have U:=qm Y;have aB:=qm G;have aH:=qm C;rw[ja]at ai ak aA;have aE:∀(p:Nat) a i,L[p]? =some a->cB[p]? =some i->(p,a,i,ms.getD p 0)∈rr 0 L cB ms:=by
  intro p a i D af;have hp:=(dG.1 D).1;have hm:ms[p]? =some (ms.getD p 0):=by
   have:p<ms.length:=J
   simp[this]
  have:=P8 L cB ms 0 p D af hm
  rwa [jn]at this
 have s:∀p:Nat,p<L.length->∃i,cB[p]? =some i:=λp hp=>⟨_,ba J⟩;have u:∀p i:Nat,cB[p]? =some i->∃a,L[p]? =some a:=λp i af=>⟨_,ba (by have:=(dG.1 af).1;omega)⟩;have S:∀(p:Nat) a i,L[p]? =some a->cB[p]? =some i->Bz X aR ops L (rr 0 L cB ms) (p,a,i,ms.getD p 0)=true:=λp a i D af=>ak _<|aE p a i D af;have ah:∀(p:Nat) a i q b j,L[p]? =some a->cB[p]? =some i->L[q]? =some b->cB[q]? =some j->yJ fh (p,a,i,ms.getD p 0) (q,b,j,ms.getD q 0)=true:=by
  grind
 have aj:∀(p i:Nat) a R,L[p]? =some a->cB[p]? =some i->ops[i]? =some R->l2 X aR ops a.1 R=true/\∃m,wY (rr 0 L cB ms) p R.after.toList=some m/\m=ms.getD p 0:=by
  intro p i a R D af ay;have:=S p a i D af;unfold Bz at this;simp only[ay,cQ]at this
  grind [qm]
 have z:∀{r:vj} {p:Nat},r∈rr 0 L cB ms->∃q:Nat,r.1=q/\cB[q]? =some r.2.2.1/\ms.getD q 0=r.2.2.2:=by
  grind [P9]
 have az:∀(p i:Nat) a,L[p]? =some a->cB[p]? =some i->(match a.2 with|.dJ=>Nat.beq (ms.getD p 0) (2^p-1)|.hM _=>a.1.R.rp|.read n _=>a.1.R.qn&&Nat.ble ((List.range p).countP λq=>tu L q&& !(ms.getD p 0).testBit q) n)=true:=by
  grind [Bz]
 refine⟨U,aB,λp i x c af O=>?_,λp x aF O=>?_,λp x n aF O=>?_,λp q i hp aD=>?_,λi af=>?_,λp i R af ay e A aa=>?_,λp i R q af ay aD=>?_,λp x q O aD=>?_,λp x n aF O=>?_,λp q x y c d t O a' ao g=>?_,λp q x y c d t O a' au g aq W=>?_,λp q x y c d t O a' H g W=>?_⟩
 .have:=S p (x,c) i O af;unfold Bz at this
  grind
 .grind
 .grind
 .obtain⟨a,D⟩:=u p i hp;obtain⟨b,aa⟩:=u q i aD;have:=ah p a i q b i D hp aa aD;unfold yJ at this;simp only[cQ,Au]at this;rcases this.1 with h|h
  .simp at h
  .exact qm h
 .have:=ai i<|Dz.2 af;obtain⟨p,hp,A⟩:=List.mem_iff_getElem.1<|Ff.1 this;exact⟨p,by rw[ba hp,A]⟩
 .obtain⟨a,D⟩:=u p i af;obtain⟨_,m,hm,_⟩:=aj p i a R D af ay;obtain⟨r,aw,M,K⟩:=(Fe _ _ hm).1 e (by simpa using A) aa;obtain⟨q,an,B,_⟩:=z (p:=0) aw;exact⟨q,J,by rw[B,M]⟩
 .obtain⟨a,D⟩:=u p i af;obtain⟨_,m,hm,rfl⟩:=aj p i a R D af ay;obtain⟨e,A,aa,r,aw,M,K,aI⟩:=(Fe _ _ hm).2 q aD;obtain⟨aC,an,B,bj⟩:=z (p:=0) aw;exact arU arU
 .grind [qm]
 .obtain⟨i,af⟩:=s p (dG.1 O).1;have:=az p i _ O af;simp only[cQ]at this;exact lZ.1 this.2
 .obtain⟨i,af⟩:=s p (dG.1 O).1;obtain⟨j,ae⟩:=s q (dG.1 a').1;have:=ah p _ i q _ j O af a' ae;unfold yJ at this;simp only[g,cQ]at this;have M:=this.2.1.1;simp[Qa,ao]at M;exact M
 .obtain⟨i,af⟩:=s p (dG.1 O).1;obtain⟨j,ae⟩:=s q (dG.1 a').1;have:=ah p _ i q _ j O af a' ae;unfold yJ at this;simp only[g,cQ]at this;have M:=this.2.1.2;have B:vk fh t=false:=by rw[x2];intro h;exact aq<|Ff.1 h
  have bj:(c.wV||vk c.looks t)=true:=by
   rcases W with rfl|W
   .rfl
   .rw[Au];exact .inr<|Ff.2 W
  rw[(lZ.2 au),B,bj]at M;simpa using M
 .obtain⟨i,af⟩:=s p (dG.1 O).1;obtain⟨j,ae⟩:=s q (dG.1 a').1;have:=ah p _ i q _ j O af a' ae;unfold yJ at this;simp only[g,cQ]at this;have M:=this.2.2;have B:=Ff.2 W;rw[(lZ.2 H),B]at M;simpa using M
end Go.bI
namespace Go.bI
variable{X:Ctx}{call:bR}
def yK(X:Ctx)(aR:Nat)(ops:bi Oper):ac bt->ac Oper->Bool
 |[],[]=>true
 |x::xs,R::os=>l2 X aR ops x R&&yK X aR ops xs os
 |_,_=>false
theorem JB{aR:Nat}{ops:bi Oper}:∀{xs:ac bt} {os:ac Oper},yK X aR ops xs os=true->xs.length=os.length/\∀(j:Nat) x R,xs[j]? =some x->os[j]? =some R->l2 X aR ops x R=true
 |[],[],_=>⟨o,λj x R h=>by simp at h⟩
 |x::xs,R::os,h=>by
  simp[yK,cQ]at h;have⟨aE,aK⟩:=JB h.2
  grind
 |[],_::_,h=>by simp[yK]at h
 |_::_,[],h=>by simp[yK]at h
def wZ:ac Nat->ac Nat->Bool
 |[],[]=>true
 |a::as,b::bH=>Nat.beq a b&&wZ as bH
 |_,_=>false
theorem Qb:∀{as bH:ac Nat},wZ as bH=true->as=bH
 |[],[],_=>rfl
 |a::as,b::bH,h=>by
  simp only[wZ,cQ]at h;rw[qm h.1,Qb h.2]
 |[],_::_,h=>by simp[wZ]at h
 |_::_,[],h=>by simp[wZ]at h
def codeOk(X:Ctx)(aR:Nat):dz->Code->Bool
 |.skip,.skip=>true
 |.skip,.label _=>true
 |.gx xs,.region _ ops false=>yK X aR ops xs ops.toList
 |.q5 L cB fh ms,.region _ ops true=>JA X aR ops L cB fh ms
 |.seq a b,.seq c d=>codeOk X aR a c&&codeOk X aR b d
 |.cond x a b,.cond y c d=>df X.a6 x y&&codeOk X aR a c&&codeOk X aR b d
 |.block i a,.block j c=>Nat.beq i j&&codeOk X aR a c
 |.loop a,.loop c=>codeOk X aR a c
 |.u3 f bd ek body,.rangeFunc g lI s h=>df X.a6 f g&&wZ bd lI.toList&&bd.all (λt=>Nat.ble (Nat.succ t) aR)&&codeOk X aR ek s&&codeOk X aR body h
 |.exit i,.exit j=>Nat.beq i j
 |.scope a,.scope c=>codeOk X aR a c
 |.ret,.ret=>true
 |.refuse,_=>true
 |_,_=>false
def Good(X:Ctx):Prop:=X.P.follows .mixedOrders=true/\∀fn c S,X.ok fn c S↔∃F,X.P.funcs[fn]? =some F/\codeOk X F.ntmps S c=true
section
variable{b:dQ}{aR:Nat}{bu:Bool->ac Frame}
def yL(X:Ctx)(call:bR)(b:dQ)(aR:Nat)(bu:Bool->ac Frame):Prop:=
 ∀(f:ce) (bd:bi Tmp) (ek body:dz) (s h:Code) (ad:bN) (I:aO) (a:Act) (st:ao) (w:d9) (k:ac Item),gB X.a6 f=true->(∀t∈bd.toList,t<aR)->(∃F,X.P.funcs[b.fn]? =some F/\F.ntmps=aR)->X.ok b.fn s ek->X.ok b.fn h body->
  e1 ad I a aR->bZ X ad st w->oF ad I.b7 b.b7->jO b I.aY ad bu->
  gl X b aR bu (lone (b.at a<|.code (.rangeFunc f bd s h)::k) (bu I.cU) w) k I ad w (A5 call b.fn f bd.toList ek body I st)
theorem gl.kF{s:Machine}{k j:ac Item}{I:aO}{ad:bN}{w:d9}{r:cO}{g:aO->ao->cO}(y:∀id,exitTo id k=exitTo id j)(h:gl X b aR bu s k I ad w r)
 (o:∀aJ H aG bC al,e1 aJ bC H aR->bZ X aJ al aG->ei ad aJ w aG->bC.aY=I.aY->bC.b7=I.b7->gl X b aR bu (lone (b.at H k) (bu bC.cU) aG) j bC aJ aG (g bC al)):gl X b aR bu s j I ad w (kF r g):=by
 cases r with
 |no=>trivial
 |out e bC al=>
  have⟨aJ,H,aG,Y,G,C,d,J,B⟩:=h;cases e with
  |norm=>exact gl.head B C d J (o aJ H aG bC al Y G C d J)
  |exit id=>
   have⟨S,M,K⟩:=B;exact⟨aJ,H,aG,Y,G,C,d,J,S,M.trans<|y id,K⟩
  |_=>exact⟨aJ,H,aG,Y,G,C,d,J,B⟩
def gl.cA{s:Machine}{k:ac Item}{I:aO}{ad:bN}{w:d9}{r:cO}{i:Nat}(aE:gl X b aR bu s (.inBlock i::k) I ad w r):gl X b aR bu s k I ad w (qd i r):=by
 cases r with
 |no=>trivial
 |out e bC al=>
  have⟨aJ,H,aG,G,C,d,J,B,M⟩:=aE;cases e with
  |norm=>exact⟨aJ,H,aG,G,C,d,J,B,Steps.trans M<|.one<|step_lone_go aoO⟩
  |exit id=>
   have⟨S,K,W⟩:=M;show gl X b aR bu _ k I ad w (dL id i (.out .norm bC al)<|.out (.exit id) bC al);rw[mx];by_cases e:id=i
   .subst e;rw[aA o];have g:exitTo id S=some k:=by rw[K];simp[exitTo]
    exact⟨aJ,H,aG,G,C,d,J,B,Steps.trans W<|.one<|step_lone_go<|by simp[stepG,stepG.exec,dQ.at,g]⟩
   .rw[au e];refine⟨aJ,H,aG,G,C,d,J,B,S,?_,W⟩;rw[K];have:¬i=id:=λh=>e h.symm;simp[exitTo,this]
  |_=>exact⟨aJ,H,aG,G,C,d,J,B,M⟩
def BA(r:cO):kF r (λI st=>.out .norm I st)=r:=by
 cases r with
 |no=>rfl
 |out e I st=>cases e<;>rfl
theorem Fg(J:Good X)(aA:nh X call)(aK:yL X call b aR bu)(u:∃F,X.P.funcs[b.fn]? =some F/\F.ntmps=aR)(a8:Nat):∀(S:dz) (c:Code) (ad:bN) (I:aO) (a:Act) (st:ao) (w:d9) (k:ac Item),codeOk X aR S c=true->
 e1 ad I a aR->bZ X ad st w->oF ad I.b7 b.b7->jO b I.aY ad bu->
 gl X b aR bu (lone (b.at a<|.code c::k) (bu I.cU) w) k I ad w (dh call a8 b.fn S I st):=by
 obtain⟨Fn,ae,M⟩:=u;intro S
 induction S with
 |skip=>
  intro c ad I a st w k ah D hw aa aw;cases c with
  |skip=>exact atj
  |label l=>exact atj
  |_=>cases ah
 |gx xs=>
  intro c ad I a st w k ah D hw aa aw;cases c with
  |region id ops W=>
   cases W with
   |true=>cases ah
   |false=>
    obtain⟨Y,G⟩:=JB ah;have:=E8 (k:=k) aA xs (List.range ops.size) ad I a st w (by simpa using Y) (λj x i aC af=>by
     have aH:i=j:=by
      grind
     subst aH;have aT:i<ops.size:=by grind
     exact⟨ops[i],wa aT,G i x _ aC az⟩) D hw aa aw
    exact gl.head (.one PL) mB o o this
  |_=>cases ah
 |q5 L cB fh ms=>
  intro c ad I a st w k ah D hw aa aw;cases c with
  |region id ops W=>
   cases W with
   |false=>cases ah
   |true=>exact ab3 J.1 aA (ab4 ah) D hw aa aw
  |_=>cases ah
 |seq x y aD B=>
  intro c ad I a st w k ah D hw aa aw;cases c with
  |seq c d=>
   have ah:(codeOk X aR x c&&codeOk X aR y d)=true:=ah;rw[cQ]at ah;refine gl.head (.one PG) mB o o<|gl.kF (k:=.code d::k) (λid=>o) (aD c ad I a st w (.code d::k) ah.1 D hw aa aw) λaJ H aG bC al C K a' hp aj=>?_;exact B d aJ bC H al aG k ah.2 C K ap9 ap8
  |_=>cases ah
 |cond x y z B aF=>
  intro c ad I a st w k ah D hw aa aw;cases c with
  |cond R c d=>
   have ah:(df X.a6 x R&&codeOk X aR y c&&codeOk X aR z d)=true:=ah;simp at ah;obtain⟨rfl,ay⟩:=sB ah.1.1;show gl X b aR bu _ k I ad w (kj (I.aq x) (λt=>_root_.cond t (dh call a8 b.fn y I st)<|dh call a8 b.fn z I st) .no);have ak:=D.aq hw ay;generalize A:a.eval x=km at ak;generalize I.aq x=v at ak;cases v with
   |bool t=>
    cases ak;cases t with
    |true=>exact gl.head (.one<|E1 A) mB o o (B c ad I a st w k ah.1.2 D hw aa aw)
    |false=>exact gl.head (.one<|E1 A) mB o o (aF d ad I a st w k ah.2 D hw aa aw)
   |_=>trivial
  |_=>cases ah
 |block i x U=>
  intro c ad I a st w k ah D hw aa aw;cases c with
  |block j c=>
   have ah:(Nat.beq i j&&codeOk X aR x c)=true:=ah;rw[cQ]at ah;cases qm ah.1;refine gl.head (.one PH) mB o o ?_;exact(U c ad I a st w (.inBlock i::k) ah.2 D hw aa aw).cA
  |_=>cases ah
 |loop x U=>
  intro c ad I a st w k ah D hw aa aw;cases c with
  |loop c=>
   have key:∀(n:Nat) (ad:bN) I a st w,e1 ad I a aR->bZ X ad st w->oF ad I.b7 b.b7->jO b I.aY ad bu->
    gl X b aR bu (lone (b.at a<|.code c:: .inLoop c::k) (bu I.cU) w) k I ad w (Nat.rec (λ_ _=>.no) (λ_ O I st=>Go.bI.kF (dh call a8 b.fn x I st) O) n I st):=by
    intro n
    induction n with
    |zero=>intros;trivial
    |succ n aB=>
     intro ad I a st w D hw aa aw;exact gl.kF (k:=.inLoop c::k) (λid=>o) asY λaJ H aG bC al C K a' hp aj=>(gl.head (.one PJ) mB o o<|aB aJ bC H al aG C K ap9 ap8)
   exact gl.head (.one PI) mB o o (key a8 ad I a st w D hw aa aw)
  |_=>cases ah
 |u3 f bd ek body _ _=>
  intro c ad I a st w k ah D hw aa aw;cases c with
  |rangeFunc g r s h=>
   have ah:(df X.a6 f g&&wZ bd r.toList&&bd.all (λt=>Nat.ble (Nat.succ t) aR)&&codeOk X aR ek s&&codeOk X aR body h)=true:=ah;simp only[cQ]at ah;obtain⟨⟨⟨⟨Y,G⟩,au⟩,aM⟩,aL⟩:=ah;rw[ja]at au;obtain⟨rfl,ay⟩:=sB Y;cases Qb G;exact aK f r ek body s h ad I a st w k ay (λt aN=>lZ.1<|au t aN) ⟨Fn,ae,M⟩ ((J.2 _ _ _).2 ⟨Fn,ae,by rwa [M]⟩) ((J.2 _ _ _).2 ⟨Fn,ae,by rwa [M]⟩) D hw aa aw
  |_=>cases ah
 |exit i=>
  intro c ad I a st w k ah D hw aa aw;cases c with
  |exit j=>
   cases qm (ah:Nat.beq i j=true);exact asT asT
  |_=>cases ah
 |scope x U=>
  intro c ad I a st w k ah D hw aa aw;cases c with
  |scope c=>
   refine gl.head (.one PK) mB o o ?_;show gl X b aR bu _ k I ad w (dh call a8 b.fn x I st);rw[<-BA (dh call a8 b.fn x I st)];exact gl.kF (k:=.inScope c::k) (λid=>o) asP λaJ H aG bC al C K _ _ _=>⟨aJ,H,aG,C,K,.refl _ _,o,o,.one PF⟩
  |_=>cases ah
 |ret=>
  intro c ad I a st w k ah D hw aa aw;cases c with
  |ret=>exact⟨ad,a,w,D,hw,.refl _ _,o,o,k,.refl _ _⟩
  |_=>cases ah
 |refuse=>intros;trivial
end
def JC(X:Ctx):gU->ResultVar->Bool
 |.tmp t,.tmp u=>Nat.beq t u
 |.cell a g n,.cell b t=>Nat.beq a b&&X.ql (.load t<|.tmp b) (cond g (.m9 n<|.tmp b)<|.ix<|.tmp b)&&(g||Nat.beq n 1)
 |_,_=>false
def tw(X:Ctx):ac gU->ac ResultVar->Bool
 |[],[]=>true
 |x::xs,r::rs=>JC X x r&&tw X xs rs
 |_,_=>false
def BB(tmps:bi bv):ResultVar->Sem bv
 |.tmp t=>pure (tmps.getD t undef)
 |.cell a t=>do loadVar t (<-asAddr (tmps.getD a undef))
section
variable{ad:bN}{I:aO}{a:Act}{aR:Nat}{st:ao}{w:d9}
def ab5{α:Type}{a:Addr}{n:Nat}{k:ac bv->α}{z r:α}(h:st.load a n k z=r)(aH:z≠r):∃ab,k ab=r/\∀{o:Type} (u:ac bv->o) (M:o),st.load a n u M=u ab:=by
 have⟨Y,cs,el,D,aW,G,C,d⟩:=EE h aH;refine⟨_,d,λu M=>?_⟩;unfold ao.load ao.gy;rw[Y,G];show hX cs a.off n u M=_;rw[hX,A9,Ba,aA C];rfl
theorem ab6{t:d7}{x:ce}{ch:Addr}{v:bv}(O:a.eval x= .pointer (some ch))(h:(execOp a.eval {(default:Oper)with op:=.load t x}).run X.P w= .ok (.value v) w):(loadVar t ch).run X.P w= .ok v w:=by
 rw[execOp]at h;simp[O,Instr.loadAt,Instr.sureAddr,Sem.run_bind,Sem.run_pure,Result.andThen]at h
 grind
def ab7{x:gU}{r:ResultVar}(S:JC X x r=true)(D:e1 ad I a aR)(hw:bZ X ad st w){ab out:ac bv}
 (h:gU.rec (motive:=λ_=>be<|ac bv) (λt=>some<|I.tmp t::ab)
  (λa agg n=>hN (I.tmp a) (λp=>bx p (λch=>st.load ch n (λcs=>cond agg (some<|.agg ⟨cs⟩::ab)<|one cs (λv=>some<|v::ab) none) none) none) none) x=some out):
 ∃v bA,out=v::ab/\bo ad v bA/\(BB a.tmps r).run X.P w= .ok bA w:=by
 cases x<;>cases r<;>try cases S
 .obtain rfl:=dy S;cases h;exact⟨_,_,o,D.tmp _,o⟩
 .rename_i b g n _ t;simp only[JC,cQ,mA]at S;obtain⟨⟨rfl,J⟩,Y⟩:=S;have⟨p,hp,h⟩:=A7 h az;obtain⟨ch,rfl,M⟩:=ig h az;have⟨cs,K,W⟩:=ab5 M az;have key:∃v,out=v::ab/\bD (λ_ _ _ _=>.no) (cond g (.m9 n<|.tmp b)<|.ix<|.tmp b) I st= .ok v I st:=by
   cases g with
   |true=>
    cases K;refine⟨_,o,?_⟩;show hN (I.tmp b) _ _=_;rw[hp];exact W (λab=>a2.ok (.agg ⟨ab⟩) I st) .no
   |false=>
    obtain rfl:=dy Y;obtain⟨v,rfl,B⟩:=yy K az;cases B;refine⟨_,o,?_⟩;show hN (I.tmp b) _ _=_;rw[hp];exact W (λab=>one ab (λv=>a2.ok v I st) .no) .no
  obtain⟨v,rfl,s⟩:=key;have⟨_,_,j,_⟩:=E0 (R:={(default:Oper)with op:=.load t<|.tmp b}) J D hw s (by cases g<;>rfl);have⟨_,_,bA,U,d⟩:=j (by cases g<;>rfl);have y:=D.tmp b;rw[hp]at y;generalize A:a.tmps.getD b undef=km at y;cases y with
  |ptr _ l z u=>
   refine⟨v,bA,o,d,?_⟩;simp[BB,A];exact ab6 (x:=.tmp b) A U
theorem Qc(D:e1 ad I a aR)(hw:bZ X ad st w):∀(xs:ac gU) (J:ac ResultVar) (out:ac bv),tw X xs J=true->qe I st xs=some out->
 ∃W,bO ad out W/\(J.mapM<|BB a.tmps).run X.P w= .ok W w
 |[],[],out,_,h=>by
  have g:=h;cases g;exact⟨[],bO.nil ad,o⟩
 |x::xs,r::J,out,S,h=>by
  simp[tw,cQ]at S;obtain⟨K,u,Y⟩:=ig h az;obtain⟨v,y,rfl,s,U⟩:=ab7 S.1 D hw Y;have⟨W,j,d⟩:=Qc D hw xs J K S.2 u;refine⟨y::W,bO.cons s j,?_⟩
  simp_all
 |[],_::_,_,S,_=>by simp[tw]at S
 |_::_,[],_,S,_=>by simp[tw]at S
def ab8{F:Func}{xs:ac gU}(S:tw X xs F.results.toList=true)(D:e1 ad I a aR)(hw:bZ X ad st w){out:ac bv}(h:qe I st xs=some out):
 ∃bA,bo ad (one out (λv=>v)<|.tuple ⟨out⟩) bA/\(results F a.tmps).run X.P w= .ok bA w:=by
 have⟨W,g,U⟩:=Qc D hw xs F.results.toList out S h;have aw:(results F a.tmps)=(do let K<-F.results.mapM (BB a.tmps);pure (if h:K.size=1 then K[0]else .tuple K)):=by
  congr 2
 rw[aw];have hm:(F.results.mapM<|BB a.tmps).run X.P w= .ok W.toArray w:=by
  rw[Ow,Sem.run_map,U];rfl
 simp only[Sem.run_bind,hm];refine⟨_,?_,o⟩;cases out with
 |nil=>rw[g.rh];exact bo.ri (bO.nil ad)
 |cons v K=>
  obtain⟨y,aS,rfl,Y,G⟩:=g.cons_inv;cases K with
  |nil=>rw[G.rh];exact Y
  |cons v2 d=>
   obtain⟨j,r,rfl,C,s⟩:=G.cons_inv;exact bo.ri<|bO.cons Y<|bO.cons C s
end
def hP(X:Ctx)(ad:bN)(w:d9)(b:dQ)(bu:Bool->ac Frame)(s:Machine):ev->Prop
 |.ret v al O=>∃aJ bA aG F,bo aJ v bA/\bZ X aJ al aG/\ei ad aJ w aG/\F.kind=b.kind/\F.fn=b.fn/\Frame.going X.P F aG (.returned bA)/\Steps X.P s (lone F (bu O) aG)
 |.aY v al O=>∃aJ bA aG F,bo aJ v bA/\bZ X aJ al aG/\ei ad aJ w aG/\F.kind=b.kind/\F.fn=b.fn/\Frame.going X.P F aG (.panicked [{v:=bA,recovered:=false}])/\Steps X.P s (lone F (bu O) aG)
 |.no=>True
def hP.head{ad aJ:bN}{w aG:d9}{b:dQ}{bu:Bool->ac Frame}{s J:Machine}{r:ev}(h:Steps X.P s J)(aB:ei ad aJ w aG)(D:hP X aJ aG b bu J r):hP X ad w b bu s r:=by
 cases r with
 |no=>trivial
 |_=>obtain⟨cP,y,j,F,Y,G,C,d,g,B,M⟩:=D;exact⟨cP,y,j,F,Y,G,aB.trans C,d,g,B,h.trans M⟩
def w0(X:Ctx)(call:bR):Prop:=
 ∀(ad:bN) (f:d8) (first S:bi bv) (args:ac bv) (aY:be bv) (st:ao) (z j:bi bv) (g:ac bv) (w:d9),
  bO ad first.toList z.toList->bO ad args g->bO ad S.toList j.toList->bZ X ad st w->call (.func (.func f) first S) args aY st≠.no->
  (∀as w,(callFunc f as).run X.P w= .ok (.enter f as) w)/\
  ∀(K:CallKind) (bu:Bool->ac Frame),jO ⟨f,K,none⟩ aY ad bu->hP X ad w ⟨f,K,none⟩ bu (lone (Frame.enter X.P f (z++g.toArray++j) K) (bu false) w) (call (.func (.func f) first S) args aY st)
variable{ad:bN}{m:be bv}{md:FrameMode}
def sF(aJ:bN):be bv->FrameMode->Prop
 |none,m=>m= .returning
 |some v,m=>∃bA,bo aJ v bA/\m= .panicking [{v:=bA,recovered:=false}]
def sF.mono{aJ:bN}(hle:ad.le aJ)(h:sF ad m md):sF aJ m md:=by
 cases m with
 |none=>exact h
 |some v=>obtain⟨y,Y,G⟩:=h;exact⟨y,Y.mono hle,G⟩
def sF.Qd(h:sF ad m md):md≠.run:=by
 cases m with
 |none=>rw[show md= .returning from h];simp
 |some v=>have⟨y,_,G⟩:=h;rw[G];simp
theorem yM(u:w0 X call):∀(aU:ac Deferred) (m:be bv) (st:ao) (r:be bv×ao),jJ call aU m st=some r->∀(ad:bN) (w:d9) (F:Frame) (cs:ac Frame),tr ad aU F.defers->sF ad m F.mode->bZ X ad st w->
 ∃aJ aG md,Steps X.P (lone F cs w) (lone {F with defers:=[],mode:=md} cs aG)/\sF aJ r.1 md/\bZ X aJ r.2 aG/\ei ad aJ w aG
 |[],m,st,r,h,ad,w,F,cs,S,hm,hw=>by
  have D:=h;cases D;have U:F.defers=[]:=by
   cases z:F.defers with
   |nil=>rfl
   |cons d aU=>rw[z]at S;exact S.elim
  refine⟨ad,w,F.mode,?_,hm,hw,.refl _ _⟩;have:({F with defers:=[],mode:=F.mode}:Frame)=F:=by cases F;subst U;rfl
  rw[this];exact .refl _ _
 |⟨t,args⟩::aU,m,st,r,h,ad,w,F,cs,S,hm,hw=>by
  cases z:F.defers with
  |nil=>rw[z]at S;exact S.elim
  |cons e es=>
   rw[z]at S;obtain⟨⟨aP,ai⟩,aq⟩:=S;cases t with
   |collected a4=>
    cases ab:e.target with
    |collected qp=>
     rw[ab]at ai;simp[jJ]at h;split at h
     .rename_i aD;rw[jq]at h;obtain⟨l,aB,_,_,a3⟩:=hw.eJ _ _ aD az;cases ai.symm.trans aB;rcases a3 with⟨_,aK⟩|⟨ah,_⟩
      .have aT:=hw.fY _ _ aB;have aV:(Instr.takeDeferred qp).run X.P w= .ok [] (w.putObj qp<|.deferred none):=run_takeDeferred aK;obtain⟨K,a0⟩:=hw.yB X aD az (λaL=>aL) aB (.j3 none) (.deferred none) (w.putObj qp<|.deferred none) o λ_ aN=>⟨o,o,.inr ⟨o,aN⟩⟩;obtain⟨aJ,aG,md,M,aa,B,bj⟩:=yM u aU m _ r h ad _ {F with defers:=[]++es} cs (by simpa using aq) hm K;exact⟨aJ,aG,md,.head (step_collected (cs:=cs) hm.Qd z ab aV) M,aa,B,a0.trans bj⟩
      .cases ah
     .cases h
    |_=>rw[ab]at ai;exact ai.elim
   |fn a1 ax=>
    cases ab:e.target with
    |fn a5 j=>
     rw[ab]at ai;obtain⟨aF,aH⟩:=ai;cases a1 with
     |func g=>
      rcases aF with⟨rfl,_⟩|⟨l,b,Y,_⟩
      .have aA:call (.func (.func g) #[] ax) args.toList m st≠.no:=by
        intro aW;simp only[jJ,aW]at h;cases h
       obtain⟨aI,A⟩:=u ad g #[] ax args.toList m st #[] j e.args.toList w (bO.nil ad) aP aH hw aA;have aZ:(invoke e.target e.args).run X.P w= .ok (.enter g<|e.args++j) w:=by
        rw[ab];exact aI _ _
       have ay:=step_defer (cs:=cs) hm.Qd z ab aZ;have aQ:(#[]++e.args.toList.toArray++j:bi bv)=e.args++j:=az
       rw[aQ]at A;cases m with
       |none=>
        have aw:F.mode= .returning:=hm;have ae:=A .deferred (λ_=>{F with defers:=es}::cs) (λG O an=>by
         rw[tryRecover_deferred an];simp[recoverD,aw])
        cases ah:call (.func (.func g) #[] ax) args.toList none st with
        |no=>exact absurd ah aA
        |ret v W O=>
         rw[ah]at ae;have D:jJ call aU none W=some r:=by
          exact aqq
         obtain⟨aJ,y,aG,G,_,K,a',av,_,au,M⟩:=ae;have af:=step_going_returned (c:={F with defers:=es}) (cs:=cs) av au;have ak:settle ({F with defers:=es}:Frame).mode= .returning:=by
          rw[aw];rfl
         rw[ak]at af;exact aoS
        |aY v W O=>
         rw[ah]at ae;have D:jJ call aU (some v) W=some r:=by
          exact aqq
         obtain⟨aJ,y,aG,G,aM,K,a',av,_,au,M⟩:=ae;have af:=step_going_panicked (c:={F with defers:=es}) (cs:=cs) au;have ak:raised ({F with defers:=es}:Frame).mode [{v:=y,recovered:=false}]= .panicking [{v:=y,recovered:=false}]:=by
          rw[aw];rfl
         rw[ak]at af;obtain⟨J,s,md,aj,aa,B,bj⟩:=yM u aU (some v) W r D aJ aG {{F with defers:=es}with mode:=.panicking [{v:=y,recovered:=false}]} cs (aq.mono a'.le) ⟨y,aM,o⟩ K;exact ao3
       |some H=>
        obtain⟨C,aC,aw⟩:=hm;have ae:=A .deferred (λO=>{F with defers:=es,mode:=.panicking [{v:=C,recovered:=O}]}::cs) ⟨C,aC,λG an=>by
         have aO:=an;rw[tryRecover_deferred aO];simp[recoverD],λG an=>by
         rw[tryRecover_deferred an];simp[recoverD]⟩
        have a2:({F with defers:=es,mode:=.panicking [{v:=C,recovered:=false}]}:Frame)={F with defers:=es}:=by grind
        rw[a2]at ae;cases ah:call (.func (.func g) #[] ax) args.toList (some H) st with
        |no=>exact absurd ah aA
        |ret v W O=>
         rw[ah]at ae;obtain⟨aJ,y,aG,G,_,K,a',av,_,au,M⟩:=ae;have af:=step_going_returned (c:={F with defers:=es,mode:=.panicking [{v:=C,recovered:=O}]}) (cs:=cs) av au;cases O with
         |true=>
          have D:jJ call aU none W=some r:=by
           exact aqq
          have ak:settle ({F with defers:=es,mode:=.panicking [{v:=C,recovered:=true}]}:Frame).mode= .returning:=rfl;exact aoS
         |false=>
          have D:jJ call aU (some H) W=some r:=by
           exact aqq
          have ak:settle ({F with defers:=es,mode:=.panicking [{v:=C,recovered:=false}]}:Frame).mode= .panicking [{v:=C,recovered:=false}]:=rfl;obtain⟨J,s,md,aj,aa,B,bj⟩:=yM u aU (some H) W r D aJ aG {{F with defers:=es}with mode:=.panicking [{v:=C,recovered:=false}]} cs (aq.mono a'.le) ⟨C,aC.mono a'.le,o⟩ K;exact ao3
        |aY v W O=>
         exfalso;simp only[jJ,ah]at h;cases h
      .cases Y
     |_=>simp[jJ]at h
    |_=>rw[ab]at ai;exact ai.elim
   |_=>simp[jJ]at h
section
variable{P:f7}{b:dQ}{a:Act}{k:ac Item}{cs:ac Frame}{w:d9}
def dQ.returns(b:dQ)(a:Act)(S:ac Item):Frame:={b.at a S with mode:=.returning}
def Qe(aa:b.b7=none):step P (lone (b.at a []) cs w)= .next (lone (b.returns a []) cs w):=step_lone_go asd
def Qf(aa:b.b7=none):step P (lone (b.at a<|.code .ret::k) cs w)= .next (lone (b.returns a<|.code .ret::k) cs w):=step_lone_go asd
end
theorem Qg:∀(ab:ac bv) (i:Nat) (t:ar bv) (j:Nat),(lF ab i t).get j=if i<=j/\j<i+ab.length then ab[j-i]? else t.get j
 |[],i,t,j=>by rw[au az];rfl
 |v::ab,i,t,j=>by
  show(ar.jc (Nat.succ i) t i v λt=>lF ab (Nat.succ i) t).get j=_;rw[ar.wN,Qg ab (Nat.succ i) _ j,ar.eP]
  grind
def Qh{as hq:ac bv}{aR:Nat}{aY:be bv}{O:Bool}{b7:be Nat}(h:bO ad as hq)(aj:as.length<=aR):
 e1 ad ⟨lF as 0 .nil,[],aY,O,b7⟩ ⟨hq.toArray++Array.replicate (aR-hq.toArray.size) undef,[]⟩ aR:=by
 refine⟨λt=>?_,by simp[<-h.1];omega,aP⟩;show bo ad (Option.rec (.chan<|some 0) (λv=>v)<|(lF as 0 .nil).get t) _;rw[Qg];by_cases aN:t<as.length
 .rw[aA ⟨dg _,J⟩];have A:t<hq.length:=by rwa [<-h.1]
  have:=h.2 t aN A;simp only[uM,ba aN];have d:(hq.toArray++Array.replicate (aR-hq.toArray.size) undef).getD t undef=hq[t]:=by
   simp[Array.getElem?_append,A]
  rw[d];exact this
 .rw[au J];exact .top _
section
variable{b:dQ}{bu:Bool->ac Frame}{ad:bN}{I:aO}{a:Act}{aR:Nat}{st:ao}{w:d9}
theorem yN(u:w0 X call){Fn:Func}{res:ac gU}{F:Frame}(U:X.P.funcs[b.fn]? =some Fn)(S:tw X res Fn.results.toList=true)(D:e1 ad I a aR)(hw:bZ X ad st w)
 (aE:F.tmps=a.tmps) (aK:F.defers=a.defers) (J:F.kind=b.kind) (G:F.fn=b.fn) (hm:sF ad m F.mode):hP X ad w b bu (lone F (bu I.cU) w) (fS call res m I st):=by
 rw[fS];cases h:jJ call I.di m st with
 |none=>trivial
 |some p=>
  have⟨O,al⟩:=p;have⟨aJ,aG,md,M,g,B,bj⟩:=yM u I.di m st (O,al) h ad w F (bu I.cU) (by rw[aK];exact D.di) hm hw;cases O with
  |some v=>
   have⟨y,d,W⟩:=g;exact⟨aJ,y,aG,{F with defers:=[],mode:=md},d,B,bj,J,G,⟨W,o,Fn,by rwa [G]⟩,M⟩
  |none=>
   show hP X ad w b bu _ (bx (qe I al res) (λK=>one K (λv=>.ret v al I.cU)<|.ret (.tuple ⟨K⟩) al I.cU) .no);cases A:qe I al res with
   |none=>trivial
   |some out=>
    have C:e1 aJ ⟨I.t,[],I.aY,I.cU,I.b7⟩ ⟨a.tmps,[]⟩ aR:=⟨λt=>(D.tmp t).mono bj.le,D.size,aP⟩;obtain⟨y,d,j⟩:=ab8 S C B<|A;have r:bx (some out) (λK=>one K (λv=>ev.ret v al I.cU)<|.ret (.tuple ⟨K⟩) al I.cU) .no= .ret (one out (λv=>v)<|.tuple ⟨out⟩) al I.cU:=by
     cases out with
     |nil=>rfl
     |cons x xs=>cases xs<;>rfl
    rw[r];refine⟨aJ,y,aG,{F with defers:=[],mode:=md},d,B,bj,J,G,⟨g,o,Fn,by rwa [G],?_⟩,M⟩
    grind
structure vl(X:Ctx)(f:d8)(a7:c7)(Fn:Func)(c:Code):Prop where
 fn:X.P.funcs[f]? =some Fn
 body:Fn.body=some c
 aR:Fn.ntmps=a7.aR
 code:codeOk X a7.aR a7.body c=true
 res:tw X a7.res Fn.results.toList=true
 name:(Fn.name== "runtime.NumGoroutine")=false
variable{f:d8}{a7:c7}{Fn:Func}{body:Code}
def vl.enters(h:vl X f a7 Fn body)(as:bi bv)(w:d9):(callFunc f as).run X.P w= .ok (.enter f as) w:=by
 simp only[callFunc,Sem.run_bind];simp[h.fn,h.body,h.name,Result.andThen]
theorem JD(J:Good X)(O:nh X call)(u:w0 X call)(D:∀b aR bu,b.b7=none->yL X call b aR bu)(ok:vl X f a7 Fn body)(n:Nat){K:CallKind}{as hq:ac bv}{aY:be bv}
 (a':bO ad as hq) (hw:bZ X ad st w) (aw:jO ⟨f,K,none⟩ aY ad bu):hP X ad w ⟨f,K,none⟩ bu (lone (Frame.enter X.P f hq.toArray K) (bu false) w) (iF call n f a7 as aY st):=by
 rw[iF,l0];split
 .rename_i d;rw[fi]at d
  let b:dQ:=⟨f,K,none⟩
  have U:Frame.enter X.P f hq.toArray K=b.at ⟨hq.toArray++Array.replicate (a7.aR-hq.toArray.size) undef,[]⟩ [.code body]:=by
   simp[Frame.enter,dQ.at,ok.fn,ok.body,ok.aR,b]
  rw[U];have j:=Fg J O (D b a7.aR bu o) ⟨Fn,ok.fn,ok.aR⟩ n a7.body body ad ⟨lF as 0 .nil,[],aY,false,none⟩ ⟨hq.toArray++Array.replicate (a7.aR-hq.toArray.size) undef,[]⟩ st w [] ok.code (Qh a' d) hw (.inl e9) aw;cases h:dh call n f a7.body ⟨lF as 0 .nil,[],aY,false,none⟩ st with
  |no=>trivial
  |out e bC al=>
   rw[h]at j;have⟨aJ,H,aG,Y,G,C,_,_,B⟩:=j;cases e with
   |norm=>
    exact aqN
   |exit id=>trivial
   |ret=>
    exact apI
   |aY v=>
    have⟨y,S,g,M⟩:=B;exact hP.head M C<|yN u ok.fn ok.res Y G o o o o ⟨y,g,o⟩
 .trivial
end
def Fh{β:Type}{R:be bG}{k:LoopState->be c6->d8->ar bv->ac Tmp->dz->dz->Nat->β}{z r:β}(h:na R k z=r)(aH:z≠r):
 ∃s gA fn t bd a b d,R=some (.loop s gA fn t bd a b d)/\k s gA fn t bd a b d=r:=by
 have⟨J,ay,Y⟩:=ig h aH;cases J<;>first|exact absurd Y aH|exact⟨_,_,_,_,_,_,_,_,ay,Y⟩
section
variable{P:f7}{b:dQ}{a:Act}{k:ac Item}{c:Frame}{cs:ac Frame}{w aG:d9}{l:Nat}
def ab9(aa:b.b7=some l)(h:(Instr.beginRound l).run P w= .ok () aG):step P (lone (b.at a<|.beginRound::k) cs w)= .next (lone (b.at a k) cs aG):=
 step_lone_go<|by simp[stepG,stepG.exec,stepG.apply,dQ.at,aa,h,Frame.finish]
def aca{v:bv}{i:Nat}(aa:b.b7=some l)(aB:b.kind= .normal)(O:exitTo i k=none)(h:(Instr.endRound l<|some<|.exit i).run P w= .ok v aG):step P (lone (b.at a<|.code (.exit i)::k) (c::cs) w)= .next (lone (c.finish v) cs aG):=
 step_lone_go<|by simp[stepG,stepG.exec,dQ.at,aa,aB,O,h,doReturn]
end
variable{w:d9}{l bq:Nat}{gA:be c6}{t:ar bv}{bd:ac Tmp}{ek body:dz}
theorem Qi{ad:bN}:∀(bd:ac Tmp) (ab W:ac bv) (m:ar bv) (arr:bi bv),(∀n,bo ad (yA m n)<|arr.getD n undef)->bO ad ab W->ab.length=bd.length->(∀t∈bd,t<arr.size)->
 (∀n,bo ad (yA (pw bd ab m) n)<|((bd.zip W).foldl (λtmps (p:Tmp×bv)=>tmps.setIfInBounds p.1 p.2) arr).getD n undef)/\((bd.zip W).foldl (λtmps (p:Tmp×bv)=>tmps.setIfInBounds p.1 p.2) arr).size=arr.size
 |[],_,_,m,arr,h,_,_,_=>⟨h,o⟩
 |t::bd,[],_,_,_,_,_,aI,_=>by simp at aI
 |t::bd,v::ab,W,m,arr,h,d,aI,aT=>by
  obtain⟨y,aS,rfl,aE,aK⟩:=d.cons_inv;have j:∀n,bo ad (yA (m.set t v) n) ((arr.setIfInBounds t y).getD n undef):=by
   intro n;have aj:=h n;unfold yA at aj⊢;rw[ar.eP];by_cases e:n=t
   .simp_all
   .rw[au e];have:(arr.setIfInBounds t y).getD n undef=arr.getD n undef:=by
     simp[Ie<|Ne.symm e]
    rw[this];exact aj
  have⟨r,B⟩:=Qi bd ab aS (m.set t v) (arr.setIfInBounds t y) j aK as4 (λu g=>by simpa using aT u (e3 _ g));have hp:pw (t::bd) (v::ab) m=pw bd ab (m.set t v):=by
   show ar.jc (Nat.succ t) m t v (λm=>pw bd ab m)=_;rw[ar.wN]
  simp_all
theorem bZ.loop{st:ao}(hw:bZ X ad st w){s:LoopState}{fn:d8}{d:Nat}(h:st.h.get l=some (.loop s gA fn t bd ek body d))(aI:ad l=some ⟨bq,0,0,id⟩):
 ∃L:Loop,w.heap[bq]? =some (.loop L)/\L.state=s/\EF gA L.pending/\L.fn=fn/\(∀n,bo ad (yA t n)<|L.tmps.getD n undef)/\L.params.toList=bd/\X.ok fn L.assign ek/\X.ok fn L.body body/\ad d=some ⟨L.defers,0,0,id⟩/\
  (∃F,X.P.funcs[fn]? =some F/\L.tmps.size=F.ntmps)/\∀t∈bd,t<L.tmps.size:=by
 have⟨m,hm,_,_,L,u⟩:=hw.eJ _ _ h az
 grind
def bZ.JE{st:ao}(hw:bZ X ad st w){s:LoopState}{fn:d8}{d:Nat}(h:st.h.get l=some (.loop s gA fn t bd ek body d))(aI:ad l=some ⟨bq,0,0,id⟩)
 {L:Loop} (u:w.heap[bq]? =some (.loop L)) (J:LoopState) (S:be c6) (y:be Code) (a3:EF S y):
 bZ X ad ⟨st.h.set l<|.loop J S fn t bd ek body d,st.ag⟩ (w.putObj bq<|.loop {L with state:=J,pending:=y})/\ei ad ad w (w.putObj bq<|.loop {L with state:=J,pending:=y}):=by
 have⟨A,j,Y,G,C,r,z,B,M,K,W,g⟩:=hw.loop h aI;rw[u]at j;cases j;exact hw.yB X h az (λD=>D) aI _ (.loop {L with state:=J,pending:=y}) _ o λ_ aN=>⟨o,o,{L with state:=J,pending:=y},aN,o,a3,C,r,z,B,M,K,W,g⟩
section
variable{ad:bN}{st:ao}{w:d9}
def acb{b:dQ}{aR:Nat}{Fn:Func}{c:Frame}{cs:ac Frame}{s:Machine}{e4:aO}{aJ:bN}{fj:d9}{r:cO}(M:X.P.funcs[b.fn]? =some Fn)(a':b.b7=some bq)(G:b.kind= .normal)(aI:aJ l=some ⟨bq,0,0,id⟩)
 (h:gl X b aR (λ_=>c::cs) s [] e4 aJ fj r):
 match rb l r with
 |.ret v al _=>∃cP bA aG,bo cP v bA/\bZ X cP al aG/\ei aJ cP fj aG/\Steps X.P s (lone (c.finish bA) cs aG)
 |.aY v al _=>∃cP bA aG,bo cP v bA/\bZ X cP al aG/\ei aJ cP fj aG/\Steps X.P s (lone (c.raise [{v:=bA,recovered:=false}]) cs aG)
 |.no=>True:=by
 cases r with
 |no=>trivial
 |out e I st=>
  have⟨cP,a,w,D,hw,ab,_,_,O⟩:=h;have j:=ab.le _ _ aI;cases z:I.di with
  |cons d C=>
   have:rb l (.out e I st)= .no:=aoZ
   rw[this];trivial
  |nil=>
   have U:a.defers=[]:=by
    have:=D.di;rw[z]at this;cases ai:a.defers with
    |nil=>rfl
    |cons d C=>rw[ai]at this;exact this.elim
   have key:∀(J:LoopState) gA y v,EF gA y->
    (∀L,w.heap[bq]? =some (.loop L)->∃aG,aG=w.putObj bq (.loop {L with state:=J,pending:=y})/\Steps X.P s (lone (c.finish v) cs aG))->bo cP v v->
    match na (st.h.get l) (λ_ _ fn t bd a b d=>st.hf l (.loop J gA fn t bd a b d) λst=>ev.ret v st false) .no with
    |.ret v al _=>∃cP bA aG,bo cP v bA/\bZ X cP al aG/\ei aJ cP fj aG/\Steps X.P s (lone (c.finish bA) cs aG)
    |.aY v al _=>∃cP bA aG,bo cP v bA/\bZ X cP al aG/\ei aJ cP fj aG/\Steps X.P s (lone (c.raise [{v:=bA,recovered:=false}]) cs aG)
    |.no=>True:=by
    intro J gA y v A ah aa;by_cases B:na (st.h.get l) (λ_ _ fn t bd a b d=>st.hf l (.loop J gA fn t bd a b d) λst=>ev.ret v st false) .no= .no
    .rw[B];trivial
    .have⟨ax,av,aj,t0,an,ak,ao,d0,H,Y⟩:=Fh o λe=>B e.symm;rw[<-Y,jq];have⟨L,u,_⟩:=hw.loop H j;have⟨aG,K,W⟩:=ah L u;have⟨aq,ae⟩:=hw.JE H j u J gA y A;exact⟨cP,v,aG,aa,by rwa [K],by rw[K];exact ab.trans ae,W⟩
   cases e with
   |norm=>
    have:rb l (.out .norm I st)=na (st.h.get l) (λ_ _ fn t bd a b d=>st.hf l (.loop .ready none fn t bd a b d) λst=>ev.ret (.bool true) st false) .no:=by
     exact aoZ
    simpa[this]using key .ready none none (.bool true) aP (λL u=>⟨_,o,Steps.trans O<|.one<|step_lone_go<|by simp[stepG,stepG.exec,dQ.at,a',G,(run_endRound none u),doReturn]⟩) (.bool true)
   |exit i=>
    have:rb l (.out (.exit i) I st)=na (st.h.get l) (λ_ _ fn t bd a b d=>st.hf l (.loop .done (some<|.exit i) fn t bd a b d) λst=>ev.ret (.bool false) st false) .no:=by
     exact aoZ
    rw[this];have⟨S,af,g⟩:=O;exact key .done (some<|.exit i) (some<|.exit i) (.bool false) o (λL u=>⟨_,o,Steps.trans g<|.one<|aca a' G (by rw[af];rfl)<|run_endRound (some<|.exit i) u⟩) (.bool false)
   |ret=>
    have:rb l (.out .ret I st)=na (st.h.get l) (λ_ _ fn t bd a b d=>st.hf l (.loop .done (some .ret) fn t bd a b d) λst=>ev.ret (.bool false) st false) .no:=by
     exact aoZ
    rw[this];have⟨S,g⟩:=O;exact key .done (some .ret) (some .ret) (.bool false) aP (λL u=>⟨_,o,Steps.trans g<|.one<|step_lone_go<|by simp[stepG,stepG.exec,dQ.at,a',G,(run_endRound (some .ret) u),doReturn]⟩) (.bool false)
   |aY v=>
    have:rb l (.out (.aY v) I st)= .aY v st false:=by
     exact aoZ
    rw[this];have⟨bA,S,aa,g⟩:=O;refine⟨cP,bA,w,aa,hw,ab,Steps.trans g<|.one<|step_leave_panicked ⟨o,U,Fn,M⟩⟩
theorem acd(J:Good X)(Y:nh X call)(D:∀b aR bu,yL X call b aR bu){n:Nat}{args g:ac bv}(aI:ad l=some ⟨bq,0,0,id⟩)(bK:bO ad args g)(hw:bZ X ad st w)(O:wM call n l args st≠.no):
 ∃fn aF ek body,(Instr.yield bq g.toArray).run X.P w= .ok (.round bq fn aF ek body) w/\∀c cs,E5 X ad w (Frame.round bq fn aF ek body .normal) c cs (wM call n l args st):=by
 unfold wM at O⊢;have⟨s,gA,fn,t,bd,ek,body,d,a8,a2⟩:=Fh o λe=>O e.symm;rw[<-a2]at O⊢;have⟨hlen,a3⟩:=kG o λe=>O e.symm;rw[<-a3]at O⊢;rw[fi,fi]at hlen;have⟨L,aV,bf,A,a1,H,ba,aD,aB,bg,⟨Fn,ak,K⟩,aT⟩:=hw.loop a8 aI;have aN:g.toArray.size=L.params.size:=by
  have:L.params.size=bd.length:=by grind
  rw[this,<-hlen];simpa using bK.1.symm
 refine⟨L.fn,_,L.assign,L.body,run_yield aV aN,λc cs=>?_⟩;subst a1;have⟨a4,r⟩:=Qi bd args g t L.tmps H bK hlen aT;have au:(L.params.zip g.toArray).foldl (λab (x:Tmp×bv)=>ab.setIfInBounds x.1 x.2) L.tmps=(bd.zip g).foldl (λab (p:Tmp×bv)=>ab.setIfInBounds p.1 p.2) L.tmps:=by
  rw[<-Array.foldl_toList,Array.toList_zip,ba]
 let b:dQ:=⟨L.fn,.normal,some bq⟩
 let BC:=(L.params.zip g.toArray).foldl (λab (x:Tmp×bv)=>ab.setIfInBounds x.1 x.2) L.tmps
 have⟨bm,ax,aU⟩:=(J.2 _ _ _).1 aD;have⟨js,ay,aA⟩:=(J.2 _ _ _).1 aB;rw[ak]at ax ay;cases ax;cases ay;have aK:e1 ad ⟨pw bd args t,[],none,false,some l⟩ ⟨BC,[]⟩ Fn.ntmps:=by
  refine⟨λu=>?_,?_,aP⟩
  .have:=a4 u
   rwa [<-au]at this
  .show BC.size=_;rw[<-K,<-r,<-au]
 have av:∀aY:be bv,aY=none->∀aJ,jO b aY aJ (λ_=>c::cs):=by
  rintro _ rfl aJ F bk U;simp[tryRecover,U]
 have aq:=Fg J Y (D b Fn.ntmps _) ⟨Fn,ak,o⟩ n ek L.assign ad ⟨pw bd args t,[],none,false,some l⟩ ⟨BC,[]⟩ st w [.beginRound,.code L.body] aU aK hw (.inr ⟨l,bq,o,o,aI⟩)<|av _ o ad;generalize dh call n L.fn ek ⟨pw bd args t,[],none,false,some l⟩ st=dX at aq O⊢;cases dX with
 |no=>exact absurd o O
 |out e a' W=>
  have⟨aJ,eV,fj,bb,aw,G,b',a0,aH⟩:=aq;cases e with
  |exit _=>exact absurd o O
  |ret=>exact absurd o O
  |aY _=>exact absurd o O
  |norm=>
   have M:yt call n l L.fn body a' W≠.no:=O;show E5 X ad w _ c cs (yt call n l L.fn body a' W);unfold yt at M⊢;have⟨s1,aa,ai,t1,aj,ae,ah,d1,ao,aL⟩:=Fh o λe=>M e.symm;rw[<-aL]at M⊢;cases s1 with
   |busy=>exact absurd o M
   |done=>exact absurd o M
   |exhausted=>exact absurd o M
   |ready=>
    have j:=G.le _ _ aI;have⟨an,C,a5,z,bc,_⟩:=aw.loop ao j;have aZ:(Instr.beginRound bq).run X.P fj= .ok () (fj.putObj bq<|.loop {an with state:=.busy}):=run_beginRound C a5;have aO:=ab9 (b:=b) (a:=eV) (k:=[.code L.body]) (cs:=c::cs) o aZ;have⟨aC,a6⟩:=aw.JE ao j C .busy aa an.pending z;have a9:=Steps.trans aH<|.one aO;have S:=G.trans a6;have az:=acb ak o o j<|Fg J Y (D b Fn.ntmps _) ⟨Fn,ak,o⟩ n body L.body aJ a' eV ⟨W.h.set l<|.loop .busy aa ai t1 aj ae ah d1,W.ag⟩ (fj.putObj bq<|.loop {an with state:=.busy}) [] aA bb aC (by rw[a0];exact .inr ⟨l,bq,o,o,j⟩)<|av _ b' aJ;rw[jq];have bl:dh call n b.fn body a' ⟨W.h.set l<|.loop .busy aa ai t1 aj ae ah d1,W.ag⟩=dh call n L.fn body a' ⟨W.h.set l<|.loop .busy aa ai t1 aj ae ah d1,W.ag⟩:=rfl;generalize rb l (dh call n L.fn body a' ⟨W.h.set l<|.loop .busy aa ai t1 aj ae ah d1,W.ag⟩)=aM at az⊢;cases aM with
    |no=>trivial
    |_=>obtain⟨cP,y,aG,aW,B,bj,dj⟩:=az;exact⟨cP,y,aG,aW,B,S.trans bj,a9.trans dj⟩
end
section
variable{P:f7}{b:dQ}{a:Act}{k:ac Item}{cs:ac Frame}{w fj:d9}{f:ce}{bd:bi Tmp}{ek body:Code}{l:Nat}{mark:ac Deferred}
def Qj(o:b.b7=none):(Frame.eval {fn:=b.fn,tmps:=a.tmps,todo:=.inRangeFunc l::k,defers:=mark++a.defers,mode:=.run,kind:=b.kind,roundOf:=none}) f=a.eval f:=by cases f<;>rfl
def Qk{v:bv}:a.eval (.const v)=v:=rfl
def ace(aa:b.b7=none)(h:(Instr.enterLoop b.fn a.tmps bd ek body none).run P w= .ok (l,mark) fj){g:d8}{as:bi bv}
 (aw:((do let d<-Deferred.ofValue (a.eval f) #[.func (.yield l) #[] #[]];invoke d.target d.args):Sem Next).run P fj= .ok (.enter g as) fj):
 step P (lone (b.at a<|.code (.rangeFunc f bd ek body)::k) cs w)= .next (lone (Frame.enter P g as .normal) (b.at {a with defers:=mark++a.defers} (.inRangeFunc l::k)::cs) fj):=by
 exact apM
def acf(aa:b.b7=none)(h:(Instr.enterLoop b.fn a.tmps bd ek body none).run P w= .ok (l,mark) fj){u:Nat}{g:d8}{aF:bi bv}{y o:Code}
 (aw:((do let d<-Deferred.ofValue (a.eval f) #[.func (.yield l) #[] #[]];invoke d.target d.args):Sem Next).run P fj= .ok (.round u g aF y o) fj):
 step P (lone (b.at a<|.code (.rangeFunc f bd ek body)::k) cs w)= .next (lone (Frame.round u g aF y o .normal) (b.at {a with defers:=mark++a.defers} (.inRangeFunc l::k)::cs) fj):=by
 exact apM
def acg{y:be Code}(h:(Instr.endLoop l).run P w= .ok y fj):step P (lone (b.at a<|.endRangeFunc l::k) cs w)= .next (lone (b.at a<|(y.map Item.code).toList++k) cs fj):=
 step_lone_go<|by simp[stepG,stepG.exec,dQ.at,h]
end
theorem w1(bk:nh X call)(b:dQ)(aR:Nat)(bu:Bool->ac Frame):yL X call b aR bu:=by
 intro f bd ek body aB aC ad I a st w k bf aT aK a8 a5 D hw aa aw;unfold A5;cases r:I.b7 with
 |some _=>trivial
 |none=>
  have aL:b.b7=none:=by
   rcases aa with⟨_,h⟩|⟨l,bq,h,_⟩
   .exact h
   .rw[r]at h;cases h
  obtain⟨Fn,aK,bb⟩:=aK;have U:=run_enterLoop_outer (P:=X.P) (w:=w) b.fn a.tmps bd aB aC;obtain⟨bF,bl,aW,Y,_⟩:=bZ.alloc X hw (.j3<|some []) (.deferred<|some []) 0 (λaJ aG _ _ aN=>⟨o,o,.inl ⟨o,aN⟩⟩) (w.alloc<|.deferred<|some []) o
  let L:Loop:={state:=.ready,pending:=none,fn:=b.fn,tmps:=a.tmps,params:=bd,assign:=aB,body:=aC,defers:=w.heap.size}
  obtain⟨a4,a6,aZ,G,_⟩:=bZ.alloc X bl (.loop .ready none b.fn I.t bd.toList ek body st.ag) (.loop L) 0 (λaJ aG hle _ aN=>⟨o,o,L,aN,o,aP,o,λn=>(D.tmp n).mono<|aW.le.trans hle,o,a8,a5,hle _ _ Y,⟨Fn,aK,by rw[bb];exact D.size⟩,λt aN=>by rw[D.size];exact aT t aN⟩)
   ((w.alloc<|.deferred<|some []).alloc<|.loop L) o
  rw[gV,gV];have S:=aW.trans aZ;rw[(World.size_alloc _ _)]at G
  let gW:ao:=⟨(st.h.set st.ag<|.j3<|some []).set (st.ag+1)<|.loop .ready none b.fn I.t bd.toList ek body st.ag,st.ag+1+1⟩
  let bC:aO:=⟨I.t,{target:=.collected st.ag,args:= #[]}::I.di,I.aY,I.cU,none⟩
  let H:Act:={a with defers:=[{target:=.collected w.heap.size,args:= #[]}]++a.defers}
  have aV:e1 a4 bC H aR:=⟨λt=>(D.tmp t).mono S.le,D.size,⟨⟨bO.nil _,aZ.le _ _ Y⟩,D.di.mono S.le⟩⟩;have bz:=bo.A6 (.inr ⟨_,_,o,o,G⟩) (bO.nil _)<|bO.nil _;by_cases aH:call (I.aq f) [.func (.yield<|st.ag+1) #[] #[]] none gW= .no
  .rw[aH];trivial
  obtain⟨en,bj,bp⟩:=bk a4 (I.aq f) [.func (.yield<|st.ag+1) #[] #[]] gW (a.eval f) [.func (.yield<|w.heap.size+1) #[] #[]] _ ((D.aq hw bf).mono S.le) (bO.cons bz<|bO.nil _) a6 aH;have a1:step X.P (lone (b.at a<|.code (.rangeFunc f bd aB aC)::k) (bu I.cU) w)= .next (lone en (b.at H (.inRangeFunc (w.heap.size+1)::k)::bu I.cU)<|(w.alloc<|.deferred<|some []).alloc<|.loop L):=by
   cases bj with
   |enter g as M=>exact ace aL U M
   |round bD g aF bA bB M=>exact acf aL U M
  have ay:=bp (b.at H<|.inRangeFunc (w.heap.size+1)::k)<|bu I.cU;have B:bC.aY=I.aY:=rfl;have aA:=r.symm;cases ah:call (I.aq f) [.func (.yield<|st.ag+1) #[] #[]] none gW with
  |no=>exact absurd ah aH
  |aY v ai O=>
   rw[ah]at ay;obtain⟨aJ,y,aG,aU,K,a',M⟩:=ay;exact⟨aJ,H,aG,aV.mono a'.le,K,S.trans a',B,aA,y,_,aU,Steps.head a1 M⟩
  |ret v ai O=>
   rw[ah]at ay;obtain⟨aJ,y,aG,aU,K,a',M⟩:=ay;have bE:(b.at H<|.inRangeFunc (w.heap.size+1)::k).finish y=b.at H (.endRangeFunc (w.heap.size+1)::k):=rfl;have W:=a'.le _ _ G;show gl X b aR bu _ k I ad w (na (ai.h.get<|st.ag+1) (λs gA aM t bd a b d=>
    LoopState.rec
    (ai.hf (st.ag+1) (.loop .exhausted gA aM t bd a b d) λst=>bx gA (λe=>.out e bC st)<|.out .norm bC st)
    .no
    (ai.hf (st.ag+1) (.loop .exhausted gA aM t bd a b d) λst=>bx gA (λe=>.out e bC st)<|.out .norm bC st)
    .no s) .no)
   generalize bs:na _ _ _=res;by_cases aj:res= .no
   .rw[aj];trivial
   obtain⟨ax,u,a9,t0,bc,b',bg,bh,a0,C⟩:=Fh bs λe=>aj e.symm;obtain⟨ak,a2,bn,z,_⟩:=K.loop a0 W;have key:ax≠.busy->(ai.hf (st.ag+1) (.loop .exhausted u a9 t0 bc b' bg bh) λst=>bx u (λe=>cO.out e bC st)<|.out .norm bC st)=res->gl X b aR bu (lone (b.at a<|.code (.rangeFunc f bd aB aC)::k) (bu I.cU) w) k I ad w res:=by
    intro bH A;rw[jq]at A;have br:(Instr.endLoop<|w.heap.size+1).run X.P aG= .ok ak.pending (aG.putObj (w.heap.size+1)<|.loop {ak with state:=.exhausted}):=run_endLoop a2 (by rwa [bn]);obtain⟨ae,ba⟩:=K.JE a0 W a2 .exhausted u ak.pending z;have J:=(Steps.head a1 M).trans<|.one<|acg (b:=b) (a:=H) (k:=k) (cs:=bu I.cU) br;have ab:=(S.trans a').trans ba;have aD:=aV.mono a'.le;cases u with
    |none=>
     cases hp:ak.pending with
     |some _=>rw[hp]at z;exact z.elim
     |none=>
      rw[<-A];rw[hp]at J ae ab;exact⟨aJ,H,_,aD,ae,ab,B,aA,J⟩
    |some e=>
     rw[<-A];cases hp:ak.pending with
     |none=>rw[hp]at z;cases e<;>exact z.elim
     |some dS=>
      rw[hp]at z J ae ab;cases e with
      |norm=>cases dS<;>exact z.elim
      |aY v=>cases dS<;>exact z.elim
      |exit i=>
       cases dS with
       |exit j=>
        cases z;exact⟨aJ,H,_,aD,ae,ab,B,aA,k,o,J⟩
       |_=>exact z.elim
      |ret=>
       cases dS with
       |ret=>exact⟨aJ,H,_,aD,ae,ab,B,aA,k,J⟩
       |_=>exact z.elim
   cases ax with
   |ready=>exact key az C
   |busy=>exact absurd C.symm aj
   |done=>exact key az C
   |exhausted=>exact absurd C.symm aj
end Go.bI
namespace Go.bI
variable{X:Ctx}
def l8(X:Ctx)(aV:ar c7):Prop:=∀f a7,aV.get f=some a7->∃Fn c,vl X f a7 Fn c
def w2(X:Ctx)(y:ra):Prop:=
 ∀(f:d8) (as:ac bv) (st:ao) (r:ev),y f as st=some r->∀(ad:bN) (W:ac bv) (w:d9),bO ad as W->bZ X ad st w->r≠.no->
  (∀as w,(callFunc f as).run X.P w= .ok (.enter f as) w)/\
  ∀(K:CallKind) (bu:Bool->ac Frame),jO ⟨f,K,none⟩ none ad bu->hP X ad w ⟨f,K,none⟩ bu (lone (Frame.enter X.P f W.toArray K) (bu false) w) r
def nT(aV:ar c7)(y:ra)(n:Nat)(f:d8)(first S:bi bv)(args:ac bv)(aY:be bv)(st:ao):
 cf aV y (n+1) (.func (.func f) first S) args aY st=
  bx aY (λ_=>bx (aV.get f) (λa7=>iF (cf aV y n) n f a7 (e8 first.toList (e8 args S.toList)) aY st) .no)
   (bx (y f (e8 first.toList (e8 args S.toList)) st) (λr=>r)<|bx (aV.get f) (λa7=>iF (cf aV y n) n f a7 (e8 first.toList (e8 args S.toList)) aY st) .no):=rfl
theorem ach{aV:ar c7}{y:ra}(J:Good X)(D:l8 X aV)(a':w2 X y){n:Nat}(u:w0 X (cf aV y n))(aa:nh X (cf aV y n)):w0 X (cf aV y<|n+1):=by
 intro ad f first S args aY st z j g w Y G C hw A
 rw[nT]at A⊢;simp only[rj]at A⊢;have d:=Y.append<|G.append C;have s:(z.toList++(g++j.toList)).toArray=z++g.toArray++j:=by grind
 have h:∀{K:CallKind} {bu:Bool->ac Frame} (a7:c7),aV.get f=some a7->jO ⟨f,K,none⟩ aY ad bu->
  hP X ad w ⟨f,K,none⟩ bu (lone (Frame.enter X.P f (z++g.toArray++j) K) (bu false) w) (iF (cf aV y n) n f a7 (first.toList++(args++S.toList)) aY st):=by
  intro K bu a7 O aw;obtain⟨Fn,c,ok⟩:=D f a7 O
  grind [JD,w1]
 have U:∀a7,aV.get f=some a7->∀as w,(callFunc f as).run X.P w= .ok (.enter f as) w:=by
  intro a7 O as w;obtain⟨Fn,c,ok⟩:=D f a7 O;exact ok.enters as w
 cases aY with
 |some H=>
  cases O:aV.get f with
  |none=>rw[O]at A;exact absurd o A
  |some a7=>exact⟨U a7 O,λK bu aw=>h a7 O aw⟩
 |none=>
  cases ay:y f (first.toList++(args++S.toList)) st with
  |some r=>
   rw[ay]at A;obtain⟨M,B⟩:=a' f _ st r ay ad _ w d hw A;refine⟨M,λK bu aw=>?_⟩;have:=B K bu aw
   rwa [s]at this
  |none=>
   cases O:aV.get f with
   |none=>rw[ay,O]at A;exact absurd o A
   |some a7=>exact⟨U a7 O,λK bu aw=>h a7 O aw⟩
def hP.out{ad:bN}{w:d9}{f:d8}{c:Frame}{cs:ac Frame}{en:Frame}{r:ev}(h:hP X ad w ⟨f,.normal,none⟩ (λ_=>c::cs) (lone en (c::cs) w) r):E5 X ad w en c cs r:=by
 cases r with
 |no=>trivial
 |ret v st O=>
  have⟨aJ,y,aG,F,Y,G,C,d,J,B,M⟩:=h;have⟨j,g,fn,bj,dj⟩:=B;exact⟨aJ,y,aG,Y,G,C,Steps.trans M<|.one<|step_leave_returned ⟨j,g,d,fn,bj,dj⟩⟩
 |aY v st O=>
  have⟨aJ,y,aG,F,Y,G,C,d,J,B,M⟩:=h;exact⟨aJ,y,aG,Y,G,C,Steps.trans M<|.one<|step_leave_panicked B⟩
theorem w3{aV:ar c7}{y:ra}(J:Good X)(a':l8 X aV)(Y:w2 X y):∀n,w0 X (cf aV y n)/\nh X (cf aV y n)
 |0=>⟨λad f first S args aY st z j g w _ _ _ _ O=>absurd o O,λad M args st H g w _ _ _ O=>absurd o O⟩
 |n+1=>by
  obtain⟨aE,aK⟩:=w3 J a' Y n;have C:=ach J a' Y aE aK;exact⟨C,(by
   intro ad M args st H g w h D hw O;obtain⟨fn,first,S,rfl,_⟩:=I0 (r:=cf aV y (n+1) M args none st) o λe=>O e.symm;cases h with
   |func _ G _ aS _ K u eV ew s aa=>
    cases fn with
    |func f=>
     rcases u with⟨rfl,_⟩|⟨l,b,aE,_⟩
     .obtain⟨ai,af⟩:=C ad f first S args none st aS K g w (bO.va eV ew) D (bO.va s aa) hw O
      refine⟨Frame.enter X.P f (aS++g.toArray++K) .normal,.enter f _ ?_,λc cs=>hP.out<|af .normal (λ_=>c::cs) λF an U=>?_⟩
      .simp only[Sem.run_bind];exact ai _ _
      .have A:=U;simp[tryRecover,A]
     .cases aE
    |yield l=>
     have ak:first.toList=[]:=by
      cases W:first.toList with
      |nil=>rfl
      |cons x xs=>
       simp_all
     have aj:S.toList=[]:=by
      cases W:S.toList with
      |nil=>rfl
      |cons x xs=>
       simp_all
     have ae:cf aV y (n+1) (.func (.yield l) first S) args none st=wM (cf aV y n) n l args st:=by
      show List.rec (motive:=λ_=>ev) (List.rec _ _ S.toList) _ first.toList=_
      rw[ak,aj];rfl
     rcases u with⟨_,B⟩|⟨aq,b,aE,aK,C⟩
     .exact absurd o<|B l
     .cases aE;subst aK;rw[ae]at O⊢;obtain⟨fn,aF,ek,body,ab,ah⟩:=acd J aK (λb aR bu=>w1 aK b aR bu) C D hw O;refine⟨_,.round b fn aF ek body ?_,ah⟩;have d:aS= #[]:=by
       grind
      simp[Deferred.ofValue,invoke,d];simpa using ab
    |_=>exact absurd o O)⟩
end Go.bI
namespace Go.bI
variable{α:Type}
def ar.sub(eq:α->α->Bool):ar α->ar α->Bool
 |.nil,_=>true
 |.node l v r,.nil=>v.isNone&&ar.sub eq l .nil&&ar.sub eq r .nil
 |.node l v r,.node bq bA Y=>(match v,bA with|none,_=>true|some x,some y=>eq x y|some _,none=>false)&&ar.sub eq l bq&&ar.sub eq r Y
theorem ar.BD{eq:α->α->Bool}(he:∀x y,eq x y=true->x=y):∀(a b:ar α),ar.sub eq a b=true->∀n x,a.get n=some x->b.get n=some x
 |.nil,_,_,n,x,h=>by simp at h
 |.node l v r,.nil,M,n,x,h=>by
  simp[ar.sub,cQ]at M;exfalso;cases n with
  |zero=>rw[ar.Ey]at h;rw[h]at M;simp at M
  |succ m=>
   rw[ar.px]at h;split at h
   .have:=ar.BD he l .nil M.1.2 _ x h;simp at this
   .have:=ar.BD he r .nil M.2 _ x h;simp at this
 |.node l v r,.node bq d Y,M,n,x,h=>by
  simp[ar.sub,cQ]at M;cases n with
  |zero=>
   rw[ar.Ey]at h⊢
   grind
  |succ m=>
   rw[ar.px]at h⊢;split at h
   .rw[aA qg];exact ar.BD he l bq M.1.2 _ x h
   .rw[au qg];exact ar.BD he r Y M.2 _ x h
def yO:ac f6->ac f6->Bool
 |[],[]=>true
 |e::es,f::b6=>dE e.key f.key&&dE e.val f.val&&Nat.beq e.born f.born&&yO es b6
 |_,_=>false
theorem Ql:∀(es b6:ac f6),yO es b6=true->es=b6
 |[],[],_=>rfl
 |e::es,f::b6,h=>by
  simp only[yO,cQ]at h;have⟨⟨⟨aE,aK⟩,C⟩,d⟩:=h;cases e;rw[Ql es b6 d];simp only at aE aK C;rw[j4 _ _ aE,j4 _ _ aK,dy C]
 |[],_::_,h=>by simp[yO]at h
 |_::_,[],h=>by simp[yO]at h
def Fi:bG->bG->Bool
 |.map es c,.map eY cX=>Nat.beq c cX&&yO es eY
 |.cells cs e D aW,.cells dP U K J=>Nat.beq e U&&Nat.beq D.1 K.1&&Nat.beq D.2 K.2&&(aW==J)&&ps cs dP
 |.j3 none,.j3 none=>true
 |.j3 (some []),.j3 (some [])=>true
 |.dead,.dead=>true
 |_,_=>false
def aci(x y:bG)(h:Fi x y=true):x=y:=by
 unfold Fi at h;split at h
 .rw[cQ]at h;rw[dy h.1,Ql _ _ h.2]
 .simp only[cQ]at h;have⟨⟨⟨⟨Y,G⟩,C⟩,d⟩,J⟩:=h;rename_i D _ _ _ K _;rw[dy Y,(Prod.ext (dy G)<|dy C),AP _ _ J,Av d]
 .rfl
 .rfl
 .rfl
 .cases h
def ao.le(s t:ao):Prop:=s.ag=t.ag/\∀n R,s.h.get n=some R->t.h.get n=some R
variable{t:ao}
def ao.Fj(s t:ao):Bool:=Nat.beq s.ag t.ag&&ar.sub Fi s.h t.h
def ao.acj{s:ao}(h:ao.Fj s t=true):ao.le s t:=by
 rw[ao.Fj]at h;rw[cQ]at h;exact⟨dy h.1,ar.BD aci _ _ h.2⟩
theorem bZ.less{X:Ctx}{ad:bN}{s:ao}{w:d9}(aI:ao.le s t)(h:bZ X ad t w):bZ X ad s w:=by
 refine⟨λid R ay S=>h.eJ id R (aI.2 _ _ ay) S,λi j R p l m af Y A C=>h.inj i j R p l m (aI.2 _ _ af) Y (aI.2 _ _ A) C,λid H=>?_,h.fY,h.k8,?_,λi l R K M ay S=>h.k9 i l R K M (aI.2 _ _ ay) S⟩
 .have:=h.fresh id (by rwa [<-aI.1]);refine⟨this.1,?_⟩;cases e:s.h.get id with
  |none=>rfl
  |some R=>rw[aI.2 _ _ e]at this;cases this.2
 .rw[aI.1];exact h.nP
structure Row where
 as:ac bv
 st:ao
 v:bv
 al:ao
def Row.ru(r:Row)(as:ac bv)(st:ao):Bool:=Nat.beq r.st.ag st.ag&&ps r.as as&&ar.sub Fi r.st.h st.h
variable{X:Ctx}
def gD(X:Ctx)(f:d8)(r:Row):Prop:=
 ∀(ad:bN) (W:ac bv) (w:d9),bO ad r.as W->bZ X ad r.st w->
  (∀as w,(callFunc f as).run X.P w= .ok (.enter f as) w)/\
  ∀(K:CallKind) (bu:Bool->ac Frame),jO ⟨f,K,none⟩ none ad bu->hP X ad w ⟨f,K,none⟩ bu (lone (Frame.enter X.P f W.toArray K) (bu false) w) (.ret r.v r.al false)
variable{v:bv}{al:ao}
def fq(r:ev)(v:bv)(al:ao):Bool:=
 ev.rec (motive:=λ_=>Bool) (λv1 W O=>cond O false<|cond (dE v v1) (ao.Fj al W) false) (λ_ _ _=>false) false r
theorem hP.less{ad:bN}{w:d9}{b:dQ}{bu:Bool->ac Frame}{s:Machine}{st:ao}{O:Bool}(aI:ao.le al st)(h:hP X ad w b bu s (.ret v st O)):hP X ad w b bu s (.ret v al O):=by
 have⟨aJ,y,aG,F,Y,G,C,d,J,B,M⟩:=h;exact⟨aJ,y,aG,F,Y,bZ.less aI G,C,d,J,B,M⟩
def ack{r:ev}(h:fq r v al=true):∃ca,r= .ret v ca false/\ao.le al ca:=by
 cases r with
 |no=>cases h
 |aY a b c=>cases h
 |ret v1 ca O=>
  cases O with
  |true=>cases h
  |false=>
   have D:cond (dE v v1) (ao.Fj al ca) false=true:=h;cases d:dE v v1 with
   |false=>rw[d]at D;cases D
   |true=>
    rw[d]at D;exact⟨ca,by rw[j4 _ _ d],ao.acj D⟩
theorem acm{aV:ar c7}{y:ra}(J:Good X)(o:l8 X aV)(Y:w2 X y){n:Nat}{f:d8}{r:Row}
 (h:fq (cf aV y n (.func (.func f) #[] #[]) r.as none r.st) r.v r.al=true):gD X f r:=by
 have⟨ca,he,aI⟩:=ack h;intro ad hq w bK hw;have M:=(w3 J o Y n).1 ad f #[] #[] r.as none r.st #[] #[] hq w (bO.nil ad) bK (bO.nil ad) hw<|by grind
 grind [hP.less]
end Go.bI
namespace Go.bI
variable{X:Ctx}
def w4(I:aO)(st:ao)(G id U:Nat)(seen:ac Nat)(left:ac f6):ac a2:=
 match left with
 |[]=>[.ok (.tuple #[.bool false]) I st]
 |left=>left.map λe=>.ok (.tuple #[.bool true,e.key,e.val]) I ⟨st.h.set G<|.nK (some id) U (seen++[e.born]) U,st.ag⟩
def oI(I:aO)(st:ao)(G:ce):ac a2:=
 hN (I.aq G) (λp=>bx p (λa=>bx a.spot (λ_=>[.no]) (dL a.off 0 (A0 (st.h.get a.block) (λm U A S=>
  bx m (λid=>jH (st.h.get id) (λes j=>dL U j (dL S j (cond (A.all λs=>Nat.ble (Nat.succ s) j)
   (w4 I st a.block id U A<|es.filter λe=> !A.any (Nat.beq e.born)) [.no]) [.no]) [.no]) [.no]) [.ok (.tuple #[.bool false]) I st]) [.no]) [.no])) [.no]) [.no]
section
variable{ad:bN}{I bC:aO}{a:Act}{aR:Nat}{st al:ao}{w:d9}{R:Oper}{v:bv}{call:bR}
def choose_lt(P:f7)(w:d9)(n:Nat)(aj:0<n):∃c aG,(choose<|.mapNext n).run P w= .ok c aG/\c<n/\aG.heap=w.heap/\rl w aG:=by
 rw[run_choose];by_cases h:(Question.mapNext n).forced=true
 .rw[aA h];exact⟨0,w,o,aj,o,e9⟩
 .rw[au h];exact⟨_,_,o,fo _ aj,o,e9⟩
def Fk(left:bi f6):bi (be f6):=(if left.isEmpty then#[none]else#[])++(left++ #[]).map some
theorem acn(left:bi f6):0<(Fk left).size/\∀q∈Fk left,(q=none/\left= #[])\/∃e∈left,q=some e:=by
 rw[Fk]
 grind
theorem aco{G:ce}(af:gB X.a6 G=true)(ay:R.op= .next G false)(ao:e1 ad I a aR)(hw:bZ X ad st w)(h:∀r∈oI I st G,r≠.no):
 ∃v al bA aG,a2.ok v I al∈oI I st G/\(execOp a.eval R).run X.P w= .ok (.value bA) aG/\bo ad v bA/\bZ X ad al aG/\ei ad ad w aG:=by
 have O:[a2.no]≠oI I st G:=λe=>h .no (by rw[<-e];simp) o;obtain⟨p,hp,bs⟩:=A7 (r:=oI I st G) o O;obtain⟨ch,a0,B⟩:=ig bs O;obtain⟨M,bj⟩:=yw B λ_=>O;obtain⟨bw,dj⟩:=kG bj O;obtain⟨m,b0,A,S,aE,dp⟩:=Pz dj O;have d:=ao.aq hw af;rw[hp,a0]at d;generalize aX:a.eval G=rv at d;obtain⟨l,W,aU,bn,bV,H,g,aZ,u,aB⟩:=hw.eJ _ _ aE az;cases d with
 |ptr _ bq K bW=>
  rw[W]at K;cases K;have aV:l.de+ch.off=0:=by rw[aU,bw]
  cases m with
  |none=>
   rcases aB with⟨_,rfl⟩|⟨r,b,bM,U,_⟩
   .have fa:[a2.ok (.tuple #[.bool false]) I st]=oI I st G:=dp;refine⟨.tuple #[.bool false],st,.tuple #[.bool false],w,by rw[<-fa];simp,?_,bo.ri<|bO.cons (.bool _)<|bO.nil ad,hw,.refl ad w⟩;unfold execOp;rw[ay];simp only[aX,aV,Instr.next,Sem.run_bind,Js u,Result.andThen,Sem.run_pure]
   .cases U
  |some id=>
   obtain⟨es,bT,bI,gC⟩:=Jr dp O;obtain⟨U,mz⟩:=kG gC O;obtain⟨bl,oD⟩:=kG mz O;obtain⟨z,qk⟩:=jK oD O;rcases aB with⟨bB,_⟩|⟨r,b,bM,bf,bg,aM,aO,au,bk⟩
   .cases bB
   cases bf;subst bg U bl;obtain⟨bY,aA,bS,ey,C,cX,bx,D⟩:=hw.eJ _ _ bI az;rw[aA]at aM;cases aM;have D:jL ad bM es S C.toList cX:=D;have bD:cX=H:=by rw[D.jr,aO]
   have bE:cX=aZ:=J
   subst bD bE;obtain⟨L,aw,bX,aP⟩:=D.same;have b':∀x∈C.toList,x.born<cX:=by
    intro x aC;obtain⟨i,aj,rfl⟩:=mo aC;have j:i<L.length:=J
    rw[(aP i j aj).2.2,D.jr];exact D.nd.lt _<|D.born _<|aw.mem_iff.1<|eO j
   have bK:∀s∈A,s<S:=by
    intro s M;have:=ja.1 z s M;exact lZ.1 this
   have a9:∀e∈es,g.contains (bM e.born)=A.any (Nat.beq e.born):=by
    intro e av;rw[p1,List.any_eq_true];constructor
    .intro ah;have:bM e.born∈g.toList:=by simpa using ah
     rw[au]at this;obtain⟨s,M,a1⟩:=db.1 this;exact arp arp
    .rintro⟨s,M,aa⟩;have:bM e.born∈g.toList:=by rw[au,(dy aa)];exact db.2 ⟨s,M,o⟩
     exact aoX
   obtain⟨left,aI⟩:∃left,left=C.filter (λe=> !g.contains e.born):=dq;have hold:left.filter (λe=>decide (e.born<cX))=left:=by
    rw[Array.filter_eq_self]
    grind
   have bz:left.filter (λe=>decide (e.born>=cX))= #[]:=by
    rw[Array.filter_eq_empty_iff]
    grind
   have bb:(!g.isEmpty&& !C.isEmpty&&C.all λe=>decide (e.born>=cX))=false:=by
    cases aH:C.toList with
    |nil=>have:C= #[]:=by simpa using aH
          subst this;simp
    |cons x xs=>
     have aC:=b' x<|by rw[aH];simp
     grind
   obtain⟨aY,Y⟩:=acn left;generalize a3:Fk left=a' at aY Y;obtain⟨bF,fj,bJ,aT,ae,aL⟩:=choose_lt X.P w a'.size aY;have a8:fj.heap[l.cA]? =some (.mapIter (some b) cX g cX):=by rw[ae];exact u
   have ai:(execOp a.eval R).run X.P w=(match a'[bF]? with
    |some (some e)=>.ok (.value<|.tuple #[.bool true,e.key,e.val]) {fj with heap:=fj.heap.setIfInBounds l.cA<|.mapIter (some b) cX (g.push e.born) cX}
    |some none=>.ok (.value<|.tuple #[.bool false]) fj
    |none=>.halt (.stuck "Next: no such candidate") fj):=by
    unfold execOp;rw[ay];simp only[aX,aV,Instr.next,Sem.run_bind,Js u,Result.andThen,MapKept.run_getObj_map bx,bb,r9,if_false];rw[<-aI,hold,bz];have ba:(if left.isEmpty then#[none]else#[])++(left++ #[]).map some=a':=a3;simp only[ba,bJ];cases aD:a'[bF]? with
    |none=>simp
    |some q=>
     cases q with
     |none=>simp
     |some e=>simp[abz _ a8]
   rw[(wa aT)]at ai;have ak:=Array.getElem_mem aT;cases aD:a'[bF]with
   |none=>
    rw[aD]at ai ak;have aH:left= #[]:=by
     rcases Y none ak with⟨_,h⟩|⟨e,_,h⟩
     .exact h
     .cases h
    have a5:es.filter (λe=> !A.any (Nat.beq e.born))=[]:=by
     rw[List.filter_eq_nil_iff];intro e av;obtain⟨i,aj,aW⟩:=mo<|aw.mem_iff.2 av;have j:i<C.toList.length:=J
     have bR:C.toList[i]∉left.toList:=by
      rw[aH];simp
     grind
    rw[a5]at qk;have vg:[a2.ok (.tuple #[.bool false]) I st]=oI I st G:=qk;exact⟨.tuple #[.bool false],st,.tuple #[.bool false],fj,by rw[<-vg];simp,ai,bo.ri<|bO.cons (.bool _)<|bO.nil ad,hw.vc X ae,.vc ad ae aL⟩
   |some e=>
    rw[aD]at ai ak;have bP:e∈left:=by
     grind
    obtain⟨br,bH⟩:=Array.mem_filter.1<|aI▸bP;obtain⟨i,aj,aW⟩:=mo (show e∈C.toList by simpa using br);have j:i<L.length:=J
    have y:=aP i j aj;rw[aW]at y;have aK:=aw.mem_iff.1<|eO j;have bp:L[i]∈es.filter (λe=> !A.any (Nat.beq e.born)):=by
     rw[sc];refine⟨aK,?_⟩;rw[<-a9 _ aK,<-y.2.2];exact bH
    have vg:(es.filter λe=> !A.any (Nat.beq e.born)).map (λe=>a2.ok (.tuple #[.bool true,e.key,e.val]) I ⟨st.h.set ch.block<|.nK (some id) S (A++[e.born]) S,st.ag⟩)=oI I st G:=by
     rw[<-qk];unfold w4
     grind
    obtain⟨bU,bc⟩:=bZ.yB X (hw.vc X ae) aE az (λao=>ao) W (.nK (some id) S (A++[L[i].born]) S) (.mapIter (some b) cX (g.push e.born) cX)
     {fj with heap:=fj.heap.setIfInBounds l.cA<|.mapIter (some b) cX (g.push e.born) cX} rfl
     (λ_ aN=>⟨aU,bn,_,_,_,_,aN,.inr ⟨id,b,bM,o,o,aA,aO,by simp[au,y.2.2],bk⟩⟩)
    refine⟨.tuple #[.bool true,L[i].key,L[i].val],_,.tuple #[.bool true,e.key,e.val],_,?_,ai,bo.ri<|bO.cons (.bool _)<|bO.cons y.1<|bO.cons y.2.1<|bO.nil ad,bU,(ei.vc ad ae aL).trans bc⟩;rw[<-vg];exact db.2 ⟨L[i],bp,o⟩
end
def pA(k:aO->ao->ac cO)(r:cO):ac cO:=
 cO.rec (motive:=λ_=>ac cO) (λe I st=>c6.rec (motive:=λ_=>ac cO) (k I st) (λi=>[.out (.exit i) I st]) [.out .ret I st] (λv=>[.out (.aY v) I st]) e) [.no] r
def tx(e:aO->ao->ac cO):Nat->aO->ao->ac cO
 |0,_,_=>[.no]
 |n+1,I,st=>(e I st).flatMap<|pA<|tx e n
def Fl(call:bR)(d:be Tmp)(ops:ac bt)(r:a2):cO:=
 a2.rec (motive:=λ_=>cO) (λv I st=>gz call ops (I.put d v) st) (λ_ _=>.no) .no r
def eg(call:bR)(a8:Nat)(fn:d8):dz->aO->ao->ac cO
 |.gx (⟨d,.ext<|.sg G,none⟩::ops),I,st=>(oI I st G).map (Fl call d ops)
 |.seq a b,I,st=>(eg call a8 fn a I st).flatMap (pA<|eg call a8 fn b)
 |.cond c a b,I,st=>kj (I.aq c) (λt=>cond t (eg call a8 fn a I st)<|eg call a8 fn b I st) [.no]
 |.block i a,I,st=>(eg call a8 fn a I st).map (qd i)
 |.loop a,I,st=>tx (eg call a8 fn a) a8 I st
 |.scope a,I,st=>eg call a8 fn a I st
 |c,I,st=>[dh call a8 fn c I st]
section
variable{aR:Nat}{ad:bN}{I bC:aO}{a:Act}{st al:ao}{w:d9}{v:bv}{call:bR}{b:dQ}{bu:Bool->ac Frame}
def iT(X:Ctx)(b:dQ)(aR:Nat)(bu:Bool->ac Frame)(s:Machine)(k:ac Item)(I:aO)(ad:bN)(w:d9)(L:ac cO):Prop:=
 (∀r∈L,r≠.no)->∃r∈L,gl X b aR bu s k I ad w r
variable{k:ac Item}
def iT.head{s J:Machine}{aJ:bN}{aG:d9}{L:ac cO}(h:Steps X.P s J)(aB:ei ad aJ w aG)(hp:bC.aY=I.aY)(aw:bC.b7=I.b7)(D:iT X b aR bu J k bC aJ aG L):iT X b aR bu s k I ad w L:=by
 intro aj;have⟨r,d,W⟩:=D aj;exact⟨r,d,gl.head h aB hp aw W⟩
def iT.one{s:Machine}{r:cO}(h:gl X b aR bu s k I ad w r):iT X b aR bu s k I ad w [r]:=λ_=>⟨r,az,h⟩
def iT.then{s:Machine}{D:ac Item}{L:ac cO}{g:aO->ao->ac cO}(y:∀id,exitTo id k=exitTo id D)(h:iT X b aR bu s k I ad w L)
 (O:∀aJ H aG bC al,e1 aJ bC H aR->bZ X aJ al aG->ei ad aJ w aG->bC.aY=I.aY->bC.b7=I.b7->iT X b aR bu (lone (b.at H k) (bu bC.cU) aG) D bC aJ aG (g bC al)):iT X b aR bu s D I ad w (L.flatMap<|pA g):=by
 intro aj;have u:∀r∈L,r≠.no:=by
  intro r aw e;subst e;exact aj .no (tc.2 ⟨.no,aw,by simp[pA]⟩) o
 have⟨r,d,W⟩:=h u;cases r with
 |no=>exact absurd o (u _ d)
 |out e bC al=>
  have⟨aJ,H,aG,Y,G,C,j,J,B⟩:=W;cases e with
  |norm=>
   have⟨q,A,U⟩:=O aJ H aG bC al Y G C j J λr aw=>aj r<|tc.2 ⟨_,d,aw⟩;exact⟨q,tc.2 ⟨_,d,A⟩,gl.head B C j J U⟩
  |exit id=>
   have⟨S,M,K⟩:=B;exact⟨.out (.exit id) bC al,tc.2 ⟨_,d,by simp[pA]⟩,aJ,H,aG,Y,G,C,j,J,S,M.trans<|y id,K⟩
  |ret=>exact⟨.out .ret bC al,tc.2 ⟨_,d,by simp[pA]⟩,aJ,H,aG,Y,G,C,j,J,B⟩
  |aY v=>exact⟨.out (.aY v) bC al,tc.2 ⟨_,d,by simp[pA]⟩,aJ,H,aG,Y,G,C,j,J,B⟩
def acp(L:ac cO):L.flatMap (pA λI st=>[.out .norm I st])=L:=by
 induction L with
 |nil=>rfl
 |cons r L U=>
  rw[Aw,U];cases r with
  |no=>rfl
  |out e I st=>cases e<;>rfl
theorem acq(Y:nh X call){ops:bi Oper}{d:be Tmp}{G:ce}{xs:ac bt}(an:xs.length+1=ops.size)(a':∀(j:Nat) (x:bt) (R:Oper),(⟨d,.ext<|.sg G,none⟩::xs:ac bt)[j]? =some x->ops[j]? =some R->l2 X aR ops x R=true)
 (D:e1 ad I a aR) (hw:bZ X ad st w) (aa:oF ad I.b7 b.b7) (aw:jO b I.aY ad bu):
 iT X b aR bu (lone (b.at a<|.inRegion ops (List.range ops.size)::k) (bu I.cU) w) k I ad w ((oI I st G).map<|Fl call d xs):=by
 intro aj;have aT:0<ops.size:=J
 have ay:=wa aT;have S:=a' 0 _ ops[0] o ay;have ah:ops[0].guard=none:=by
  unfold l2 at S
  grind
 have ak:Region.wanted ops[0] (yielded ops a.tmps)=true:=by
  unfold Region.wanted;rw[ah]
 have H:∃s,ops[0].op= .next s false/\df X.a6 G s=true:=by
  have M:Br X.P X.a6 X.keys X.qh X.eqs X.qi X.l1 ops[0].op (.sg G)=true:=Bu S;unfold Br at M
  grind
 obtain⟨s,z,ru⟩:=H;obtain⟨rfl,af⟩:=sB ru;obtain⟨v,al,y,aG,B,U,ai,K,M⟩:=aco af z D hw (λr aw e=>by
  subst e;exact aj (Fl call d xs .no) (db.2 ⟨_,aw,o⟩) o)
 obtain⟨C,ao⟩:=E6 S;have u:List.range ops.size=0::(List.range xs.length).map (· +1):=by
  rw[<-an,Dv]
 have aq:b.b7=none\/∀c,ops[0].op≠.defer c:=.inr (by rw[z];simp);refine⟨_,db.2 ⟨_,B,o⟩,?_⟩;rw[u];obtain⟨W,cW,A,au⟩:=tt I d v;have ae:=E8 (k:=k) Y xs ((List.range xs.length).map (· +1)) ad (I.put d v) (a.put ops[0].dst y) al aG az (λj x i O af=>by
  have g:=(dG.1 O).1;have e:i=j+1:=by
   grind
  subst e;have h:j+1<ops.size:=J
  exact⟨ops[j+1],wa h,a' (j+1) x _ (by simpa using O)<|wa h⟩)
  (by have:=D.put ao ai;rw[<-C];exact this) K (by rw[cW];exact aa)<|by rw[W];exact aw
 rw[A]at ae;exact gl.head (.one (E3 (k:=k) (cs:=bu I.cU) (rest:=(List.range xs.length).map (· +1)) ay ak aq U)) M W cW ae
def acr(af:Good X)(ae:nh X call)(au:yL X call b aR bu)(u:∃F,X.P.funcs[b.fn]? =some F/\F.ntmps=aR)(a8:Nat):∀(S:dz) (c:Code) (ad:bN) (I:aO) (a:Act) (st:ao) (w:d9) (k:ac Item),codeOk X aR S c=true->
 e1 ad I a aR->bZ X ad st w->oF ad I.b7 b.b7->jO b I.aY ad bu->
 iT X b aR bu (lone (b.at a<|.code c::k) (bu I.cU) w) k I ad w (eg call a8 b.fn S I st):=by
 intro S;have h:=
  λc ad I a st w k S ah D hw aa aw=>iT.one (Fg af ae au u a8 S c ad I a st w k ah D hw aa aw)
 induction S with
 |skip=>intro c ad I a st w k ah D hw aa aw;exact h c ad I a st w k .skip ah D hw aa aw
 |gx xs=>
  intro c ad I a st w k ah D hw aa aw;unfold eg;split
  .rename_i d aA az W;cases W;cases c with
   |region id ops ai=>
    cases ai with
    |true=>cases ah
    |false=>
     obtain⟨Y,G⟩:=JB ah;refine iT.head (.one PL) mB o o (acq ae J (λj x R O ay=>G j x R O<|by simpa using ay) D hw aa aw)
   |_=>cases ah
  all_goals first
   |exact h c ad _ a _ w k _ ah D hw aa aw
   |(rename_i W;cases W)
 |q5 L cB fh ms=>intro c ad I a st w k ah D hw aa aw;exact h c ad I a st w k (.q5 L cB fh ms) ah D hw aa aw
 |seq x y s B=>
  intro c ad I a st w k ah D hw aa aw;cases c with
  |seq c d=>
   have ah:(codeOk X aR x c&&codeOk X aR y d)=true:=ah;rw[cQ]at ah;refine iT.head (.one PG) mB o o<|iT.then (k:=.code d::k) (λid=>o) (s c ad I a st w (.code d::k) ah.1 D hw aa aw) λaJ H aG bC al C K a' hp aj=>?_;exact B d aJ bC H al aG k ah.2 C K ap9 ap8
  |_=>cases ah
 |cond x y z B g=>
  intro c ad I a st w k ah D hw aa aw;cases c with
  |cond R c d=>
   have ah:(df X.a6 x R&&codeOk X aR y c&&codeOk X aR z d)=true:=ah;simp at ah;obtain⟨rfl,ay⟩:=sB ah.1.1;show iT X b aR bu _ k I ad w (kj (I.aq x) (λt=>_root_.cond t (eg call a8 b.fn y I st)<|eg call a8 b.fn z I st) [.no]);have ab:=D.aq hw ay;generalize A:a.eval x=km at ab;generalize I.aq x=v at ab;cases v with
   |bool t=>
    cases ab;cases t with
    |true=>exact iT.head (.one<|E1 A) mB o o (B c ad I a st w k ah.1.2 D hw aa aw)
    |false=>exact iT.head (.one<|E1 A) mB o o (g d ad I a st w k ah.2 D hw aa aw)
   |_=>exactλaj=>absurd o (aj .no<|by simp[kj])
  |_=>cases ah
 |block i x U=>
  intro c ad I a st w k ah D hw aa aw;cases c with
  |block j c=>
   have ah:(Nat.beq i j&&codeOk X aR x c)=true:=ah;rw[cQ]at ah;cases qm ah.1;have Y:=U c ad I a st w (.inBlock i::k) ah.2 D hw aa aw;apply iT.head (.one PH) mB o o;intro aj;obtain⟨r,ak,Y⟩:=Y (λr aw e=>by subst e;exact aj (qd i .no) (db.2 ⟨_,aw,o⟩) o);exact⟨qd i r,db.2 ⟨_,ak,o⟩,Y.cA⟩
  |_=>cases ah
 |loop x U=>
  intro c ad I a st w k ah D hw aa aw;cases c with
  |loop c=>
   have key:∀(n:Nat) (ad:bN) I a st w,e1 ad I a aR->bZ X ad st w->oF ad I.b7 b.b7->jO b I.aY ad bu->
    iT X b aR bu (lone (b.at a<|.code c:: .inLoop c::k) (bu I.cU) w) k I ad w (tx (eg call a8 b.fn x) n I st):=by
    intro n
    induction n with
    |zero=>intros;exactλaj=>absurd o (aj .no<|by simp[tx])
    |succ n M=>
     intro ad I a st w D hw aa aw;exact iT.then (k:=.inLoop c::k) (λid=>o) asY λaJ H aG bC al C K a' hp aj=>(iT.head (.one PJ) mB o o<|M aJ bC H al aG C K ap9 ap8)
   exact iT.head (.one PI) mB o o (key a8 ad I a st w D hw aa aw)
  |_=>cases ah
 |u3 f bd ek body _ _=>intro c ad I a st w k ah D hw aa aw;exact h c ad I a st w k (.u3 f bd ek body) ah D hw aa aw
 |exit i=>intro c ad I a st w k ah D hw aa aw;exact h c ad I a st w k (.exit i) ah D hw aa aw
 |scope x U=>
  intro c ad I a st w k ah D hw aa aw;cases c with
  |scope c=>
   refine iT.head (.one PK) mB o o ?_;show iT X b aR bu _ k I ad w (eg call a8 b.fn x I st);rw[<-acp (eg call a8 b.fn x I st)];exact iT.then (k:=.inScope c::k) (λid=>o) asP λaJ H aG bC al C K _ _ _=>iT.one ⟨aJ,H,aG,C,K,.refl _ _,o,o,.one PF⟩
  |_=>cases ah
 |ret=>intro c ad I a st w k ah D hw aa aw;exact h c ad I a st w k .ret ah D hw aa aw
 |refuse=>intro c ad I a st w k ah D hw aa aw;exact h c ad I a st w k .refuse ah D hw aa aw
end
section
variable(cC:Nat->be Nat)
def Fm(a b:Addr):Bool:=(cC a.block==some b.block)&&Nat.beq a.off b.off&&a.spot.isNone&&b.spot.isNone
mutual
def ga:bv->bv->Bool
 |.bool a,.bool b=>a==b
 |.int k a,.int h b=>decide (k=h)&&a==b
 |.float k a,.float h b=>decide (k=h)&&a==b
 |.string a,.string b=>a.data.toList==b.data.toList
 |.pointer none,.pointer none=>true
 |.pointer (some a),.pointer (some b)=>Fm cC a b
 |.slice none l c,.slice none bq cX=>l==bq&&c==cX
 |.slice (some a) l c,.slice (some b) bq cX=>Fm cC a b&&l==bq&&c==cX
 |.map none,.map none=>true
 |.map (some a),.map (some b)=>cC a==some b
 |.chan (some<|c+1),.chan (some<|d+1)=>Nat.beq c d
 |.func (.func f) x y,.func (.func g) u v=>f==g&&BE x u&&BE y v
 |.nilFunc,.nilFunc=>true
 |.iface t v,.iface u w=>t==u&&ga v w
 |.nilIface,.nilIface=>true
 |.agg a,.agg b=>BE a b
 |.tuple a,.tuple b=>BE a b
 |_,_=>false
def BE:bi bv->bi bv->Bool
 |⟨a⟩,⟨b⟩=>w5 a b
def w5:ac bv->ac bv->Bool
 |[],[]=>true
 |a::as,b::bH=>ga a b&&w5 as bH
 |_,_=>false
end
theorem JF:∀(xs aS:ac bv),w5 cC xs aS=true->xs.length=aS.length/\∀(i:Nat) (h:i<xs.length) (D:i<aS.length),ga cC xs[i] aS[i]=true
 |[],[],_=>aqP
 |x::xs,y::aS,h=>by
  simp[w5,cQ]at h;have⟨aE,aK⟩:=JF xs aS h.2
  grind
 |[],_::_,h=>by simp[w5]at h
 |_::_,[],h=>by simp[w5]at h
theorem Fo(xs aS:bi bv)(h:BE cC xs aS=true):xs.size=aS.size/\∀(i:Nat) (h:i<xs.size) (D:i<aS.size),ga cC xs[i] aS[i]=true:=by
 have⟨xs⟩:=xs;have⟨aS⟩:=aS;have⟨Y,G⟩:=JF cC xs aS h
 grind
end
def JG(cC:Nat->be Nat)(aJ cP:bN):Prop:=∀i j l,cC i=some j->cP j=some l->∃bM,aJ i=some {l with bM:=bM}
variable{es:ac f6}{cC:Nat->be Nat}{aJ cP:bN}{eY:ac f6}{c cX jr:Nat}{α:Type}
theorem Qm{a b:Addr}(h:Fm cC a b=true):cC a.block=some b.block/\a.off=b.off/\a.spot=none/\b.spot=none:=by
 rw[Fm]at h
 simp_all
theorem BF(D:JG cC aJ cP){u c:bv}(h:bo cP u c):∀v,ga cC v u=true->bo aJ v c:=by
 induction h with
 |bool b=>intro v z;cases v<;>simp[ga]at z;rw[z];exact .bool _
 |int k n=>intro v z;cases v<;>simp[ga]at z;rw[z.1,z.2];exact .int _ _
 |float k n=>intro v z;cases v<;>simp[ga]at z;rw[z.1,z.2];exact .float _ _
 |string s=>
  intro v z;cases v<;>simp[ga]at z;rename_i a';have:a'=s:=by cases a';simp_all
  rw[this];exact .string _
 |lG=>
  intro v z;cases v<;>first|(simp[ga]at z)|skip
  rename_i p;cases p<;>simp[ga]at z;exact .lG
 |ptr a l h M=>
  intro v z;cases v<;>first|(simp[ga]at z)|skip
  rename_i p;cases p<;>simp[ga]at z;rename_i H;obtain⟨Y,G,C,ab⟩:=Qm z;obtain⟨bM,W⟩:=D _ _ _ Y h;have:=bo.ptr H _ W C;rw[G]at this;exact this
 |kl n c=>
  intro v z;cases v<;>first|(simp[ga]at z)|skip
  rename_i p _ _;cases p<;>simp[ga]at z;rw[z.1,z.2];exact .kl _ _
 |fv a l R n c h M ay=>
  intro v z;cases v<;>first|(simp[ga]at z)|skip
  rename_i p _ _;cases p<;>simp[ga]at z;rename_i H;obtain⟨⟨ak,af⟩,aj⟩:=z;obtain⟨Y,G,C,ab⟩:=Qm ak;obtain⟨bM,W⟩:=D _ _ _ Y h;subst af aj;exact bo.fv H {l with bM:=bM} R _ _ W C (by rw[G];exact ay)
 |nb=>
  intro v z;cases v<;>first|(simp[ga]at z)|skip
  rename_i p;cases p<;>simp[ga]at z;exact .nb
 |map r b bM h=>
  intro v z;cases v<;>first|(simp[ga]at z)|skip
  rename_i p;cases p<;>simp[ga]at z;obtain⟨j,W⟩:=D _ _ _ z h;exact .map _ b j W
 |func f g xs aS au K aa Y _ C _ B A=>
  intro v z;cases v<;>first|(simp[ga]at z)|skip
  rename_i an aq ao;cases an<;>cases f<;>simp[ga]at z;obtain⟨⟨e,O⟩,ae⟩:=z;subst e;obtain⟨eV,ew⟩:=Fo cC _ _ O;obtain⟨ai,S⟩:=Fo cC _ _ ae;refine .func _ _ _ _ _ _ ?_ (eV.trans Y) (λi p q=>B i J q _<|ew i p J) (ai.trans C) λi p q=>A i J q _<|S i p J;rcases aa with⟨rfl,h⟩|⟨l,b,h,_⟩
  .exact .inl ⟨o,λl e=>by cases e⟩
  .cases h
 |nilFunc=>intro v z;cases v<;>simp[ga]at z;exact .nilFunc
 |iface t v w _ U=>
  intro y z;cases y<;>simp[ga]at z;rw[z.1];exact .iface _ _ _ (U _ z.2)
 |nilIface=>intro v z;cases v<;>simp[ga]at z;exact .nilIface
 |agg xs aS Y _ U=>
  intro v z;cases v<;>simp[ga]at z;obtain⟨eV,ew⟩:=Fo cC _ _ z;exact .agg _ _ (eV.trans Y) (λi p q=>U i J q _<|ew i p J)
 |tuple xs aS Y _ U=>
  intro v z;cases v<;>simp[ga]at z;obtain⟨eV,ew⟩:=Fo cC _ _ z;exact .tuple _ _ (eV.trans Y) (λi p q=>U i J q _<|ew i p J)
 |iG c m h=>
  intro v z;have ah:c≠0:=by intro e;rcases h with h|⟨k,h,_⟩|⟨k,h,_⟩<;>omega
  obtain⟨c,rfl⟩:∃d,c=d+1:=⟨c-1,J⟩;cases v<;>first|(simp[ga]at z)|skip
  rename_i x;cases x with
  |none=>simp[ga]at z
  |some x=>
   cases x with
   |zero=>simp[ga]at z
   |succ d=>
    rw[dy z];exact .iG _ _ h
 |emp p c=>intro v z;cases v<;>simp[ga]at z
 |top c=>intro v z;cases v<;>simp[ga,jG]at z
def JH(cC:Nat->be Nat)(es:ac f6)(c:Nat)(eY:ac f6):Bool:=
 Nat.beq c es.length&&(es.zipIdx.all λp=>Nat.beq p.1.born p.2)&&(eY.all λe=>(iy e.key es).isSome)&&
 (es.all λe=>(match iy e.key eY with|some U=>ga cC e.key U.key&&ga cC e.val U.val|none=>false))&&
 (es.zipIdx.all λp=>es.zipIdx.all λq=>Nat.beq p.2 q.2|| !dE p.1.key q.1.key)
def BG(es eY:ac f6)(s:Nat):Nat:=((es[s]?).bind λe=>(iy e.key eY).map (·.born)).getD 0
def sG(bM:Nat->Nat)(es:ac f6)(c:Nat)(eY:ac f6)(cX:Nat):Nat->Nat:=λs=>if s<c then bM (BG es eY s)else bM cX+(s-c)
theorem JI(h:es.Pairwise λa b=>a.born≠b.born){a b:f6}(bK:a∈es)(aa:b∈es)(e:a.born=b.born):a=b:=by
 induction es with
 |nil=>cases bK
 |cons x xs U=>
  rw[nE]at h
  grind
def Fp{k:bv}(h:es.Pairwise λa b=>a.key≠b.key){e:f6}(he:e∈es)(aB:e.key=k):iy k es=some e:=by
 cases D:iy k es with
 |none=>exact absurd aB (Bt D e he)
 |some U=>
  have⟨Y,G⟩:=yF D;rw[uniq h Y he<|G.trans aB.symm]
def nodup_keys(h:es.Pairwise λa b=>a.key≠b.key):es.Nodup:=
 h.imp λ{a b} d e=>d arT
theorem Qn{bM:Nat->Nat}{C:ac f6}(ah:c=es.length)(aj:∀(i:Nat) (af:i<es.length),es[i].born=i)(o:es.Pairwise λa b=>a.key≠b.key)
 (ak:∀e∈es,∃U,U∈eY/\U.key=e.key/\iy e.key eY=some U/\(∀u,bo cP U.key u->bo aJ e.key u)/\∀u,bo cP U.val u->bo aJ e.val u) (av:∀U∈eY,(iy U.key es).isSome=true) (h:jL cP bM eY cX C jr):
 jL aJ (sG bM es c eY cX) es c C jr:=by
 have a':∀(s:Nat) M,∃U,U∈eY/\U.key=es[s].key/\BG es eY s=U.born:=by
  intro s M;obtain⟨U,ey,eW,G,_⟩:=ak es[s]<|eO M;refine⟨U,ey,eW,?_⟩;rw[BG,ba M];simp[G]
 have aT:∀s,s<c->BG es eY s<cX:=by
  intro s M;obtain⟨U,ey,_,G⟩:=a' s J;rw[G];exact h.born U ey
 have r:∀s,s<c->sG bM es c eY cX s=bM (BG es eY s):=λs M=>aA M;have ai:∀s,c<=s->sG bM es c eY cX s=bM cX+(s-c):=λs M=>au J;obtain⟨L,hp,az,ay⟩:=h.same;have z:∀U∈eY,∃e,e∈es/\e.key=U.key/\iy U.key es=some e:=by
  intro U D;have:=av U D;obtain⟨e,A⟩:=Am.1 this;obtain⟨ey,eW⟩:=yF A;exact⟨e,ey,eW,A⟩
 let g:f6->f6:=λU=>(iy U.key es).getD U
 have ae:∀U∈eY,g U∈es/\(g U).key=U.key:=by
  grind
 refine⟨?_,⟨λs t M aN e=>?_,λs M=>?_,λj=>?_⟩,λe A=>?_,o,?_,L.map g,?_,by simp[az],?_⟩
 .rw[ai c<|c4 _,Ax];exact h.jr
 .rw[r s M,r t aN]at e;have an:=h.nd.inj _ _ (aT s M) (aT t aN) e;obtain⟨H,eV,ew,aF⟩:=a' s J;obtain⟨aI,aw,S,d⟩:=a' t J;rw[aF,d]at an;cases JI h.jM eV aw an;have aK:es[s]=es[t]:=uniq o (eO _) (eO _)<|by rw[<-ew,<-S]
  grind
 .rw[r s M,ai c<|c4 _];have:=h.nd.lt _<|aT s M;omega
 .grind
 .obtain⟨i,af,rfl⟩:=mo A;rw[aj i af];omega
 .rw[lA]
  grind
 .have aC:=hp.map g;refine aC.trans ?_;have aB:(eY.map g).Nodup:=by
   have:(eY.map g).Pairwise (λa b=>a.key≠b.key):=by
    rw[pj,lA];intro i j af aq O e;rw[(ae _<|eO af).2,(ae _<|eO aq).2]at e;exact lA.1 h.keys i j af aq O e
   exact nodup_keys this
  rw[DA aB<|nodup_keys o]
  grind [uniq]
 .intro i a b;have H:i<L.length:=by omega
  rw[uL];have y:=ay i H b;have aa:=hp.mem_iff.1<|eO H;obtain⟨ao,B⟩:=ae L[i] aa;obtain⟨U,ey,eW,G,aD,K⟩:=ak (g L[i]) ao;cases uniq h.keys ey aa (by rw[eW,B]);refine⟨aD _ y.1,K _ y.2.1,?_⟩;obtain⟨s,M,Y⟩:=mo ao;rw[y.2.2,<-Y,aj s M,r s J];obtain⟨aH,W,cW,ax⟩:=a' s M;rw[ax];have:=uniq h.keys W aa (by rw[cW,Y,B]);rw[this]
theorem Qo(D:JG cC aJ cP){bM:Nat->Nat}{C:ac f6}(aa:JH cC es c eY=true)(h:jL cP bM eY cX C jr):
 jL aJ (sG bM es c eY cX) es c C jr:=by
 unfold JH at aa;simp only[cQ,ja]at aa;obtain⟨⟨⟨⟨Y,G⟩,s⟩,g⟩,J⟩:=aa;have ah:=dy Y;have r:∀(i:Nat) af,es[i].born=i:=by
  intro i af;have:=G (es[i],i) aoM;exact dy this
 have o:es.Pairwise (λa b=>a.key≠b.key):=by
  rw[lA];intro i j af A O e;have:=J (es[i],i) aoM (es[j],j) aoM;rw[Au]at this;rcases this with d|d
  .have:=dy d;omega
  .simp only[e,pt]at d;cases d
 grind [Qn,yF,BF]
def yP(cC:Nat->be Nat):ac f6->ac f6->Bool
 |[],[]=>true
 |e::es,f::b6=>dE e.key f.key&&ga cC e.key f.key&&ga cC e.val f.val&&Nat.beq e.born f.born&&yP cC es b6
 |_,_=>false
theorem Qp{cC:Nat->be Nat}:∀(es b6:ac f6),yP cC es b6=true->es.length=b6.length/\∀(i:Nat) (h:i<es.length) (D:i<b6.length),es[i].key=b6[i].key/\ga cC es[i].key b6[i].key=true/\ga cC es[i].val b6[i].val=true/\es[i].born=b6[i].born
 |[],[],_=>aqP
 |e::es,f::b6,h=>by
  simp only[yP,cQ]at h;have⟨⟨⟨⟨aE,aK⟩,C⟩,d⟩,J⟩:=h;have⟨bU,H⟩:=Qp es b6 J;refine⟨by simp[bU],λi a b=>?_⟩;cases i with
  |zero=>exact⟨j4 _ _ aE,aK,C,dy d⟩
  |succ i=>exact H i ar6 ar5
 |[],_::_,h=>by simp[yP]at h
 |_::_,[],h=>by simp[yP]at h
def oJ(ag:Nat)(l:ac (Nat×Nat))(i:Nat):be Nat:=if i<ag then some i else(l.find? λp=>Nat.beq p.1 i).map (·.2)
def oK(hO:Bool)(cC:Nat->be Nat):bG->bG->Bool
 |.cells cs e D aW,.cells dP U K J=>Nat.beq e U&&Nat.beq D.1 K.1&&Nat.beq D.2 K.2&&(aW==J)&&w5 cC cs dP
 |.map es c,.map eY cX=>if hO then Nat.beq c cX&&yP cC es eY else JH cC es c eY
 |_,_=>false
def ar.BH(q:Nat->α->Bool):ar α->(Nat->Nat)->Bool
 |.nil,_=>true
 |.node l v r,g=>(match v with|some x=>q (g 0) x|none=>true)&&ar.BH q l (λn=>g<|2*n+1)&&ar.BH q r λn=>g<|2*n+2
theorem ar.JJ{q:Nat->α->Bool}:∀(t:ar α) (g:Nat->Nat),ar.BH q t g=true->∀n x,t.get n=some x->q (g n) x=true
 |.nil,_,_,n,x,h=>by simp at h
 |.node l v r,g,bK,n,x,h=>by
  simp[ar.BH,cQ]at bK;have⟨⟨aE,aK⟩,C⟩:=bK;cases n with
  |zero=>subst h;exact aE
  |succ m=>
   rw[ar.px]at h;split at h
   .have:=ar.JJ l _ aK _ x h
    grind
   .have:=ar.JJ r _ C _ x h
    grind
def BI(ag:Nat)(l:ac (Nat×Nat))(v:bv)(st:ao)(v2:bv)(gW:ao):Bool:=
 ga (oJ ag l) v v2&&Nat.ble ag st.ag&&(l.all λp=>Nat.ble ag p.1&&Nat.ble (Nat.succ p.1) st.ag&&Nat.ble ag p.2)&&(l.all λp=>l.all λq=> !Nat.beq p.2 q.2||Nat.beq p.1 q.1)&&
 ar.BH (λi R=>match oJ ag l i with
  |some j=>(match gW.h.get j with|some eX=>oK (decide (i<ag)) (oJ ag l) R eX|none=>false)
  |none=>false) st.h id
section
variable(ag:Nat)(l:ac (Nat×Nat))(st gW:ao)(cP:bN)
def sH(i j:Nat)(y:Loc):Nat->Nat:=
 match st.h.get i,gW.h.get j with
 |some (.map es c),some (.map eY cX)=>sG y.bM es c eY cX
 |_,_=>y.bM
def qq:bN:=λi=>
 if i<ag then cP i else((l.find? λp=>Nat.beq p.1 i).map (·.2)).bind λj=>(cP j).map λy=>{y with bM:=sH st gW i j y}
end
variable{w:d9}{l:ac (Nat×Nat)}{gW:ao}{ad:bN}{ag:Nat}{v v2:bv}
def Qq(ag:Nat)(l:ac (Nat×Nat))(st gW:ao)(cP:bN):JG (oJ ag l) (qq ag l st gW cP) cP:=by
 intro i j y aw hm;rw[oJ]at aw;rw[qq];split at aw
 .rename_i h;cases aw;rw[aA h];exact⟨y.bM,hm⟩
 .rename_i h;rw[au h,aw];simp[hm]
theorem bZ.can{st:ao}(ah:BI ag l v st v2 gW=true)(bO:X.a6<=ag)(h:bZ X cP gW w):bZ X (qq ag l st gW cP) st w:=by
 have aB:=Qq ag l st gW cP;unfold BI at ah;simp only[cQ]at ah;obtain⟨⟨⟨⟨_,bb⟩,bE⟩,bD⟩,bI⟩:=ah;have bb:=lZ.1 bb;have b':∀p∈l,ag<=p.1/\p.1<st.ag/\ag<=p.2:=by
  intro p hp;have:=ja.1 bE p hp;simp only[cQ]at this;exact asS asS
 have bK:∀p∈l,∀q∈l,p.2=q.2->p.1=q.1:=by
  intro p hp q aD e;have:=ja.1 (ja.1 bD p hp) q aD
  simp_all
 have a0:∀i j,¬i<ag->(l.find? λp=>Nat.beq p.1 i).map (·.2)=some j->(i,j)∈l:=by
  intro i j _ aC;obtain⟨p,hp,rfl⟩:=ot.1 aC;have ak:=Ap hp;have G:=Aq hp;have aE:=dy G;subst aE;exact ak
 have aq:∀i R,st.h.get i=some R->∃j eX,oJ ag l i=some j/\gW.h.get j=some eX/\oK (decide (i<ag)) (oJ ag l) R eX=true:=by
  intro i R ay;have:=ar.JJ st.h id bI i R ay
  grind
 have ai:∀{hO:Bool} {R eX:bG},oK hO (oJ ag l) R eX=true->eX≠.dead:=by
  intro hO R eX h e;subst e;cases R<;>simp[oK]at h
 have aI:∀i j y,oJ ag l i=some j->cP j=some y->qq ag l st gW cP i=some {y with bM:=if i<ag then y.bM else sH st gW i j y}:=by
  intro i j y aw hm;unfold oJ at aw;unfold qq;split at aw
  .rename_i af;cases aw;rw[aA af,aA af];exact hm
  .grind
 have a2:∀i j R eX y,st.h.get i=some R->gW.h.get j=some eX->oK (decide (i<ag)) (oJ ag l) R eX=true->cP j=some y->(if i<ag then y.bM else sH st gW i j y)≠eU->y.bM≠eU:=by
  intro i j R eX y ay aa a' Y O e;have aC:=h.k9 j y eX Y e aa<|ai a';apply O;split
  .exact e
  .unfold sH;rw[ay,aa];cases eX<;>first|exact aC.elim|(cases R<;>exact e)
 refine⟨λi R ay S=>?_,λi k R p a b af bP a9 bJ aZ bg aj e=>?_,λi af=>?_,λi a D=>?_,λg aj=>?_,J,λi a R D M ay S=>?_⟩
 .obtain⟨j,eX,aw,aa,a'⟩:=aq i R ay;obtain⟨y,Y,hm⟩:=h.eJ j eX aa<|ai a';refine⟨_,aI i j y aw Y,?_⟩;cases R with
  |cells cs e aN aW=>
   cases eX with
   |cells bm aF K bF=>
    simp only[oK,cQ]at a';obtain⟨⟨⟨⟨ak,G⟩,aE⟩,a1⟩,bl⟩:=a';have U:=dy ak;have aO:=Prod.ext (dy G)<|dy aE;have z:=Av a1;subst U aO z;obtain⟨bU,H⟩:=JF _ _ _ bl;obtain⟨C,K,an⟩:=hm;exact⟨C,K,an.there,by rw[bU];exact an.kH,by rw[bU];exact an.room,λi af=>by
     obtain⟨c,br,bo⟩:=an.cell i J;exact⟨c,br,BF aB bo _<|H i af J⟩,by rw[bU];exact an.vb,by rw[bU];exact an.plain⟩
   |_=>simp[oK]at a'
  |map es c=>
   cases eX with
   |map eY cX=>
    obtain⟨ey,eW,C,jr,aT,ae⟩:=hm;simp only[oK]at a';by_cases af:i<ag
    .simp only[af,decide_true,if_true,cQ]at a';have U:=dy a'.1;subst U;refine⟨ey,eW,C,jr,aT,?_⟩;simp[af];obtain⟨bU,H⟩:=Qp es eY a'.2;obtain⟨L,hp,bz,bs⟩:=ae.same
     let g:f6->f6:=λaF=>(iy aF.key es).getD aF
     have bc:es.Pairwise (λa b=>a.key≠b.key):=by
      rw[lA];intro i j af A aQ;rw[(H i af J).1,(H j A J).1];exact lA.1 ae.keys i j J J aQ
     have aj:∀(i:Nat) af (aP:i<es.length),g eY[i]=es[i]:=by
      intro i af aP;show(iy eY[i].key es).getD eY[i]=es[i];rw[Fp bc (eO aP) (H i aP af).1];rfl
     have bj:eY.map g=es:=by
      apply As
      .simp[bU]
      .grind
     refine⟨ae.jr,ae.nd,λe bw=>?_,bc,?_,L.map g,by rw[<-bj];exact hp.map g,by simp[bz],?_⟩
     .obtain⟨i,af,rfl⟩:=mo bw;rw[(H i af J).2.2.2];exact ae.born _<|eO _
     .rw[lA];intro i j af A aQ;rw[(H i af J).2.2.2,(H j A J).2.2.2];exact lA.1 ae.jM i j J J aQ
     .intro i a b;have a3:i<L.length:=by omega
      rw[uL];have aU:=bs i a3 b;obtain⟨s,M,bh⟩:=mo<|hp.mem_iff.1<|eO a3;have bp:s<es.length:=J
      have U:g L[i]=es[s]:=by grind
      obtain⟨bn,cW,a8,ba⟩:=H s bp M;rw[bh]at bn cW a8 ba;rw[U];exact asa asa
    .simp[af]at a';refine⟨ey,eW,C,jr,aT,?_⟩;simp[af];have:sH st gW i j y=sG y.bM es c eY cX:=by unfold sH;rw[ay,aa]
     rw[this];exact Qo aB a' ae
   |_=>simp[oK]at a'
  |_=>cases eX<;>simp[oK]at a'
 .obtain⟨aH,eX,d,aa,aL⟩:=aq i R af;obtain⟨H,r,W,u,aM⟩:=aq k p a9;obtain⟨aV,aX,_⟩:=h.eJ aH eX aa<|ai aL;obtain⟨aY,aK,_⟩:=h.eJ H r u<|ai aM;rw[aI i aH aV d aX]at aZ;rw[aI k H aY W aK]at bg;cases aZ;cases bg;have aO:=h.inj aH H eX r aV aY aa (ai aL) u (ai aM) aX aK (aj.imp (a2 i aH R eX aV af aa aL aX)<|a2 k H p r aY a9 u aM aK) e;subst aO;unfold oJ at d W;split at d<;>split at W
  .cases d;cases W;rfl
  .grind
  .grind
  .grind
 .constructor
  .unfold qq;rw[au J];cases aC:(l.find? λp=>Nat.beq p.1 i).map (·.2)with
   |none=>rfl
   |some j=>
    have:=b' _<|a0 i j J aC;omega
  .cases aj:st.h.get i with
   |none=>rfl
   |some R=>
    obtain⟨j,_,aw,_⟩:=aq i R aj;unfold oJ at aw;rw[au J]at aw;have:=b' _<|a0 i j J aw;omega
 .unfold qq at D;split at D
  .exact h.fY i a D
  .obtain⟨j,_,D⟩:=sb.1 D;obtain⟨y,Y,rfl⟩:=ot.1 D;exact h.fY j y Y
 .unfold qq;rw[aA J];exact h.k8 g aj
 .obtain⟨j,eX,aw,aa,a'⟩:=aq i R ay;obtain⟨y,Y,hm⟩:=h.eJ j eX aa<|ai a';have bf:=aI i j y aw Y;rw[D]at bf;cases bf;cases R with
  |cells cs e aN aW=>
   cases eX with
   |cells bm aF K bF=>
    have bA:y.bM=eU:=by
     by_cases af:i<ag
     .rw[aA af]at M;exact M
     .rw[au af]at M;have:sH st gW i j y=y.bM:=by unfold sH;rw[ay]
      rw[<-this];exact M
    have bB:=h.k9 j y _ Y bA aa az;simp only[oK,cQ]at a';obtain⟨⟨⟨⟨_,G⟩,aE⟩,a1⟩,_⟩:=a';have B:=dy G;have bH:=dy aE;show aN.1<aN.2;rw[B,bH];exact bB
   |_=>simp[oK]at a'
  |map es c=>
   cases eX with
   |map eY cX=>
    exfalso;obtain⟨ey,eW,C,jr,aT,ae⟩:=hm;have O:∀{bM:Nat->Nat} {a5:Nat},I3 bM a5->bM≠eU:=by
     intro bM a5 bk e;have ak:=bk.up 1;rw[e]at ak;simp[eU]at ak
    by_cases af:i<ag
    .rw[aA af]at M;exact O ae.nd M
    .rw[au af]at M;simp[af]at a';have:sH st gW i j y=sG y.bM es c eY cX:=by unfold sH;rw[ay,aa]
     rw[this]at M;exact O (Qo aB a' ae).nd M
   |_=>simp[oK]at a'
  |_=>cases eX<;>simp[oK]at a'
theorem ei.can{st:ao}{aG:d9}(o:∀i,ag<=i->ad i=none)(h:ei ad cP w aG)(aI:∀p∈l,ag<=p.2):ei ad (qq ag l st gW cP) w aG:=by
 refine⟨λi a D=>?_,h.size,h.kept,λi a D=>?_,h.fZ⟩
 .have af:i<ag:=by
   grind
  rw[qq,aA af];exact h.le i a D
 .rw[qq]at D;split at D
  .exact h.new i a D
  .have⟨j,A,D⟩:=sb.1 D;obtain⟨y,Y,rfl⟩:=ot.1 D;obtain q|q|⟨k,m,W,gX,cW⟩:=h.new j y Y
   .obtain⟨p,hp,rfl⟩:=ot.1 A
    grind
   .exact .inr<|.inl q
   .exact .inr<|.inr ⟨k,m,W,gX,cW⟩
theorem hP.can{b:dQ}{bu:Bool->ac Frame}{s:Machine}{o:ao}{st:ao}{O:Bool}(hw:bZ X ad o w)(ah:BI o.ag l v st v2 gW=true)
 (h:hP X ad w b bu s (.ret v2 gW O)):hP X ad w b bu s (.ret v st O):=by
 have⟨aJ,y,aG,F,Y,G,C,d,J,B,M⟩:=h;have g:ga (oJ o.ag l) v v2=true:=by
  rw[BI]at ah;simp at ah;exact ah.1.1.1.1
 have W:∀p∈l,o.ag<=p.2:=by
  rw[BI]at ah;simp only[cQ]at ah;intro p hp;have:=ja.1 ah.1.1.2 p hp
  simp_all
 exact⟨qq o.ag l st gW aJ,y,aG,F,BF (Qq _ _ _ _ _) Y _ g,bZ.can ah hw.nP G,ei.can (λi af=>(hw.fresh i af).1) C W,d,J,B,M⟩
def w6(call:bR)(res:ac gU)(r:cO):ev:=
 cO.rec (motive:=λ_=>ev)
  (λe I st=>c6.rec (motive:=λ_=>ev) (fS call res none I st) (λ_=>.no) (fS call res none I st) (λv=>fS call res (some v) I st) e) .no r
def nU(call:bR)(n:Nat)(f:d8)(a7:c7)(as:ac bv)(st:ao):ac ev:=
 eB (dK as) a7.aR ((eg call n f a7.body ⟨lF as 0 .nil,[],none,false,none⟩ st).map<|w6 call a7.res) [.no]
theorem JK{call:bR}{st:ao}{bu:Bool->ac Frame}(J:Good X)(a':nh X call)(u:w0 X call)(D:∀b aR bu,b.b7=none->yL X call b aR bu){f:d8}{a7:c7}{Fn:Func}{body:Code}(ok:vl X f a7 Fn body)(n:Nat){K:CallKind}{as hq:ac bv}
 (aa:bO ad as hq) (hw:bZ X ad st w) (aw:jO ⟨f,K,none⟩ none ad bu) (O:∀r∈nU call n f a7 as st,r≠.no):
 ∃r∈nU call n f a7 as st,hP X ad w ⟨f,K,none⟩ bu (lone (Frame.enter X.P f hq.toArray K) (bu false) w) r:=by
 unfold nU at O⊢;rw[l0]at O⊢;split
 .rename_i g;rw[aA g]at O;rw[fi]at g
  let b:dQ:=⟨f,K,none⟩
  have U:Frame.enter X.P f hq.toArray K=b.at ⟨hq.toArray++Array.replicate (a7.aR-hq.toArray.size) undef,[]⟩ [.code body]:=by
   simp[Frame.enter,dQ.at,ok.fn,ok.body,ok.aR,b]
  rw[U];obtain⟨r,d,W⟩:=(acr J a' (D b a7.aR bu o) ⟨Fn,ok.fn,ok.aR⟩ n a7.body body ad ⟨lF as 0 .nil,[],none,false,none⟩ ⟨hq.toArray++Array.replicate (a7.aR-hq.toArray.size) undef,[]⟩ st w [] ok.code (Qh aa g) hw (.inl e9) aw) (λr aw e=>by subst e;exact O (w6 call a7.res .no) (db.2 ⟨_,aw,o⟩) o);refine⟨w6 call a7.res r,db.2 ⟨r,d,o⟩,?_⟩;cases r with
  |no=>trivial
  |out e bC al=>
   have⟨aJ,H,aG,Y,G,C,_,_,B⟩:=W;cases e with
   |norm=>
    exact aqN
   |exit id=>trivial
   |ret=>
    exact apI
   |aY v=>
    have⟨y,S,h,M⟩:=B;exact hP.head M C<|yN u ok.fn ok.res Y G o o o o ⟨y,h,o⟩
 .grind
end Go.bI
namespace Go.bI
variable{X:Ctx}{α:Type}
def Fq(X:Ctx)(a7:c7)(Fn:Func):Bool:=
 match Fn.body with
 |some c=>Nat.beq Fn.ntmps a7.aR&&codeOk X a7.aR a7.body c&&tw X a7.res Fn.results.toList&& !(Fn.name== "runtime.NumGoroutine")
 |none=>false
def Qr{f:d8}{a7:c7}{Fn:Func}(D:X.P.funcs[f]? =some Fn)(h:Fq X a7 Fn=true):∃Fn c,vl X f a7 Fn c:=by
 rw[Fq]at h;split at h
 .rename_i c ah;simp only[cQ]at h;have⟨⟨⟨Y,G⟩,C⟩,d⟩:=h;exact⟨Fn,c,D,ah,dy Y,G,C,by simpa using d⟩
 .cases h
def ar.BJ(Q:Nat->α->Prop):ar α->(Nat->Nat)->Prop
 |.nil,_=>True
 |.node l v r,g=>(match v with|some x=>Q (g 0) x|none=>True)/\ar.BJ Q l (λn=>g<|2*n+1)/\ar.BJ Q r λn=>g<|2*n+2
theorem ar.JL{Q:Nat->α->Prop}:∀(t:ar α) (g:Nat->Nat),ar.BJ Q t g->∀n x,t.get n=some x->Q (g n) x
 |.nil,_,_,n,x,h=>by simp at h
 |.node l v r,g,bK,n,x,h=>by
  have⟨aE,aK,C⟩:=bK;cases n with
  |zero=>subst h;exact aE
  |succ m=>
   rw[ar.px]at h;split at h
   .rename_i hm;have:=ar.JL l _ aK _ x h
    grind
   .rename_i hm;have:=ar.JL r _ C _ x h
    grind
def acs{aV:ar c7}(h:ar.BJ (λf a7=>∃Fn c,vl X f a7 Fn c) aV id):l8 X aV:=
 λf a7 O=>ar.JL aV id h f a7 O
def oL:ra:=λ_ _ _=>none
def pB(X:Ctx):w2 X oL:=λ_ _ _ _ h=>by cases h
structure BK where
 P:f7
 a6:Nat
 lB:d8->Bool
 lY:d8->Bool
 Bb:∀f,lB f=true->∀x w,(callFunc f #[x]).run P w= .ok (.value x) w
 Bc:∀f,lY f=true->∀s c w,(callFunc f #[.string s,.int .u8 c]).run P w= .ok (.value (goInt (match(List.range s.size).find? (fun i=>s[i]! ==c.toNat.toUInt8)with|some i=>(i:Int)|none=> -1))) w
 keys:d7->be fR
 sx:∀k cn,keys k=some cn->Maps.Keyed P k∧∀v,cn.ok v=true->∃l,keyOf P k v=some l
 qh:d8->Bool
 Bd:∀f,qh f=true->∀s c w,(callFunc f #[.string s,.int .u8 c]).run P w= .ok (.value (goInt (s.data.toList.countP (fun b=>b==c.toNat.toUInt8):Nat))) w
 qi:d8->Bool
 l1:Nat
 Be:l1<a6
 Bf:∀f,qi f=true->∀(s b:f8) (m:Int) w,(load ⟨l1,0,none⟩).run P w= .ok (.int .i64 m) w->2<=b.size->(b.size:Int)<=m->s.size<=1000000->
  (callFunc f #[.string s,.string b]).run P w= .ok (.value (goInt (match qb b.data.toList s.data.toList with|some i=>(i:Int)|none=> -1))) w
 eqs:d7->be Nat
 wQ:∀t n,eqs t=some n->P.eqGuardType P.depth t=false∧∀xs aS b w,xs.size=n%100+n/100->aS.size=n%100+n/100->q9 (n%100) xs.toList aS.toList=some b->(Op.equalIn 10000 t (.agg xs) (.agg aS)).run P w= .ok b w
def BK.with(B:BK)(ok:d8->Code->dz->Prop):Ctx:=
 {P:=B.P,ok:=ok,a6:=B.a6,lB:=B.lB,lY:=B.lY,Bb:=B.Bb,Bc:=B.Bc,keys:=B.keys,sx:=B.sx,qh:=B.qh,Bd:=B.Bd,qi:=B.qi,l1:=B.l1,Be:=B.Be,Bf:=B.Bf,eqs:=B.eqs,wQ:=B.wQ}
def mkCtx(B:BK):Ctx:=B.with λfn c S=>∃F,B.P.funcs[fn]? =some F/\codeOk (B.with λ_ _ _=>False) F.ntmps S c=true
def acu(B:BK)(Y:B.P.follows .mixedOrders=true):Good (mkCtx B):=by
 refine⟨Y,λfn c S=>?_⟩;have e:codeOk (mkCtx B)=codeOk (B.with λ_ _ _=>False):=cw
 rw[e];exact Iff.rfl
section
variable{X:Ctx}
def Row.tz(r:Row)(g:Nat)(el:d7)(c:Nat):Row:=
 ⟨r.as,⟨r.st.h.set g<|.cells [.chan<|some c] el (0,1) false,r.st.ag⟩,r.v,⟨r.al.h.set g<|.cells [.chan<|some c] el (0,1) false,r.al.ag⟩⟩
end
end Go.bI
namespace Go.bI
variable{P:f7}
def Qs(i:Nat)(d:be TypeDesc):Bool:=match i,d with
 |0,some .string=>true
 |_+1,some (.int _)=>true
 |_,_=>false
def Fs(P:f7):ac Field->Nat->Nat->Bool
 |[],_,_=>true
 |f::b6,i,R=>Nat.beq f.offset R&&f.name != "_"&&Qs i (P.underlying f.type)&&Fs P b6 (i-1) (R+1)
def JM(P:f7)(t n:Nat):Bool:=match P.underlying t with
 |some (.struct b6)=> !P.stoodInHeld t&&Nat.beq b6.size (n%100+n/100)&&Fs P b6.toList (n%100) 0&& !P.eqGuardType P.depth t
 |_=>false
theorem Qt(w:d9)(d:Nat)(xs aS:bi bv):∀(b6:ac Field) (i R:Nat) (b:Bool),Fs P b6 i R=true->q9 i (xs.toList.drop R) (aS.toList.drop R)=some b->xs.size=R+b6.length->aS.size=R+b6.length->
 (Op.eqFields (d+1) xs aS b6).run P w= .ok b w
 |[],i,R,b,_,he,O,M=>by
  rw[Ay aoM,Ay aoM]at he;cases he;simp[Op.eqFields]
 |f::b6,i,R,b,D,he,O,M=>by
  unfold Fs at D;simp only[cQ]at D;obtain⟨⟨⟨aE,aK⟩,C⟩,Y⟩:=D;have aE:=dy aE;have aj:f.name≠ "_":=by grind
  rw[iQ]at O M;have g:R<xs.toList.length:=by simp;omega
  have s:R<aS.toList.length:=by simp;omega
  rw[Dp g,Dp s]at he;obtain⟨B,A,he⟩:=ig he az;have z:∃K,q9 (i-1) (xs.toList.drop<|R+1) (aS.toList.drop<|R+1)=some K/\b=(B&&K):=by
   cases B
   .obtain⟨K,W,ae⟩:=ig he az;cases ae;exact⟨K,W,o⟩
   .exact⟨b,he,az⟩
  obtain⟨K,W,aa⟩:=z;have U:=Qt w d xs aS b6 (i-1) (R+1) K Y W J J;have r:xs[f.offset]? =some xs.toList[R]:=by grind
  have u:aS[f.offset]? =some aS.toList[R]:=by grind
  generalize xs.toList[R]=x at *;generalize aS.toList[R]=y at *;have S:(i=0/\P.underlying f.type=some .string)\/(i≠0/\∃k,P.underlying f.type=some (.int k)):=by
   unfold Qs at C
   grind
  have hp:∀(cs:bi bv) v,cs[f.offset]? =some v->(part f.type cs f.offset).run P w= .ok v w:=by
   intro cs v h;rcases S with⟨_,G⟩|⟨_,k,G⟩
   .simp[part,isAgg,run_underlying G,h]
   .simp[part,isAgg,run_underlying G,h]
  have aD:(Op.equalIn (d+1) f.type x y).run P w= .ok B w:=by
   rcases S with⟨af,G⟩|⟨af,k,G⟩
   .subst af;have A:Ev x y=some B:=A;unfold Ev at A;split at A
    .cases A;rw[run_equalIn_string w d f.type _ _ G,toList_eq]
    .cases A
   .obtain⟨j,rfl⟩:∃j,i=j+1:=⟨i-1,J⟩;cases x<;>cases y<;>try (cases A)
    rename_i bU m H n;have A:=A;have A:(if bU=H then some (m==n)else none)=some B:=A;by_cases e:bU=H
    .subst e;rw[aA o]at A;cases A;exact run_equalIn_int w d f.type _ k _ _ G
    .rw[au e]at A;cases A
  have a':=hp aS y u;simp[Op.eqFields,aj,ne_eq,not_false_eq_true,if_true,Sem.run_bind,(hp xs x r),a',aD,Result.andThen_ok];rw[aa];cases B
  .simp
  .simpa using U
theorem acv{t n:Nat}(h:JM P t n=true):P.eqGuardType P.depth t=false/\∀xs aS b w,xs.size=n%100+n/100->aS.size=n%100+n/100->q9 (n%100) xs.toList aS.toList=some b->(Op.equalIn 10000 t (.agg xs)<|.agg aS).run P w= .ok b w:=by
 rw[JM]at h;split at h
 .rename_i b6 g;simp only[cQ]at h;have⟨⟨⟨Y,G⟩,C⟩,d⟩:=h;have G:=dy G;have D:P.fieldsOf t=b6:=by simp[Program.fieldsOf,g]
  refine⟨by simpa using d,λxs aS b w O j A=>?_⟩;rw[run_equalIn_struct w (9998+1) t xs aS (by rwa [D])<|by simpa using Y,D]
  grind [Qt]
 .cases h
end Go.bI
namespace Go.bI
inductive gb(ak:Nat->Nat->Prop):Value->Value->Prop
 |bool (b:Bool):gb ak (.bool b) (.bool b)
 |int (k:IntKind) (n:Int):gb ak (.int k n) (.int k n)
 |string (s:ByteArray):gb ak (.string s) (.string s)
 |lG:gb ak (.pointer none) (.pointer none)
 |ptr (a b:Addr) (h:ak a.block b.block) (ay:a.off=b.off) (bK:a.spot=none) (aa:b.spot=none):gb ak (.pointer (some a)) (.pointer (some b))
 |kl (n c:Nat):gb ak (.slice none n c) (.slice none n c)
 |fv (a b:Addr) (n c:Nat) (h:ak a.block b.block) (ay:a.off=b.off) (bK:a.spot=none) (aa:b.spot=none):gb ak (.slice (some a) n c) (.slice (some b) n c)
 |nb:gb ak (.map none) (.map none)
 |map (i j:Nat) (h:ak i j):gb ak (.map (some i)) (.map (some j))
 |func (f:FuncId) (xs aS us ab:Array Value) (aE:xs.size=aS.size) (aK:∀i (h:i<xs.size) (u9:i<aS.size),gb ak xs[i] aS[i])
  (aaY:us.size=ab.size) (aaZ:∀i (h:i<us.size) (u9:i<ab.size),gb ak us[i] ab[i]):gb ak (.func (.func f) xs us) (.func (.func f) aS ab)
 |nilFunc:gb ak .nilFunc .nilFunc
 |iface (t:TypeId) (v w:Value) (h:gb ak v w):gb ak (.iface t v) (.iface t w)
 |nilIface:gb ak .nilIface .nilIface
 |agg (xs aS:Array Value) (aE:xs.size=aS.size) (aK:∀i (h:i<xs.size) (u9:i<aS.size),gb ak xs[i] aS[i]):gb ak (.agg xs) (.agg aS)
 |tuple (xs aS:Array Value) (aE:xs.size=aS.size) (aK:∀i (h:i<xs.size) (u9:i<aS.size),gb ak xs[i] aS[i]):gb ak (.tuple xs) (.tuple aS)
 |chan (c:Nat):gb ak (.chan (some c)) (.chan (some c))
variable{v w:bv}
def gb.mono{ak S:Nat->Nat->Prop}(hle:∀i j,ak i j->S i j)(h:gb ak v w):gb S v w:=by
 induction h with
 |bool b=>exact .bool b
 |int k n=>exact .int k n
 |string s=>exact .string s
 |lG=>exact .lG
 |ptr a b h ay D aa=>exact .ptr a b (hle _ _ h) ay D aa
 |kl n c=>exact .kl n c
 |fv a b n c h ay D aa=>exact .fv a b n c (hle _ _ h) ay D aa
 |nb=>exact .nb
 |map i j h=>exact .map i j (hle _ _ h)
 |func f xs aS d K Y _ C _ B A=>exact .func f xs aS d K Y B C A
 |nilFunc=>exact .nilFunc
 |iface t v w _ U=>exact .iface t v w U
 |nilIface=>exact .nilIface
 |agg xs aS Y _ U=>exact .agg xs aS Y U
 |tuple xs aS Y _ U=>exact .tuple xs aS Y U
 |chan c=>exact .chan c
def gb.symm{ak:Nat->Nat->Prop}(h:gb ak v w):gb (λj i=>ak i j) w v:=by
 induction h with
 |bool b=>exact .bool b
 |int k n=>exact .int k n
 |string s=>exact .string s
 |lG=>exact .lG
 |ptr a b h ay D aa=>exact .ptr b a h ay.symm aa D
 |kl n c=>exact .kl n c
 |fv a b n c h ay D aa=>exact .fv b a n c h ay.symm aa D
 |nb=>exact .nb
 |map i j h=>exact .map j i h
 |func f xs aS d K Y _ C _ B A=>exact .func f aS xs K d Y.symm (λi a b=>B i b a) C.symm (λi a b=>A i b a)
 |nilFunc=>exact .nilFunc
 |iface t v w _ U=>exact .iface t w v U
 |nilIface=>exact .nilIface
 |agg xs aS Y _ U=>exact .agg aS xs Y.symm (λi a b=>U i b a)
 |tuple xs aS Y _ U=>exact .tuple aS xs Y.symm (λi a b=>U i b a)
 |chan c=>exact .chan c
def gb.BL{ak:Nat->Nat->Prop}{G aJ:bN}(D:∀i j l,ak i j->G i=some l->aJ j=some l){c:bv}(h:gb ak v c):∀{x:bv},bo G v x->bo aJ c x:=by
 induction h with
 |bool b=>intro x O;cases O;exact .bool b
 |int k n=>intro x O;cases O;exact .int k n
 |string s=>intro x O;cases O;exact .string s
 |lG=>intro x O;cases O;exact .lG
 |ptr a b h ay af aa=>
  intro x O;cases O with
  |ptr a l W M=>rw[ay];exact .ptr b l (D _ _ _ h W) aa
 |kl n c=>intro x O;cases O;exact .kl n c
 |fv a b n c h ay af aa=>
  intro x O;cases O with
  |fv a l R n c W M C=>exact .fv b l R n c (D _ _ _ h W) aa J
 |nb=>intro x O;cases O;exact .nb
 |map i j h=>intro x O;cases O with|map r b bM W=>exact .map j b bM (D _ _ _ h W)
 |func f xs aS ao K Y _ C _ aj A=>
  intro x O;cases O with
  |func an g d S z ae H u B bj dj=>
   refine .func _ _ aS S K ae ?_ (Y.symm.trans u) (λi a b=>aj i J a<|B i J b) (C.symm.trans bj) λi a b=>A i J a<|dj i J b;obtain⟨e,a'⟩|⟨l,b,e,_⟩:=H
   .exact .inl ⟨e,a'⟩
   .cases e
 |nilFunc=>intro x O;cases O;exact .nilFunc
 |iface t v w _ U=>intro x O;cases O with|iface t v y ab=>exact .iface t w y (U ab)
 |nilIface=>intro x O;cases O;exact .nilIface
 |agg xs aS Y _ U=>intro x O;cases O with|agg d S u B=>exact .agg aS S (Y.symm.trans u) (λi a b=>U i J a<|B i J b)
 |tuple xs aS Y _ U=>intro x O;cases O with|tuple d S u B=>exact .tuple aS S (Y.symm.trans u) (λi a b=>U i J a<|B i J b)
 |chan c=>
  intro x O;by_cases ah:c=0
  .subst ah;exact .top x
  .obtain⟨m,rfl,ai⟩:=O.Jt ah;exact .iG c m ai
def kp(ak:Nat->Nat->Prop)(xs aS:ac bv):Prop:=xs.length=aS.length/\∀(i:Nat) (h:i<xs.length) (D:i<aS.length),gb ak xs[i] aS[i]
variable{xs:ac bv}{aS:bi bv}
def kp.mono{ak S:Nat->Nat->Prop}(hle:∀i j,ak i j->S i j){aS:ac bv}(h:kp ak xs aS):kp S xs aS:=⟨h.1,λi a b=>(h.2 i a b).mono hle⟩
def kp.symm{ak:Nat->Nat->Prop}{aS:ac bv}(h:kp ak xs aS):kp (λj i=>ak i j) aS xs:=⟨h.1.symm,λi a b=>(h.2 i b a).symm⟩
def kp.nil(ak:Nat->Nat->Prop):kp ak [] []:=aqP
def kp.cons{ak:Nat->Nat->Prop}{x y:bv}{xs aS:ac bv}(h:gb ak x y)(M:kp ak xs aS):kp ak (x::xs) (y::aS):=by
 refine⟨by simp[M.1],λi a b=>?_⟩;cases i with
 |zero=>exact h
 |succ i=>exact M.2 i ar6 ar5
def kp.acw{ak:Nat->Nat->Prop}{J aJ:bN}(D:∀i j l,ak i j->J i=some l->aJ j=some l){ab cs:ac bv}(h:kp ak ab cs)(O:bO J ab xs):bO aJ cs xs:=
 ⟨h.1.symm.trans O.1,λi a b=>(h.2 i (by have:=h.1;omega) a).BL D<|O.2 i (by have:=h.1;omega) b⟩
def gb.Qu{ak:Nat->Nat->Prop}{xs:bi bv}(h:kp ak xs.toList aS.toList):gb ak (.agg xs) (.agg aS):=
 .agg xs aS apH λi a b=>by exact apx
def gb.tuple'{ak:Nat->Nat->Prop}{xs:bi bv}(h:kp ak xs.toList aS.toList):gb ak (.tuple xs) (.tuple aS):=
 .tuple xs aS apH λi a b=>by exact apx
def gb.Qv{ak:Nat->Nat->Prop}{f:d8}{xs us ab:bi bv}(h:kp ak xs.toList aS.toList)(D:kp ak us.toList ab.toList):gb ak (.func (.func f) xs us) (.func (.func f) aS ab):=
 .func f xs aS us ab apH (λi a b=>by have:=h.2 i J J;rwa [lW,lW]at this) (by simpa using D.1) λi a b=>by have:=D.2 i J J;rwa [lW,lW]at this
inductive js{α β:Type}(ak:α->β->Prop):List α->List β->Prop
 |nil:js ak [] []
 |cons {a:α} {b:β} {as:List α} {bH:List β} (h:ak a b) (cG:js ak as bH):js ak (a::as) (b::bH)
variable{α β:Type}{as:ac α}
def js.mono{ak S:α->β->Prop}(hle:∀a b,ak a b->S a b){bH:ac β}(h:js ak as bH):js S as bH:=by
 induction h with
 |nil=>exact .nil
 |cons h _ U=>exact .cons (hle _ _ h) U
def js.flip{ak:α->β->Prop}{bH:ac β}(h:js ak as bH):js (λb a=>ak a b) bH as:=by
 induction h with
 |nil=>exact .nil
 |cons h _ U=>exact .cons h U
def js.perm{ak:α->β->Prop}{l es:ac α}(hp:l.Perm es):∀{b6:ac β},js ak es b6->∃m:ac β,m.Perm b6/\js ak l m:=by
 induction hp with
 |nil=>intro b6 h;cases h;exact⟨[],.refl _,.nil⟩
 |cons x _ U=>
  intro b6 h;cases h with
  |cons h M=>have⟨m,Y,G⟩:=U M;exact⟨_::m,.cons _ Y,.cons h G⟩
 |swap x y l=>
  intro b6 h;cases h with
  |cons h M=>cases M with|cons D M=>exact⟨_::_::_,.swap _ _ _,.cons D<|.cons h M⟩
 |trans _ _ u B=>
  intro b6 h;have⟨m,Y,G⟩:=B h;have⟨n,C,d⟩:=u G;exact⟨n,C.trans Y,d⟩
def js.len{ak:α->β->Prop}{bH:ac β}(h:js ak as bH):as.length=bH.length:=by
 induction h with
 |nil=>rfl
 |cons _ _ U=>simp[U]
theorem js.at{α β:Type}{ak:α->β->Prop}{as:ac α}{bH:ac β}(h:js ak as bH):∀(i:Nat) (a:i<as.length) (b:i<bH.length),ak as[i] bH[i]:=by
 induction h with
 |nil=>intro i a;simp at a
 |cons h _ U=>
  grind
structure pC(ak:Nat->Nat->Prop)(e f:f6):Prop where
 key:e.key=f.key
 JN:gb ak e.key f.key
 val:gb ak e.val f.val
 born:e.born=f.born
variable{e f:f6}
def pC.mono{ak S:Nat->Nat->Prop}(hle:∀i j,ak i j->S i j)(h:pC ak e f):pC S e f:=⟨h.key,h.JN.mono hle,h.val.mono hle,h.born⟩
def pC.symm{ak:Nat->Nat->Prop}(h:pC ak e f):pC (λj i=>ak i j) f e:=⟨h.key.symm,h.JN.symm,h.val.symm,h.born.symm⟩
inductive kL(ak:Nat->Nat->Prop):bG->bG->Prop
 |cells (cs aU:List Value) (e:TypeId) (b1:Nat×Nat) (aW:Bool) (h:kp ak cs aU):kL ak (.cells cs e b1 aW) (.cells aU e b1 aW)
 |map (es b6:List MapEntry) (c:Nat) (h:js (pC ak) es b6):kL ak (.map es c) (.map b6 c)
variable{R p:bG}
def kL.mono{ak S:Nat->Nat->Prop}(hle:∀i j,ak i j->S i j)(h:kL ak R p):kL S R p:=by
 cases h with
 |cells cs C e D aW h=>exact .cells cs C e D aW (h.mono hle)
 |map es b6 c h=>exact .map es b6 c<|h.mono λ_ _ h=>h.mono hle
def kL.symm{ak:Nat->Nat->Prop}(h:kL ak R p):kL (λj i=>ak i j) p R:=by
 cases h with
 |cells cs C e D aW h=>exact .cells C cs e D aW h.symm
 |map es b6 c h=>exact .map b6 es c<|h.flip.mono λ_ _ h=>h.symm
def kL.live{ak:Nat->Nat->Prop}(h:kL ak R p):R≠.dead/\p≠.dead:=by cases h<;>simp
def kL.tq{ak:Nat->Nat->Prop}(h:kL ak R p):R.tq↔p.tq:=by cases h<;>exact Iff.rfl
variable{X:Ctx}
theorem kL.Qw{ak:Nat->Nat->Prop}{a' aJ:bN}(y:∀i j l,ak i j->a' i=some l->aJ j=some l)(h:kL ak R p){w:d9}{l:Loc}(hm:hA X a' w R l):hA X aJ w p l:=by
 cases h with
 |cells cs ao e an aW h=>
  have⟨C,K,hC⟩:=hm;refine⟨C,K,hC.there,by rw[<-h.1];exact hC.kH,by rw[<-h.1];exact hC.room,λi af=>?_,by rw[<-h.1];exact hC.vb,by rw[<-h.1];exact hC.plain⟩;have z:i<cs.length:=by rwa [h.1]
  have⟨c,Y,G⟩:=hC.cell i z;exact⟨c,Y,(h.2 i z af).BL y G⟩
 |map es b6 c h=>
  obtain⟨ah,aj,C,cX,Y,G⟩:=hm;have J:∀f∈b6,∃e∈es,pC ak e f:=by
   clear Y G;intro f D
   induction h with
   |nil=>cases D
   |cons h _ U=>
    grind
  have s:∀(Q:f6->f6->Prop),(∀a b c d,pC ak a c->pC ak b d->Q a b->Q c d)->es.Pairwise Q->b6.Pairwise Q:=by
   intro Q aq hp;clear Y G J
   induction h with
   |nil=>exact .nil
   | @cons a b as bH h M U=>
    rw[nE]at hp⊢;refine⟨λd S=>?_,U hp.2⟩;have:∃e∈as,pC ak e d:=by
     induction M with
     |nil=>cases S
     |cons aa _ O=>
      obtain rfl|S:=fg.1 S
      .exact⟨_,az,aa⟩
      .simp_all
    grind
  refine⟨ah,aj,C,cX,Y,G.jr,G.nd,λf D=>?_,s _ (λa b c d Y G ai=>by rwa [<-Y.key,<-G.key]) G.keys,s _ (λa b c d Y G ai=>by rwa [<-Y.born,<-G.born]) G.jM,?_⟩
  .have⟨e,he,r⟩:=J f D;rw[<-r.born];exact G.born e he
  .have⟨u,ae,B,bj⟩:=G.same;have⟨m,bU,g⟩:=h.perm ae;refine⟨m,bU,g.len.symm.trans B,λi a b=>?_⟩;have H:i<u.length:=by omega
   have⟨W,cW,A⟩:=bj i H b;have q:=g.at i H a;exact asM asM
end Go.bI
namespace Go.bI
structure dA where
 cC:ar Nat
 inv:ar Nat
 a4:Nat
def dA.ak(s:dA)(i j:Nat):Prop:=s.cC.get i=some j
structure dA.Ok(s:dA):Prop where
 iff:∀i j,s.cC.get i=some j↔s.inv.get j=some i
 l5:∀i j,s.cC.get i=some j->i<s.a4
def dA.le(s t:dA):Prop:=∀i j,s.cC.get i=some j->t.cC.get i=some j
def dA.le.refl(s:dA):s.le s:=λ_ _ h=>h
theorem dA.le.trans{s t u:dA}(h:s.le t)(D:t.le u):s.le u:=λi j e=>D i j<|h i j e
def w7(i j:Nat)(s:dA):be dA:=
 bx (s.inv.get j) (λW=>cond (Nat.beq i W) (some s) none)
  (cond (Nat.beq i s.a4) (ar.fin (ar.kE (Nat.succ i) s.cC i j) λcC=>ar.fin (ar.kE (Nat.succ j) s.inv j i) λinv=>hd (Nat.succ i) λc=>some ⟨cC,inv,c⟩) none)
theorem JO{i j:Nat}{s J:dA}(M:s.Ok)(h:w7 i j s=some J):J.Ok/\s.le J/\J.ak i j:=by
 rw[w7]at h;cases A:s.inv.get j with
 |some W=>
  rw[A]at h;have h:cond (Nat.beq i W) (some s) none=some J:=h;cases aa:Nat.beq i W with
  |false=>rw[aa]at h;cases h
  |true=>
   rw[aa]at h;cases h;have:=dy aa;subst this;exact⟨M,.refl s,(M.iff i j).2 A⟩
 |none=>
  rw[A]at h;have h:cond (Nat.beq i s.a4) (ar.fin (ar.kE (Nat.succ i) s.cC i j) λcC=>ar.fin (ar.kE (Nat.succ j) s.inv j i) λinv=>hd (Nat.succ i) λc=>some ⟨cC,inv,c⟩) none=some J:=h;cases aa:Nat.beq i s.a4 with
  |false=>rw[aa]at h;cases h
  |true=>
   rw[aa]at h;have e:=dy aa;simp[ar.tp,ar.u7]at h;rw[hd]at h;simp at h;subst h;have B:∀b,s.cC.get i≠some b:=λb aa=>by have:=M.l5 _ _ aa;omega
   refine⟨⟨λa b=>?_,λa b d=>?_⟩,λa b d=>?_,?_⟩
   .show(s.cC.set i j).get a=some b↔(s.inv.set j i).get b=some a;rw[ar.eP,ar.eP];by_cases D:a=i<;>by_cases g:b=j
    .rw[aA D,D,g];simp
    .rw[au g];subst D;constructor
     .grind
     .intro e;exact absurd ((M.iff _ _).2 e)<|B b
    .rw[au D];subst g;constructor
     .intro e;rw[(M.iff _ _).1 e]at A;cases A
     .grind
    .rw[au D,au g];exact M.iff a b
   .have d:=d;show a<Nat.succ i;rw[ar.eP]at d;by_cases D:a=i
    .omega
    .rw[au D]at d;have:=M.l5 _ _ d;omega
   .show(s.cC.set i j).get a=some b;rw[ar.eP,au]
    .exact d
    .intro D;subst D;exact B b d
   .show(s.cC.set i j).get i=some j;rw[ar.nO]
def JP(a b:be Addr)(s:dA):be dA:=
 Option.rec (motive:=λ_=>be dA) (Option.rec (motive:=λ_=>be dA) (some s) (λ_=>none) b)
  (λa=>Option.rec (motive:=λ_=>be dA) none
   (λb=>cond (Nat.beq a.off b.off) (Option.rec (motive:=λ_=>be dA) (Option.rec (motive:=λ_=>be dA) (w7 a.block b.block s) (λ_=>none) b.spot) (λ_=>none) a.spot) none) b) a
theorem Qx{a b:be Addr}{s J:dA}(h:JP a b s=some J):
 (a=none/\b=none/\J=s)\/∃p q,a=some p/\b=some q/\p.off=q.off/\p.spot=none/\q.spot=none/\w7 p.block q.block s=some J:=by
 cases a with
 |none=>
  cases b with
  |none=>left;exact⟨o,o,(Option.some.inj h).symm⟩
  |some q=>cases h
 |some p=>
  cases b with
  |none=>cases h
  |some q=>
   right;have⟨g,j,bd⟩:=p;have⟨z,d,r⟩:=q;cases ay:Nat.beq j d with
   |false=>
    have h:cond (Nat.beq j d) _ none=some J:=h;rw[ay]at h;cases h
   |true=>
    cases bd with
    |some x=>
     exact aqO
    |none=>
     cases r with
     |some x=>
      exact aqO
     |none=>
      have h:cond (Nat.beq j d) (w7 g z s) none=some J:=h
      simp_all
def JQ(f g:Fn)(k:be dA):be dA:=
 match f,g with
 |.func a,.func b=>cond (Nat.beq a b) k none
 |_,_=>none
def acx{f g:Fn}{k:be dA}{s:dA}(h:JQ f g k=some s):∃a,f= .func a/\g= .func a/\k=some s:=by
 unfold JQ at h;split at h
 .rename_i a b;cases aa:Nat.beq a b with
  |false=>rw[aa]at h;cases h
  |true=>rw[aa]at h;exact⟨a,o,by rw[dy aa],h⟩
 .cases h
def acy(a b:ac ci):Bool:=a==b
def JR(a b:Bool):Bool:=cond a b<|cond b false true
def Qy{a b:Bool}(h:JR a b=true):a=b:=by cases a<;>cases b<;>first|rfl|cases h
def Qz(w:bv)(s:dA):be dA:=match w with|.nilFunc=>some s|_=>none
def QA(w:bv)(s:dA):be dA:=match w with|.nilIface=>some s|_=>none
def QB(c:be Nat)(w:bv)(s:dA):be dA:=match c,w with|some a,.chan (some b)=>cond (Nat.beq a b) (some s) none|_,_=>none
def QC(f:Fn)(k:d8->be bv):be bv:=match f with|.func g=>k g|_=>none
def QD(c:be Nat):be bv:=match c with|some c=>some (.chan<|some c)|none=>none
mutual
def sI:bv->bv->dA->be dA
 |.bool a,w,s=>kj w (λb=>cond (JR a b) (some s) none) none
 |.int k a,w,s=>gk w (λo b=>cond (j5 k o) (cond (sm a b) (some s) none) none) none
 |.string a,w,s=>h1 w (λb=>cond (acy a.data.toList b.data.toList) (some s) none) none
 |.pointer a,w,s=>hN w (λb=>JP a b s) none
 |.slice a n c,w,s=>h2 w (λb D cX=>cond (Nat.beq n D) (cond (Nat.beq c cX) (JP a b s) none) none) none
 |.map a,w,s=>pv w (λb=>Option.rec (motive:=λ_=>be dA) (Option.rec (motive:=λ_=>be dA) (some s) (λ_=>none) b) (λi=>Option.rec (motive:=λ_=>be dA) none (λj=>w7 i j s) b) a) none
 |.func f xs us,w,s=>yn w (λg aS ab=>JQ f g<|bx (yQ xs aS s) (λs=>yQ us ab s) none) none
 |.nilFunc,w,s=>Qz w s
 |.nilIface,w,s=>QA w s
 |.iface t v,w,s=>yo w (λu y=>cond (Nat.beq t u) (sI v y s) none) none
 |.agg xs,w,s=>sn w (λaS=>yQ xs aS s) none
 |.tuple xs,w,s=>q6 w (λaS=>yQ xs aS s) none
 |.chan c,w,s=>QB c w s
 |_,_,_=>none
def yQ:bi bv->bi bv->dA->be dA
 |⟨xs⟩,aS,s=>BM xs aS.toList s
def BM:ac bv->ac bv->dA->be dA
 |[],aS,s=>List.rec (motive:=λ_=>be dA) (some s) (λ_ _ _=>none) aS
 |x::xs,aS,s=>List.rec (motive:=λ_=>be dA) none (λy S _=>bx (sI x y s) (λJ=>BM xs S J) none) aS
end
def nV{b:Bool}{R:be dA}{s:dA}(h:cond b R none=some s):b=true/\R=some s:=by
 cases b
 .cases h
 .exact⟨o,h⟩
def sJ{α:Type}{R:be α}{k:α->be dA}{s:dA}(h:bx R k none=some s):∃a,R=some a/\k a=some s:=ig h az
mutual
theorem Ft:∀(v w:bv) (s J:dA),s.Ok->sI v w s=some J->J.Ok/\s.le J/\gb J.ak v w
 |.bool a,w,s,J,M,h=>by
  obtain⟨b,rfl,h⟩:=O8 h az;obtain⟨Y,G⟩:=nV h;cases G;rw[Qy Y];exact⟨M,.refl s,.bool _⟩
 |.int k a,w,s,J,M,h=>by
  obtain⟨aa,b,rfl,h⟩:=oA h az;obtain⟨Y,h⟩:=nV h;obtain⟨G,h⟩:=nV h;cases h;rw[AS]at G;rw[wT Y,Av G];exact⟨M,.refl s,.int _ _⟩
 |.float k n,w,s,J,M,h=>by rw[sI]at h<;>first|cases h|simp
 |.complex k n m,w,s,J,M,h=>by rw[sI]at h<;>first|cases h|simp
 |.string a,w,s,J,M,h=>by
  obtain⟨b,rfl,h⟩:=yu h az;obtain⟨Y,G⟩:=nV h;cases G;have e:=Av Y;have:a=b:=by cases a;simp only at e;rw[Array.toList_inj.1 e]
  rw[this];exact⟨M,.refl s,.string _⟩
 |.pointer a,w,s,J,M,h=>by
  obtain⟨b,rfl,h⟩:=A7 h az;rcases Qx h with⟨rfl,rfl,rfl⟩|⟨p,q,rfl,rfl,Y,G,C,D⟩
  .exact⟨M,.refl _,.lG⟩
  .obtain⟨z,B,bj⟩:=JO M D;exact⟨z,B,.ptr p q bj Y G C⟩
 |.slice a n c,w,s,J,M,h=>by
  obtain⟨b,ab,cX,rfl,h⟩:=yv h az;obtain⟨U,h⟩:=nV h;obtain⟨S,h⟩:=nV h;rw[dy U,dy S];rcases Qx h with⟨rfl,rfl,rfl⟩|⟨p,q,rfl,rfl,Y,G,C,D⟩
  .exact⟨M,.refl _,.kl _ _⟩
  .obtain⟨z,B,bj⟩:=JO M D;exact⟨z,B,.fv p q _ _ bj Y G C⟩
 |.map a,w,s,J,M,h=>by
  have:∃b,w= .map b/\Option.rec (Option.rec (some s) (λ_=>none) b) (λi=>Option.rec none (λj=>w7 i j s) b) a=some J:=by
   cases w<;>first|cases h|exact⟨_,o,h⟩
  obtain⟨b,rfl,h⟩:=this;cases a with
  |none=>
   cases b with
   |none=>cases h;exact⟨M,.refl _,.nb⟩
   |some j=>cases h
  |some i=>
   cases b with
   |none=>cases h
   |some j=>
    obtain⟨z,B,bj⟩:=JO M h;exact⟨z,B,.map i j bj⟩
 |.func f xs a',w,s,J,M,h=>by
  obtain⟨g,aS,K,rfl,h⟩:=I0 h az;obtain⟨a,rfl,rfl,C⟩:=acx h;obtain⟨H,Y,G⟩:=sJ C;obtain⟨O,r,d⟩:=Fu xs aS s H M Y;obtain⟨W,cW,A⟩:=Fu a' K H J O G;exact⟨W,r.trans cW,.Qv (d.mono cW) A⟩
 |.nilFunc,w,s,J,M,h=>by
  rw[sI]at h;unfold Qz at h;split at h
  .cases h;exact⟨M,.refl _,.nilFunc⟩
  .cases h
 |.nilIface,w,s,J,M,h=>by
  rw[sI]at h;unfold QA at h;split at h
  .cases h;exact⟨M,.refl _,.nilIface⟩
  .cases h
 |.iface t v,w,s,J,M,h=>by
  obtain⟨u,y,rfl,h⟩:=I1 h az;obtain⟨U,h⟩:=nV h;obtain⟨O,r,d⟩:=Ft v y s J M h;rw[dy U];exact⟨O,r,.iface _ _ _ d⟩
 |.agg xs,w,s,J,M,h=>by
  obtain⟨aS,rfl,h⟩:=A8 h az;obtain⟨O,r,d⟩:=Fu xs aS s J M h;exact⟨O,r,.Qu d⟩
 |.tuple xs,w,s,J,M,h=>by
  obtain⟨aS,rfl,h⟩:=O9 h az;obtain⟨O,r,d⟩:=Fu xs aS s J M h;exact⟨O,r,.tuple' d⟩
 |.chan c,w,s,J,M,h=>by
  rw[sI]at h;unfold QB at h;split at h
  .obtain⟨U,h⟩:=nV h;cases h;rw[dy U];exact⟨M,.refl _,.chan _⟩
  .cases h
theorem Fu:∀(xs aS:bi bv) (s J:dA),s.Ok->yQ xs aS s=some J->J.Ok/\s.le J/\kp J.ak xs.toList aS.toList
 |⟨xs⟩,aS,s,J,M,h=>by rw[yQ]at h;exact Fv xs aS.toList s J M h
theorem Fv:∀(xs aS:ac bv) (s J:dA),s.Ok->BM xs aS s=some J->J.Ok/\s.le J/\kp J.ak xs aS
 |[],aS,s,J,M,h=>by
  cases aS with
  |nil=>cases h;exact⟨M,.refl _,.nil _⟩
  |cons y aS=>cases h
 |x::xs,aS,s,J,M,h=>by
  cases aS with
  |nil=>cases h
  |cons y aS=>
   obtain⟨g,aE,aK⟩:=sJ h;obtain⟨O,r,d⟩:=Ft x y s g M aE;obtain⟨W,cW,A⟩:=Fv xs aS g J O aK;exact⟨W,r.trans cW,.cons (d.mono cW) A⟩
end
def QE(es:ac f6):ac f6->dA->be dA:=
 List.rec (motive:=λ_=>ac f6->dA->be dA) (λb6 s=>List.rec (motive:=λ_=>be dA) (some s) (λ_ _ _=>none) b6)
  (λe _ U b6 s=>List.rec (motive:=λ_=>be dA) none
   (λf j _=>cond (Nat.beq e.born f.born) (cond (dE e.key f.key) (bx (sI e.key f.key s) (λs=>bx (sI e.val f.val s) (λs=>U j s) none) none) none) none) b6) es
theorem QF:∀(es b6:ac f6) (s J:dA),s.Ok->QE es b6 s=some J->J.Ok/\s.le J/\js (pC J.ak) es b6
 |[],[],s,J,M,h=>by cases h;exact⟨M,.refl _,.nil⟩
 |[],_::_,s,J,M,h=>by cases h
 |_::_,[],s,J,M,h=>by cases h
 |e::es,f::b6,s,J,M,h=>by
  have⟨U,h⟩:=nV h;have⟨g,h⟩:=nV h;have⟨s1,Y,h⟩:=sJ h;have⟨s2,G,h⟩:=sJ h;have⟨O,r,d⟩:=Ft _ _ _ _ M Y;have⟨W,cW,A⟩:=Ft _ _ _ _ O G;have⟨dX,e5,ni⟩:=QF es b6 s2 J W h;exact⟨dX,(r.trans cW).trans e5,.cons ⟨j4 _ _ g,d.mono<|cW.trans e5,A.mono e5,dy U⟩ ni⟩
def w8(R p:bG)(s:dA):be dA:=
 match R,p with
 |.cells cs e D aW,.cells C U K J=>cond (Nat.beq e U) (cond (Nat.beq D.1 K.1) (cond (Nat.beq D.2 K.2) (cond (JR aW J) (BM cs C s) none) none) none) none
 |.map es c,.map b6 cX=>cond (Nat.beq c cX) (QE es b6 s) none
 |_,_=>none
def QG{R p:bG}{s J:dA}(M:s.Ok)(h:w8 R p s=some J):J.Ok/\s.le J/\kL J.ak R p:=by
 unfold w8 at h;split at h
 .rename_i cs e D aW C j K u;have⟨U,h⟩:=nV h;have⟨g,h⟩:=nV h;have⟨z,h⟩:=nV h;have⟨B,h⟩:=nV h;have⟨O,r,d⟩:=Fv _ _ _ _ M h;have:=Prod.ext (dy g)<|dy z;subst this;rw[dy U,Qy B];exact⟨O,r,.cells _ _ _ _ _ d⟩
 .have⟨U,h⟩:=nV h;have⟨O,r,d⟩:=QF _ _ _ _ M h;rw[dy U];exact⟨O,r,.map _ _ _ d⟩
 .cases h
def QH(h:ar bG)(os:ac bG):Nat->dA->be dA:=
 List.rec (motive:=λ_=>Nat->dA->be dA) (λ_ s=>some s)
  (λR _ U i s=>bx (s.cC.get i) (λj=>bx (h.get j) (λp=>bx (w8 R p s) (λs=>hd (Nat.succ i) λW=>U W s) none) none) none) os
theorem QI{H:ar bG}:∀(os:ac bG) (i:Nat) (s J:dA),s.Ok->QH H os i s=some J->
 J.Ok/\s.le J/\∀k (aB:k<os.length),∃j p,J.ak (i+k) j/\H.get j=some p/\kL J.ak os[k] p
 |[],i,s,J,M,h=>by cases h;exact⟨M,.refl _,λk aB=>by simp at aB⟩
 |R::os,i,s,J,M,h=>by
  have⟨j,aE,h⟩:=sJ h;have⟨p,G,h⟩:=sJ h;have⟨s1,C,h⟩:=sJ h;rw[hd]at h;rw[kA]at h;have⟨O,r,d⟩:=QG M C;have⟨W,cW,A⟩:=QI os (i+1) s1 J O h;refine⟨W,r.trans cW,λk aB=>?_⟩;cases k with
  |zero=>exact⟨j,p,(r.trans cW) _ _ aE,G,d.mono cW⟩
  |succ k=>
   have⟨g,u,y,B,bj⟩:=A k<|by simpa using aB
   grind
def mC(cC:ar Nat)(gY er i:Nat):Nat:=bx (cC.get i) (λj=>j)<|Nat.add er<|Nat.sub i gY
section
variable(cC:ar Nat)(gY er:Nat)
def JS{β:Type}(a:be Addr)(k:be Addr->be β):be β:=
 Option.rec (motive:=λ_=>be β) (k none) (λa=>Option.rec (motive:=λ_=>be β) (hd (mC cC gY er a.block) λb=>k<|some ⟨b,a.off,none⟩) (λ_=>none) a.spot) a
mutual
def sK:bv->be bv
 |.pointer a=>JS cC gY er a λb=>some (.pointer b)
 |.slice a n c=>JS cC gY er a λb=>some (.slice b n c)
 |.map a=>Option.rec (motive:=λ_=>be bv) (some<|.map none) (λi=>hd (mC cC gY er i) λj=>some<|.map<|some j) a
 |.func f xs us=>QC f λg=>bx (yR xs) (λaS=>bx (yR us) (λab=>some<|.func (.func g) ⟨aS⟩ ⟨ab⟩) none) none
 |.iface t v=>bx (sK v) (λw=>some<|.iface t w) none
 |.agg xs=>bx (yR xs) (λaS=>some<|.agg ⟨aS⟩) none
 |.tuple xs=>bx (yR xs) (λaS=>some<|.tuple ⟨aS⟩) none
 |.bool b=>some (.bool b)
 |.int k n=>some (.int k n)
 |.string s=>some (.string s)
 |.nilFunc=>some .nilFunc
 |.nilIface=>some .nilIface
 |.chan c=>QD c
 |_=>none
def yR:bi bv->be (ac bv)
 |⟨xs⟩=>Fw xs
def Fw:ac bv->be (ac bv)
 |[]=>some []
 |x::xs=>bx (sK x) (λy=>bx (Fw xs) (λaS=>some<|y::aS) none) none
end
variable{β:Type}
def et{α:Type}{R:be α}{k:α->be β}{b:β}(h:bx R k none=some b):∃a,R=some a/\k a=some b:=ig h az
theorem QJ{a:be Addr}{k:be Addr->be β}{b:β}(h:JS cC gY er a k=some b):
 (a=none/\k none=some b)\/∃p,a=some p/\p.spot=none/\k (some ⟨mC cC gY er p.block,p.off,none⟩)=some b:=by
 cases a with
 |none=>exact .inl ⟨o,h⟩
 |some p=>
  have⟨g,j,bd⟩:=p;cases bd with
  |some x=>cases h
  |none=>
   have h:hd (mC cC gY er g) (λb=>k<|some ⟨b,j,none⟩)=some b:=h;rw[hd]at h
   grind
mutual
theorem BN:∀(v w:bv),sK cC gY er v=some w->gb (λi j=>j=mC cC gY er i) v w
 |.bool b,w,h=>by cases h;exact .bool b
 |.int k n,w,h=>by cases h;exact .int k n
 |.float k n,w,h=>by rw[sK]at h<;>first|cases h|simp
 |.complex k n m,w,h=>by rw[sK]at h<;>first|cases h|simp
 |.string s,w,h=>by cases h;exact .string s
 |.pointer a,w,h=>by
  rcases QJ cC gY er h with⟨rfl,h⟩|⟨p,rfl,M,h⟩
  .cases h;exact .lG
  .cases h;exact .ptr _ _ o o M o
 |.slice a n c,w,h=>by
  rcases QJ cC gY er h with⟨rfl,h⟩|⟨p,rfl,M,h⟩
  .cases h;exact .kl _ _
  .cases h;exact .fv _ _ _ _ o o M o
 |.map a,w,h=>by
  cases a with
  |none=>cases h;exact .nb
  |some i=>
   have h:hd (mC cC gY er i) (λj=>some<|Value.map<|some j)=some w:=h;unfold hd at h;rw[kA]at h;cases h;exact .map _ _ o
 |.func f xs C,w,h=>by
  rw[sK]at h;unfold QC at h;split at h
  .obtain⟨aS,Y,h⟩:=et h;obtain⟨K,G,h⟩:=et h;cases h;exact .Qv (Fx xs aS Y)<|Fx C K G
  .cases h
 |.nilFunc,w,h=>by cases h;exact .nilFunc
 |.nilIface,w,h=>by cases h;exact .nilIface
 |.iface t v,w,h=>by
  obtain⟨y,Y,h⟩:=et h;cases h;exact .iface _ _ _ (BN v y Y)
 |.agg xs,w,h=>by
  obtain⟨aS,Y,h⟩:=et h;cases h;exact .Qu (Fx xs aS Y)
 |.tuple xs,w,h=>by
  obtain⟨aS,Y,h⟩:=et h;cases h;exact .tuple' (Fx xs aS Y)
 |.chan c,w,h=>by
  rw[sK]at h;unfold QD at h;split at h
  .cases h;exact .chan _
  .cases h
theorem Fx:∀(xs:bi bv) (aS:ac bv),yR cC gY er xs=some aS->kp (λi j=>j=mC cC gY er i) xs.toList aS
 |⟨xs⟩,aS,h=>by rw[yR]at h;exact JT xs aS h
theorem JT:∀(xs aS:ac bv),Fw cC gY er xs=some aS->kp (λi j=>j=mC cC gY er i) xs aS
 |[],aS,h=>by cases h;exact .nil _
 |x::xs,aS,h=>by
  obtain⟨y,aE,h⟩:=et h;obtain⟨J,G,h⟩:=et h;cases h;exact .cons (BN x y aE)<|JT xs J G
end
def QK(es:ac f6):be (ac f6):=
 List.rec (motive:=λ_=>be<|ac f6) (some [])
  (λe _ r=>bx (sK cC gY er e.key) (λk=>cond (dE e.key k) (bx (sK cC gY er e.val) (λv=>bx r (λes=>some<|⟨k,v,e.born⟩::es) none) none) none) none) es
theorem QL:∀(es b6:ac f6),QK cC gY er es=some b6->js (pC λi j=>j=mC cC gY er i) es b6
 |[],b6,h=>by cases h;exact .nil
 |e::es,b6,h=>by
  have⟨k,aE,h⟩:=et h;cases d:dE e.key k with
  |false=>rw[d]at h;cases h
  |true=>
   rw[d]at h;have⟨v,G,h⟩:=et h;have⟨gs,C,h⟩:=et h;cases h;exact .cons ⟨j4 _ _ d,BN _ _ _ _ _ aE,BN _ _ _ _ _ G,o⟩<|QL es gs C
def Fy(R:bG):be bG:=
 match R with
 |.cells cs e D aW=>bx (Fw cC gY er cs) (λC=>some<|.cells C e D aW) none
 |.map es c=>bx (QK cC gY er es) (λb6=>some<|.map b6 c) none
 |.dead=>some .dead
 |_=>none
def acz{R p:bG}(h:Fy cC gY er R=some p):(R= .dead/\p= .dead)\/kL (λi j=>j=mC cC gY er i) R p:=by
 unfold Fy at h;split at h
 .have⟨C,Y,h⟩:=et h;cases h;exact .inr<|.cells _ _ _ _ _<|JT _ _ _ _ _ Y
 .have⟨b6,Y,h⟩:=et h;cases h;exact .inr<|.map _ _ _<|QL _ _ _ _ _ Y
 .cases h;exact .inl e9
 .cases h
def JU(a6:Nat)(us:ac (Nat×bG)):ar bG->be (ar bG):=
 List.rec (motive:=λ_=>ar bG->be (ar bG)) (λh=>some h)
  (λu _ U h=>cond (Nat.ble a6 u.1) (hd (mC cC gY er u.1) λj=>bx (Fy cC gY er u.2) (λp=>ar.fin (ar.kE (Nat.succ j) h j p) U) none) none) us
end
def lb(us:ac (Nat×bG)):ar bG->ar bG:=
 List.rec (motive:=λ_=>ar bG->ar bG) (λh=>h) (λu _ U h=>ar.fin (ar.kE (Nat.succ u.1) h u.1 u.2) U) us
def yS(os:ac bG):Nat->ar bG->ar bG:=
 List.rec (motive:=λ_=>Nat->ar bG->ar bG) (λ_ h=>h) (λR _ U i h=>hd (Nat.succ i) λW=>ar.fin (ar.kE W h i R) λD=>U W D) os
def yT(h:ar bG)(os:ac (Nat×bG)):dA->be dA:=
 List.rec (motive:=λ_=>dA->be dA) (λs=>some s)
  (λR _ U s=>bx (s.cC.get R.1) (λj=>bx (h.get j) (λp=>bx (w8 R.2 p s) U none) none) none) os
theorem QM{H:ar bG}:∀(os:ac (Nat×bG)) (s J:dA),s.Ok->yT H os s=some J->
 J.Ok/\s.le J/\∀R∈os,∃j p,J.ak R.1 j/\H.get j=some p/\kL J.ak R.2 p
 |[],s,J,M,h=>by cases h;exact⟨M,.refl _,λR ay=>by cases ay⟩
 |R::os,s,J,M,h=>by
  have⟨j,aE,h⟩:=sJ h;have⟨p,G,h⟩:=sJ h;have⟨s1,C,h⟩:=sJ h;have⟨O,r,d⟩:=QG M C;have⟨W,cW,A⟩:=QM os s1 J O h;refine⟨W,r.trans cW,λu g=>?_⟩;obtain rfl|g:=fg.1 g
  .exact⟨j,p,(r.trans cW) _ _ aE,G,d.mono cW⟩
  .exact A u g
theorem JV:∀(os:ac bG) (i:Nat) (h:ar bG) (k:Nat),(yS os i h).get k=if i<=k/\k<i+os.length then os[k-i]? else h.get k
 |[],i,h,k=>by rw[au az];rfl
 |R::os,i,h,k=>by
  have e:yS (R::os) i h=yS os (i+1) (h.set i R):=by
   show hd (Nat.succ i) (λW=>ar.fin (ar.kE W h i R) λD=>yS os W D)=_;rw[hd,kA];show ar.fin (ar.kE (Nat.succ i) h i R) (λD=>yS os (i+1) D)=_;rw[ar.tp,ar.u7]
  rw[e,JV os (i+1) _ k,ar.eP]
  grind
def Fz(u:Nat×bG)(us:ac (Nat×bG))(h:ar bG):lb (u::us) h=lb us (h.set u.1 u.2):=by
 show ar.fin (ar.kE (Nat.succ u.1) h u.1 u.2) (lb us)=_;rw[ar.tp,ar.u7]
theorem yU:∀(us:ac (Nat×bG)) (h:ar bG) (k:Nat) (R:bG),(lb us h).get k=some R->(k,R)∈us\/h.get k=some R
 |[],_,_,_,e=>.inr e
 |u::us,h,k,R,e=>by
  rw[Fz]at e;obtain hm|hm:=yU us _ k R e
  .exact .inl<|e3 _ hm
  .rw[ar.eP]at hm
   grind
structure eu where
 as:ac bv
 gs:ac (Nat×bG)
 ry:ac bG
 v:bv
 fl:ac (Nat×bG)
 aC:Nat
def eu.eH(r:eu)(a6:Nat):ar bG:=yS r.ry a6<|lb r.gs .nil
def eu.row(r:eu)(a6:Nat):Row:=⟨r.as,⟨r.eH a6,Nat.add a6<|dK r.ry⟩,r.v,⟨lb r.fl<|r.eH a6,r.aC⟩⟩
def eu.app(ax:dA)(r:eu)(as:ac bv)(st:ao):be ev:=
 bx (BM r.as as ax) (λs=>bx (yT st.h r.gs s) (λs=>bx (QH st.h r.ry ax.a4 s) (λs=>cond (Nat.beq s.a4<|Nat.add ax.a4<|dK r.ry) (cond (Nat.ble s.a4 r.aC)
  (bx (sK s.cC s.a4 st.ag r.v) (λv=>bx (JU s.cC s.a4 st.ag ax.a4 r.fl st.h) (λh=>hd (Nat.add st.ag<|Nat.sub r.aC s.a4) λn=>some<|.ret v ⟨h,n⟩ false) none) none) none) none) none) none) none
structure JW(FA:Nat->Nat)(H:ar bG)(ag a6:Nat)(bS aw ah:ar bG):Prop where
 obj:∀j R,ah.get j=some R->R≠.dead->(∃i p,j=FA i∧aw.get i=some p∧kL (fun i j=>j=FA i) p R)∨((∀i,aw.get i≠none->FA i≠j)∧H.get j=some R)
 l5:∀j,ah.get j≠none->j<ag∨∃i,j=FA i∧aw.get i≠none
 ry:∀i,bS.get i≠none->aw.get i≠none
 QN:∀i,i<a6->aw.get i≠none->bS.get i≠none
theorem QO{cC:ar Nat}{gY er:Nat}{H:ar bG}{ag a6:Nat}{bS:ar bG}:∀(us:ac (Nat×bG)) (aw ah y:ar bG),JW (mC cC gY er) H ag a6 bS aw ah->
 JU cC gY er a6 us ah=some y->JW (mC cC gY er) H ag a6 bS (lb us aw) y
 |[],aw,ah,y,r,h=>by cases h;exact r
 |u::us,aw,ah,y,r,h=>by
  have h:cond (Nat.ble a6 u.1) (hd (mC cC gY er u.1) λj=>bx (Fy cC gY er u.2) (λp=>ar.fin (ar.kE (Nat.succ j) ah j p)<|JU cC gY er a6 us) none) none=some y:=h;cases s:Nat.ble a6 u.1 with
  |false=>rw[s]at h;cases h
  |true=>
  rw[s]at h;have s:=jb s;rw[hd]at h;rw[kA]at h;have⟨p,Y,h⟩:=et h;rw[ar.tp,ar.u7]at h;rw[Fz];refine QO us _ _ _ ⟨λj R A S=>?_,λj A=>?_,λi af=>?_,λi af C=>?_⟩ h
  .rw[ar.eP]at A;by_cases B:j=mC cC gY er u.1
   .rw[aA B]at A;cases A;obtain⟨_,D⟩|d:=acz _ _ _ Y
    .exact absurd D S
    .exact .inl ⟨u.1,u.2,B,by rw[ar.nO],d⟩
   .rw[au B]at A;obtain⟨i,q,U,g,z⟩|⟨U,g⟩:=r.obj j R A S
    .refine .inl ⟨i,q,U,?_,z⟩;rw[ar.eP,au]
     .exact g
     .intro e;subst e;exact B U
    .refine .inr ⟨λi af M=>?_,g⟩;rw[ar.eP]at af
     grind
  .rw[ar.eP]at A;by_cases B:j=mC cC gY er u.1
   .exact .inr ⟨u.1,B,az⟩
   .rw[au B]at A;obtain aT|⟨i,U,g⟩:=r.l5 j A
    .exact .inl aT
    .refine .inr ⟨i,U,?_⟩;rw[ar.eP];split
     .simp
     .exact g
  .rw[ar.eP];split
   .simp
   .exact r.ry i af
  .rw[ar.eP,au J]at C;exact r.QN i af C
variable{X:Ctx}
theorem QP{f:d8}{r:eu}(aw:gD X f (r.row X.a6)){ax:dA}(ch:ax.Ok)(cd:ax.a4=X.a6)(az:∀g,g<X.a6->ax.cC.get g=some g){as:ac bv}{st:ao}{I:ev}(h:r.app ax as st=some I)
 (ad:bN) (hq:ac bv) (w:d9) (bK:bO ad as hq) (hw:bZ X ad st w):
 (∀as w,(callFunc f as).run X.P w= .ok (.enter f as) w)/\
 ∀(K:CallKind) (bu:Bool->ac Frame),jO ⟨f,K,none⟩ none ad bu->hP X ad w ⟨f,K,none⟩ bu (lone (Frame.enter X.P f hq.toArray K) (bu false) w) I:=by
 obtain⟨cn,b9,h⟩:=et h;obtain⟨cp,bJ,h⟩:=et h;obtain⟨s,c',h⟩:=et h;obtain⟨eV,ew,cf⟩:=Fv _ _ _ _ ch b9;obtain⟨bX,bm,bY⟩:=QM _ _ _ eV bJ;obtain⟨aF,aY,d⟩:=QI _ _ _ _ bX c';rw[cd]at h d;cases ah:Nat.beq s.a4 (Nat.add X.a6<|dK r.ry)with
 |false=>rw[ah]at h;cases h
 |true=>
 cases br:Nat.ble s.a4 r.aC with
 |false=>rw[ah,br]at h;cases h
 |true=>
 rw[ah,br]at h;have ck:s.a4=X.a6+r.ry.length:=by rw[<-fi];exact dy ah
 obtain⟨v,bH,h⟩:=et h;obtain⟨hp,bF,h⟩:=et h;unfold hd at h;rw[kA]at h;cases h;have bk:∀g,g<X.a6->s.cC.get g=some g:=λg sL=>aY _ _<|bm _ _<|ew _ _<|az g sL;have aT:∀j l,ad j=some l->j<st.ag:=by
  intro j l e;rcases fW j st.ag with aT|bc
  .exact aT
  .rw[(hw.fresh j bc).1]at e;cases e
 have aK:∀i R,(r.eH X.a6).get i=some R->∃j p,s.cC.get i=some j/\st.h.get j=some p/\kL s.ak R p:=by
  intro i R ay;unfold eu.eH at ay;rw[JV]at ay;split at ay
  .rename_i af;obtain⟨aW,rfl⟩:=dG.1 ay;obtain⟨j,p,U,a',z⟩:=d (i-X.a6) aW;rw[show X.a6+(i-X.a6)=i by omega]at U;exact⟨j,p,U,a',z⟩
  .rcases yU _ _ _ _ ay with hm|hm
   .obtain⟨j,p,U,a',z⟩:=bY _ hm;exact⟨j,p,aY _ _ U,a',z.mono aY⟩
   .simp at hm
 have a1:∀i,X.a6<=i->i<s.a4->∃R,(r.eH X.a6).get i=some R:=by
  intro i af cm;unfold eu.eH;rw[JV,aA J,ba J];exact dq
 have bR:∀i,i<s.a4->∃j l,s.cC.get i=some j/\ad j=some l:=by
  intro i af;rcases fW i X.a6 with aj|aj
  .exact⟨i,_,bk i aj,hw.k8 i aj⟩
  .obtain⟨R,ay⟩:=a1 i aj af;obtain⟨j,p,U,a',z⟩:=aK i R ay;obtain⟨l,aO,_⟩:=hw.eJ j p a' z.live.2;exact⟨j,l,U,aO⟩
 let aI:bN:=λi=>match s.cC.get i with|some j=>ad j|none=>none
 have aM:∀i j,s.cC.get i=some j->aI i=ad j:=by
  grind
 have aN:∀i l,aI i=some l->∃j,s.cC.get i=some j/\ad j=some l:=by
  grind
 have bz:∀j i l,(λj i=>s.ak i j) j i->ad j=some l->aI i=some l:=λj i l bW W=>by rw[aM i j bW];exact W
 have bP:bZ X aI (r.row X.a6).st w:=by
  refine⟨λi R ay S=>?_,λi j R p l m af Y A C D G az e=>?_,λi af=>?_,λi l W=>?_,λg sL=>(by rw[aM g g<|bk g sL];exact hw.k8 g sL),Ik _ _,λi l R W M ay S=>?_⟩
  .obtain⟨j,p,U,a',z⟩:=aK i R ay;obtain⟨l,aO,cb⟩:=hw.eJ j p a' z.live.2;exact asC asC
  .obtain⟨bp,ca,U,a',z⟩:=aK i R af;obtain⟨ai,a9,ae,B,bj⟩:=aK j p A;rw[aM i bp U]at D;rw[aM j ai ae]at G;have:=hw.inj bp ai ca a9 l m a' z.live.2 B bj.live.2 D G az e;subst this;have a5:=(aF.iff _ _).1 U;have cW:=(aF.iff _ _).1 ae;rw[a5]at cW;exact Option.some.inj cW
  .have af:X.a6+dK r.ry<=i:=af;rw[fi]at af;refine⟨?_,?_⟩
   .cases e:aI i with
    |none=>rfl
    |some l=>
     obtain⟨j,A,_⟩:=aN i l e;have:=aF.l5 _ _ A;omega
   .cases e:(r.row X.a6).st.h.get i with
    |none=>rfl
    |some R=>
     obtain⟨j,_,U,_⟩:=aK i R e;have:=aF.l5 _ _ U;omega
  .obtain⟨j,_,aU⟩:=aN i l W;exact hw.fY j l aU
  .obtain⟨j,p,U,a',z⟩:=aK i R ay;rw[aM i j U]at W;exact z.tq.2<|hw.k9 j l p W M a' z.live.2
 have bD:=((cf.mono bm).mono aY).symm.acw bz bK;obtain⟨a5,cW⟩:=aw aI hq w bD bP;refine⟨a5,λK bu cg=>?_⟩;obtain⟨a0,cj,aG,F,bU,H,aH,bA,bS,bT,bV⟩:=cW K bu cg
 let aD:Nat->Nat:=mC s.cC s.a4 st.ag
 have aX:∀i j,s.cC.get i=some j->aD i=j:=by
  intro i j e;show bx (s.cC.get i) (λj=>j) _=j;rw[e];rfl
 have cl:∀i,s.a4<=i->aD i=st.ag+(i-s.a4):=by
  intro i af;show bx (s.cC.get i) (λj=>j) _=_;cases e:s.cC.get i with
  |none=>rfl
  |some j=>have:=aF.l5 _ _ e;omega
 let aJ:bN:=λj=>if j<st.ag then ad j else a0 (s.a4+(j-st.ag))
 have a2:∀j,j<st.ag->aJ j=ad j:=λj A=>aA A;have a3:∀j,st.ag<=j->aJ j=a0 (s.a4+(j-st.ag)):=λj A=>au J;have hle:ad.le aJ:=λj l e=>by rw[a2 j<|aT j l e];exact e
 have aL:∀i j l,(λi j=>j=aD i) i j->a0 i=some l->aJ j=some l:=by
  intro i j l e W;rcases fW i s.a4 with af|af
  .obtain⟨j,b8,U,aO⟩:=bR i af;have:=aH.le i b8<|by rw[aM i j U];exact aO
   grind
  .grind
 have bI:JW aD st.h st.ag X.a6 (r.eH X.a6) (r.eH X.a6) st.h:=by
  refine⟨λj R A S=>?_,λj A=>?_,λi af=>af,λi _ af=>af⟩
  .by_cases y:∃i,(r.eH X.a6).get i≠none/\aD i=j
   .obtain⟨i,af,e⟩:=y;cases iH:(r.eH X.a6).get i with
    |none=>exact absurd iH af
    |some bb=>
     obtain⟨ai,p,U,a',z⟩:=aK i bb iH;have:ai=j:=by rw[<-e];exact(aX i ai U).symm
     subst this;rw[A]at a';cases a';exact .inl ⟨i,bb,e.symm,iH,z.mono λa b b1=>(aX a b b1).symm⟩
   .grind
  .left;rcases fW j st.ag with aW|bc
   .exact aW
   .exact absurd (hw.fresh j bc).2 A
 have aP:=QO r.fl _ _ _ bI bF;have hold:∀a l,(lb r.fl<|r.eH X.a6).get a≠none->aI a=some l->∃j p,s.cC.get a=some j/\st.h.get j=some p/\p≠.dead/\ad j=some l:=by
  intro a l bB W;obtain⟨j,U,a'⟩:=aN a l W;have:∃R,(r.eH X.a6).get a=some R:=by
   rcases fW a X.a6 with aj|aj
   .cases iH:(r.eH X.a6).get a with
    |none=>exact absurd iH (aP.QN a aj bB)
    |some R=>exact⟨R,o⟩
   .exact a1 a aj<|aF.l5 _ _ U
  obtain⟨R,ay⟩:=this;obtain⟨ai,p,ae,B,bj⟩:=aK a R ay;rw[U]at ae;cases ae;exact⟨j,p,U,B,bj.live.2,a'⟩
 have bl:∀j R l,st.h.get j=some R->R≠.dead->ad j=some l->(∀i,(lb r.fl<|r.eH X.a6).get i≠none->aD i≠j)->∀i bq,aI i=some bq->bq.bM≠eU->bq.cA≠l.cA:=by
  intro j R l ay S W bE i bq aU M e;have bn:(lb r.fl<|r.eH X.a6).get i≠none:=by
   obtain⟨ai,U,a'⟩:=aN i bq aU;rcases fW i X.a6 with aj|aj
   .exfalso;rw[bk i aj]at U;cases U;rw[hw.k8 i aj]at a';cases a';exact M o
   .obtain⟨bb,b7⟩:=a1 i aj<|aF.l5 _ _ U;exact aP.ry i<|by rw[b7];simp
  obtain⟨ai,p,U,a',z,aO⟩:=hold i bq bn aU;have:=hw.inj ai j p R bq l a' z ay S aO W (.inl M) e;subst this;exact bE i bn<|aX i ai U
 refine⟨aJ,cj,aG,F,(BN _ _ _ _ _ bH).BL aL bU,⟨λj R A S=>?_,λi j R p l m af Y A C D G az e=>?_,λj A=>?_,λj l W=>?_,λg sL=>(hle _ _<|hw.k8 g sL),cN hw.nP<|Ik _ _,λj l R W M A S=>?_⟩,⟨hle,aH.size,λb aa b2=>?_,λj l W=>?_,aH.fZ⟩,bA,bS,bT,bV⟩
 .rcases aP.obj j R A S with⟨i,p,U,a',z⟩|⟨U,a'⟩
  .obtain⟨l,ae,B⟩:=H.eJ i p a' z.live.1;exact⟨l,aL i j l U ae,z.Qw aL B⟩
  .obtain⟨l,ae,B⟩:=hw.eJ j R a' S;refine⟨l,hle j l ae,hA.mono X B hle ?_⟩;exact aH.kept l.cA (hw.fY j l ae)<|bl j R l a' S ae U
 .have key:∀i j R p l m,hp.get i=some R->R≠.dead->hp.get j=some p->p≠.dead->aJ i=some l->aJ j=some m->(l.bM≠eU\/m.bM≠eU)->l.cA=m.cA->
   (∃a q,i=aD a/\(lb r.fl<|r.eH X.a6).get a=some q/\kL (λi j=>j=aD i) q R)->((∀a,(lb r.fl<|r.eH X.a6).get a≠none->aD a≠j)/\st.h.get j=some p)->False:=by
   intro i j R p l m af Y A C D G az e ⟨a,q,U,a',z⟩ ⟨ae,B⟩;obtain⟨u,an,_⟩:=H.eJ a q a' z.live.1;have:=aL a i u U an;rw[D]at this;cases this;obtain⟨ey,aB,_⟩:=hw.eJ j p B C;have:=hle j ey aB;rw[G]at this;cases this;rcases aH.new a l an with aj|aj|⟨b,b0,b',bf,bo⟩
   .obtain⟨ai,a9,b3,b4,b5,b6⟩:=hold a l (by rw[a'];simp) aj;have:=hw.inj ai j a9 p l m b4 b5 B C b6 aB az e;subst this;exact ae a (by rw[a'];simp)<|aX a ai b3
   .have:=hw.fY j m aB;omega
   .exact bl j p m B C aB ae b b0 b' bf J
  rcases aP.obj i R af Y with O|O<;>rcases aP.obj j p A C with aQ|aQ
  .obtain⟨a,q,U,a',z⟩:=O;obtain⟨b,bs,ae,B,bj⟩:=aQ;obtain⟨u,an,_⟩:=H.eJ a q a' z.live.1;obtain⟨ey,aB,_⟩:=H.eJ b bs B bj.live.1;have aq:=aL a i u U an;rw[D]at aq;cases aq;have aV:=aL b j ey ae aB;rw[G]at aV;cases aV;have:=H.inj a b q bs l m a' z.live.1 B bj.live.1 an aB az e;rw[U,ae,this]
  .exact(key i j R p l m af Y A C D G az e O aQ).elim
  .exact(key j i p R m l A C af Y G D az.symm e.symm aQ O).elim
  .obtain⟨u,an,_⟩:=hw.eJ i R O.2 Y;obtain⟨ey,aB,_⟩:=hw.eJ j p aQ.2 C;have aq:=hle i u an;rw[D]at aq;cases aq;have aV:=hle j ey aB;rw[G]at aV;cases aV;exact hw.inj i j R p l m O.2 Y aQ.2 C an aB az e
 .have A:st.ag+(r.aC-s.a4)<=j:=A;have cc:∀i,r.aC<=i->a0 i=none/\(lb r.fl<|r.eH X.a6).get i=none:=λi af=>H.fresh i af;refine⟨by rw[a3 j J];exact(cc _ J).1,?_⟩;cases e:hp.get j with
  |none=>rfl
  |some R=>
   exfalso;rcases aP.l5 j (by rw[e];simp)with aW|⟨i,U,a'⟩
   .omega
   .rcases fW i s.a4 with af|af
    .grind
    .grind
 .rcases fW j st.ag with A|A
  .rw[a2 j A]at W;exact fG (hw.fY j l W) aH.size
  .rw[a3 j A]at W;exact H.fY _ l W
 .rcases aP.obj j R A S with⟨a,q,U,a',z⟩|⟨U,a'⟩
  .obtain⟨u,an,_⟩:=H.eJ a q a' z.live.1;have aq:=aL a j u U an;rw[W]at aq;cases aq;exact z.tq.1<|H.k9 a l q an M a' z.live.1
  .obtain⟨u,an,_⟩:=hw.eJ j R a' S;have aq:=hle j u an;rw[W]at aq;cases aq;exact hw.k9 j l R an M a' S
 .refine aH.kept b aa λi l W M=>?_;obtain⟨j,_,aU⟩:=aN i l W;exact b2 j l aU M
 .rcases fW j st.ag with A|A
  .rw[a2 j A]at W;exact .inl W
  .rw[a3 j A]at W;rcases aH.new _ l W with aj|aj|⟨b,m,b',bf,bo⟩
   .obtain⟨ai,U,_⟩:=aN _ l aj;have:=aF.l5 _ _ U;omega
   .exact .inr<|.inl aj
   .obtain⟨ai,_,a'⟩:=aN b m b';exact .inr<|.inr ⟨ai,m,a',bf,bo⟩
def w9(ax:dA)(as:ac bv)(st:ao)(J:ac (Nat×eu)):be ev:=
 List.rec (motive:=λ_=>be ev) none (λr _ U=>cond (Nat.beq r.1 st.ag) (bx (r.2.app ax as st) some U)<|cond (Nat.beq r.1 0) (bx (r.2.app ax as st) some U) U) J
theorem QQ{ax:dA}{as:ac bv}{st:ao}:∀{J:ac (Nat×eu)} {I:ev},w9 ax as st J=some I->∃r∈J,r.2.app ax as st=some I
 |[],I,h=>by cases h
 |r::J,I,h=>by
  have h:cond (Nat.beq r.1 st.ag) (bx (r.2.app ax as st) some<|w9 ax as st J) (cond (Nat.beq r.1 0) (bx (r.2.app ax as st) some<|w9 ax as st J)<|w9 ax as st J)=some I:=h;have JX:w9 ax as st J=some I->∃Y∈r::J,Y.2.app ax as st=some I:=λh=>by
   have⟨Y,d,G⟩:=QQ h;exact⟨Y,e3 _ d,G⟩
  have S:bx (r.2.app ax as st) some (w9 ax as st J)=some I->∃Y∈r::J,Y.2.app ax as st=some I:=λh=>by
   cases D:r.2.app ax as st with
   |none=>rw[D]at h;exact JX h
   |some x=>rw[D]at h;cases h;exact⟨r,az,D⟩
  grind
end Go.bI
namespace Go.bI
variable{X:Ctx}
variable{n:Nat}
def yV(n:Nat):ar Nat:=Nat.rec (motive:=λ_=>ar Nat) .nil (λm t=>ar.fin t λt=>ar.kE (Nat.succ m) t m m) n
theorem BO:∀(n i:Nat),(yV n).get i=if i<n then some i else none
 |0,i=>by rfl
 |n+1,i=>by
  have e:yV (n+1)=(yV n).set n n:=by
   show ar.fin (yV n) (λt=>ar.kE (Nat.succ n) t n n)=_;rw[ar.tp,ar.u7]
  rw[e,ar.eP,BO n i]
  grind
theorem acA{s:dA}(aE:s.cC=yV n)(aK:s.inv=yV n)(o:s.a4=n):s.Ok/\s.a4=n/\∀g,g<n->s.cC.get g=some g:=by
 refine⟨⟨λi j=>?_,λi j h=>?_⟩,o,λg d=>(by rw[aE,BO,aA d])⟩
 .rw[aE,aK,BO,BO]
  grind
 .rw[aE,BO]at h
  grind
def eu.fq(r:eu)(a6:Nat)(aV:ar c7)(y:ra)(n f:Nat):Bool:=
 ar.fin (r.eH a6) λh=>ar.fin (lb r.fl h) λD=>hd (Nat.add a6<|dK r.ry) λm=>bI.fq (cf aV y n (.func (.func f) #[] #[]) r.as none ⟨h,m⟩) r.v ⟨D,r.aC⟩
def jP{aV:ar c7}{y:ra}(J:Good X)(o:l8 X aV)(Y:w2 X y){a6:Nat}{f:d8}{r:eu}(h:r.fq a6 aV y n f=true):gD X f (r.row a6):=by
 apply acm J o Y (n:=n);unfold eu.fq hd at h
 rwa [ar.tp,ar.tp,kA]at h
def assoc(t:ac (Nat×ac (Nat×eu)))(f:Nat):ac (Nat×eu):=
 List.rec (motive:=λ_=>ac<|Nat×eu) [] (λp _ U=>cond (Nat.beq p.1 f) p.2 U) t
def qs(ax:dA)(t:ac (Nat×ac (Nat×eu))):ra:=λf as st=>w9 ax as st<|assoc t f
def rz(X:Ctx)(f:Nat)(l:ac (Nat×eu)):Prop:=∀r∈l,gD X f<|r.2.row X.a6
def BP(X:Ctx)(t:ac (Nat×ac (Nat×eu))):Prop:=∀p∈t,rz X p.1 p.2
variable{f:Nat}{l:ac (Nat×eu)}{t:ac (Nat×ac (Nat×eu))}
def gd:rz X f []:=λ_ h=>by cases h
def dS{r:eu}(h:gD X f (r.row X.a6))(M:rz X f l):rz X f ((n,r)::l):=List.forall_mem_cons.2 ⟨h,M⟩
def a5:BP X []:=λ_ h=>by cases h
def gp(h:rz X f l)(M:BP X t):BP X ((f,l)::t):=List.forall_mem_cons.2 ⟨h,M⟩
theorem QR:∀{t:ac (Nat×ac (Nat×eu))},BP X t->∀f,rz X f (assoc t f)
 |[],_,f=>gd
 |p::t,h,f=>by
  show rz X f (cond (Nat.beq p.1 f) p.2<|assoc t f);cases aa:Nat.beq p.1 f with
  |true=>rw[<-dy aa];exact h p az
  |false=>exact QR (λq aD=>h q<|e3 _ aD) f
def rA{ax:dA}(o:ax.Ok/\ax.a4=X.a6/\∀g,g<X.a6->ax.cC.get g=some g)(aN:BP X t):w2 X (qs ax t):=by
 intro f as st r aw ad W w D hw _;have⟨row,hm,d⟩:=QQ aw;exact QP (QR aN f row hm) o.1 o.2.1 o.2.2 d ad W w D hw
def acB{f:d8}{r:Row}(aw:gD X f r){ad:bN}{hq:ac bv}{w:d9}(bK:bO ad r.as hq)(hw:bZ X ad r.st w):
 Calls X.P f hq.toArray w (λe aG=>∃aJ bA,e= .returned bA/\bo aJ r.v bA/\bZ X aJ r.al aG/\ei ad aJ w aG):=by
 intro cs;have⟨_,G⟩:=aw ad hq w bK hw;have⟨aJ,bA,aG,F,Y,G,C,d,J,g,M⟩:=G .normal (λ_=>cs) (λF O U=>by
  simp[tryRecover,U])
 have⟨h,B,fn,bj,dj⟩:=g;exact⟨.returned bA,aG,F,⟨aJ,bA,o,Y,G,C⟩,M,J,h,B,d,fn,bj,dj⟩
def FB(n:Nat):bN:=λi=>if i<n then some ⟨i,0,0,eU⟩else none
def yW(n:Nat)(W:d9)(p:Nat×bG):Prop:=
 p.1<n/\∃cs el m C D,p.2= .cells cs el (0,m) false/\0<m/\W.heap[p.1]? =some (.cells C el D)/\bO (FB n) cs C.toList
def FC{α β o:Type}(f:α->β->be o):ac α->ac β->be (ac o)
 |[],[]=>some []
 |a::as,b::bH=>(f a b).bind λc=>(FC f as bH).map λcs=>c::cs
 |_,_=>none
def yX:Nat->ac (Nat×Nat)->Nat->Bool
 |R,[],n=>Nat.beq R n
 |R,p::r,n=>Nat.beq p.1 R&&yX (R+p.2) r n
def yY(P:f7):Nat->d7->DataW Unit->be (ac bv)
 |0,_,_=>none
 |n+1,t,d=>
  match P.underlying t,d with
  |some .bool,.lit (.bool b)=>some [.bool b]
  |some (.int _),.lit (.int k m)=>some [.int k m]
  |some .string,.lit (.string s)=>some [.string ⟨⟨s⟩⟩]
  |some (.struct b6),.agg aU=>if yX 0 (b6.toList.map λf=>(f.offset,P.cellsOf f.type)) (P.cellsOf t)then(FC (λ(f:Field) d=>yY P n f.type d) b6.toList aU).map List.flatten else none
  |some (.array m e),.agg aU=>if yX 0 ((List.range m).map λi=>(i*P.cellsOf e,P.cellsOf e)) (P.cellsOf t)then(FC (λ(_:Nat) d=>yY P n e d) (List.range m) aU).map List.flatten else none
  |_,_=>none
theorem FD(cs:ac bv):∀(l:ac (Nat×Nat)) (R:Nat),yX R l cs.length=true->cs.drop R=(l.map λp=>(cs.drop p.1).take p.2).flatten
 |[],R,h=>by
  have:=dy h;rw[this];simp
 |p::r,R,h=>by
  rw[yX]at h;rw[cQ]at h;rw[j2,List.flatten_cons,<-FD cs r (R+p.2) h.2,(dy h.1),<-List.drop_drop,wc]
theorem JY{α:Type}{g:α->be (DataW Unit×ac MemPlace)}{k:α->DataW Unit->be (ac bv)}{xa:α->ac bv}
 (aB:∀a d p ab,g a=some (d,p)->k a d=some ab->xa a=ab):∀(as:ac α) (xs:ac (DataW Unit×ac MemPlace)) (o:ac (ac bv)),as.mapM g=some xs->FC k as (xs.map (·.1))=some o->as.map xa=o
 |[],xs,o,h,D=>by
  simp at h;subst h;cases D;rfl
 |a::as,xs,o,h,D=>by
  rw[List.mapM_cons]at h;have⟨x,O,h⟩:=sb.1 h;have⟨aS,r,h⟩:=sb.1 h;cases h;have⟨ab,U,D⟩:=sb.1 D;obtain⟨j,s,rfl⟩:=ot.1 D;rw[j2,aB a x.1 x.2 ab O U,JY aB as aS j r s]
theorem FE{P:f7}{w:d9}{base:Nat}{sp:Nat->Bool}{u:Bool}:∀(y n:Nat) (t:d7) (cs:ac bv) (d:DataW Unit) (p:ac MemPlace) (ab:ac bv),
 DataW.trod (λ_=>()) P w base sp u y t cs=some (d,p)->yY P n t d=some ab->cs=ab
 |0,_,_,_,_,_,_,h,_=>by simp[DataW.trod]at h
 |_+1,0,_,_,_,_,_,_,h=>by simp[yY]at h
 |y+1,n+1,t,cs,d,p,ab,h,D=>by
  unfold yY at D;split at D
  .rename_i b g;cases D;simp[DataW.trod,g]at h
   grind
  .rename_i k r m g;cases D;simp[DataW.trod,g]at h
   grind
  .rename_i s g;cases D;simp[DataW.trod,g]at h;split at h<;>first|(rename_i aD;cases aD)|skip
   all_goals first
    |(split at h
      .cases h;rfl
      .cases h)
    |(simp at h)
  .rename_i b6 aU g;split at D
   .rename_i ah;obtain⟨o,U,rfl⟩:=ot.1 D;simp only[DataW.trod,g]at h;split at h
    .rename_i W;obtain⟨xs,j,z⟩:=ot.1 h;cases z;rw[<-W]at ah;have B:=FD cs _ 0 ah;rw[qW]at B;have A:=JY (λf d p ab Y G=>FE y n f.type _ d p ab Y G) _ _ _ j U;rw[<-A];exact B
    .cases h
   .cases D
  .rename_i m e aU g;split at D
   .rename_i ah;obtain⟨o,U,rfl⟩:=ot.1 D;simp only[DataW.trod,g]at h;split at h
    .rename_i W;obtain⟨xs,j,z⟩:=ot.1 h;cases z;rw[<-W]at ah;have B:=FD cs _ 0 ah;rw[qW]at B;have A:=JY (λi d p ab Y G=>FE y n e _ d p ab Y G) _ _ _ j U;rw[<-A];exact B
    .cases h
   .cases D
  .cases D
theorem QS{P:f7}{w:d9}:∀{l:ac (String×DataW Unit)} {bd:ac MemPlace},DataW.LaidVars P w l bd->∀x∈l,∃g t cs y p,P.globalNamed x.1=some g/\(P.globals[g]?).map (·.type)=some t/\w.var? P x.1=some cs/\
 DataW.trod (λ_=>()) P w 0 (λ_=>true) false y t cs.toList=some (x.2,p)
 |[],_,_,x,O=>by cases O
 |(n,d)::r,bd,h,x,O=>by
  have⟨g,t,cs,y,p,q,aE,aK,C,j,J,_⟩:=h;obtain rfl|O:=fg.1 O
  .exact⟨g,t,cs,y,p,aE,aK,C,j⟩
  .exact QS J x O
def FF:bv->Bool
 |.bool _|.int _ _|.string _=>true
 |_=>false
def acC{ad:bN}{v:bv}(h:FF v=true):bo ad v v:=by
 cases v<;>first|(simp[FF]at h;done)|constructor
theorem QT{ad:bN}:∀{ab:ac bv},ab.all FF=true->bO ad ab ab
 |[],_=>.nil ad
 |v::ab,h=>by
  rw[x7,cQ]at h;exact .cons (acC h.1)<|QT h.2
def JZ{P:f7}{W:d9}{l:ac (String×DataW Unit)}{bd:ac MemPlace}(aI:DataW.LaidVars P W l bd){g N:Nat}{name:String}{d:DataW Unit}{t el:d7}{ab:ac bv}{m:Nat}
 (O:(name,d)∈l) (u:P.globalNamed name=some g) (aN:(P.globals[g]?).map (·.type)=some t) (D:yY P n t d=some ab) (sL:g<N) (hm:0<m) (hp:ab.all FF=true)
 (y:∃cs,W.heap[g]? =some (.cells cs el)):yW N W (g,.cells ab el (0,m) false):=by
 have⟨s,B,cs,fuel,p,Y,G,h,j⟩:=QS aI _ O;rw[u]at Y;cases Y;rw[aN]at G;cases G;have⟨C,hC⟩:=y;have r:C=cs:=by
  simp only[World.var?,u,Option.bind_some,hC]at h;exact Option.some.inj h
 subst r;refine⟨sL,ab,el,m,C,_,o,hm,hC,?_⟩;rw[FE fuel n t _ d p ab j D];exact QT hp
end Go.bI
namespace Go.bI
variable{Q:Nat->c7->Prop}
variable{i:Nat}
def QU(t:ar {p:Nat×c7 //Q p.1 p.2}):ar c7:=
 ar.rec (motive:=λ_=>ar c7) .nil (λ_ v _ l r=>.node l (Option.rec (motive:=λ_=>be c7) none (λp=>some p.1.2) v) r) t
def keyed:ar {p:Nat×c7 //Q p.1 p.2}->(Nat->Nat)->Bool
 |.nil,_=>true
 |.node l v r,g=>(match v with|some p=>Nat.beq p.1.1 (g 0)|none=>true)&&(keyed l (λn=>g<|2*n+1)&&keyed r λn=>g<|2*n+2)
theorem J0:∀(t:ar {p:Nat×c7 //Q p.1 p.2}) (g:Nat->Nat),keyed t g=true->ar.BJ Q (QU t) g
 |.nil,_,_=>trivial
 |.node l v r,g,h=>by
  unfold keyed at h;rw[cQ,cQ]at h;refine⟨?_,J0 l _ h.2.1,J0 r _ h.2.2⟩;cases v with
  |none=>trivial
  |some p=>
   show Q (g 0) p.1.2;rw[<-(dy h.1)];exact p.2
def cD(g:{b:c7 //Q i b}):ar {p:Nat×c7 //Q p.1 p.2}:=.node .nil (some ⟨(i,g.1),g.2⟩) .nil
def b2(a:ar {p:Nat×c7 //Q p.1 p.2})(g:{b:c7 //Q i b})(b:ar {p:Nat×c7 //Q p.1 p.2}):ar {p:Nat×c7 //Q p.1 p.2}:=.node a (some ⟨(i,g.1),g.2⟩) b
def nj(a b:ar {p:Nat×c7 //Q p.1 p.2}):ar {p:Nat×c7 //Q p.1 p.2}:=.node a none b
end Go.bI
namespace Go.bI.BQ
inductive J1 where
 |bool|int (k:IntKind)|str|aL (e:Nat)|bJ (n e:Nat)|st (l:List (Nat×Nat))|dM (e:Nat)|mp (k v:Nat)|fn|J2|up
inductive BR where
 |l
 |n (a:BR) (k:Nat) (d:J1) (s b:Nat) (c:BR)
def BR.get:BR->Nat->J1×Nat×Nat
 |.l,_=>(.up,0,0)
 |.n a k d s b c,t=>match Nat.blt t k with
  |true=>a.get t
  |false=>match Nat.beq t k with
   |true=>(d,s,b)
   |false=>c.get t
structure Env where
 lB:Nat
 lY:Nat
 a4:Nat
 idx:Nat
 l1:Nat
 ty:BR
 mt:ac (String×ac (Nat×d8)):=[]
 acD:be (Nat×Nat):=none
namespace Env
def QV(C:Env)(n:String):ac (Nat×d8):=match C.mt.find? (λp=>p.1==n)with
 |some p=>p.2
 |none=>[]
def d(C:Env)(t:Nat):J1:=(C.ty.get t).1
def s(C:Env)(t:Nat):Nat:=(C.ty.get t).2.1
def b(C:Env)(t:Nat):Nat:=(C.ty.get t).2.2
def g(C:Env)(t:Nat):Bool:=match C.d t with
 |.st _=>true
 |.bJ _ _=>true
 |_=>false
def cH(C:Env)(t:Nat):Nat:=match C.d t with
 |.st l=>l.foldl (λn p=>match C.d p.2 with
  |.str=>n+100
  |_=>n+1) 0
 |_=>C.s t
def J3(C:Env):Nat->Nat->ac bv
 |0,_=>[]
 |f+1,t=>match C.d t with
  |.bool=>[.bool false]
  |.int k=>[.int k 0]
  |.str=>[.string ⟨#[]⟩]
  |.aL _=>[.slice none 0 0]
  |.bJ n e=>(List.replicate n<|C.J3 f e).flatten
  |.st l=>l.flatMap λp=>C.J3 f p.2
  |.dM _=>[.pointer none]
  |.mp _ _=>[.map none]
  |.fn=>[.nilFunc]
  |.J2=>[.nilIface]
  |.up=>[]
def z(C:Env)(t:Nat):ac bv:=C.J3 20 t
def ve(C:Env)(t:Nat):bv:=match C.g t with
 |true=>.agg ⟨C.z t⟩
 |false=>(C.z t).headD .nilIface
def cn(C:Env)(t:Nat):fR:=match C.d t with
 |.int k=>.int k
 |.bJ n e=>match C.d e with
  |.int k=>.arr k n
  |_=>.str
 |_=>.str
def QW(C:Env)(t:Nat):q2:=match C.d t with
 |.aL _=>.mu
 |.mp _ _=>.ID
 |.fn=>.Ee
 |.J2=>.Ef
 |.dM _=>.ptr
 |_=>.yh
def bin(C:Env)(iG:ac Nat)(R:BinOp)(t:Nat)(a b:ce):dm:=
 let u:=match b with
  |.tmp j=>iG.any (Nat.beq j)
  |_=>false
 match C.d t,R,u with
 |.int _,.leq,true=>.ext (.yi false a b)
 |.int _,.gtr,true=>.ext (.yi true a b)
 |.int _,R,_=>.bin R a b
 |.str,R,_=>.bin R a b
 |.st _,.neq,_=>.ext (.uX true (C.cH t) a b)
 |.bJ _ _,.neq,_=>.ext (.uX true (C.s t) a b)
 |.st _,_,_=>.ext (.uX false (C.cH t) a b)
 |.bJ _ _,_,_=>.ext (.uX false (C.s t) a b)
 |_,.neq,_=>.eqv true (C.QW t) a b
 |_,_,_=>.eqv false (C.QW t) a b
def conv(C:Env)(s t:Nat)(a:ce):dm:=match C.d s,C.d t with
 |.int _,.int k=>.uZ k a
 |.str,.str=>.AL a
 |.aL _,.str=>.AM a
 |.str,.aL e=>.wz e a
 |.dM _,.up=>.El a
 |.up,.dM e=>.Em e (C.s e) a
 |_,_=>.refuse
def parts(C:Env)(e:Nat)(bd:ac (Nat×ce)):ac (Nat×Nat×ce):=bd.map λp=>(p.1*C.s e,C.s e,p.2)
def acE(C:Env)(f:Nat)(as:ac ce):dm:=
 match as,Nat.beq f C.lB,Nat.beq f C.lY,Nat.beq f C.a4,Nat.beq f C.idx with
 |[a],true,_,_,_=>.lB a
 |[a,b],_,true,_,_=>.lY a b
 |[a,b],_,_,true,_=>.ext (.a4 a b)
 |[a,b],_,_,_,true=>.ext (.idxs C.l1 a b)
 |as,_,_,_,_=>match as,C.acD with
  |[a],some (g,e)=>match Nat.beq f g with
   |true=>.ext (.Ei e a)
   |false=>.call (.func f) [a]
  |as,_=>.call (.func f) as
def len(C:Env)(t:Nat)(a:ce):dm:=match C.d t with
 |.aL _=>.wB a
 |.str=>.wC a
 |.bJ n _=>.AN n
 |.mp _ _=>.ext (.wx a)
 |.dM e=>match C.d e with
  |.bJ n _=>.AN n
  |_=>.refuse
 |_=>.refuse
def el(C:Env)(t:Nat):Nat:=match C.d t with
 |.aL e=>e
 |.bJ _ e=>e
 |.dM e=>e
 |_=>0
def acF(C:Env)(f:Builtin)(as:ac ce)(aF:ac Nat):dm:=
 match f,as,aF with
 |.len,[a],t::_=>C.len t a
 |.cap,[a],t::_=>match C.d t with
  |.aL _=>.ext (.IE a)
  |_=>.refuse
 |.delete,[a,b],t::_=>match C.d t with
  |.mp k _=>.ext (.del (C.cn k) a b)
  |_=>.refuse
 |.append,[a,b],t::_=>.app (C.el t) (C.s<|C.el t) (C.b<|C.el t) a b
 |.max,a::as,_=>.hc a as
 |.min,a::as,_=>.AO a as
 |.copy,[a,b],t::_=>.tj (C.s<|C.el t) a b
 |.recover,_,_=>.u1
 |.unsafeSliceData,[a],_=>.En a
 |.unsafeString,[a,b],t::_=>.u2 (C.el t) a b
 |_,_,_=>.refuse
def p7(C:Env)(t f:Nat):Nat×Nat:=match C.d t with
 |.st l=>l.getD f (0,0)
 |_=>(0,0)
def acG(C:Env)(iG:ac Nat):Op->dm
 |.move a=>.jF a
 |.assign a=>.jF a
 |.pick a b c=>.pick a b c
 |.alloc t=>.alloc (C.z t) t
 |.box t a=>.box t a
 |.build t bd=>.build (C.z t) (match C.d t with
  |.st l=>bd.toList.map λp=>((l.getD p.1 (0,0)).1,C.s (l.getD p.1 (0,0)).2,p.2)
  |.bJ _ e=>C.parts e bd.toList
  |_=>[])
 |.buildSlice t n bd=>.q3 (C.el t) n ((List.replicate n<|C.z<|C.el t).flatten) (C.parts (C.el t) bd.toList)
 |.load t a=>match C.g t with
  |true=>.m9 (C.s t) a
  |false=>.ix a
 |.store t a x=>.store (C.s t) a x
 |.nilCheck a=>.uY a
 |.binOp R t a b _=>C.bin iG R t a b
 |.unOp R _ a=>.un R a
 |.convert s t a=>C.conv s t a
 |.makeInterface t a=>.Ej t a
 |.makeFunc f a b=>.sh f a.toList b.toList
 |.makeMap _ _=>.p6
 |.makeSlice t l c=>.si (C.el t) (C.b<|C.el t) (C.z<|C.el t) l c
 |.slice t a aQ af hc=>match C.d t with
  |.str=>.ti a aQ af
  |.bJ n e=>.wA n (C.s e) a aQ af hc
  |.aL e=>.ow (C.s e) a aQ af hc
  |_=>.refuse
 |.fieldAddr t a f=>.q4 (C.p7 t f).1 a
 |.field t a f=>.p7 (C.p7 t f).1 (C.s (C.p7 t f).2) (C.g (C.p7 t f).2) a
 |.indexAddr t a i=>match C.d t with
  |.bJ n e=>.sj n (C.s e) a i
  |.aL e=>.jd (C.s e) a i
  |_=>.refuse
 |.index t a i=>match C.d t with
  |.str=>.u0 a i
  |.bJ n e=>.IF n (C.s e) (C.g e) a i
  |_=>.refuse
 |.typeAssert a _ t ok=>.Ek t (C.ve t) ok a
 |.extract a i=>.sk a i
 |.call c=>match c.callee with
  |.value f=>match f with
   |.func f=>C.acE f c.args.toList
   |f=>.call f c.args.toList
  |.builtin b=>C.acF b c.args.toList c.argTypes.toList
  |.invoke r n=>.inv (C.QV n) r c.args.toList
 |.defer c=>match c.callee with
  |.value f=>.p8 f c.args.toList
  |_=>.refuse
 |.panic a=>.ox a
 |.lookup t m k ok=>match C.d t with
  |.mp a v=>.ext (.look (C.cn a) (C.ve v) ok m k)
  |_=>.refuse
 |.mapUpdate t m k v=>match C.d t with
  |.mp a _=>.ext (.fl (C.cn a) m k v)
  |_=>.refuse
 |.insert t m k v=>match C.d t with
  |.mp a _=>.ext (.fl (C.cn a) m k v)
  |_=>.refuse
 |.range t m=>match C.d t with
  |.str=>.ext (.Eg m)
  |_=>.ext (.uW m)
 |.next i s=>match s with
  |true=>.ext (.Eh i)
  |false=>.ext (.sg i)
 |.entry i=>.ext (.wy i)
 |_=>.refuse
end Env
def ol:be ce->ac ce
 |none=>[]
 |some a=>[a]
def acH:uV->ac ce
 |.look _ _ _ a b=>[a,b]
 |.fl _ a b c=>[a,b,c]
 |.del _ a b=>[a,b]
 |.wx a=>[a]
 |.uW a=>[a]
 |.wy a=>[a]
 |.a4 a b=>[a,b]
 |.uX _ _ a b=>[a,b]
 |.sg a=>[a]
 |.yi _ a b=>[a,b]
 |.idxs _ a b=>[a,b]
 |.Eg a=>[a]
 |.Eh a=>[a]
 |.Ei _ a=>[a]
 |.IE a=>[a]
def JX:dm->ac ce
 |.jF a=>[a]
 |.pick a b c=>[a,b,c]
 |.alloc _ _=>[]
 |.box _ a=>[a]
 |.build _ l=>l.map λp=>p.2.2
 |.q3 _ _ _ l=>l.map λp=>p.2.2
 |.ix a=>[a]
 |.m9 _ a=>[a]
 |.store _ a b=>[a,b]
 |.uY a=>[a]
 |.bin _ a b=>[a,b]
 |.eqv _ _ a b=>[a,b]
 |.un _ a=>[a]
 |.uZ _ a=>[a]
 |.AL a=>[a]
 |.AM a=>[a]
 |.wz _ a=>[a]
 |.Ej _ a=>[a]
 |.sh _ a b=>a++b
 |.p6=>[]
 |.si _ _ _ a b=>[a,b]
 |.ti a b c=>a::(ol b++ol c)
 |.wA _ _ a b c e=>a::(ol b++(ol c++ol e))
 |.ow _ a b c e=>a::(ol b++(ol c++ol e))
 |.q4 _ a=>[a]
 |.p7 _ _ _ a=>[a]
 |.sj _ _ a b=>[a,b]
 |.jd _ a b=>[a,b]
 |.u0 a b=>[a,b]
 |.IF _ _ _ a b=>[a,b]
 |.Ek _ _ _ a=>[a]
 |.sk a _=>[a]
 |.call f l=>f::l
 |.inv _ f l=>f::l
 |.OF _ _ a=>[a]
 |.wB a=>[a]
 |.wC a=>[a]
 |.yj a=>[a]
 |.app _ _ _ a b=>[a,b]
 |.hc a l=>a::l
 |.AO a l=>a::l
 |.tj _ a b=>[a,b]
 |.p8 f l=>f::l
 |.ox a=>[a]
 |.El a=>[a]
 |.Em _ _ a=>[a]
 |.En a=>[a]
 |.u2 _ a b=>[a,b]
 |.lY a b=>[a,b]
 |.lB a=>[a]
 |.ext y=>acH y
 |_=>[]
def BC(l:ac ce):ac Nat:=l.filterMap λ
 |.tmp j=>some j
 |_=>none
def gn:dm->Nat
 |.ext y=>match y with
  |.fl _ _ _ _=>0
  |.del _ _ _=>0
  |.uW _=>0
  |.sg _=>0
  |.Eg _=>0
  |.Eh _=>0
  |.Ei _ _=>0
  |_=>2
 |.call _ _=>0
 |.inv _ _ _=>0
 |.app _ _ _ _ _=>0
 |.tj _ _ _=>0
 |.u1=>0
 |.p8 _ _=>0
 |.ox _=>0
 |.store _ _ _=>0
 |.refuse=>0
 |.u2 _ _ _=>0
 |.yj _=>0
 |.alloc _ _=>1
 |.box _ _=>1
 |.q3 _ _ _ _=>1
 |.wz _ _=>1
 |.p6=>1
 |.si _ _ _ _ _=>1
 |_=>2
def mem(l:ac Nat)(t:Nat):Bool:=l.any<|Nat.beq t
def add(l:ac Nat)(t:Nat):ac Nat:=match mem l t with
 |true=>l
 |false=>l++[t]
def xb(ops:ac Oper)(R:Oper):be (Nat×Bool):=match R.guard with
 |none=>none
 |some (j,w)=>match(ops[j]?).bind (·.dst)with
  |some t=>some (t,w)
  |none=>none
def J4(t:Nat):ac Oper->be String
 |[]=>none
 |R::os=>match R.op,R.dst with
  |.makeFunc (.method n) _ _,some d=>(match Nat.beq d t with
   |true=>some n
   |false=>J4 t os)
  |_,_=>J4 t os
def QX(C:Env)(iG:ac Nat)(ops:ac Oper)(R:Oper):bt:=⟨R.dst,(match R.op with
 |.nilCheck (.tmp t)=>(match J4 t ops with
  |some n=>.OF n (C.QV n) (.tmp t)
  |none=>.uY<|.tmp t)
 |_=>C.acG iG R.op),xb ops R⟩
def binds(e:Edge):Bool:=match e.ground with
 |.textOnly _=>false
 |.gcOnly _=>false
 |_=>true
def QY:ac Nat->ac Oper->ac Nat
 |B,[]=>B
 |B,R::os=>QY (B++[(R.after.toList.filter binds).foldl (λm e=>m|||(2^e.on|||B.getD e.on 0)) 0]) os
def ord(n:Nat)(B K:ac Nat):ac Nat:=
 let es:=(List.range n).filter λi=>Nat.beq (K.getD i 2) 0
 let l:=es.foldl (λl e=>add (((List.range n).filter λi=>(B.getD e 0).testBit i).foldl add l) e) []
 (List.range n).foldl add l
def maskAt(m:Nat):Nat->ac Nat->Nat
 |_,[]=>0
 |p,i::l=>(match m.testBit i with
  |true=>2^p
  |false=>0)+maskAt m (p+1) l
def q5(C:Env)(iG:ac Nat)(ops:ac Oper):dz:=
 let xs:=ops.map<|QX C iG ops
 let K:=xs.map λx=>gn x.R
 let L:=xs.map λx=>BC (JX x.R)++(match x.g with
  |some (t,_)=>[t]
  |none=>[])
 let B:=QY [] ops
 let h:=ord ops.length B K
 let row (p:Nat) (i:Nat):bt×cz:=(xs.getD i ⟨none,.refuse,none⟩,match K.getD i 0 with
  |0=>.dJ
  |1=>.hM (L.getD i [])
  |_=>.read (((h.take p).filter λj=>Nat.beq (K.getD j 2) 0&& !(B.getD i 0).testBit j).length)<|L.getD i [])
 let fh:=(List.range h.length).foldl (λl p=>match(xs.getD (h.getD p 0) ⟨none,.refuse,none⟩).d with
  |none=>l
  |some t=>match(h.take p).any λj=>(Nat.beq (K.getD j 2) 0||mem (L.getD j []) t)&& !(B.getD (h.getD p 0) 0).testBit j with
   |true=>add l t
   |false=>l) []
 .q5 ((List.range h.length).map λp=>row p<|h.getD p 0) h fh<|h.map λi=>maskAt (B.getD i 0) 0 h
def code(C:Env)(iG:ac Nat):Code->dz
 |.skip=>.skip
 |.label _=>.skip
 |.region _ ops j=>match j with
  |true=>q5 C iG ops.toList
  |false=>.gx (ops.toList.map<|QX C iG ops.toList)
 |.seq a b=>.seq (code C iG a) (code C iG b)
 |.cond x a b=>.cond x (code C iG a) (code C iG b)
 |.block n a=>.block n (code C iG a)
 |.loop a=>.loop (code C iG a)
 |.rangeFunc x bd a b=>.u3 x bd.toList (code C iG a) (code C iG b)
 |.scope a=>.scope (code C iG a)
 |.exit n=>.exit n
 |.ret=>.ret
 |_=>.refuse
def acI(g:Nat)(R:Oper):ac Nat:=match R.op,R.dst with
 |.load _ (.global h),some t=>match Nat.beq g h with
  |true=>[t]
  |false=>[]
 |_,_=>[]
def sM(g:Nat):Code->ac Nat
 |.region _ ops _=>ops.toList.flatMap (acI g)
 |.seq a b=>sM g a++sM g b
 |.cond _ a b=>sM g a++sM g b
 |.block _ a=>sM g a
 |.loop a=>sM g a
 |.rangeFunc _ _ a b=>sM g a++sM g b
 |.scope a=>sM g a
 |_=>[]
def res(C:Env):ResultVar->gU
 |.tmp t=>.tmp t
 |.cell t k=>.cell t (C.g k)<|C.s k
def fn(C:Env)(f:Func):c7:=match f.body with
 |none=>⟨0,[],.refuse⟩
 |some c=>⟨f.ntmps,f.results.toList.map<|res C,code C (sM C.l1 c) c⟩
end Go.bI.BQ
