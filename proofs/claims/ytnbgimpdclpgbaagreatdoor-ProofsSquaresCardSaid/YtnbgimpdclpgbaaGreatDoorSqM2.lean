/- An abstract machine, and that its evaluations stand for runs of the model (part 2); no condition. -/
import Derived.Orders
import Derived.Defers
import Derived.RangeFuncLeaves
import Derived.RangeFuncRecord
import Derived.KernelRfl
import Derived.LaidLaws
import Derived.Test.YtnbgimpdclpgbaaGreatDoorSqM1
noncomputable section
set_option linter.all false
namespace Go.bC
variable{X:Ctx}{call:bN}
def lv(o:aK)(g:be (Tmp×Bool))(b:Bool):Prop:=hj o g (some true) (some false) none=some b
variable{β:Type}
def By{α:Type}{o:aK}{g:be (Tmp×Bool)}{u R z r:α}(h:hj o g u R z=r)(G:z≠r):(lv o g true/\u=r)\/(lv o g false/\R=r):=by
 cases g with
 |none=>exact .inl ⟨j,h⟩
 |some p=>
  have D:kj (o.tmp p.1) (λb=>cond b (cond p.2 u R)<|cond p.2 R u) (qF (o.tmp p.1) (λ_=>R) z)=r:=h;show(kj (o.tmp p.1) (λb=>cond b (cond p.2 (some true)<|some false)<|cond p.2 (some false)<|some true) (qF (o.tmp p.1) (λ_=>some false) none)=some true/\_)\/
   (kj (o.tmp p.1) (λb=>cond b (cond p.2 (some true)<|some false)<|cond p.2 (some false)<|some true) (qF (o.tmp p.1) (λ_=>some false) none)=some false/\_)
  generalize o.tmp p.1=M at D;cases M with
  |bool K=>
   cases K<;>cases hp:p.2<;>rw[hp]at D
   .exact .inl ⟨j,D⟩
   .exact .inr ⟨j,D⟩
   .exact .inr ⟨j,D⟩
   .exact .inl ⟨j,D⟩
  |tuple xs=>exact .inr ⟨j,D⟩
  |_=>exact absurd D G
def EU(t:ao bv)(aA:ac Tmp):ao bv:=jI t aA λm=>m
def aK.only(o:aK)(aA:ac Tmp):aK:=⟨EU o.t aA,[],none,false,none⟩
def oj(t:ao bv)(aA:ac Tmp)(k:ao bv->β)(m:ao bv):β:=
 List.rec (motive:=λ_=>ao bv->β) (λm=>k m) (λx _ I m=>bq (t.get x) (λv=>ao.iN (Nat.succ x) m x v I)<|I m) aA m
theorem JH{β:Type}(t:ao bv)(k:ao bv->β):∀(aA:ac Tmp) (m:ao bv),oj t aA k m=k (oj t aA (λm=>m) m)
 |[],_=>rfl
 |x::aA,m=>by
  show bq (t.get x) (λv=>ao.iN (Nat.succ x) m x v<|oj t aA k) (oj t aA k m)=k (bq (t.get x) (λv=>ao.iN (Nat.succ x) m x v<|oj t aA λm=>m)<|oj t aA (λm=>m) m);cases t.get x with
  |none=>exact JH t k aA m
  |some v=>
   show ao.iN (Nat.succ x) m x v (oj t aA k)=k (ao.iN (Nat.succ x) m x v<|oj t aA λm=>m);simpa[ao.wz,ao.wz]using JH t k aA _
def om(t:ao bv)(aA:ac Tmp)(k:ao bv->β):jI t aA k=k (EU t aA):=JH t k aA .nil
theorem JI(t:ao bv):∀(aA:ac Tmp) (m:ao bv) (J:Nat),(oj t aA (λm=>m) m).get J=if J∈aA/\(t.get J).isSome then t.get J else m.get J
 |[],m,J=>by rfl
 |x::aA,m,J=>by
  show(bq (t.get x) (λv=>ao.iN (Nat.succ x) m x v<|oj t aA λm=>m)<|oj t aA (λm=>m) m).get J=_;cases O:t.get x with
  |none=>
   show(oj t aA (λm=>m) m).get J=_;rw[JI t aA m J]
   grind
  |some v=>
   show(ao.iN (Nat.succ x) m x v<|oj t aA λm=>m).get J=_;rw[ao.wz,JI t aA _ J,ao.eo]
   grind
theorem PL(o:aK)(aA:ac Tmp)(J:Nat):(o.only aA).tmp J=if J∈aA then o.tmp J else jG:=by
 have h:=JI o.t aA .nil J;have e:(o.only aA).t.get J=(oj o.t aA (λm=>m) .nil).get J:=rfl;show Option.rec (motive:=λ_=>bv) (.chan<|some 0) (λv=>v) ((o.only aA).t.get J)=_;rw[e,h];by_cases d:J∈aA
 .rw[aD d];cases O:o.t.get J with
  |none=>simp[aK.tmp,O]
  |some v=>rw[aD ⟨d,j⟩];simp[aK.tmp,O]
 .rw[av λh=>d h.1,av d];rfl
theorem PM:∀(aA:ac Tmp) (o:aK),(∀J,(pO o aA).tmp J=if J∈aA then jG else o.tmp J)/\(pO o aA).aV=o.aV/\(pO o aA).b4=o.b4/\(pO o aA).cQ=o.cQ/\(pO o aA).dd=o.dd
 |[],o=>⟨λJ=>by simp[pO],j,j,j,j⟩
 |t::aA,o=>by
  have⟨aC,aI,A,d,C⟩:=PM aA<|o.put (some t) jG
  grind [tc,jG,pO,r4]
theorem PN{U:dh}{o:aK}{v:bv}{ae:Nat}:∀(n:Nat) (M:ac (ao bx)),sameAt call U o v ae n M=true->∀J,J<n->∃h bt al,M[J]? =some h/\bw call U o ⟨h,ae⟩= .ok v bt al
 |0,_,_,J,ba=>by omega
 |n+1,[],h,_,_=>by cases h
 |n+1,h::M,cK,J,ba=>by
  have d:a2.rec (λbE _ _=>cond (dC v bE) (sameAt call U o v ae n M) false) (λ_ _=>false) false (bw call U o ⟨h,ae⟩)=true:=cK;cases D:bw call U o ⟨h,ae⟩with
  |ok bE bt al=>
   rw[D]at d;obtain⟨A,s⟩:=jr d au;have:=j2 _ _ A;subst this;cases J with
   |zero=>exact⟨h,bt,al,j,D⟩
   |succ J=>
    have⟨g,u,O,C,H⟩:=PN n M s J R;exact⟨g,u,O,by simpa using C,H⟩
  |_=>rw[D]at d;cases d
def DStep(call:bN)(x:bj)(c:cn)(o:aK)(st:ak)(N:ac (ao bx))(v:bv)(e6:aK)(b8:ak)(j:ac (ao bx)):Prop:=
 match c with
 |.dI=>((lv o x.g false\/(lv o x.g true/\∃u O,bw call x.U o st= .aV u O))/\v=undef/\e6=o.put x.d undef/\b8=st/\j=st.h::N)\/
  (lv o x.g true/\∃bt,bw call x.U o st= .ok v bt b8/\st.ae<=b8.ae/\e6=aK.put ⟨o.t,bt.dd,bt.aV,bt.cQ,bt.b4⟩ x.d v/\j=b8.h::N)
 |.hx aA=>e6=o.put x.d v/\j=N/\((lv (o.only aA) x.g false/\v=undef/\b8=st)\/(lv (o.only aA) x.g true/\∃bt,bw call x.U (o.only aA) st= .ok v bt b8))
 |.read back aA=>e6=o.put x.d v/\j=N/\b8=st/\((lv (o.only aA) x.g false/\v=undef)\/(lv (o.only aA) x.g true/\sameAt call x.U (o.only aA) v st.ae (Nat.succ back) N=true))
def yO(call:bN)(x:bj)(c:cn)(o:aK)(st:ak):Prop:=c= .dI->lv o x.g true->∀u O,bw call x.U o st≠.aV u O
variable{o:aK}
def ack{g:be (Tmp×Bool)}(h:lv o g false)(D:lv o g true):False:=by
 unfold lv at h D;rw[h]at D;cases D
theorem acm{x:bj}{c:cn}{L:ac (bj×cn)}{N:ac (ao bx)}{st:ak}{e:c6}{bt:aK}{al:ak}{S:s6}(h:hk call S ((x,c)::L) N o st= .out e bt al):
 (∃v e6 b8 s,DStep call x c o st N v e6 b8 s/\yO call x c o st/\hk call S L s e6 b8= .out e bt al)\/
 (c= .dI/\lv o x.g true/\x.U.lp=true/\bt=o/\S L (st.h::N) (o.put x.d undef) st=true/\∃u,e= .aV u/\bw call x.U o st= .aV u al):=by
 cases c with
 |dI=>
  have y:=h;obtain⟨Y,G⟩|⟨Y,G⟩:=By y au
  .cases D:bw call x.U o st with
   |ok v R fl=>
    rw[D]at G;have⟨A,z⟩:=jq G au;exact .inl ⟨v,aK.put ⟨o.t,R.dd,R.aV,R.cQ,R.b4⟩ x.d v,fl,fl.h::N,.inr ⟨Y,R,D,A,j,j⟩,(λ_ _ u O M=>by rw[D]at M;cases M),z⟩
   |aV u O=>
    rw[D]at G
    grind
   |no=>rw[D]at G;cases G
  .exact .inl ⟨undef,o.put x.d undef,st,st.h::N,.inl ⟨.inl Y,j,j,j,j⟩,(λ_ B=>(ack Y B).elim),G⟩
 |hx aA=>
  have y:jI o.t aA (λt=>hj ⟨t,[],none,false,none⟩ x.g
   (a2.rec (λv _ al=>hk call S L N (o.put x.d v) al) (λ_ _=>.no) .no<|bw call x.U ⟨t,[],none,false,none⟩ st)
   (hk call S L N (o.put x.d undef) st) .no)= .out e bt al:=h
  rw[om]at y;have I:hj (o.only aA) x.g (a2.rec (λv _ al=>hk call S L N (o.put x.d v) al) (λ_ _=>.no) .no<|bw call x.U (o.only aA) st)
   (hk call S L N (o.put x.d undef) st) .no= .out e bt al:=y
  obtain⟨Y,G⟩|⟨Y,G⟩:=By I au
  .cases D:bw call x.U (o.only aA) st with
   |ok v R fl=>
    rw[D]at G;exact .inl ⟨v,o.put x.d v,fl,N,⟨j,j,.inr ⟨Y,R,D⟩⟩,apQ,G⟩
   |_=>rw[D]at G;cases G
  .exact .inl ⟨undef,o.put x.d undef,st,N,⟨j,j,.inl ⟨Y,j,j⟩⟩,apQ,G⟩
 |read back aA=>
  have y:jI o.t aA (λt=>hj ⟨t,[],none,false,none⟩ x.g
   (a2.rec (λv _ _=>cond (sameAt call x.U ⟨t,[],none,false,none⟩ v st.ae (Nat.succ back) N) (hk call S L N (o.put x.d v) st) .no) (λ_ _=>.no) .no<|bw call x.U ⟨t,[],none,false,none⟩ st)
   (hk call S L N (o.put x.d undef) st) .no)= .out e bt al:=h
  rw[om]at y;have I:hj (o.only aA) x.g (a2.rec (λv _ _=>cond (sameAt call x.U (o.only aA) v st.ae (Nat.succ back) N) (hk call S L N (o.put x.d v) st) .no) (λ_ _=>.no) .no<|bw call x.U (o.only aA) st)
   (hk call S L N (o.put x.d undef) st) .no= .out e bt al:=y
  obtain⟨Y,G⟩|⟨Y,G⟩:=By I au
  .cases D:bw call x.U (o.only aA) st with
   |ok v R fl=>
    rw[D]at G;have⟨A,z⟩:=jr G au;exact .inl ⟨v,o.put x.d v,st,N,⟨j,j,j,.inr ⟨Y,A⟩⟩,apQ,z⟩
   |_=>rw[D]at G;cases G
  .exact .inl ⟨undef,o.put x.d undef,st,N,⟨j,j,j,.inl ⟨Y,j⟩⟩,apQ,G⟩
def EV(x:bj)(c:cn)(o:aK)(st:ak)(N:ac (ao bx))(v:bv)(e6:aK)(b8:ak)(j:ac (ao bx)):Prop:=v=undef/\e6=o.put x.d undef/\b8=st/\j=(match c with|.dI=>st.h::N|_=>N)
structure j5(call:bN)(Z:Nat->Bool)(L:ac (bj×cn))(fm:ac (ao bx))(o:aK)(st:ak)(bt:aK)(al:ak)(F:Nat->aK)(T:Nat->ak)(N:Nat->ac (ao bx))(V:Nat->bv):Prop where
 f0:F 0=o
 t0:T 0=st
 ck:N 0=fm
 fn:F L.length=bt
 aph:T L.length=al
 step:∀p x c,L[p]? =some (x,c)->(Z p=false∧DStep call x c (F p) (T p) (N p) (V p) (F (p+1)) (T (p+1)) (N (p+1)))∨(Z p=true∧EV x c (F p) (T p) (N p) (V p) (F (p+1)) (T (p+1)) (N (p+1)))
def JJ(call:bN)(Z:Nat->Bool)(L:ac (bj×cn))(F:Nat->aK)(T:Nat->ak)(n:Nat):Prop:=∀p x c,p≠n->Z p=false->L[p]? =some (x,c)->yO call x c (F p) (T p)
def acn(call:bN)(ms:ac Nat)(Z:Nat->Bool)(L:ac (bj×cn))(F:Nat->aK)(T:Nat->ak)(e:c6)(bt:aK)(al:ak):Prop:=
 (e= .norm/\(∀p,Z p=false)/\JJ call Z L F T L.length/\F L.length=bt/\T L.length=al)\/
 (∃n x u,L[n]? =some (x,.dI)/\(∀p,Z p=true->n<p/\(ms.getD p 0).testBit n=true)/\JJ call Z L F T n/\lv (F n) x.g true/\x.U.lp=true/\bt=F n/\e= .aV u/\bw call x.U (F n) (T n)= .aV u al)
theorem PO{S:s6}{e:c6}{bt:aK}{al:ak}:∀(L:ac (bj×cn)) (fm:ac (ao bx)) (o:aK) (st:ak),hk call S L fm o st= .out e bt al->∃(F:Nat->aK) (T:Nat->ak) (N:Nat->ac (ao bx)) (V:Nat->bv),(F 0=o/\T 0=st/\N 0=fm)/\
 ((e= .norm/\F L.length=bt/\T L.length=al/\∀p x c,L[p]? =some (x,c)->DStep call x c (F p) (T p) (N p) (V p) (F<|p+1) (T<|p+1) (N<|p+1)/\yO call x c (F p) (T p))\/
  (∃n x u,L[n]? =some (x,.dI)/\(∀p x c,p<n->L[p]? =some (x,c)->DStep call x c (F p) (T p) (N p) (V p) (F<|p+1) (T<|p+1) (N<|p+1)/\yO call x c (F p) (T p))/\lv (F n) x.g true/\x.U.lp=true/\bt=F n/\e= .aV u/\bw call x.U (F n) (T n)= .aV u al/\
   S (L.drop<|n+1) ((T n).h::N n) ((F n).put x.d undef) (T n)=true))
 |[],fm,o,st,h=>by
  have D:=h;cases D;exact arb arb
 |(x,c)::L,fm,o,st,h=>by
  rcases acm h with⟨v,z,C,s,ag,B,Y⟩|⟨rfl,a',aa,rfl,A,u,rfl,ab⟩
  .obtain⟨F,T,N,V,⟨f0,t0,ck⟩,af⟩:=PO L s z C Y;refine⟨λp=>Nat.casesOn p o F,λp=>Nat.casesOn p st T,λp=>Nat.casesOn p fm N,λp=>Nat.casesOn p v V,sa,?_⟩;have G:∀H cR,((x,c)::L)[0]? =some (H,cR)->DStep call H cR o st fm v (F 0) (T 0) (N 0)/\yO call H cR o st:=λH cR hp=>by
    grind
   rcases af with⟨O,J,K,M⟩|⟨n,y,w,W,M,I,a0,cJ,c2,eC,fv⟩
   .refine .inl ⟨O,J,K,λp H cR hp=>?_⟩;cases p with
    |zero=>exact G H cR hp
    |succ p=>exact M p H cR<|by simpa using hp
   .refine .inr ⟨n+1,y,w,by simpa using W,λp H cR ah hp=>?_,I,a0,cJ,c2,eC,by simpa using fv⟩;cases p with
    |zero=>exact G H cR hp
    |succ p=>exact M p H cR R<|by simpa using hp
  .exact aq1 aq1
theorem PQ{a b c:Bool}(h:cond a b c=true):(a=true/\b=true)\/(a=false/\c=true):=by
 grind
theorem PR{ms:ac Nat}{n:Nat}:∀(S:ac (bj×cn)) (p:Nat) (fm:ac (ao bx)) (o:aK) (st:ak),j4 call ms n S p fm o st=true->∃(F:Nat->aK) (T:Nat->ak) (N:Nat->ac (ao bx)) (V:Nat->bv),(F 0=o/\T 0=st/\N 0=fm)/\
 ∀q x c,S[q]? =some (x,c)->((ms.getD (p+q) 0).testBit n=false/\DStep call x c (F q) (T q) (N q) (V q) (F<|q+1) (T<|q+1) (N<|q+1)/\c≠.dI)\/((ms.getD (p+q) 0).testBit n=true/\EV x c (F q) (T q) (N q) (V q) (F<|q+1) (T<|q+1) (N<|q+1))
 |[],p,fm,o,st,_=>⟨λ_=>o,λ_=>st,λ_=>fm,λ_=>undef,sa,λq x c cD=>by simp at cD⟩
 |(x,c)::S,p,fm,o,st,h=>by
  have key:∃v e6 b8 s,j4 call ms n S (p+1) s e6 b8=true/\(((ms.getD p 0).testBit n=false/\DStep call x c o st fm v e6 b8 s/\c≠.dI)\/((ms.getD p 0).testBit n=true/\EV x c o st fm v e6 b8 s)):=by
   rcases PQ h with⟨C,Y⟩|⟨C,Y⟩
   .cases c with
    |_=>exact⟨undef,_,_,_,Y,.inr ⟨C,j,j,j,j⟩⟩
   .cases c with
    |dI=>cases Y
    |hx aA=>
     have G:jI o.t aA (λt=>hj ⟨t,[],none,false,none⟩ x.g
      (a2.rec (λv _ al=>j4 call ms n S (p+1) fm (o.put x.d v) al) (λ_ _=>false) false<|bw call x.U ⟨t,[],none,false,none⟩ st)
      (j4 call ms n S (p+1) fm (o.put x.d undef) st) false)=true:=Y
     rw[om]at G;rcases By G au with⟨W,I⟩|⟨W,I⟩
     .cases D:bw call x.U (o.only aA) st with
      |ok v R fl=>
       have I:a2.rec (λv _ al=>j4 call ms n S (p+1) fm (o.put x.d v) al) (λ_ _=>false) false (bw call x.U (o.only aA) st)=true:=I;rw[D]at I;exact asy asy
      |aV _ _=>
       exact apX
      |no=>
       exact apX
     .exact ash ash
    |read back aA=>
     have G:jI o.t aA (λt=>hj ⟨t,[],none,false,none⟩ x.g
      (a2.rec (λv _ _=>cond (sameAt call x.U ⟨t,[],none,false,none⟩ v st.ae (Nat.succ back) fm) (j4 call ms n S (p+1) fm (o.put x.d v) st) false) (λ_ _=>false) false<|bw call x.U ⟨t,[],none,false,none⟩ st)
      (j4 call ms n S (p+1) fm (o.put x.d undef) st) false)=true:=Y
     rw[om]at G;rcases By G au with⟨W,I⟩|⟨W,I⟩
     .have I:a2.rec (λv _ _=>cond (sameAt call x.U (o.only aA) v st.ae (Nat.succ back) fm) (j4 call ms n S (p+1) fm (o.put x.d v) st) false) (λ_ _=>false) false (bw call x.U (o.only aA) st)=true:=I;cases D:bw call x.U (o.only aA) st with
      |ok v R fl=>
       rw[D]at I;rcases PQ I with⟨a0,cJ⟩|⟨_,cJ⟩
       .exact asu asu
       .cases cJ
      |_=>rw[D]at I;cases I
     .exact asg asg
  obtain⟨v,e6,b8,s,Y,M⟩:=key;obtain⟨F,T,N,V,⟨f0,t0,ck⟩,u⟩:=PR S (p+1) s e6 b8 Y;refine⟨λp=>Nat.casesOn p o F,λp=>Nat.casesOn p st T,λp=>Nat.casesOn p fm N,λp=>Nat.casesOn p v V,sa,λq H cR cD=>?_⟩;cases q with
  |zero=>
   have:(x,c)=(H,cR):=by grind
   cases this;show(_/\DStep call x c o st fm v (F 0) (T 0) (N 0)/\_)\/(_/\EV x c o st fm v (F 0) (T 0) (N 0));rw[f0,t0,ck];exact M
  |succ q=>
   grind
theorem aco{ms:ac Nat}(L:ac (bj×cn))(fm:ac (ao bx))(o:aK)(st:ak)(e:c6)(bt:aK)(al:ak)(h:hk call (r3 call ms<|dE L) L fm o st= .out e bt al):∃Z F T N V,j5 call Z L fm o st (F L.length) (T L.length) F T N V/\acn call ms Z L F T e bt al:=by
 obtain⟨F,T,N,V,⟨f0,t0,ck⟩,aA⟩:=PO L fm o st h;rcases aA with⟨D,aw,z,M⟩|⟨n,x,u,W,M,I,a0,cJ,c2,eC,fv⟩
 .exact ap4 ap4
 .have aj:=(dP.1 W).1;have fv:j4 call ms (L.length-(L.drop<|n+1).length.succ) (L.drop<|n+1) (L.length-(L.drop<|n+1).length) ((T n).h::N n) ((F n).put x.d undef) (T n)=true:=by
   have:=fv;unfold r3 at this
   rwa [e4,e4]at this
  rw[iX,show L.length-(L.length-(n+1)).succ=n by omega,show L.length-(L.length-(n+1))=n+1 by omega]at fv;obtain⟨jv,aa,a',A,⟨G,K,iG⟩,az⟩:=PR _ _ _ _ _ fv
  let Z:Nat->Bool:=λp=>decide (n<p)&&(ms.getD p 0).testBit n
  let Y:Nat->aK:=λp=>if p<=n then F p else jv (p-(n+1))
  let gE:Nat->ak:=λp=>if p<=n then T p else aa (p-(n+1))
  let O:Nat->ac (ao bx):=λp=>if p<=n then N p else a' (p-(n+1))
  let J:Nat->bv:=λp=>if p<n then V p else if p=n then undef else A (p-(n+1))
  have bm:∀p,p<=n->Y p=F p/\gE p=T p/\O p=N p:=λp hp=>⟨aD hp,aD hp,aD hp⟩;have af:∀r,Y (n+1+r)=jv r/\gE (n+1+r)=aa r/\O (n+1+r)=a' r:=λr=>by
   grind
  have au:∀p,p<=n->Z p=false:=λp hp=>by
   show(decide (n<p)&&_)=false;rw[cp R];rfl
  have ar:∀r,Z (n+1+r)=(ms.getD (n+1+r) 0).testBit n:=λr=>by
   show(decide (n<n+1+r)&&_)=_;rw[cm R];rfl
  refine⟨Z,Y,gE,O,J,⟨(bm 0<|c8 _).1.trans f0,(bm 0<|c8 _).2.1.trans t0,(bm 0<|c8 _).2.2.trans ck,j,j,λp y c hp=>?_⟩,.inr ⟨n,x,u,W,λp hp=>apt,λp y c g ab hp=>?_,(by rw[(bm n<|cf _).1];exact I),a0,(by rw[(bm n<|cf _).1];exact cJ),c2,(by rw[(bm n<|cf _).1,(bm n<|cf _).2.1];exact eC)⟩⟩
  .rcases x6 p n with aW|rfl|ax
   .grind
   .obtain⟨B,C,aB⟩:=bm p<|cf _;obtain⟨ah,ai,aq⟩:=af 0;have S:J p=undef:=by
     grind
    rw[W]at hp;cases hp;rw[B,C,aB,ah,ai,aq,S,G,K,iG];exact .inl ⟨au p<|cf _,.inl ⟨.inr ⟨I,u,_,eC⟩,j,j,j,j⟩⟩
   .obtain⟨r,rfl⟩:∃r,p=n+1+r:=⟨p-(n+1),R⟩;obtain⟨ah,ai,aq⟩:=af<|r+1;have S:J (n+1+r)=A r:=by
     show(if n+1+r<n then _ else if n+1+r=n then _ else A (n+1+r-(n+1)))=_;rw[av R,av R,show n+1+r-(n+1)=r by omega]
    grind
  .rcases x6 p n with aW|rfl|ax
   .obtain⟨B,C,_⟩:=bm p R;rw[B,C];exact(M p y c aW hp).2
   .exact absurd j g
   .obtain⟨r,rfl⟩:∃r,p=n+1+r:=⟨p-(n+1),R⟩;rw[ar r]at ab;rcases az r y c (by rw[n2];exact hp)with⟨_,_,H⟩|⟨s,_⟩
    .exactλay=>absurd ay H
    .rw[ab]at s;cases s
def acp{α:Type}(l:ac α)(n:Nat)(ab:ac α):(∃out,∀(k:ac α->a2),pK l n ab k .no=k out)\/(∀k:ac α->a2,pK l n ab k .no= .no):=by
 by_cases h:n+ab.length<=l.length
 .exact .inl ⟨_,λk=>by rw[pU,aD h]⟩
 .by_cases G:ab=[]
  .exact .inl ⟨l,λk=>by rw[pU,av h,aD G]⟩
  .exact .inr λk=>by rw[pU,av h,av G]
theorem PS(o:aK):∀(a7:ac (Nat×Nat×ce)) (cs:ac bv),(∃out,∀c,ob o a7 cs c=c out)\/(∀c,ob o a7 cs c= .no)
 |[],cs=>.inl ⟨cs,λ_=>j⟩
 |p::a7,cs=>by
  have M:∀c,ob o (p::a7) cs c=cond (s3<|o.ar p.2.2) .no (dL (dE<|hW<|o.ar p.2.2) p.2.1 (ev (Nat.add p.1 p.2.1) (dE cs) (pK cs p.1 (hW<|o.ar p.2.2) (λR=>ob o a7 R c) .no) .no) .no):=λ_=>j;simp[M];cases s3 (o.ar p.2.2)with
  |true=>exact .inr λ_=>j
  |false=>
   simp only[mn,lR];split
   .split
    .obtain⟨out,d⟩|aj:=acp cs p.1<|hW<|o.ar p.2.2
     .obtain⟨H,C⟩|g:=PS o a7 out
      .exact .inl ⟨H,λc=>by rw[d];exact C c⟩
      .exact .inr λc=>by rw[d];exact g c
     .exact .inr λc=>aj _
    .exact .inr λ_=>j
   .exact .inr λ_=>j
def PT{x:dh}{bt:aK}{bX:ao bx}{ae:Nat}{v:bv}{al:ak}(O:x.qR=true)(h:bw call x o ⟨bX,ae⟩= .ok v bt al):
 ∃U,U≠.dead/\bt=o/\al=⟨bX.set ae U,ae+1⟩/\∀D,bw call x o ⟨D,ae⟩= .ok v o ⟨D.set ae U,ae+1⟩:=by
 cases x with
 |alloc z e=>
  have h:yA z e call o ⟨bX,ae⟩= .ok v bt al:=h;rw[yA]at h;rw[gj]at h;cases h;exact ar1 ar1
 |box e p=>
  obtain⟨Y,G⟩:=yF h au;rw[gj]at G;cases G;exact aq6 aq6
 |qC e n z a7=>
  have h:A4 e n z a7 call o ⟨bX,ae⟩= .ok v bt al:=h;rw[A4]at h;obtain⟨out,g⟩|aj:=PS o a7 z
  .rw[g,gj]at h;cases h;exact arL arL
  .rw[aj]at h;cases h
 |wb e p=>
  obtain⟨s,M,Y⟩:=yC h au;have⟨hle,G⟩:=jq Y au;rw[gj]at G;cases G;exact⟨_,au,j,j,λD=>by
   show I3 e p call o ⟨D,ae⟩=_;rw[I3];rw[M];show ev (dE s.data.toList) (2^40) _ _=_;rw[lR,aD hle,gj]⟩
 |pH e b2 z l c=>
  obtain⟨bJ,J,B,Y⟩:=od h au;have⟨K,R,W,G⟩:=od Y au;have⟨cZ,u,A⟩:=pR G au;have⟨jO,d,I⟩:=pR A au;have⟨hle,C⟩:=jq I au;have⟨y,H⟩:=jq C au;rw[gj]at H;cases H;exact⟨_,au,j,j,λD=>by
   show wx e b2 z l c call o ⟨D,ae⟩=_;rw[wx];rw[B,W,u,d];show ev cZ jO (ev (Nat.mul jO<|Nat.succ b2) (2^40) _ _) _=_;rw[lR,aD hle,lR,aD y,gj]⟩
 |pG=>
  have h:wv call o ⟨bX,ae⟩= .ok v bt al:=h;rw[wv]at h;rw[gj]at h;cases h;exact asj asj
 |_=>cases O
end Go.bC
namespace Go.bC
def cn.wH:cn->Bool
 |.dI=>true
 |_=>false
def cn.looks:cn->ac Tmp
 |.dI=>[]
 |.hx aA=>aA
 |.read _ aA=>aA
def td(L:ac (bj×cn))(q:Nat):Bool:=((L[q]?).map (·.2.wH)).getD false
structure lU(X:Ctx)(aN:Nat)(ops:bi Oper)(L:ac (bj×cn))(cz:ac Nat)(fc:ac Tmp)(ms:ac Nat):Prop where
 te:L.length=ops.size
 yP:cz.length=ops.size
 op:∀(p i:Nat) x c,cz[p]? =some i->L[p]? =some (x,c)->∃U,ops[i]? =some U∧lT X aN ops x U=true
 hx:∀(p:Nat) x aA,L[p]? =some (x,.hx aA)->x.U.qR=true
 rd:∀(p:Nat) x n aA,L[p]? =some (x,.read n aA)->x.U.pZ=true
 inj:∀(p q i:Nat),cz[p]? =some i->cz[q]? =some i->p=q
 acq:∀i,i<ops.size->∃p:Nat,cz[p]? =some i
 acr:∀(p i:Nat) U,cz[p]? =some i->ops[i]? =some U->∀e∈U.after,Region.binds .any e=true->∃q,q<p∧cz[q]? =some e.on
 mask:∀(p i:Nat) U q,cz[p]? =some i->ops[i]? =some U->(ms.getD p 0).testBit q=true->∃e∈U.after,Region.binds .any e=true∧∃r,r<p∧cz[r]? =some e.on∧(q=r∨(ms.getD r 0).testBit q=true)
 dI:∀(p:Nat) x q,L[p]? =some (x,.dI)->q<p->(ms.getD p 0).testBit q=true
 back:∀(p:Nat) x n aA,L[p]? =some (x,.read n aA)->(List.range p).countP (fun q=>td L q&& !(ms.getD p 0).testBit q)<=n
 dst:∀(p q:Nat) x y c d t,L[p]? =some (x,c)->L[q]? =some (y,d)->x.d=some t->y.d=some t->p=q
 acs:∀(p q:Nat) x y c d t,L[p]? =some (x,c)->L[q]? =some (y,d)->p<q->y.d=some t->t∉fc->(c= .dI∨t∈c.looks)->(ms.getD q 0).testBit p=true
 dep:∀(p q:Nat) x y c d t,L[p]? =some (x,c)->L[q]? =some (y,d)->q<p->y.d=some t->t∈c.looks->(ms.getD p 0).testBit q=true
section
variable{X:Ctx}{aN:Nat}{ops:bi Oper}{L:ac (bj×cn)}{cz:ac Nat}{fc:ac Tmp}{ms:ac Nat}{call:bN}
def nv(ops:bi Oper)(cz:ac Nat)(E:Nat->Prop)(p:Nat):Prop:=∀i U,cz[p]? =some i->ops[i]? =some U->∀e∈U.after,Region.binds .any e=true->∀r:Nat,cz[r]? =some e.on->E r
theorem lU.before(D:lU X aN ops L cz fc ms){E:Nat->Prop}(u:∀p,E p->nv ops cz E p)(p:Nat):nv ops cz E p->p<ops.size->∀q,(ms.getD p 0).testBit q=true->E q:=by
 induction p using Nat.strongRecOn with
 |_ p A=>
  intro I hp q z;have d:p<cz.length:=by rwa [D.yP]
  have af:=aO d;obtain⟨x,O⟩:∃x,L[p]? =some x:=⟨_,aO<|by rwa [D.te]⟩;have⟨U,g,_⟩:=D.op p _ x.1 x.2 af O;have⟨e,he,C,r,y,s,h⟩:=D.mask p _ U q af g z;have j:=I _ U af g e he C r s
  grind
variable{Z:Nat->Bool}{fm:ac (ao bx)}{o bt:aK}{st al:ak}{F:Nat->aK}{T:Nat->ak}{N:Nat->ac (ao bx)}{V:Nat->bv}
variable{p q:Nat}{x:bj}{c:cn}
def j5.PU(j:j5 call Z L fm o st bt al F T N V)(D:lU X aN ops L cz fc ms)(hp:p<L.length):(T p).ae<=(T<|p+1).ae:=by
 obtain⟨⟨x,c⟩,O⟩:∃x,L[p]? =some x:=⟨_,aO hp⟩;obtain⟨_,M⟩|⟨_,M⟩:=j.step p x c O
 case inr=>rw[M.2.2.1];exact cf _
 cases c with
 |dI=>
  obtain⟨_,_,_,h,_⟩|⟨_,_,_,h,_⟩:=M
  .rw[h];exact cf _
  .exact h
 |hx aA=>
  have⟨_,_,h⟩:=M;obtain⟨_,_,h⟩|⟨_,R,h⟩:=h
  .rw[h];exact cf _
  .have g:=D.hx p x aA O;have⟨U,_,_,G,_⟩:=PT g h;rw[G];exact kW _
 |read n aA=>have⟨_,_,h,_⟩:=M;rw[h];exact cf _
def j5.lV(j:j5 call Z L fm o st bt al F T N V)(D:lU X aN ops L cz fc ms)(h:p<=q)(cD:q<=L.length):(T p).ae<=(T q).ae:=by
 induction q with
 |zero=>have:p=0:=by omega
        subst this;exact cf _
 |succ q I=>
  by_cases e:p=q+1
  .subst e;exact cf _
  .exact ch (I R R)<|j.PU D R
def j5.PV(j:j5 call Z L fm o st bt al F T N V)(O:L[p]? =some (x,c))(t:Nat):(F<|p+1).tmp t=if x.d=some t then V p else(F p).tmp t:=by
 obtain⟨_,M⟩|⟨_,M⟩:=j.step p x c O
 case inr=>rw[M.2.1,r4,M.1]
 cases c with
 |dI=>
  obtain⟨_,Y,h,_⟩|⟨_,R,_,_,h,_⟩:=M
  .rw[h,r4,Y]
  .rw[h,r4];rfl
 |_=>obtain⟨h,_⟩:=M;rw[h,r4]
def j5.EW(j:j5 call Z L fm o st bt al F T N V)(t:Nat):∀p,p<=L.length->(∀(q:Nat) x c,q<p->L[q]? =some (x,c)->x.d≠some t)->(F p).tmp t=(F 0).tmp t
 |0,_,_=>rfl
 |p+1,hp,h=>by
  obtain⟨⟨x,c⟩,O⟩:∃x,L[p]? =some x:=⟨_,aO R⟩;rw[j.PV O,av<|h p x c R O];exact j.EW t p R λq x c g=>h q x c R
theorem j5.JK(u:j5 call Z L fm o st bt al F T N V)(D:lU X aN ops L cz fc ms){y:bj}{d:cn}{t:Nat}(j:L[q]? =some (y,d))(G:y.d=some t):∀p,q<p->p<=L.length->(F p).tmp t=V q
 |0,h,_=>by omega
 |p+1,h,hp=>by
  obtain⟨⟨x,c⟩,O⟩:∃x,L[p]? =some x:=⟨_,aO R⟩;rw[u.PV O];by_cases e:p=q
  .grind
  .rw[av λh=>e<|D.dst p q x y c d t O j h G];exact u.JK D j G p R R
def j5.same(u:j5 call Z L fm o st bt al F T N V)(O:L[p]? =some (x,c))(aQ:c≠.dI):(F<|p+1).dd=(F p).dd/\(F<|p+1).cQ=(F p).cQ/\(F<|p+1).aV=(F p).aV/\(F<|p+1).b4=(F p).b4:=by
 obtain⟨_,M⟩|⟨_,M⟩:=u.step p x c O
 case inr=>have⟨W,cA,dG,gT⟩:=tc (F p) x.d undef;rw[M.2.1];exact⟨gT,dG,W,cA⟩
 cases c with
 |dI=>exact absurd j aQ
 |_=>obtain⟨h,_⟩:=M;obtain⟨W,cA,dG,gT⟩:=tc (F p) x.d<|V p;rw[h];exact⟨gT,dG,W,cA⟩
theorem j5.snap(M:j5 call Z L [st.h] o st bt al F T N V){c:Nat}(aQ:c=0\/∃p x,c=p+1/\L[p]? =some (x,cn.dI)):∀p,c<=p->p<=L.length->
 (N p)[(List.range p).countP λq=>decide (c<=q)&&td L q]? =some (T c).h
 |0,h,_=>by
  have:c=0:=R
  subst this;simp[M.ck,M.t0]
 |p+1,h,hp=>by
  obtain⟨⟨x,k⟩,O⟩:∃x,L[p]? =some x:=⟨_,aO R⟩;have K:=M.step p x k O;by_cases e:c=p+1
  .subst e;have d:(List.range<|p+1).countP (λq=>decide (p+1<=q)&&td L q)=0:=by
    grind
   rw[d];rcases aQ with aQ|⟨D,H,aQ,g⟩
   .omega
   .have:D=p:=by omega
    subst this;rw[O]at g;cases g;rcases K with⟨_,⟨_,_,_,Y,G⟩|⟨_,_,_,_,_,G⟩⟩|⟨_,_,_,Y,G⟩
    .rw[G,Y];rfl
    .rw[G];rfl
    .rw[G,Y];rfl
  .have I:=M.snap aQ p R R;rw[List.range_succ,List.countP_append,List.countP_singleton];have j:decide (c<=p)=true:=by simp;omega
   have u:td L p=k.wH:=by simp[td,O]
   simp[j,u];cases k with
   |dI=>
    have:∃h,N (p+1)=h::N p:=by
     rcases K with⟨_,⟨_,_,_,_,G⟩|⟨_,_,_,_,_,G⟩⟩|⟨_,_,_,_,G⟩
     .exact⟨_,G⟩
     .exact⟨_,G⟩
     .exact⟨_,G⟩
    obtain⟨h,s⟩:=this;rw[s];simpa[cn.wH]using I
   |hx aA=>
    have G:N (p+1)=N p:=by
     rcases K with⟨_,_,G,_⟩|⟨_,_,_,_,G⟩
     .exact G
     .exact G
    rw[G];simpa[cn.wH]using I
   |read n aA=>
    have G:N (p+1)=N p:=by
     rcases K with⟨_,_,G,_⟩|⟨_,_,_,_,G⟩
     .exact G
     .exact G
    rw[G];simpa[cn.wH]using I
end
end Go.bC
namespace Go.bC
variable{X:Ctx}
variable{ad:bH}{n:Nat}{l:Loc}{aF:bH}{m:Nat}{w:f5}
def fZ(ad:bH)(n:Nat):bH:=λid=>if id<n then ad id else none
def ko{id:Nat}:fZ ad n id=some l↔id<n/\ad id=some l:=by
 rw[fZ];by_cases h:id<n<;>simp[h]
def PW(ad:bH)(n:Nat):(fZ ad n).le ad:=λ_ _ h=>(ko.1 h).2
def sd(h:ad.le aF)(aj:m<=n):(fZ ad m).le (fZ aF n):=λ_ _ B=>ko.2 ⟨e2 (ko.1 B).1 aj,h _ _ (ko.1 B).2⟩
theorem PX(h:∀id,n<=id->ad id=none):fZ ad n=ad:=by
 grind [fZ]
def bQ.look{h:ao bx}(u:bQ X ad ⟨h,n⟩ w)(hle:ad.le aF)(D:∀id,m<=id->aF id=none)(aj:n<=m)(ay:∀id l,aF id=some l->l.cx<w.heap.size):bQ X aF ⟨h,m⟩ w:=by
 refine⟨λid U G C=>?_,λi J U p l R af Y K d I A O e=>?_,λid H=>⟨D id H,(u.fresh id<|ch aj H).2⟩,ay,λg O=>hle _ _<|u.kB g O,ch u.m0 aj,λi l U B M G C=>?_⟩
 .have⟨l,B,hm⟩:=u.eB id U G C;exact⟨l,hle _ _ B,hz.mono X hm hle j⟩
 .have⟨bo,W,_⟩:=u.eB i U af Y;have⟨y,s,_⟩:=u.eB J p K d;have S:=(hle _ _ W).symm.trans I;have z:=(hle _ _ s).symm.trans A;cases S;cases z;exact u.inj i J U p _ _ af Y K d W s O e
 .have⟨bo,W,_⟩:=u.eB i U G C;cases(hle _ _ W).symm.trans B;exact u.km i _ U W M G C
theorem bQ.acu{st:ak}(a':bQ X ad st w){U:bx}(ab:hz X (gD ad st.ae l) w U l)(ay:l.cx<w.heap.size)(ah:l.bF≠eU)(u:∀id bo,ad id=some bo->bo.cx≠l.cx):
 bQ X (gD ad st.ae l) ⟨st.h.set st.ae U,st.ae+1⟩ w:=by
 have hle:ad.le (gD ad st.ae l):=by
  intro id bo B;show(if id=st.ae then some l else ad id)=some bo;rw[av];exact B;intro e;subst e;rw[(a'.fresh _<|cf _).1]at B;cases B
 have ai:gD ad st.ae l st.ae=some l:=aD j;have G:∀id,id≠st.ae->gD ad st.ae l id=ad id:=λid h=>av h;refine⟨λid p hp s=>?_,λi J p q y aa af Y K d I A O e=>?_,λid H=>?_,λid bo W=>?_,λg O=>hle _ _<|a'.kB g O,sO a'.m0,λi y p C M hp s=>?_⟩
 .rw[ao.eo]at hp;by_cases e:id=st.ae
  .grind
  .rw[av e]at hp;have⟨bo,W,hm⟩:=a'.eB id p hp s;exact⟨bo,hle _ _ W,hz.mono X hm hle j⟩
 .rw[ao.eo]at af K;by_cases S:i=st.ae
  .grind
  .by_cases z:J=st.ae
   .grind
   .rw[av S]at af;rw[av z]at K;rw[G i S]at I;rw[G J z]at A;exact a'.inj i J p q y aa af Y K d I A O e
 .have D:st.ae+1<=id:=H;refine⟨?_,?_⟩
  .rw[G id R];exact(a'.fresh id R).1
  .show(st.h.set st.ae U).get id=none;rw[ao.eo,av R];exact(a'.fresh id R).2
 .by_cases e:id=st.ae
  .grind
  .rw[G id e]at W;exact a'.fK id bo W
 .rw[ao.eo]at hp;by_cases e:i=st.ae
  .grind
  .rw[av e]at hp;rw[G i e]at C;exact a'.km i y p C M hp s
def uG(L:ac (bj×cn))(F:Nat->aK)(p:Nat):Prop:=∃x aA,L[p]? =some (x,cn.hx aA)/\lv ((F p).only aA) x.g true
structure kp(X:Ctx)(aN:Nat)(L:ac (bj×cn))(F:Nat->aK)(T:Nat->ak)(V:Nat->bv)(hl:bH)(dJ:f5)(E:Nat->Prop)(c:Nat)(ad:bH)(a:Act)(w:f5):Prop where
 low:∀p,p<c->E p
 EX:c<=L.length
 start:c=0∨∃p x,c=p+1∧L[p]? =some (x,cn.dI)
 Bz:∀(p:Nat) x,c<=p->E p->L[p]? ≠some (x,cn.dI)
 wr:bQ X (fZ ad (T c).ae) (T c) w
 lW:∀id l,ad id=some l->id<(T c).ae∨∃p,c<=p∧p<L.length∧E p∧uG L F p∧id=(T p).ae
 gi:∀p,c<=p->E p->uG L F p->∃U l,T (p+1)=⟨(T p).h.set (T p).ae U,(T p).ae+1⟩∧ad (T p).ae=some l∧hz X (fZ ad ((T p).ae+1)) w U l∧
  l.bF≠eU∧∀id bo,ad id=some bo->id≠(T p).ae->bo.cx≠l.cx
 fK:∀id l,ad id=some l->l.cx<w.heap.size
 keeps:eb hl ad dJ w
 size:a.tmps.size=aN
 dd:s9 (fZ ad (T c).ae) (F c).dd a.defers
 BA:∀(p:Nat) x fM t,L[p]? =some (x,fM)->x.d=some t->E p->bd (fZ ad (max (T (p+1)).ae (T c).ae)) (V p) (a.tmps.getD t undef)
 yQ:∀t,(∀(p:Nat) x fM,L[p]? =some (x,fM)->x.d=some t->¬E p)->bd hl ((F 0).tmp t) (a.tmps.getD t undef)
section
variable{aN:Nat}{ops:bi Oper}{L:ac (bj×cn)}{cz:ac Nat}{fc:ac Tmp}{ms:ac Nat}{call:bN}
variable{Z:Nat->Bool}{o bt:aK}{st al:ak}{F:Nat->aK}{T:Nat->ak}{N:Nat->ac (ao bx)}{V:Nat->bv}{hl:bH}{dJ:f5}{E:Nat->Prop}{c:Nat}{ad:bH}{a:Act}{w:f5}
def kp.look(I:kp X aN L F T V hl dJ E c ad a w)(aa:j5 call Z L [st.h] o st bt al F T N V)(D:lU X aN ops L cz fc ms)(bX:∀id,st.ae<=id->hl id=none)(ag:∀t∈fc,(F 0).tmp t=jG)
 (u:∀p,E p->nv ops cz E p) {p:Nat} {x:bj} {fM:cn} (O:L[p]? =some (x,fM)) (ah:nv ops cz E p) (aj:¬E p) {t:Nat} (aB:fM= .dI\/t∈fM.looks):
 bd (fZ ad (T p).ae) ((F p).tmp t) (a.tmps.getD t undef):=by
 have W:=(dP.1 O).1;have j:c<=p:=by
  obtain h|h:=gf p c
  .exact absurd (I.low p h) aj
  .exact h
 have A:p<ops.size:=by rwa [<-D.te]
 have J:hl.le (fZ ad (T p).ae):=by
  intro id l aB;refine ko.2 ⟨?_,I.keeps.le _ _ aB⟩;obtain h|h:=gf id st.ae
  .have:=aa.lV D (c8 p) R;rw[aa.t0]at this;omega
  .rw[bX id h]at aB;cases aB
 by_cases af:∃(q:Nat) (y:bj) (d:cn),L[q]? =some (y,d)/\y.d=some t
 .have⟨q,y,d,a',ab⟩:=af;obtain s|s:=gf q p
  .have C:(ms.getD p 0).testBit q=true:=by
    obtain rfl|aB:=aB
    .exact D.dI p x q O s
    .exact D.dep p q x y fM d t O a' s ab aB
   rw[aa.JK D a' ab p s R];refine(I.BA q y d t a' ab<|D.before u p ah A q C).mono<|sd atJ ?_;have Y:=aa.lV D (p:=q+1) s R;have G:=aa.lV D j R;omega
  .have hold:=aa.EW t p R λK H cR ai g M=>by
    have:=D.dst K q H y cR d t g a' M ab;omega
   rw[hold];by_cases B:t∈fc
   .rw[ag t B];exact .top _
   .refine(I.yQ t λK H cR g M S=>?_).mono J;obtain rfl:=D.dst K q H y cR d t g a' M ab;by_cases e:K=p
    .subst e;exact aj S
    .have C:=D.acs p K x y fM d t O a' R ab B aB;exact aj<|D.before u K (u K S) (by rw[<-D.te];exact(dP.1 a').1) p C
 .have z:∀(q:Nat) H cR,L[q]? =some (H,cR)->H.d≠some t:=λq H cR g M=>af ⟨q,H,cR,g,M⟩;rw[aa.EW t p R λq H cR _ g=>z q H cR g];exact(I.yQ t λq H cR g M=>absurd M<|z q H cR g).mono J
theorem kp.upto(I:kp X aN L F T V hl dJ E c ad a w)(D:j5 call Z L [st.h] o st bt al F T N V)(S:lU X aN ops L cz fc ms):∀q,c<=q->q<=L.length->(∀r,c<=r->r<q->E r)->
 bQ X (fZ ad (T q).ae) (T q) w/\(F q).dd=(F c).dd/\(F q).cQ=(F c).cQ/\(F q).aV=(F c).aV/\(F q).b4=(F c).b4:=by
 intro q y
 induction q with
 |zero=>
  intro _ _;have:c=0:=R
  subst this;exact atc atc
 |succ q C=>
  intro ab g;by_cases e:c=q+1
  .subst e;exact atc atc
  have⟨i1,i2,i3,i4,i5⟩:=C R R λr Y G=>g r Y R;obtain⟨⟨x,fM⟩,O⟩:∃x,L[q]? =some x:=⟨_,aO R⟩;have s:=g q R R;have u:fM≠.dI:=λh=>I.Bz q x R s (by rw[O,h]);have⟨s1,s2,B,d⟩:=D.same O u;refine⟨?_,s1.trans i2,s2.trans i3,B.trans i4,d.trans i5⟩;obtain⟨_,M⟩|⟨_,M⟩:=D.step q x fM O
  case inr=>rw[M.2.2.1];exact i1
  cases fM with
  |dI=>exact absurd j u
  |read n aA=>have⟨_,_,h,_⟩:=M;rw[h];exact i1
  |hx aA=>
   have⟨_,_,h⟩:=M;obtain⟨_,_,h⟩|⟨J,_⟩:=h
   .rw[h];exact i1
   .have⟨U,l,Y,G,A,a',H⟩:=I.gi q R s ⟨x,aA,O,J⟩;have K:fZ ad ((T q).ae+1)=gD (fZ ad (T q).ae) (T q).ae l:=by
     funext id;unfold fZ gD
     grind
    rw[Y];rw[K]at A⊢;refine i1.acu A (I.fK _ _ G) a' λid bo W=>?_;have⟨aa,z⟩:=ko.1 W;exact H id bo z R
end
def BB(E:Nat->Prop)(p:Nat):Nat->Prop:=λq=>E q\/q=p
def wI(a:Act)(d:be Tmp)(v:bv)(t:Nat):(a.put d v).tmps.getD t undef=if d=some t/\t<a.tmps.size then v else a.tmps.getD t undef:=by
 cases d with
 |none=>simp[Act.put]
 |some d=>
  by_cases e:d=t
  .subst e;by_cases h:d<a.tmps.size
   .simp[Act.put,h]
   .simp[Act.put,h]
  .simp[Option.some.injEq,e];simp[Act.put,Im e]
section
variable{aN:Nat}{ops:bi Oper}{L:ac (bj×cn)}{cz:ac Nat}{fc:ac Tmp}{ms:ac Nat}{call:bN}
variable{Z:Nat->Bool}{o bt:aK}{st al:ak}{F:Nat->aK}{T:Nat->ak}{N:Nat->ac (ao bx)}{V:Nat->bv}{hl:bH}{dJ:f5}{E:Nat->Prop}{c:Nat}{ad:bH}{a:Act}{w:f5}
variable{p:Nat}{x:bj}
def kp.float(I:kp X aN L F T V hl dJ E c ad a w)(D:lU X aN ops L cz fc ms){fM:cn}(O:L[p]? =some (x,fM))(aQ:fM≠.dI)(a':c<=p)(u:¬uG L F p){bE:bv}
 (M:∀t,x.d=some t->t<aN) (S:bd (fZ ad (T<|p+1).ae) (V p) bE):kp X aN L F T V hl dJ (BB E p) c ad (a.put x.d bE) w:=by
 have g:(a.put x.d bE).tmps.size=aN:=by rw[<-I.size];cases x.d<;>simp[Act.put]
 refine⟨λq H=>.inl<|I.low q H,I.EX,I.start,λq y H s=>?_,I.wr,λid l B=>?_,λq H s J=>?_,I.fK,I.keeps,g,?_,λq y k t C K s=>?_,λt z=>?_⟩
 .obtain s|rfl:=s
  .exact I.Bz q y H s
  .intro h;rw[O]at h;cases h;exact aQ j
 .obtain h|⟨q,Y,G,A,W⟩:=I.lW id l B
  .exact .inl h
  .exact .inr ⟨q,Y,G,.inl A,W⟩
 .obtain s|rfl:=s
  .exact I.gi q H s J
  .exact absurd J u
 .have:(a.put x.d bE).defers=a.defers:=by cases x.d<;>rfl
  rw[this];exact I.dd
 .rw[wI];by_cases e:q=p
  .subst e;rw[O]at C;cases C;rw[aD ⟨K,by rw[I.size];exact M t K⟩];exact S.mono<|sd atJ R
  .rw[av λh=>e<|D.dst q p y x k fM t C O K h.1];obtain s|h:=s
   .exact I.BA q y k t C K s
   .exact absurd h e
 .rw[wI,av λh=>z p x fM O h.1 tb];exact I.yQ t λq y k C K s=>z q y k C K<|.inl s
theorem kp.acv(I:kp X aN L F T V hl dJ E c ad a w)(aa:j5 call Z L [st.h] o st bt al F T N V)(D:lU X aN ops L cz fc ms){aA:ac Tmp}(a':L[p]? =some (x,.hx aA))(au:c<=p)(aK:¬E p)
 {bE:bv} {U:bx} {O:Obj} {l:Loc} {w':f5} (aC:∀t,x.d=some t->t<aN) (ar:T (p+1)=⟨(T p).h.set (T p).ae U,(T p).ae+1⟩) (aB:l.cx=w.heap.size) (az:l.bF≠eU) (cK:w'.heap=w.heap.push O) (fQ:qN w w')
 (S:bd (gD (fZ ad (T p).ae) (T p).ae l) (V p) bE) (aE:hz X (gD (fZ ad (T p).ae) (T p).ae l) w' U l):kp X aN L F T V hl dJ (BB E p) c (gD ad (T p).ae l) (a.put x.d bE) w':=by
 have aJ:=(dP.1 a').1;have nw:ad (T p).ae=none:=by
  cases aj:ad (T p).ae with
  |none=>rfl
  |some m=>
   rcases I.lW _ _ aj with h|⟨q,Y,G,A,ab,aM⟩
   .have:=aa.lV D au R;omega
   .obtain⟨ai,bo,H,_⟩:=I.gi q Y A ab;have aO:(T<|q+1).ae=(T q).ae+1:=by rw[H]
    have ak:(T<|p+1).ae=(T p).ae+1:=by rw[ar]
    rcases x6 q p with h|h|h
    .have:=aa.lV D (p:=q+1) h R;omega
    .subst h;exact absurd A aK
    .have:=aa.lV D (p:=p+1) h R;omega
 have hle:ad.le (gD ad (T p).ae l):=by
  intro id bo W;show(if id=(T p).ae then some l else ad id)=some bo
  grind
 have M:gD ad (T p).ae l (T p).ae=some l:=aD j;have ag:∀id,id≠(T p).ae->gD ad (T p).ae l id=ad id:=λid h=>av h;have ay:∀n,(T p).ae<n->(gD (fZ ad (T p).ae) (T p).ae l).le (fZ (gD ad (T p).ae l) n):=by
  intro n aj id bo W;unfold gD at W;by_cases e:id=(T p).ae
  .rw[aD e]at W;cases W;subst e;exact ko.2 ⟨aj,M⟩
  .rw[av e]at W;obtain⟨Y,G⟩:=ko.1 W;exact ko.2 ⟨R,by rwa [ag id e]⟩
 have hold:∀b,b<w.heap.size->w'.heap[b]? =w.heap[b]? :=λb C=>by rw[cK,Ds,av R]
 have aL:w'.heap.size=w.heap.size+1:=by grind
 have g:(a.put x.d bE).tmps.size=aN:=by rw[<-I.size];cases x.d<;>simp[Act.put]
 have J:=aa.lV D au R;have aw:fZ (gD ad (T p).ae l) (T c).ae=fZ ad (T c).ae:=by
  funext id;unfold fZ
  grind
 have ak:(T<|p+1).ae=(T p).ae+1:=by rw[ar]
 refine⟨λq af=>.inl<|I.low q af,I.EX,I.start,λq y af s=>?_,?_,λid bo W=>?_,λq af s ah=>?_,λid bo W=>?_,?_,g,?_,λq y k t B K s=>?_,λt z=>?_⟩
 .rcases s with s|rfl
  .exact I.Bz q y af s
  .intro h;rw[a']at h;cases h
 .rw[aw];refine⟨λid ai aH aG=>?_,I.wr.inj,I.wr.fresh,λid bo W=>?_,I.wr.kB,I.wr.m0,I.wr.km⟩
  .obtain⟨bo,Y,G⟩:=I.wr.eB id ai aH aG;exact⟨bo,Y,hz.mono X G (.refl _)<|hold _<|I.wr.fK id bo Y⟩
  .have:=I.wr.fK id bo W;omega
 .by_cases e:id=(T p).ae
  .by_cases ah:uG L F p
   .exact .inr ⟨p,au,aJ,.inr j,ah,e⟩
   .exfalso;rcases aa.step p x (.hx aA) a' with⟨_,aq⟩|⟨_,aq⟩
    case inr=>rw[aq.2.2.1]at ak;omega
    obtain⟨_,_,h⟩:=aq;rcases h with⟨_,_,h⟩|⟨h,_⟩
    .rw[h]at ak;omega
    .exact ah ⟨x,aA,a',h⟩
  .rw[ag id e]at W;rcases I.lW id bo W with h|⟨q,Y,G,A,ab⟩
   .exact .inl h
   .exact .inr ⟨q,Y,G,.inl A,ab⟩
 .by_cases e:q=p
  .subst e;refine⟨U,l,ar,M,hz.mono X aE (ay _ R) j,az,λid bo W u=>?_⟩;rw[ag id u]at W;have:=I.fK id bo W;omega
  .rcases s with s|h
   .obtain⟨ai,bo,Y,G,A,aI,ab⟩:=I.gi q af s ah;refine⟨ai,bo,Y,hle _ _ G,hz.mono X A (sd hle<|cf _)<|hold _<|I.fK _ _ G,aI,λid m hm u=>?_⟩;by_cases ax:id=(T p).ae
    .subst ax;rw[M]at hm;cases hm;have:=I.fK _ _ G;omega
    .rw[ag id ax]at hm;exact ab id m hm u
   .exact absurd h e
 .by_cases e:id=(T p).ae
  .subst e;rw[M]at W;cases W;omega
  .rw[ag id e]at W;have:=I.fK id bo W;omega
 .refine I.keeps.trans ⟨hle,R,λb C _=>hold b C,λid bo W=>?_,fQ⟩
  grind
 .have:(a.put x.d bE).defers=a.defers:=by cases x.d<;>rfl
  rw[this,aw];exact I.dd
 .rw[wI];by_cases e:q=p
  .subst e;rw[a']at B;cases B;rw[aD ⟨K,by rw[I.size];exact aC t K⟩];exact S.mono<|ay _ R
  .rw[av λh=>e<|D.dst q p y x k _ t B a' K h.1];rcases s with s|h
   .exact(I.BA q y k t B K s).mono<|sd hle<|cf _
   .exact absurd h e
 .rw[wI,av λh=>z p x _ a' h.1 tb];exact I.yQ t λq y k B K s=>z q y k B K<|.inl s
theorem kp.effect(I:kp X aN L F T V hl dJ E c ad a w)(aq:j5 call Z L [st.h] o st bt al F T N V)(D:lU X aN ops L cz fc ms)(O:L[p]? =some (x,.dI))(aO:c<=p)(aC:∀q,q<p->E q)
 {aF:bH} {dm:Act} {w':f5} {bE:bv} (aJ:∀t,x.d=some t->t<aN) (ay:bQ X aF (T<|p+1) w') (aw:eb (fZ ad (T p).ae) aF w w') (bR:dm.tmps=(a.put x.d bE).tmps) (aW:bd aF (V p) bE\/x.d=none) (aZ:s9 aF (F<|p+1).dd dm.defers):
 ∃ah,kp X aN L F T V hl dJ (BB E p) (p+1) ah dm w':=by
 have az:=(dP.1 O).1;have aS:=aq.PU D az;have aY:=aq.lV D aO R;have aI:¬uG L F p:=λ⟨y,aA,aa,_⟩=>by rw[O]at aa;cases aa
 have aE:∀q,c<=q->q<L.length->E q->uG L F q->(q<p/\(T q).ae<(T p).ae)\/(p<q/\(T<|p+1).ae<=(T q).ae):=by
  intro q Y G A ab;obtain⟨aB,bo,H,_⟩:=I.gi q Y A ab;have aX:(T<|q+1).ae=(T q).ae+1:=by rw[H]
  rcases x6 q p with h|h|h
  .left;have:=aq.lV D (p:=q+1) h R;exact⟨h,R⟩
  .subst h;exact absurd ab aI
  .right;exact⟨h,aq.lV D h R⟩
 let ah:bH:=λid=>if id<(T<|p+1).ae then aF id else ad id
 have ak:∀id,id<(T<|p+1).ae->ah id=aF id:=λid h=>aD h;have ai:∀id,(T<|p+1).ae<=id->ah id=ad id:=λid h=>av R;have hle:ad.le ah:=by
  intro id l B;rcases gf id (T<|p+1).ae with h|h
  .rw[ak id h];apply aw.le;refine ko.2 ⟨?_,B⟩;rcases I.lW id l B with Y|⟨q,Y,G,A,ab,C⟩
   .omega
   .grind
  .rw[ai id h];exact B
 have au:fZ ah (T<|p+1).ae=aF:=by
  funext id;unfold fZ;by_cases h:id<(T<|p+1).ae
  .rw[aD h,ak id h]
  .rw[av h,(ay.fresh id R).1]
 have aV:∀n,(T<|p+1).ae<=n->aF.le (fZ ah n):=by
  intro n aj;rw[<-au];exact sd (.refl _) aj
 have S:eb ad ah w w':=by
  refine⟨hle,aw.size,λb aM af=>aw.kept b aM λid l B M=>af id l (ko.1 B).2 M,λid l B=>?_,aw.fQ⟩;rcases gf id (T<|p+1).ae with h|h
  .rw[ak id h]at B;rcases aw.new id l B with Y|Y|⟨J,m,Y,G,A⟩
   .exact .inl (ko.1 Y).2
   .exact .inr as4
   .exact .inr<|.inr ⟨J,m,(ko.1 Y).2,G,A⟩
  .rw[ai id h]at B;exact .inl B
 have g:dm.tmps.size=aN:=by rw[bR,<-I.size];cases x.d<;>simp[Act.put]
 refine⟨ah,λq ar=>?_,az,.inr ⟨p,x,j,O⟩,λq y ar s=>?_,by rwa [au],λid l B=>?_,λq ar s ax=>?_,λid l B=>?_,I.keeps.trans S,g,by rwa [au],λq y k t aa K s=>?_,λt z=>?_⟩
 .by_cases e:q=p
  .exact .inr e
  .exact .inl<|aC q R
 .rcases s with s|h
  .exact I.Bz q y R s
  .omega
 .rcases gf id (T<|p+1).ae with h|h
  .exact .inl h
  .rw[ai id h]at B;rcases I.lW id l B with Y|⟨q,Y,G,A,ab,C⟩
   .omega
   .rcases aE q Y G A ab with⟨_,H⟩|⟨H,_⟩
    .omega
    .exact .inr ⟨q,H,G,.inl A,ab,C⟩
 .rcases s with s|h
  .have aH:=ax;obtain⟨aB,bo,Y,G,A,aL,ab⟩:=I.gi q R s ax;have aQ:q<L.length:=by obtain⟨y,aA,aa,_⟩:=aH;exact(dP.1 aa).1
   have aR:=aq.lV D ar R;refine⟨aB,bo,Y,hle _ _ G,hz.mono X A (sd hle<|cf _)<|aw.kept bo.cx (I.fK _ _ G) λid m hm _=>ab id m (ko.1 hm).2 (by have:=(ko.1 hm).1;omega),aL,λid m hm u=>?_⟩
   .rcases gf id (T<|p+1).ae with h|h
    .rw[ak id h]at hm;rcases aw.new id m hm with W|W|⟨J,aK,W,_,aU⟩
     .exact ab id m (ko.1 W).2 u
     .have:=I.fK _ _ G;omega
     .have:=ab J aK (ko.1 W).2 (by have:=(ko.1 W).1;omega);omega
    .rw[ai id h]at hm;exact ab id m hm u
  .omega
 .rcases gf id (T<|p+1).ae with h|h
  .rw[ak id h]at B;exact ay.fK id l B
  .rw[ai id h]at B;exact e2 (I.fK id l B) aw.size
 .rw[bR,wI];by_cases e:q=p
  .subst e;rw[O]at aa;cases aa;rw[aD ⟨K,by rw[I.size];exact aJ t K⟩]
   grind
  .rw[av λh=>e<|D.dst q p y x k _ t aa O K h.1];rcases s with s|h
   .exact(I.BA q y k t aa K s).mono<|sd hle R
   .exact absurd h e
 .rw[bR,wI,av λh=>z p x _ O h.1 tb];exact I.yQ t λq y k aa K s=>z q y k aa K<|.inl s
end
end Go.bC
namespace Go.bC
variable{X:Ctx}{call:bN}
variable{x:dh}
def acw(h:x.pZ=true):x.inPlace=true:=by cases x<;>first|rfl|cases h
def acx(h:x.qR=true):x.inPlace=true:=by cases x<;>first|rfl|cases h
def PY{op:Op}(j:X.pX op x=true)(O:x.pZ=true\/x.qR=true)(c:Call):op≠.defer c:=by
 intro W;rw[W]at j;cases s:x with
 |rU fn p q=>rw[s]at j;cases fn<;>cases j
 |yr p=>rw[s]at O;rcases O with h|h<;>cases h
 |refuse=>rw[s]at O;rcases O with h|h<;>cases h
 |pJ p q=>rw[s]at O;rcases O with h|h<;>cases h
 |ext y=>rw[s]at j;cases y<;>cases j
 |_=>rw[s]at j;cases j
section
variable{aN:Nat}{ops:bi Oper}{L:ac (bj×cn)}{cz:ac Nat}{fc:ac Tmp}{ms:ac Nat}
variable{Z:Nat->Bool}{o bt:aK}{st al:ak}{F:Nat->aK}{T:Nat->ak}{N:Nat->ac (ao bx)}{V:Nat->bv}{hl:bH}{dJ:f5}{E:Nat->Prop}{c:Nat}{ad:bH}{a:Act}{w:f5}
variable{b:dR}{bf:Bool->ac Frame}{k:ac Item}{i:Nat}{rest:ac Nat}
def wJ{x:bj}{U:Oper}{t:Bool}(h:lT X aN ops x U=true)(D:eZ ad o a aN)(aw:lv o x.g t):Region.wanted U (yielded ops a.tmps)=t:=by
 obtain⟨e,d⟩|⟨e,d⟩:=PI h D aw au
 .cases e;exact d
 .cases e;exact d
def kp.PZ(I:kp X aN L F T V hl dJ E c ad a w)(G:j5 call Z L [st.h] o st bt al F T N V)(D:lU X aN ops L cz fc ms)(bX:∀id,st.ae<=id->hl id=none)(M:∀t∈fc,(F 0).tmp t=jG)
 (u:∀p,E p->nv ops cz E p) {p:Nat} {x:bj} {fM:cn} (O:L[p]? =some (x,fM)) (S:nv ops cz E p) (aj:¬E p) (j:c<=p):
 eZ (fZ ad (T p).ae) ((F p).only fM.looks) ⟨a.tmps,[]⟩ aN/\bQ X (fZ ad (T p).ae) ⟨(T c).h,(T p).ae⟩ w:=by
 have W:=(dP.1 O).1;refine⟨⟨λt=>?_,I.size,az⟩,?_⟩
 .rw[PL];by_cases h:t∈fM.looks
  .rw[aD h];exact I.look G D bX M u O S aj<|.inr h
  .rw[av h];exact .top _
 .have J:=G.lV D j R;refine bQ.look I.wr (sd atJ J) (λid H=>?_) J λid l B=>I.fK id l (ko.1 B).2;show(if id<(T p).ae then ad id else none)=none;rw[av R]
theorem acy(Y:m4 X call)(I:kp X aN L F T V hl dJ E c ad a w)(ab:j5 call Z L [st.h] o st bt al F T N V)(D:lU X aN ops L cz fc ms)(bX:∀id,st.ae<=id->hl id=none)(aX:∀t∈fc,(F 0).tmp t=jG)
 (aI:∀p,E p->nv ops cz E p) {p:Nat} (hp:p<L.length) (br:Z p=false) (bN:∀x c,L[p]? =some (x,c)->yO call x c (F p) (T p)) (af:cz[p]? =some i) (aB:nv ops cz E p) (aj:¬E p) (ay:oi hl (F 0).b4 b.b4) (bR:ju b (F 0).aV hl bf) (G:(F c).aV=(F 0).aV) (az:(F c).b4=(F 0).b4):
 ∃cR aQ dm w',Steps X.P (lone (b.at a<|.inRegion ops (i::rest)::k) (bf (F c).cQ) w) (lone (b.at dm<|.inRegion ops rest::k) (bf (F cR).cQ) w')/\kp X aN L F T V hl dJ (BB E p) cR aQ dm w'/\
  (F cR).aV=(F 0).aV/\(F cR).b4=(F 0).b4:=by
 obtain⟨⟨x,fM⟩,aa⟩:∃x,L[p]? =some x:=⟨_,aO hp⟩;obtain⟨U,ax,K⟩:=D.op p i x fM af aa;obtain⟨av,ar⟩:=ER K;have bm:p<ops.size:=by rwa [<-D.te]
 have ah:c<=p:=by
  rcases gf p c with h|h
  .exact absurd (I.low p h) aj
  .exact h
 have M:DStep call x fM (F p) (T p) (N p) (V p) (F<|p+1) (T<|p+1) (N<|p+1):=by
  rcases ab.step p x fM aa with⟨_,M⟩|⟨h,_⟩
  .exact M
  .rw[br]at h;cases h
 have bM:=ab.lV D (c8 p) R;rw[ab.t0]at bM;have a8:hl.le (fZ ad (T p).ae):=by
  intro id l B;refine ko.2 ⟨?_,I.keeps.le _ _ B⟩
  grind
 cases fM with
 |dI=>
  have aU:∀q,q<p->E q:=λq bh=>D.before aI p aB bm q<|D.dI p x q aa bh;obtain⟨bk,bJ,bq,lX,b'⟩:=I.upto ab D p ah R λr _ h=>aU r h;have aL:eZ (fZ ad (T p).ae) (F p) a aN:=⟨λt=>I.look ab D bX aX aI aa aB aj m2,I.size,by rw[bJ];exact I.dd.mono<|sd atJ<|ab.lV D ah R⟩;rcases M with⟨J|⟨J,u,bD,bS⟩,S,aw,A,_⟩|⟨J,z,a0,_,aw,_⟩
  .have ai:=wJ K aL J;obtain⟨bF,cA,dG,gT⟩:=tc (F p) x.d undef;obtain⟨aQ,bl⟩:=I.effect ab D aa ah aU ar (by rw[A];exact bk) mr j (.inl<|by rw[S];exact bd.undef _) (by
    rw[aw,gT];have:(a.put x.d undef).defers=a.defers:=by cases x.d<;>rfl
    rw[this];exact aL.dd)
   refine⟨p+1,aQ,_,w,?_,bl,?_,?_⟩
   .rw[aw,dG,bq,av];exact .one<|EM (P:=X.P) (b:=b) (k:=k) (cs:=bf (F c).cQ) (w:=w) (rest:=rest) ax ai
   .rw[aw,bF,lX,G]
   .rw[aw,cA,b',az]
  .exact absurd bS<|bN x .dI aa j J u bD
  .have ai:=wJ K aL J;obtain⟨aF,dm,w',aM,bb,H,aZ,bT,bU,a5,ba⟩:=PJ (k:=k) (rest:=rest) K Y ax ai aL bk (by rw[b',az];exact ay.mono a8) (by rw[lX,G];exact bR.mono a8) a0;have bL:=tc ⟨(F p).t,z.dd,z.aV,z.cQ,z.b4⟩ x.d<|V p;have S:bd aF (V p) a5\/x.d=none:=by
    cases aS:x.d with
    |none=>exact .inr j
    |some t=>
     left;have:=bb.tmp t
     rwa [r4,aD aS,ba,<-av,wI,aD ⟨aS,by rw[I.size];exact ar t aS⟩]at this
   obtain⟨aQ,bl⟩:=I.effect ab D aa ah aU ar H aZ (by rw[ba,av]) S (by
    rw[aw,bL.2.2.2];have:=bb.dd;rw[(tc z x.d<|V p).2.2.2]at this;exact this)
   grind
 |read n aA=>
  obtain⟨W,aY⟩:=I.PZ ab D bX aX aI aa aB aj ah;have aJ:¬uG L F p:=λ⟨a6,bA,aq,_⟩=>by rw[aa]at aq;cases aq
  obtain⟨_,_,A,C⟩:=M;rcases C with⟨J,S⟩|⟨J,bO⟩
  .have ai:=wJ K W J;exact apr apr
  .have ai:=wJ K W J;have bB:(List.range p).countP (λq=>decide (c<=q)&&td L q)<n+1:=by
    refine Nat.lt_succ_of_le<|ch (List.countP_mono_left λq bh aH=>?_)<|D.back p x n aA aa;simp only[c1,decide_eq_true_eq]at aH⊢;refine⟨aH.2,?_⟩;cases bs:(ms.getD p 0).testBit q with
    |false=>rfl
    |true=>
     exfalso;have aE:=aH.2;unfold td at aE;cases aq:L[q]? with
     |none=>rw[aq]at aE;cases aE
     |some a6=>
      obtain⟨bI,bz⟩:=a6;rw[aq]at aE;cases bz with
      |dI=>exact I.Bz q bI aH.1 (D.before aI p aB bm q bs) aq
      |_=>cases aE
   obtain⟨aH,bV,fl,aK,bc⟩:=PN _ _ bO _ bB;rw[(ab.snap I.start p ah R)]at aK;cases aK;have aC:=Bx K;have y:=D.rd p x n aA aa;obtain⟨_,_,bE,_⟩:=EK aC W aY bc<|acw y;obtain⟨_,_,a5,a1,S⟩:=bE y;have aM:=EN (b:=b) (a:=a) (k:=k) (cs:=bf (F c).cQ) (rest:=rest) ax ai (.inr<|PY aC<|.inl y) a1;exact ark ark
 |hx aA=>
  obtain⟨W,aY⟩:=I.PZ ab D bX aX aI aa aB aj ah;obtain⟨_,_,C⟩:=M;rcases C with⟨J,S,A⟩|⟨J,z,a0⟩
  .have ai:=wJ K W J;have aJ:¬uG L F p:=λ⟨a6,bA,aq,H⟩=>by
    rw[aa]at aq;cases aq;have bK:=J;have bg:hj ((F p).only aA) x.g (some true) (some false) none=some true:=H;rw[bK]at bg;cases bg
   exact apr apr
  .have ai:=wJ K W J;have aR:=D.hx p x aA aa;have aC:=Bx K;obtain⟨aW,bC,_,A,bG⟩:=PT aR a0;obtain⟨_,_,_,bH⟩:=EK aC W aY (bG (T c).h)<|acx aR;obtain⟨e7,O,ex,a5,w',aK,bc,a1,bw,S,H,aZ⟩:=bH aR;have bQ:(some aW:be bx)=some e7:=by
    have:=congrArg (λs:ak=>s.h.get (T p).ae) aK;simp only[ao.eo]at this;exact this
   cases bQ;have bp:hz X (gD (fZ ad (T p).ae) (T p).ae ⟨w.heap.size,0,ex,id⟩) w' aW ⟨w.heap.size,0,ex,id⟩:=by
    obtain⟨l,B,hm⟩:=H.eB (T p).ae aW au bC
    grind [gD,fZ]
   have aM:=EN (b:=b) (a:=a) (k:=k) (cs:=bf (F c).cQ) (rest:=rest) ax ai (.inr<|PY aC<|.inr aR) a1;exact aqs aqs
theorem acz(Y:m4 X call)(I:kp X aN L F T V hl dJ E c ad a w)(a':j5 call Z L [st.h] o st bt al F T N V)(D:lU X aN ops L cz fc ms)(bX:∀id,st.ae<=id->hl id=none)(ai:∀t∈fc,(F 0).tmp t=jG)
 (ab:∀p,E p->nv ops cz E p) {p:Nat} (hp:p<L.length) {x:bj} (O:L[p]? =some (x,.dI)) (af:cz[p]? =some i) (aa:nv ops cz E p) (aj:¬E p) (G:(F c).aV=(F 0).aV) (ax:(F c).b4=(F 0).b4)
 (ar:lv (F p) x.g true) (ay:x.U.lp=true) {u:bv} {JL:ak} (aw:bw call x.U (F p) (T p)= .aV u JL):
 ∃aF bE w',Steps X.P (lone (b.at a<|.inRegion ops (i::rest)::k) (bf (F p).cQ) w) (lone (b.panics a (.inRegion ops (i::rest)::k) bE) (bf (F p).cQ) w')/\bd aF u bE/\bQ X aF JL w'/\eb hl aF dJ w'/\eZ aF (F p) a aN/\
  (F c).cQ=(F p).cQ/\(F p).aV=(F 0).aV/\(F p).b4=(F 0).b4:=by
 have⟨U,aq,K⟩:=D.op p i x .dI af O;have A:p<ops.size:=by rwa [<-D.te]
 have j:c<=p:=by
  obtain h|h:=gf p c
  .exact absurd (I.low p h) aj
  .exact h
 obtain⟨av,y,W,lX,s⟩:=I.upto a' D p j R λr _ h=>(λq au=>D.before ab p aa A q<|D.dI p x q O au) r h;have d:eZ (fZ ad (T p).ae) (F p) a aN:=⟨λt=>I.look a' D bX ai ab O aa aj m2,I.size,by rw[y];exact I.dd.mono<|sd atJ<|a'.lV D j R⟩;obtain⟨aF,bE,w',M,S,H,z⟩:=PK K Y aq (wJ K d ar) d av ay aw;have C:=a'.lV D (c8 p) R;rw[a'.t0]at C;have J:hl.le (fZ ad (T p).ae):=by
  intro id l B;refine ko.2 ⟨?_,I.keeps.le _ _ B⟩
  grind
 have ah:eb hl (fZ ad (T p).ae) dJ w:=⟨J,I.keeps.size,I.keeps.kept,λid l B=>I.keeps.new id l (ko.1 B).2,I.keeps.fQ⟩;exact⟨aF,bE,w',M,S,H,ah.trans z,d.mono z.le,W.symm,lX.trans G,s.trans ax⟩
end
theorem P0{α:Type}{p q:α->Bool}:∀{l:ac α},(∀x∈l,p x=true->q x=true)->(∃x∈l,q x=true/\p x=false)->l.countP p<l.countP q
 |[],_,⟨x,O,_⟩=>by cases O
 |y::l,h,⟨x,O,aC,aI⟩=>by
  have hle:=List.countP_mono_left λz d=>h z<|fq _ d;rw[Is,Is];obtain rfl|O:=fh.1 O
  .simp only[aC,aI];simp;omega
  .have:=P0 (λz d=>h z<|fq _ d) ⟨x,O,aC,aI⟩
   grind
section
variable{aN:Nat}{ops:bi Oper}{L:ac (bj×cn)}{cz:ac Nat}{fc:ac Tmp}{ms:ac Nat}
variable{Z:Nat->Bool}{o bt:aK}{st al:ak}{F:Nat->aK}{T:Nat->ak}{N:Nat->ac (ao bx)}{V:Nat->bv}{hl:bH}{dJ:f5}
variable{b:dR}{bf:Bool->ac Frame}{k:ac Item}
variable{listed:bi Bool}
def lY(cz:ac Nat)(listed:bi Bool):Nat->Prop:=λp=>∃i,cz[p]? =some i/\listed.getD i false=true
def acA{i:Nat}(af:i<listed.size)(h:listed.getD i false≠true):listed.getD i true=false:=by
 simpa[af]using h
def lU.acB(D:lU X aN ops L cz fc ms)(G:listed.size=ops.size)(h:Region.ready .any ops listed=[]):∀p,p<L.length->lY cz listed p:=by
 intro p
 induction p using Nat.strongRecOn with
 |_ p I=>
  intro hp;have A:p<ops.size:=by rwa [<-D.te]
  have af:cz[p]? =some (cz[p]'atq):=aO _;obtain⟨⟨x,fM⟩,O⟩:∃x,L[p]? =some x:=⟨_,aO hp⟩;have⟨U,g,_⟩:=D.op p _ x fM af O;refine⟨_,af,?_⟩;by_cases B:listed.getD (cz[p]'atq) false=true
  .exact B
  .exfalso;have aW:=(tZ.1 g).1;have S:(cz[p]'atq)∈Region.ready .any ops listed:=by
    rw[mem_ready];refine⟨acA R B,U,g,λe s C=>?_⟩;have⟨q,y,d⟩:=D.acr p _ U af g e s C;have⟨J,j,u⟩:=I q y R;rw[d]at j;cases j;exact u
   rw[h]at S;cases S
theorem acC(Y:m4 X call)(aR:j5 call Z L [st.h] o st bt al F T N V)(D:lU X aN ops L cz fc ms)(bX:∀id,st.ae<=id->hl id=none)(aM:∀t∈fc,(F 0).tmp t=jG)
 (ay:oi hl (F 0).b4 b.b4) (bb:ju b (F 0).aV hl bf) (n:Nat) (ba:JJ call Z L F T n) (aK:∀p,Z p=true->n<L.length/\(ms.getD p 0).testBit n=true):∀(j t:Nat) (listed:bi Bool) (c:Nat) (ad:bH) (a:Act) (w:f5),listed.size=ops.size->(List.range ops.size).countP (λi=> !listed.getD i true)<=j->
 (∀p,lY cz listed p->nv ops cz (lY cz listed) p)->¬lY cz listed n->kp X aN L F T V hl dJ (lY cz listed) c ad a w->(F c).aV=(F 0).aV->(F c).b4=(F 0).b4->
 (∃d cR s dm w',Steps X.P (lone (b.at a<|.inRegion ops (Region.linearise.go .any ops j t listed [])::k) (bf (F c).cQ) w) (lone (b.at dm<|.inRegion ops []::k) (bf (F cR).cQ) w')/\
  (∀p,p<L.length->d p)/\kp X aN L F T V hl dJ d cR s dm w'/\(F cR).aV=(F 0).aV/\(F cR).b4=(F 0).b4/\(d n->lY cz listed n))\/
 (∃d cR s dm w' i rest,Steps X.P (lone (b.at a<|.inRegion ops (Region.linearise.go .any ops j t listed [])::k) (bf (F c).cQ) w) (lone (b.at dm<|.inRegion ops (i::rest)::k) (bf (F cR).cQ) w')/\
  n<L.length/\cz[n]? =some i/\(∀p,d p->nv ops cz d p)/\nv ops cz d n/\¬d n/\kp X aN L F T V hl dJ d cR s dm w'/\(F cR).aV=(F 0).aV/\(F cR).b4=(F 0).b4):=by
 intro j
 induction j with
 |zero=>
  intro t listed c ad a w g aD ab ax I G z;refine .inl ⟨lY cz listed,c,ad,a,w,.refl _ _,λp hp=>?_,I,G,z,id⟩;have bd:p<ops.size:=by rwa [<-D.te]
  have af:cz[p]? =some (cz[p]'atq):=aO _;obtain⟨⟨x,fM⟩,O⟩:∃x,L[p]? =some x:=⟨_,aO hp⟩;obtain⟨U,ak,_⟩:=D.op p _ x fM af O;have aW:=(tZ.1 ak).1;refine⟨_,af,?_⟩
  simp_all
 |succ j aQ=>
  intro t listed c ad a w g aD ab ax I G z;change(∃d cR s dm w',Steps X.P (lone (b.at a (.inRegion ops (match(Region.ready .any ops listed)[t%(Region.ready .any ops listed).length]? with
   |some i=>Region.linearise.go .any ops j (t/(Region.ready .any ops listed).length) (listed.setIfInBounds i true) [i]
   |none=>[].reverse)::k)) (bf (F c).cQ) w) _/\_)\/(∃d cR s dm w' i rest,Steps X.P (lone (b.at a (.inRegion ops (match(Region.ready .any ops listed)[t%(Region.ready .any ops listed).length]? with
   |some i=>Region.linearise.go .any ops j (t/(Region.ready .any ops listed).length) (listed.setIfInBounds i true) [i]
   |none=>[].reverse)::k)) (bf (F c).cQ) w) _/\_)
  cases aB:(Region.ready .any ops listed)[t%(Region.ready .any ops listed).length]? with
  |none=>
   have aI:Region.ready .any ops listed=[]:=by
    cases y:Region.ready .any ops listed with
    |nil=>rfl
    |cons x xs=>
     rw[y]at aB;have aW:t%(x::xs).length<(x::xs).length:=eY _ au;simp at aB;simp at aW;omega
   exact .inl ⟨lY cz listed,c,ad,a,w,.refl _ _,D.acB g aI,I,G,z,id⟩
  |some i=>
   simp only[];rw[linearise_go_acc,List.reverse_singleton];obtain⟨a8,U,ak,R⟩:=mem_ready.1<|hh aB;have aW:=(tZ.1 ak).1;obtain⟨p,hp⟩:=D.acq i aW;have aE:p<L.length:=by rw[D.te,<-D.yP];exact(dP.1 hp).1
   have aj:¬lY cz listed p:=by
    rintro⟨J,aa,B⟩
    grind
   have ai:nv ops cz (lY cz listed) p:=by
    intro H W A C e aq ah r ar;rw[hp]at A;cases A;rw[ak]at C;cases C;exact⟨_,ar,R e aq ah⟩
   by_cases aA:p=n
   .subst aA;exact .inr ⟨lY cz listed,c,ad,a,w,i,_,.refl _ _,aE,hp,ab,ai,aj,I,G,z⟩
   have aC:Z p=false:=by
    cases aH:Z p with
    |false=>rfl
    |true=>exact absurd (D.before ab p ai (by rwa [<-D.te]) n (aK p aH).2) ax
   obtain⟨cR,s,dm,w',M,aG,a0,a6⟩:=acy Y I aR D bX aM ab aE aC (λx c O=>ba p x c aA aC O) hp ai aj ay bb G z;have u:BB (lY cz listed) p=lY cz (listed.setIfInBounds i true):=by
    funext q;apply propext;constructor
    .rintro(⟨J,aa,B⟩|rfl)
     .exact⟨J,aa,getD_set_true B⟩
     .exact⟨i,hp,by simp[g,aW]⟩
    .rintro⟨J,aa,B⟩;by_cases e:J=i
     .subst e;exact .inr<|D.inj q p J aa hp
     .left;refine⟨J,aa,?_⟩
      rwa [getD_set_ne false<|Ne.symm e]at B
   rw[u]at aG;have aU:∀p,lY cz (listed.setIfInBounds i true) p->nv ops cz (lY cz<|listed.setIfInBounds i true) p:=by
    rw[<-u];rintro q (b'|rfl) H W A C e aq ah r ar
    .exact .inl<|ab q b' H W A C e aq ah r ar
    .exact .inl<|ai H W A C e aq ah r ar
   have aY:¬lY cz (listed.setIfInBounds i true) n:=by
    rw[<-u];rintro(h|h)
    .exact ax h
    .exact aA h.symm
   have aX:(List.range ops.size).countP (λJ=> !(listed.setIfInBounds i true).getD J true)<=j:=by
    refine Nat.le_of_lt_succ<|e2 (P0 (λJ _ aa=>?_) ⟨i,List.mem_range.2 aW,(by rw[a8];rfl),by simp[aW]⟩) aD
    .by_cases e:J=i
     .subst e;simp[aW]at aa
     .rw[getD_set_ne true<|Ne.symm e]at aa;exact aa
   rcases aQ (t/(Region.ready .any ops listed).length) (listed.setIfInBounds i true) cR s dm w' (by simp[g]) aX aU aY aG a0 a6 with⟨d,aw,az,av,S,K,aJ,aS,aZ,a1,bc⟩|⟨d,aw,az,av,S,H,aL,K,a5⟩
   .exact .inl ⟨d,aw,az,av,S,M.trans K,aJ,aS,aZ,a1,λh=>apt⟩
   .exact .inr ⟨d,aw,az,av,S,H,aL,M.trans K,a5⟩
theorem acD{ad:bH}{a:Act}{w:f5}{id:Nat}(hm:X.P.follows .mixedOrders=true)(Y:m4 X call)(D:lU X aN ops L cz fc ms)(ax:eZ ad o a aN)(aR:bQ X ad st w)(ay:oi ad o.b4 b.b4)(bE:ju b o.aV ad bf):
 fY X b aN bf (lone (b.at a<|.code (.region id ops true)::k) (bf o.cQ) w) k o ad w (hk call (r3 call ms<|dE L) L [st.h] (pO o fc) st):=by
 cases br:hk call (r3 call ms<|dE L) L [st.h] (pO o fc) st with
 |no=>trivial
 |out e bt al=>
  obtain⟨Z,F,T,N,V,a',bu⟩:=aco _ _ _ _ _ _ _ br;obtain⟨aj,ar,ak,bD,a5⟩:=PM fc o
  let eJ:f5:={w with drawn:=w.drawn+1}
  have bn:bQ X ad st eJ:=aR.uz X j;have aa:=a'.f0;have aq:∀id,st.ae<=id->ad id=none:=λid h=>(aR.fresh id h).1;have aU:fZ ad (T 0).ae=ad:=by rw[a'.t0];exact PX aq
  have nw:∀p,¬lY cz (Array.replicate ops.size false) p:=by
   rintro p ⟨i,_,af⟩;by_cases h:i<ops.size<;>simp[h]at af
  have I:kp X aN L F T V ad eJ (lY cz<|Array.replicate ops.size false) 0 ad a eJ:=by
   refine⟨λp hp=>R,c8 _,.inl j,λp x _ h=>absurd h<|nw p,by rwa [aU,a'.t0],λid l aO=>.inl ?_,λp _ h=>absurd h<|nw p,bn.fK,.refl _ _,ax.size,by rw[aU,aa,a5];exact ax.dd,λp x fM t _ _ h=>absurd h<|nw p,λt _=>?_⟩
   .rw[a'.t0]
    grind
   .rw[aa,aj];by_cases h:t∈fc
    .rw[aD h];exact .top _
    .rw[av h];exact ax.tmp t
  have aB:=ace (P:=X.P) (b:=b) (a:=a) (k:=k) (cs:=bf o.cQ) (w:=w) (ops:=ops) (id:=id);have a6:Region.schedule (X.P.follows .mixedOrders) ops (w.tape w.drawn<|.order b.fn id)=Region.linearise.go .any ops ops.size (w.tape w.drawn<|.order b.fn id) (Array.replicate ops.size false) []:=by
   simp[hm];rfl
  rw[a6]at aB;have bB:bf (F 0).cQ=bf o.cQ:=by grind
  have aC:=λn B a1=>acC (k:=k) Y a' D aq (λt h=>by rw[aa,aj,aD h]) (by rwa [aa,ak]) (by rwa [aa,ar]) n B a1 ops.size (w.tape w.drawn<|.order b.fn id) (Array.replicate ops.size false) 0 ad a eJ au (by
   apply ch List.countP_le_length;simp) (λp h=>absurd h<|nw p) (nw n) I j j
  rw[bB]at aC;rcases bu with⟨rfl,a0,B,aL,b'⟩|⟨n,x,u,O,ba,B,J,bC,rfl,rfl,aW⟩
  case inr=>
   have aJ:=(dP.1 O).1;rcases aC n B (λp hp=>⟨aJ,(ba p hp).2⟩)with⟨az,cR,s,K,w',M,ah,W,C,ai,ab⟩|⟨az,cR,s,K,w',i,rest,M,aA,af,bA,bw,a8,W,C,ai⟩
   .exact absurd (ab<|ah n aJ)<|nw n
   .obtain⟨aF,bz,bs,bp,bb,aY,bq,aZ,S,bl,bh⟩:=acz Y W a' D aq (λt h=>by rw[aa,aj,aD h]) bA aA O af bw a8 C ai J bC aW;rw[S]at M;exact⟨aF,K,bs,aZ,aY,eb.trans (w':=eJ) (eb.uz ad j) bq,by rw[bl,aa,ar],by rw[bh,aa,ak],bz,_,bb,(Steps.head aB M).trans bp⟩
  obtain⟨az,cR,s,K,w',M,ah,W,C,ai,_⟩:∃az cR s K w',_:=by
   rcases aC L.length B (λp hp=>by rw[a0 p]at hp;cases hp)with h|⟨_,_,_,_,_,_,_,_,aA,_⟩
   .exact h
   .exact absurd aA R
  obtain⟨aS,aM,aH,lX,aE⟩:=W.upto a' D L.length W.EX (cf _) λr _ h=>ah r h;have aX:fZ s (T L.length).ae=s:=by
   refine PX λid bI=>?_;cases aO:s id with
   |none=>rfl
   |some l=>
    exfalso;rcases W.lW id l aO with h|⟨p,bm,G,A,bc,bF⟩
    .have:=a'.lV D W.EX<|cf _;omega
    .obtain⟨U,bo,bd,_⟩:=W.gi p bm A bc;have bG:(T<|p+1).ae=(T p).ae+1:=by rw[bd]
     have:=a'.lV D (p:=p+1) G<|cf _;omega
  rw[aX,b']at aS;rw[aL]at aM aH lX aE;have bk:eZ s bt K aN:=by
   refine⟨λt=>?_,W.size,by rw[aM];exact W.dd.mono<|PW _ _⟩;rw[<-aL];by_cases aI:∃(q:Nat) (y:bj) (d:cn),L[q]? =some (y,d)/\y.d=some t
   .obtain⟨q,y,d,aw,aK⟩:=aI;have aQ:=(dP.1 aw).1;simpa[a'.JK D aw aK L.length aQ<|cf _]using(W.BA q y d t aw aK<|ah q aQ).mono (PW _ _)
   .have z:∀(q:Nat) H cR,L[q]? =some (H,cR)->H.d≠some t:=λq H cR g ab=>aI ⟨q,H,cR,g,ab⟩;simpa[a'.EW t L.length (cf _) λq H cR _ g=>z q H cR g]using(W.yQ t λq H cR g ab=>absurd ab<|z q H cR g).mono W.keeps.le
  refine⟨s,K,w',bk,aS,eb.trans (w':=eJ) (eb.uz ad j) W.keeps,by rw[lX,C,aa,ar],by rw[aE,ai,aa,ak],?_⟩
  .rw[<-aH]at M;exact(Steps.head aB M).trans<|.one PF
end
end Go.bC
namespace Go.bC
variable{X:Ctx}
abbrev uH:=Nat×(bj×cn)×Nat×Nat
def qT:Nat->ac (bj×cn)->ac Nat->ac Nat->ac uH
 |p,a::L,i::cz,m::ms=>(p,a,i,m)::qT (p+1) L cz ms
 |_,_,_,_=>[]
theorem P1:∀(L:ac (bj×cn)) (cz ms:ac Nat) (u p:Nat) {a:bj×cn} {i m:Nat},L[p]? =some a->cz[p]? =some i->ms[p]? =some m->(u+p,a,i,m)∈qT u L cz ms
 |[],_,_,_,p,_,_,_,h,_,_=>by simp at h
 |_::_,[],_,_,p,_,_,_,_,h,_=>by simp at h
 |_::_,_::_,[],_,p,_,_,_,_,_,h=>by simp at h
 |dm::L,H::cz,R::ms,u,p,a,i,m,aC,aI,A=>by
  cases p with
  |zero=>
   simp at aC aI A;subst aC aI A;exact hT
  |succ p=>
   have:=P1 L cz ms (u+1) p (by simpa using aC) (by simpa using aI) (by simpa using A);rw[show u+(p+1)=u+1+p by omega];exact fq _ this
theorem P2:∀(L:ac (bj×cn)) (cz ms:ac Nat) (u:Nat) {r:uH},r∈qT u L cz ms->∃p:Nat,r.1=u+p/\L[p]? =some r.2.1/\cz[p]? =some r.2.2.1/\ms[p]? =some r.2.2.2
 |[],_,_,_,_,h=>by simp[qT]at h
 |_::_,[],_,_,_,h=>by simp[qT]at h
 |_::_,_::_,[],_,_,h=>by simp[qT]at h
 |dm::L,H::cz,g::ms,u,r,h=>by
  obtain rfl|h:=fh.1 h
  .exact⟨0,j,j,j,j⟩
  .have⟨p,Y,G,A,d⟩:=P2 L cz ms (u+1) h;exact⟨p+1,R,G,A,d⟩
def wK(O:ac uH)(p:Nat):ac Edge->be Nat
 |[]=>some 0
 |e::es=>if Region.binds .any e then
  match O.find? λr=>Nat.beq r.2.2.1 e.on,wK O p es with
  |some r,some m=>if Nat.ble (Nat.succ r.1) p then some (m|||((1<<<r.1)|||r.2.2.2))else none
  |_,_=>none
  else wK O p es
theorem EY{O:ac uH}{p:Nat}:∀(es:ac Edge) (m:Nat),wK O p es=some m->
 (∀e∈es,Region.binds .any e=true->∃r∈O,r.2.2.1=e.on/\r.1<p)/\
 (∀q,m.testBit q=true->∃e∈es,Region.binds .any e=true/\∃r∈O,r.2.2.1=e.on/\r.1<p/\(q=r.1\/r.2.2.2.testBit q=true))
 |[],m,h=>by
  simp[wK]at h
  grind
 |e::es,m,h=>by
  simp only[wK]at h;by_cases ay:Region.binds .any e=true
  .rw[aD ay]at h;split at h
   .rename_i r R I j;split at h
    .rename_i aW;cases h;obtain⟨S,J⟩:=EY es R j;have s:r.2.2.1=e.on:=by
      have:=As I;exact dB this
     have y:=lQ.1 aW;refine⟨λG g Y=>?_,λq d=>?_⟩
     .grind
     .rw[Nat.testBit_or,Nat.testBit_or,Av,Av]at d;rcases d with d|d|d
      .grind
      .rw[Nat.one_shiftLeft]at d
       grind
      .grind
    .cases h
   .cases h
  .rw[av ay]at h;obtain⟨S,J⟩:=EY es m h
   grind
def P3(d:be Tmp)(t:Tmp):Bool:=match d with|some u=>Nat.beq u t|none=>false
def uI(aA:ac Tmp)(t:Tmp):Bool:=aA.any<|Nat.beq t
theorem EZ{aA:ac Tmp}{t:Tmp}:uI aA t=true↔t∈aA:=by
 rw[uI]
 simp_all
def BC(X:Ctx)(aN:Nat)(ops:bi Oper)(L:ac (bj×cn))(O:ac uH)(r:uH):Bool:=
 (match ops[r.2.2.1]? with
  |some U=>lT X aN ops r.2.1.1 U&&(match wK O r.1 U.after.toList with|some m=>Nat.beq m r.2.2.2|none=>false)
  |none=>false)&&
 (match r.2.1.2 with
  |.dI=>Nat.beq r.2.2.2 (2^r.1-1)
  |.hx _=>r.2.1.1.U.qR
  |.read n _=>r.2.1.1.U.pZ&&Nat.ble ((List.range r.1).countP λq=>td L q&& !r.2.2.2.testBit q) n)
def yR(fc:ac Tmp)(r s:uH):Bool:=
 (!Nat.beq r.2.2.1 s.2.2.1||Nat.beq r.1 s.1)&&
 (match s.2.1.1.d with
  |none=>true
  |some t=>
   (!P3 r.2.1.1.d t||Nat.beq r.1 s.1)&&
   (!Nat.ble (Nat.succ r.1) s.1||uI fc t|| !(r.2.1.2.wH||uI r.2.1.2.looks t)||s.2.2.2.testBit r.1)&&
   (!Nat.ble (Nat.succ s.1) r.1|| !uI r.2.1.2.looks t||r.2.2.2.testBit s.1))
def JM(X:Ctx)(aN:Nat)(ops:bi Oper)(L:ac (bj×cn))(cz:ac Nat)(fc:ac Tmp)(ms:ac Nat):Bool:=
 (λO=>Nat.beq L.length ops.size&&Nat.beq cz.length ops.size&&Nat.beq ms.length ops.size&&(List.range ops.size).all (λi=>uI cz i)&&O.all (BC X aN ops L O)&&O.all λr=>O.all<|yR fc r)<|qT 0 L cz ms
theorem acE{aN:Nat}{ops:bi Oper}{L:ac (bj×cn)}{cz:ac Nat}{fc:ac Tmp}{ms:ac Nat}(h:JM X aN ops L cz fc ms=true):lU X aN ops L cz fc ms:=by
 unfold JM at h;simp only[c1]at h;obtain⟨⟨⟨⟨⟨Y,G⟩,aw⟩,an⟩,aq⟩,H⟩:=h;have S:=pY Y;have z:=pY G;have aD:=pY aw;rw[ia]at an aq H;have aB:∀(p:Nat) a i,L[p]? =some a->cz[p]? =some i->(p,a,i,ms.getD p 0)∈qT 0 L cz ms:=by
  intro p a i A af;have hp:=(dP.1 A).1;have hm:ms[p]? =some (ms.getD p 0):=by
   have:p<ms.length:=R
   simp[this]
  have:=P1 L cz ms 0 p A af hm
  rwa [hU]at this
 have s:∀p:Nat,p<L.length->∃i,cz[p]? =some i:=λp hp=>⟨_,aO R⟩;have ai:∀p i:Nat,cz[p]? =some i->∃a,L[p]? =some a:=λp i af=>⟨_,aO (by have:=(dP.1 af).1;omega)⟩;have ar:∀(p:Nat) a i,L[p]? =some a->cz[p]? =some i->BC X aN ops L (qT 0 L cz ms) (p,a,i,ms.getD p 0)=true:=λp a i A af=>aq _<|aB p a i A af;have u:∀(p:Nat) a i q b J,L[p]? =some a->cz[p]? =some i->L[q]? =some b->cz[q]? =some J->yR fc (p,a,i,ms.getD p 0) (q,b,J,ms.getD q 0)=true:=by
  grind
 have ak:∀(p i:Nat) a U,L[p]? =some a->cz[p]? =some i->ops[i]? =some U->lT X aN ops a.1 U=true/\∃m,wK (qT 0 L cz ms) p U.after.toList=some m/\m=ms.getD p 0:=by
  intro p i a U A af aa;have:=ar p a i A af;unfold BC at this;simp only[aa,c1]at this
  grind [pY]
 have g:∀{r:uH} {p:Nat},r∈qT 0 L cz ms->∃q:Nat,r.1=q/\cz[q]? =some r.2.2.1/\ms.getD q 0=r.2.2.2:=by
  grind [P2]
 have ax:∀(p i:Nat) a,L[p]? =some a->cz[p]? =some i->(match a.2 with|.dI=>Nat.beq (ms.getD p 0) (2^p-1)|.hx _=>a.1.U.qR|.read n _=>a.1.U.pZ&&Nat.ble ((List.range p).countP λq=>td L q&& !(ms.getD p 0).testBit q) n)=true:=by
  grind [BC]
 refine⟨S,z,λp i x c af O=>?_,λp x aA O=>?_,λp x n aA O=>?_,λp q i hp ah=>?_,λi af=>?_,λp i U af aa e D C=>?_,λp i U q af aa ah=>?_,λp x q O ah=>?_,λp x n aA O=>?_,λp q x y c d t O a' j K=>?_,λp q x y c d t O a' av K au B=>?_,λp q x y c d t O a' aC K B=>?_⟩
 .have:=ar p (x,c) i O af;unfold BC at this
  grind
 .grind
 .grind
 .obtain⟨a,A⟩:=ai p i hp;obtain⟨b,C⟩:=ai q i ah;have:=u p a i q b i A hp C ah;unfold yR at this;simp only[c1,Av]at this;rcases this.1 with h|h
  .simp at h
  .exact pY h
 .have:=an i<|List.mem_range.2 af;obtain⟨p,hp,D⟩:=List.mem_iff_getElem.1<|EZ.1 this;exact⟨p,by rw[aO hp,D]⟩
 .obtain⟨a,A⟩:=ai p i af;obtain⟨_,m,hm,_⟩:=ak p i a U A af aa;obtain⟨r,aj,M,az⟩:=(EY _ _ hm).1 e aq7 C;obtain⟨q,W,I,_⟩:=g (p:=0) aj;exact⟨q,R,by rw[I,M]⟩
 .obtain⟨a,A⟩:=ai p i af;obtain⟨_,m,hm,rfl⟩:=ak p i a U A af aa;obtain⟨e,D,C,r,aj,M,az,aE⟩:=(EY _ _ hm).2 q ah;obtain⟨ay,W,I,a0⟩:=g (p:=0) aj;exact asE asE
 .grind [pY]
 .obtain⟨i,af⟩:=s p (dP.1 O).1;have:=ax p i _ O af;simp only[c1]at this;exact lQ.1 this.2
 .obtain⟨i,af⟩:=s p (dP.1 O).1;obtain⟨J,ab⟩:=s q (dP.1 a').1;have:=u p _ i q _ J O af a' ab;unfold yR at this;simp only[K,c1]at this;have M:=this.2.1.1;simp[P3,j]at M;exact M
 .obtain⟨i,af⟩:=s p (dP.1 O).1;obtain⟨J,ab⟩:=s q (dP.1 a').1;have:=u p _ i q _ J O af a' ab;unfold yR at this;simp only[K,c1]at this;have M:=this.2.1.2;have I:uI fc t=false:=by rw[x3];intro h;exact au<|EZ.1 h
  have a0:(c.wH||uI c.looks t)=true:=by
   rcases B with rfl|B
   .rfl
   .rw[Av];exact .inr<|EZ.2 B
  rw[(lQ.2 av),I,a0]at M;simpa using M
 .obtain⟨i,af⟩:=s p (dP.1 O).1;obtain⟨J,ab⟩:=s q (dP.1 a').1;have:=u p _ i q _ J O af a' ab;unfold yR at this;simp only[K,c1]at this;have M:=this.2.2;have I:=EZ.2 B;rw[(lQ.2 aC),I]at M;simpa using M
end Go.bC
namespace Go.bC
variable{X:Ctx}{call:bN}
def yS(X:Ctx)(aN:Nat)(ops:bi Oper):ac bj->ac Oper->Bool
 |[],[]=>true
 |x::xs,U::os=>lT X aN ops x U&&yS X aN ops xs os
 |_,_=>false
theorem JN{aN:Nat}{ops:bi Oper}:∀{xs:ac bj} {os:ac Oper},yS X aN ops xs os=true->xs.length=os.length/\∀(J:Nat) x U,xs[J]? =some x->os[J]? =some U->lT X aN ops x U=true
 |[],[],_=>⟨j,λJ x U h=>by simp at h⟩
 |x::xs,U::os,h=>by
  simp[yS,c1]at h;have⟨aC,aI⟩:=JN h.2
  grind
 |[],_::_,h=>by simp[yS]at h
 |_::_,[],h=>by simp[yS]at h
def wL:ac Nat->ac Nat->Bool
 |[],[]=>true
 |a::as,b::b2=>Nat.beq a b&&wL as b2
 |_,_=>false
theorem P4:∀{as b2:ac Nat},wL as b2=true->as=b2
 |[],[],_=>rfl
 |a::as,b::b2,h=>by
  simp only[wL,c1]at h;rw[pY h.1,P4 h.2]
 |[],_::_,h=>by simp[wL]at h
 |_::_,[],h=>by simp[wL]at h
def codeOk(X:Ctx)(aN:Nat):du->Code->Bool
 |.skip,.skip=>true
 |.skip,.label _=>true
 |.gg xs,.region _ ops false=>yS X aN ops xs ops.toList
 |.qE L cz fc ms,.region _ ops true=>JM X aN ops L cz fc ms
 |.seq a b,.seq c d=>codeOk X aN a c&&codeOk X aN b d
 |.cond x a b,.cond y c d=>c9 X.a3 x y&&codeOk X aN a c&&codeOk X aN b d
 |.block i a,.block J c=>Nat.beq i J&&codeOk X aN a c
 |.loop a,.loop c=>codeOk X aN a c
 |.uq f a7 ec body,.rangeFunc g jN s h=>c9 X.a3 f g&&wL a7 jN.toList&&a7.all (λt=>Nat.ble (Nat.succ t) aN)&&codeOk X aN ec s&&codeOk X aN body h
 |.exit i,.exit J=>Nat.beq i J
 |.scope a,.scope c=>codeOk X aN a c
 |.ret,.ret=>true
 |.refuse,_=>true
 |_,_=>false
def Good(X:Ctx):Prop:=X.P.follows .mixedOrders=true/\∀fn c u,X.ok fn c u↔∃F,X.P.funcs[fn]? =some F/\codeOk X F.ntmps u c=true
section
variable{b:dR}{aN:Nat}{bf:Bool->ac Frame}
def yT(X:Ctx)(call:bN)(b:dR)(aN:Nat)(bf:Bool->ac Frame):Prop:=
 ∀(f:ce) (a7:bi Tmp) (ec body:du) (s h:Code) (ad:bH) (o:aK) (a:Act) (st:ak) (w:f5) (k:ac Item),gk X.a3 f=true->(∀t∈a7.toList,t<aN)->(∃F,X.P.funcs[b.fn]? =some F/\F.ntmps=aN)->X.ok b.fn s ec->X.ok b.fn h body->
  eZ ad o a aN->bQ X ad st w->oi ad o.b4 b.b4->ju b o.aV ad bf->
  fY X b aN bf (lone (b.at a<|.code (.rangeFunc f a7 s h)::k) (bf o.cQ) w) k o ad w (A6 call b.fn f a7.toList ec body o st)
theorem fY.kz{s:Machine}{k j:ac Item}{o:aK}{ad:bH}{w:f5}{r:cN}{g:aK->ak->cN}(u:∀id,exitTo id k=exitTo id j)(h:fY X b aN bf s k o ad w r)
 (O:∀aF dm w' bt al,eZ aF bt dm aN->bQ X aF al w'->eb ad aF w w'->bt.aV=o.aV->bt.b4=o.b4->fY X b aN bf (lone (b.at dm k) (bf bt.cQ) w') j bt aF w' (g bt al)):fY X b aN bf s j o ad w (kz r g):=by
 cases r with
 |no=>trivial
 |out e bt al=>
  have⟨aF,dm,w',Y,G,A,d,C,H⟩:=h;cases e with
  |norm=>exact fY.head H A d C (O aF dm w' bt al Y G A d C)
  |exit id=>
   have⟨R,M,W⟩:=H;exact⟨aF,dm,w',Y,G,A,d,C,R,M.trans<|u id,W⟩
  |_=>exact⟨aF,dm,w',Y,G,A,d,C,H⟩
def fY.cx{s:Machine}{k:ac Item}{o:aK}{ad:bH}{w:f5}{r:cN}{i:Nat}(aC:fY X b aN bf s (.inBlock i::k) o ad w r):fY X b aN bf s k o ad w (pP i r):=by
 cases r with
 |no=>trivial
 |out e bt al=>
  have⟨aF,K,w',G,A,d,C,H,M⟩:=aC;cases e with
  |norm=>exact⟨aF,K,w',G,A,d,C,H,Steps.trans M<|.one<|step_lone_go apv⟩
  |exit id=>
   have⟨R,W,B⟩:=M;show fY X b aN bf _ k o ad w (dL id i (.out .norm bt al)<|.out (.exit id) bt al);rw[mn];by_cases e:id=i
   .subst e;rw[aD j];have g:exitTo id R=some k:=by rw[W];simp[exitTo]
    exact⟨aF,K,w',G,A,d,C,H,Steps.trans B<|.one<|step_lone_go<|by simp[stepG,stepG.exec,dR.at,g]⟩
   .rw[av e];refine⟨aF,K,w',G,A,d,C,H,R,?_,B⟩;rw[W];have:¬i=id:=λh=>e h.symm;simp[exitTo,this]
  |_=>exact⟨aF,K,w',G,A,d,C,H,M⟩
def BD(r:cN):kz r (λo st=>.out .norm o st)=r:=by
 cases r with
 |no=>rfl
 |out e o st=>cases e<;>rfl
theorem E0(av:Good X)(az:m4 X call)(aJ:yT X call b aN bf)(aH:∃F,X.P.funcs[b.fn]? =some F/\F.ntmps=aN)(a6:Nat):∀(u:du) (c:Code) (ad:bH) (o:aK) (a:Act) (st:ak) (w:f5) (k:ac Item),codeOk X aN u c=true->
 eZ ad o a aN->bQ X ad st w->oi ad o.b4 b.b4->ju b o.aV ad bf->
 fY X b aN bf (lone (b.at a<|.code c::k) (bf o.cQ) w) k o ad w (db call a6 b.fn u o st):=by
 obtain⟨Fn,ah,M⟩:=aH;intro u
 induction u with
 |skip=>
  intro c ad o a st w k W D a' C I;cases c with
  |skip=>exact at2
  |label l=>exact at2
  |_=>cases W
 |gg xs=>
  intro c ad o a st w k W D a' C I;cases c with
  |region id ops aw=>
   cases aw with
   |true=>cases W
   |false=>
    obtain⟨Y,G⟩:=JN W;have:=ET (k:=k) az xs (List.range ops.size) ad o a st w (by simpa using Y) (λJ x i O af=>by
     have aI:i=J:=by
      grind
     subst aI;have aW:i<ops.size:=by grind
     exact⟨ops[i],vN aW,G i x _ O au⟩) D a' C I
    exact fY.head (.one PE) mr j j this
  |_=>cases W
 |qE L cz fc ms=>
  intro c ad o a st w k W D a' C I;cases c with
  |region id ops aw=>
   cases aw with
   |false=>cases W
   |true=>exact acD av.1 az (acE W) D a' C I
  |_=>cases W
 |seq x y aC h=>
  intro c ad o a st w k W D a' C I;cases c with
  |seq c d=>
   have W:(codeOk X aN x c&&codeOk X aN y d)=true:=W;rw[c1]at W;refine fY.head (.one Pz) mr j j<|fY.kz (k:=.code d::k) (λid=>j) (aC c ad o a st w (.code d::k) W.1 D a' C I) λaF K w' bt al A H ab hp aj=>?_;exact h d aF bt K al w' k W.2 A H aqY aqX
  |_=>cases W
 |cond x y z h aD=>
  intro c ad o a st w k W D a' C I;cases c with
  |cond U c d=>
   have W:(c9 X.a3 x U&&codeOk X aN y c&&codeOk X aN z d)=true:=W;simp at W;obtain⟨rfl,aq⟩:=sb W.1.1;show fY X b aN bf _ k o ad w (kj (o.ar x) (λt=>_root_.cond t (db call a6 b.fn y o st)<|db call a6 b.fn z o st) .no);have S:=D.ar a' aq;generalize B:a.eval x=kn at S;generalize o.ar x=v at S;cases v with
   |bool t=>
    cases S;cases t with
    |true=>exact fY.head (.one<|EL B) mr j j (h c ad o a st w k W.1.2 D a' C I)
    |false=>exact fY.head (.one<|EL B) mr j j (aD d ad o a st w k W.2 D a' C I)
   |_=>trivial
  |_=>cases W
 |block i x aa=>
  intro c ad o a st w k W D a' C I;cases c with
  |block J c=>
   have W:(Nat.beq i J&&codeOk X aN x c)=true:=W;rw[c1]at W;cases pY W.1;refine fY.head (.one PA) mr j j ?_;exact(aa c ad o a st w (.inBlock i::k) W.2 D a' C I).cx
  |_=>cases W
 |loop x aa=>
  intro c ad o a st w k W D a' C I;cases c with
  |loop c=>
   have key:∀(n:Nat) (ad:bH) o a st w,eZ ad o a aN->bQ X ad st w->oi ad o.b4 b.b4->ju b o.aV ad bf->
    fY X b aN bf (lone (b.at a<|.code c:: .inLoop c::k) (bf o.cQ) w) k o ad w (Nat.rec (λ_ _=>.no) (λ_ aB o st=>Go.bC.kz (db call a6 b.fn x o st) aB) n o st):=by
    intro n
    induction n with
    |zero=>intros;trivial
    |succ n R=>
     intro ad o a st w D a' C I;exact fY.kz (k:=.inLoop c::k) (λid=>j) (aa c ad o a st w (.inLoop c::k) W D a' C I) λaF K w' bt al A H ab hp aj=>(fY.head (.one PC) mr j j<|R aF bt K al w' A H aqY aqX)
   exact fY.head (.one PB) mr j j (key a6 ad o a st w D a' C I)
  |_=>cases W
 |uq f a7 ec body _ _=>
  intro c ad o a st w k W D a' C I;cases c with
  |rangeFunc g ay s aA=>
   have W:(c9 X.a3 f g&&wL a7 ay.toList&&a7.all (λt=>Nat.ble (Nat.succ t) aN)&&codeOk X aN ec s&&codeOk X aN body aA)=true:=W;simp only[c1]at W;obtain⟨⟨⟨⟨Y,G⟩,ax⟩,aL⟩,aO⟩:=W;rw[ia]at ax;obtain⟨rfl,aq⟩:=sb Y;cases P4 G;exact aJ f ay ec body s aA ad o a st w k aq (λt aE=>lQ.1<|ax t aE) ⟨Fn,ah,M⟩ ((av.2 _ _ _).2 ⟨Fn,ah,by rwa [M]⟩) ((av.2 _ _ _).2 ⟨Fn,ah,by rwa [M]⟩) D a' C I
  |_=>cases W
 |exit i=>
  intro c ad o a st w k W D a' C I;cases c with
  |exit J=>
   cases pY (W:Nat.beq i J=true);exact aty aty
  |_=>cases W
 |scope x aa=>
  intro c ad o a st w k W D a' C I;cases c with
  |scope c=>
   refine fY.head (.one PD) mr j j ?_;show fY X b aN bf _ k o ad w (db call a6 b.fn x o st);rw[<-BD (db call a6 b.fn x o st)];exact fY.kz (k:=.inScope c::k) (λid=>j) (aa c ad o a st w (.inScope c::k) W D a' C I) λaF K w' bt al A H _ _ _=>⟨aF,K,w',A,H,.refl _ _,j,j,.one Py⟩
  |_=>cases W
 |ret=>
  intro c ad o a st w k W D a' C I;cases c with
  |ret=>exact⟨ad,a,w,D,a',.refl _ _,j,j,k,.refl _ _⟩
  |_=>cases W
 |refuse=>intros;trivial
end
def JO(X:Ctx):gS->ResultVar->Bool
 |.tmp t,.tmp u=>Nat.beq t u
 |.cell a g n,.cell b t=>Nat.beq a b&&X.pX (.load t<|.tmp b) (cond g (.mV n<|.tmp b)<|.iv<|.tmp b)&&(g||Nat.beq n 1)
 |_,_=>false
def tf(X:Ctx):ac gS->ac ResultVar->Bool
 |[],[]=>true
 |x::xs,r::rs=>JO X x r&&tf X xs rs
 |_,_=>false
def BE(tmps:bi bv):ResultVar->Sem bv
 |.tmp t=>pure (tmps.getD t undef)
 |.cell a t=>do loadVar t (<-asAddr (tmps.getD a undef))
section
variable{ad:bH}{o:aK}{a:Act}{aN:Nat}{st:ak}{w:f5}
def acF{α:Type}{a:Addr}{n:Nat}{k:ac bv->α}{z r:α}(h:st.load a n k z=r)(M:z≠r):∃ab,k ab=r/\∀{j:Type} (u:ac bv->j) (D:j),st.load a n u D=u ab:=by
 have⟨Y,cs,el,I,aR,G,A,d⟩:=Ep h M;refine⟨_,d,λu D=>?_⟩;unfold ak.load ak.fI;rw[Y,G];show hK cs a.off n u D=_;rw[hK,Ba,Bb,aD A];rfl
theorem acG{t:co}{x:ce}{cc:Addr}{v:bv}(O:a.eval x= .pointer (some cc))(h:(execOp a.eval {(default:Oper)with op:=.load t x}).run X.P w= .ok (.value v) w):(loadVar t cc).run X.P w= .ok v w:=by
 rw[execOp]at h;simp[O,Instr.loadAt,Instr.sureAddr,Sem.run_bind,Sem.run_pure,Result.andThen]at h
 grind
def acH{x:gS}{r:ResultVar}(u:JO X x r=true)(D:eZ ad o a aN)(G:bQ X ad st w){ab out:ac bv}
 (h:gS.rec (motive:=λ_=>be<|ac bv) (λt=>some<|o.tmp t::ab)
  (λa agg n=>hG (o.tmp a) (λp=>bq p (λcc=>st.load cc n (λcs=>cond agg (some<|.agg ⟨cs⟩::ab)<|one cs (λv=>some<|v::ab) none) none) none) none) x=some out):
 ∃v bE,out=v::ab/\bd ad v bE/\(BE a.tmps r).run X.P w= .ok bE w:=by
 cases x<;>cases r<;>try cases u
 .obtain rfl:=dB u;cases h;exact⟨_,_,j,D.tmp _,j⟩
 .rename_i b g n _ t;simp only[JO,c1,mq]at u;obtain⟨⟨rfl,z⟩,Y⟩:=u;have⟨p,hp,h⟩:=A8 h au;obtain⟨cc,rfl,M⟩:=ie h au;have⟨cs,W,B⟩:=acF M au;have key:∃v,out=v::ab/\bw (λ_ _ _ _=>.no) (cond g (.mV n<|.tmp b)<|.iv<|.tmp b) o st= .ok v o st:=by
   cases g with
   |true=>
    cases W;refine⟨_,j,?_⟩;show hG (o.tmp b) _ _=_;rw[hp];exact B (λab=>a2.ok (.agg ⟨ab⟩) o st) .no
   |false=>
    obtain rfl:=dB Y;obtain⟨v,rfl,H⟩:=yG W au;cases H;refine⟨_,j,?_⟩;show hG (o.tmp b) _ _=_;rw[hp];exact B (λab=>one ab (λv=>a2.ok v o st) .no) .no
  obtain⟨v,rfl,A⟩:=key;have⟨_,_,s,_⟩:=EK (U:={(default:Oper)with op:=.load t<|.tmp b}) z D G A (by cases g<;>rfl);have⟨_,_,bE,C,S⟩:=s (by cases g<;>rfl);have y:=D.tmp b;rw[hp]at y;generalize d:a.tmps.getD b undef=kn at y;cases y with
  |ptr _ l J I=>
   refine⟨v,bE,j,S,?_⟩;simp[BE,d];exact acG (x:=.tmp b) d C
theorem P5(D:eZ ad o a aN)(u:bQ X ad st w):∀(xs:ac gS) (R:ac ResultVar) (out:ac bv),tf X xs R=true->pQ o st xs=some out->
 ∃B,bI ad out B/\(R.mapM<|BE a.tmps).run X.P w= .ok B w
 |[],[],out,_,h=>by
  have g:=h;cases g;exact⟨[],bI.nil ad,j⟩
 |x::xs,r::R,out,K,h=>by
  simp[tf,c1]at K;obtain⟨z,W,Y⟩:=ie h au;obtain⟨v,y,rfl,S,A⟩:=acH K.1 D u Y;have⟨B,d,s⟩:=P5 D u xs R z K.2 W;refine⟨y::B,bI.cons S d,?_⟩
  simp_all
 |[],_::_,_,K,_=>by simp[tf]at K
 |_::_,[],_,K,_=>by simp[tf]at K
def acI{F:Func}{xs:ac gS}(M:tf X xs F.results.toList=true)(D:eZ ad o a aN)(O:bQ X ad st w){out:ac bv}(h:pQ o st xs=some out):
 ∃bE,bd ad (one out (λv=>v)<|.tuple ⟨out⟩) bE/\(results F a.tmps).run X.P w= .ok bE w:=by
 have⟨B,S,z⟩:=P5 D O xs F.results.toList out M h;have I:(results F a.tmps)=(do let g<-F.results.mapM (BE a.tmps);pure (if h:g.size=1 then g[0]else .tuple g)):=by
  congr 2
 rw[I];have hm:(F.results.mapM<|BE a.tmps).run X.P w= .ok B.toArray w:=by
  rw[Ol,Sem.run_map,z];rfl
 simp only[Sem.run_bind,hm];refine⟨_,?_,j⟩;cases out with
 |nil=>rw[S.qL];exact bd.qM (bI.nil ad)
 |cons v g=>
  obtain⟨y,aP,rfl,Y,G⟩:=S.cons_inv;cases g with
  |nil=>rw[G.qL];exact Y
  |cons v2 C=>
   obtain⟨d,s,rfl,A,u⟩:=G.cons_inv;exact bd.qM<|bI.cons Y<|bI.cons A u
end
def hn(X:Ctx)(ad:bH)(w:f5)(b:dR)(bf:Bool->ac Frame)(s:Machine):dY->Prop
 |.ret v al R=>∃aF bE w' F,bd aF v bE/\bQ X aF al w'/\eb ad aF w w'/\F.kind=b.kind/\F.fn=b.fn/\Frame.going X.P F w' (.returned bE)/\Steps X.P s (lone F (bf R) w')
 |.aV v al R=>∃aF bE w' F,bd aF v bE/\bQ X aF al w'/\eb ad aF w w'/\F.kind=b.kind/\F.fn=b.fn/\Frame.going X.P F w' (.panicked [{v:=bE,recovered:=false}])/\Steps X.P s (lone F (bf R) w')
 |.no=>True
def hn.head{ad aF:bH}{w w':f5}{b:dR}{bf:Bool->ac Frame}{s O:Machine}{r:dY}(h:Steps X.P s O)(aw:eb ad aF w w')(D:hn X aF w' b bf O r):hn X ad w b bf s r:=by
 cases r with
 |no=>trivial
 |_=>obtain⟨cO,y,S,F,Y,G,A,d,C,H,M⟩:=D;exact⟨cO,y,S,F,Y,G,aw.trans A,d,C,H,h.trans M⟩
def wM(X:Ctx)(call:bN):Prop:=
 ∀(ad:bH) (f:d7) (first M:bi bv) (args:ac bv) (aV:be bv) (st:ak) (d h:bi bv) (H:ac bv) (w:f5),
  bI ad first.toList d.toList->bI ad args H->bI ad M.toList h.toList->bQ X ad st w->call (.func (.func f) first M) args aV st≠.no->
  (∀as w,(callFunc f as).run X.P w= .ok (.enter f as) w)/\
  ∀(K:CallKind) (bf:Bool->ac Frame),ju ⟨f,K,none⟩ aV ad bf->hn X ad w ⟨f,K,none⟩ bf (lone (Frame.enter X.P f (d++H.toArray++h) K) (bf false) w) (call (.func (.func f) first M) args aV st)
variable{ad:bH}{m:be bv}{md:FrameMode}
def se(aF:bH):be bv->FrameMode->Prop
 |none,m=>m= .returning
 |some v,m=>∃bE,bd aF v bE/\m= .panicking [{v:=bE,recovered:=false}]
def se.mono{aF:bH}(hle:ad.le aF)(h:se ad m md):se aF m md:=by
 cases m with
 |none=>exact h
 |some v=>obtain⟨y,Y,G⟩:=h;exact⟨y,Y.mono hle,G⟩
def se.P6(h:se ad m md):md≠.run:=by
 cases m with
 |none=>rw[show md= .returning from h];simp
 |some v=>have⟨y,_,G⟩:=h;rw[G];simp
theorem yU(aj:wM X call):∀(aM:ac Deferred) (m:be bv) (st:ak) (r:be bv×ak),jJ call aM m st=some r->∀(ad:bH) (w:f5) (F:Frame) (cs:ac Frame),s9 ad aM F.defers->se ad m F.mode->bQ X ad st w->
 ∃aF w' md,Steps X.P (lone F cs w) (lone {F with defers:=[],mode:=md} cs w')/\se aF r.1 md/\bQ X aF r.2 w'/\eb ad aF w w'
 |[],m,st,r,h,ad,w,F,cs,ai,hm,an=>by
  have D:=h;cases D;have aR:F.defers=[]:=by
   cases s:F.defers with
   |nil=>rfl
   |cons d aM=>rw[s]at ai;exact ai.elim
  refine⟨ad,w,F.mode,?_,hm,an,.refl _ _⟩;have:({F with defers:=[],mode:=F.mode}:Frame)=F:=by cases F;subst aR;rfl
  rw[this];exact .refl _ _
 |⟨t,args⟩::aM,m,st,r,h,ad,w,F,cs,ai,hm,an=>by
  cases s:F.defers with
  |nil=>rw[s]at ai;exact ai.elim
  |cons e es=>
   rw[s]at ai;obtain⟨⟨aT,ah⟩,A⟩:=ai;cases t with
   |collected b'=>
    cases ab:e.target with
    |collected aD=>
     rw[ab]at ah;simp[jJ]at h;split at h
     .rename_i aH;rw[ja]at h;obtain⟨l,B,_,_,a9⟩:=an.eB _ _ aH au;cases ah.symm.trans B;rcases a9 with⟨_,aJ⟩|⟨W,_⟩
      .have aW:=an.fK _ _ B;have aX:(Instr.takeDeferred aD).run X.P w= .ok [] (w.putObj aD<|.deferred none):=run_takeDeferred aJ;obtain⟨H,a1⟩:=an.yJ X aH au (λaQ=>aQ) B (.j1 none) (.deferred none) (w.putObj aD<|.deferred none) j λ_ aO=>⟨j,j,.inr ⟨j,aO⟩⟩;obtain⟨aF,w',md,M,aa,I,a0⟩:=yU aj aM m _ r h ad _ {F with defers:=[]++es} cs (by simpa using A) hm H;exact⟨aF,w',md,.head (step_collected (cs:=cs) hm.P6 s ab aX) M,aa,I,a1.trans a0⟩
      .cases W
     .cases h
    |_=>rw[ab]at ah;exact ah.elim
   |fn a5 ay=>
    cases ab:e.target with
    |fn ba az=>
     rw[ab]at ah;obtain⟨aI,aL⟩:=ah;cases a5 with
     |func g=>
      rcases aI with⟨rfl,_⟩|⟨l,b,Y,_⟩
      .have u:call (.func (.func g) #[] ay) args.toList m st≠.no:=by
        intro z;simp only[jJ,z]at h;cases h
       obtain⟨aK,aC⟩:=aj ad g #[] ay args.toList m st #[] az e.args.toList w (bI.nil ad) aT aL an u;have aZ:(invoke e.target e.args).run X.P w= .ok (.enter g<|e.args++az) w:=by
        rw[ab];exact aK _ _
       have aA:=step_defer (cs:=cs) hm.P6 s ab aZ;have aU:(#[]++e.args.toList.toArray++az:bi bv)=e.args++az:=au
       rw[aU]at aC;cases m with
       |none=>
        have ax:F.mode= .returning:=hm;have af:=aC .deferred (λ_=>{F with defers:=es}::cs) (λG R aq=>by
         rw[tryRecover_deferred aq];simp[recoverD,ax])
        cases W:call (.func (.func g) #[] ay) args.toList none st with
        |no=>exact absurd W u
        |ret v C R=>
         rw[W]at af;have D:jJ call aM none C=some r:=by
          simp[jJ,W]at h;exact h
         obtain⟨aF,y,w',G,_,H,a',aw,_,ar,M⟩:=af;have ag:=step_going_returned (c:={F with defers:=es}) (cs:=cs) aw ar;have av:settle ({F with defers:=es}:Frame).mode= .returning:=by
          rw[ax];rfl
         rw[av]at ag;exact apA
        |aV v C R=>
         rw[W]at af;have D:jJ call aM (some v) C=some r:=by
          simp[jJ,W]at h;exact h
         obtain⟨aF,y,w',G,aY,H,a',aw,_,ar,M⟩:=af;have ag:=step_going_panicked (c:={F with defers:=es}) (cs:=cs) ar;have av:raised ({F with defers:=es}:Frame).mode [{v:=y,recovered:=false}]= .panicking [{v:=y,recovered:=false}]:=by
          rw[ax];rfl
         rw[av]at ag;obtain⟨O,S,md,K,aa,I,a0⟩:=yU aj aM (some v) C r D aF w' {{F with defers:=es}with mode:=.panicking [{v:=y,recovered:=false}]} cs (A.mono a'.le) ⟨y,aY,j⟩ H;exact apN
       |some aB=>
        obtain⟨J,aE,ax⟩:=hm;have af:=aC .deferred (λR=>{F with defers:=es,mode:=.panicking [{v:=J,recovered:=R}]}::cs) ⟨J,aE,λG aq=>by
         have aS:=aq;rw[tryRecover_deferred aS];simp[recoverD],λG aq=>by
         rw[tryRecover_deferred aq];simp[recoverD]⟩
        have a8:({F with defers:=es,mode:=.panicking [{v:=J,recovered:=false}]}:Frame)={F with defers:=es}:=by grind
        rw[a8]at af;cases W:call (.func (.func g) #[] ay) args.toList (some aB) st with
        |no=>exact absurd W u
        |ret v C R=>
         rw[W]at af;obtain⟨aF,y,w',G,_,H,a',aw,_,ar,M⟩:=af;have ag:=step_going_returned (c:={F with defers:=es,mode:=.panicking [{v:=J,recovered:=R}]}) (cs:=cs) aw ar;cases R with
         |true=>
          have D:jJ call aM none C=some r:=by
           simp[jJ,W]at h;exact h
          have av:settle ({F with defers:=es,mode:=.panicking [{v:=J,recovered:=true}]}:Frame).mode= .returning:=rfl;exact apA
         |false=>
          have D:jJ call aM (some aB) C=some r:=by
           simp[jJ,W]at h;exact h
          have av:settle ({F with defers:=es,mode:=.panicking [{v:=J,recovered:=false}]}:Frame).mode= .panicking [{v:=J,recovered:=false}]:=rfl;obtain⟨O,S,md,K,aa,I,a0⟩:=yU aj aM (some aB) C r D aF w' {{F with defers:=es}with mode:=.panicking [{v:=J,recovered:=false}]} cs (A.mono a'.le) ⟨J,aE.mono a'.le,j⟩ H;exact apN
        |aV v C R=>
         exfalso;simp only[jJ,W]at h;cases h
      .cases Y
     |_=>simp[jJ]at h
    |_=>rw[ab]at ah;exact ah.elim
   |_=>simp[jJ]at h
section
variable{P:f8}{b:dR}{a:Act}{k:ac Item}{cs:ac Frame}{w:f5}
def dR.returns(b:dR)(a:Act)(R:ac Item):Frame:={b.at a R with mode:=.returning}
def P7(ay:b.b4=none):step P (lone (b.at a []) cs w)= .next (lone (b.returns a []) cs w):=step_lone_go asQ
def P8(ay:b.b4=none):step P (lone (b.at a<|.code .ret::k) cs w)= .next (lone (b.returns a<|.code .ret::k) cs w):=step_lone_go asQ
end
theorem P9:∀(ab:ac bv) (i:Nat) (t:ao bv) (J:Nat),(lP ab i t).get J=if i<=J/\J<i+ab.length then ab[J-i]? else t.get J
 |[],i,t,J=>by rw[av au];rfl
 |v::ab,i,t,J=>by
  show(ao.iN (Nat.succ i) t i v λt=>lP ab (Nat.succ i) t).get J=_;rw[ao.wz,P9 ab (Nat.succ i) _ J,ao.eo]
  grind
def Qa{as ho:ac bv}{aN:Nat}{aV:be bv}{j:Bool}{b4:be Nat}(h:bI ad as ho)(aj:as.length<=aN):
 eZ ad ⟨lP as 0 .nil,[],aV,j,b4⟩ ⟨ho.toArray++Array.replicate (aN-ho.toArray.size) undef,[]⟩ aN:=by
 refine⟨λt=>?_,by simp[<-h.1];omega,az⟩;show bd ad (Option.rec (.chan<|some 0) (λv=>v)<|(lP as 0 .nil).get t) _;rw[P9];by_cases d:t<as.length
 .rw[aD ⟨c8 _,R⟩];have B:t<ho.length:=by rwa [<-h.1]
  have:=h.2 t d B;simp only[Nat.sub_zero,aO d];have O:(ho.toArray++Array.replicate (aN-ho.toArray.size) undef).getD t undef=ho[t]:=by
   simp[Array.getElem?_append,B]
  rw[O];exact this
 .rw[av R];exact .top _
section
variable{b:dR}{bf:Bool->ac Frame}{ad:bH}{o:aK}{a:Act}{aN:Nat}{st:ak}{w:f5}
theorem yV(O:wM X call){Fn:Func}{res:ac gS}{F:Frame}(aa:X.P.funcs[b.fn]? =some Fn)(a':tf X res Fn.results.toList=true)(D:eZ ad o a aN)(Y:bQ X ad st w)
 (aC:F.tmps=a.tmps) (aI:F.defers=a.defers) (G:F.kind=b.kind) (u:F.fn=b.fn) (hm:se ad m F.mode):hn X ad w b bf (lone F (bf o.cQ) w) (fJ call res m o st):=by
 rw[fJ];cases z:jJ call o.dd m st with
 |none=>trivial
 |some p=>
  have⟨R,al⟩:=p;have⟨aF,w',md,M,W,I,a0⟩:=yU O o.dd m st (R,al) z ad w F (bf o.cQ) (by rw[aI];exact D.dd) hm Y;cases R with
  |some v=>
   have⟨y,S,g⟩:=W;exact⟨aF,y,w',{F with defers:=[],mode:=md},S,I,a0,G,u,⟨g,j,Fn,by rwa [u]⟩,M⟩
  |none=>
   show hn X ad w b bf _ (bq (pQ o al res) (λd=>one d (λv=>.ret v al o.cQ)<|.ret (.tuple ⟨d⟩) al o.cQ) .no);cases h:pQ o al res with
   |none=>trivial
   |some out=>
    have A:eZ aF ⟨o.t,[],o.aV,o.cQ,o.b4⟩ ⟨a.tmps,[]⟩ aN:=⟨λt=>(D.tmp t).mono a0.le,D.size,az⟩;obtain⟨y,S,B⟩:=acI a' A I<|h;have s:bq (some out) (λd=>one d (λv=>dY.ret v al o.cQ)<|.ret (.tuple ⟨d⟩) al o.cQ) .no= .ret (one out (λv=>v)<|.tuple ⟨out⟩) al o.cQ:=by
     cases out with
     |nil=>rfl
     |cons x xs=>cases xs<;>rfl
    rw[s];refine⟨aF,y,w',{F with defers:=[],mode:=md},S,I,a0,G,u,⟨W,j,Fn,by rwa [u],?_⟩,M⟩
    grind
structure wN(X:Ctx)(f:d7)(a4:cX)(Fn:Func)(c:Code):Prop where
 fn:X.P.funcs[f]? =some Fn
 body:Fn.body=some c
 aN:Fn.ntmps=a4.aN
 code:codeOk X a4.aN a4.body c=true
 res:tf X a4.res Fn.results.toList=true
 name:(Fn.name== "runtime.NumGoroutine")=false
variable{f:d7}{a4:cX}{Fn:Func}{body:Code}
def wN.enters(h:wN X f a4 Fn body)(as:bi bv)(w:f5):(callFunc f as).run X.P w= .ok (.enter f as) w:=by
 simp only[callFunc,Sem.run_bind];simp[h.fn,h.body,h.name,Result.andThen]
theorem JP(D:Good X)(a':m4 X call)(O:wM X call)(u:∀b aN bf,b.b4=none->yT X call b aN bf)(ok:wN X f a4 Fn body)(n:Nat){K:CallKind}{as ho:ac bv}{aV:be bv}
 (aa:bI ad as ho) (ab:bQ X ad st w) (I:ju ⟨f,K,none⟩ aV ad bf):hn X ad w ⟨f,K,none⟩ bf (lone (Frame.enter X.P f ho.toArray K) (bf false) w) (iF call n f a4 as aV st):=by
 rw[iF,lR];split
 .rename_i d;rw[e4]at d
  let b:dR:=⟨f,K,none⟩
  have C:Frame.enter X.P f ho.toArray K=b.at ⟨ho.toArray++Array.replicate (a4.aN-ho.toArray.size) undef,[]⟩ [.code body]:=by
   simp[Frame.enter,dR.at,ok.fn,ok.body,ok.aN,b]
  rw[C];have h:=E0 D a' (u b a4.aN bf j) ⟨Fn,ok.fn,ok.aN⟩ n a4.body body ad ⟨lP as 0 .nil,[],aV,false,none⟩ ⟨ho.toArray++Array.replicate (a4.aN-ho.toArray.size) undef,[]⟩ st w [] ok.code (Qa aa d) ab (.inl fe) I;cases g:db call n f a4.body ⟨lP as 0 .nil,[],aV,false,none⟩ st with
  |no=>trivial
  |out e bt al=>
   rw[g]at h;have⟨aF,s,w',Y,G,A,_,_,H⟩:=h;cases e with
   |norm=>
    exact arC
   |exit id=>trivial
   |ret=>
    exact aqo
   |aV v=>
    exact aqR
 .trivial
end
def E1{β:Type}{U:be bx}{k:LoopState->be c6->d7->ao bv->ac Tmp->du->du->Nat->β}{z r:β}(h:mW U k z=r)(u:z≠r):
 ∃s gi fn t a7 a b d,U=some (.loop s gi fn t a7 a b d)/\k s gi fn t a7 a b d=r:=by
 have⟨j,g,Y⟩:=ie h u;cases j<;>first|exact absurd Y u|exact⟨_,_,_,_,_,_,_,_,g,Y⟩
section
variable{P:f8}{b:dR}{a:Act}{k:ac Item}{c:Frame}{cs:ac Frame}{w w':f5}{l:Nat}
def acJ(ay:b.b4=some l)(h:(Instr.beginRound l).run P w= .ok () w'):step P (lone (b.at a<|.beginRound::k) cs w)= .next (lone (b.at a k) cs w'):=
 step_lone_go<|by simp[stepG,stepG.exec,stepG.apply,dR.at,ay,h,Frame.finish]
def acK{v:bv}{i:Nat}(ay:b.b4=some l)(aw:b.kind= .normal)(O:exitTo i k=none)(h:(Instr.endRound l<|some<|.exit i).run P w= .ok v w'):step P (lone (b.at a<|.code (.exit i)::k) (c::cs) w)= .next (lone (c.finish v) cs w'):=
 step_lone_go<|by simp[stepG,stepG.exec,dR.at,ay,aw,O,h,doReturn]
end
variable{w:f5}{l bo:Nat}{gi:be c6}{t:ao bv}{a7:ac Tmp}{ec body:du}
theorem Qb{ad:bH}:∀(a7:ac Tmp) (ab B:ac bv) (m:ao bv) (arr:bi bv),(∀n,bd ad (yI m n)<|arr.getD n undef)->bI ad ab B->ab.length=a7.length->(∀t∈a7,t<arr.size)->
 (∀n,bd ad (yI (oZ a7 ab m) n)<|((a7.zip B).foldl (λtmps (p:Tmp×bv)=>tmps.setIfInBounds p.1 p.2) arr).getD n undef)/\((a7.zip B).foldl (λtmps (p:Tmp×bv)=>tmps.setIfInBounds p.1 p.2) arr).size=arr.size
 |[],_,_,m,arr,h,_,_,_=>⟨h,j⟩
 |t::a7,[],_,_,_,_,_,aB,_=>by simp at aB
 |t::a7,v::ab,B,m,arr,h,S,aB,aW=>by
  obtain⟨y,aP,rfl,aC,aI⟩:=S.cons_inv;have g:∀n,bd ad (yI (m.set t v) n) ((arr.setIfInBounds t y).getD n undef):=by
   intro n;have aj:=h n;unfold yI at aj⊢;rw[ao.eo];by_cases e:n=t
   .simp_all
   .rw[av e];have:(arr.setIfInBounds t y).getD n undef=arr.getD n undef:=by
     simp[Im<|Ne.symm e]
    rw[this];exact aj
  have⟨W,I⟩:=Qb a7 ab aP (m.set t v) (arr.setIfInBounds t y) g aI atL (λu M=>by simpa using aW u (fq _ M));have hp:oZ (t::a7) (v::ab) m=oZ a7 ab (m.set t v):=by
   show ao.iN (Nat.succ t) m t v (λm=>oZ a7 ab m)=_;rw[ao.wz]
  simp_all
theorem bQ.loop{st:ak}(j:bQ X ad st w){s:LoopState}{fn:d7}{d:Nat}(h:st.h.get l=some (.loop s gi fn t a7 ec body d))(aB:ad l=some ⟨bo,0,0,id⟩):
 ∃L:Loop,w.heap[bo]? =some (.loop L)/\L.state=s/\Er gi L.pending/\L.fn=fn/\(∀n,bd ad (yI t n)<|L.tmps.getD n undef)/\L.params.toList=a7/\X.ok fn L.assign ec/\X.ok fn L.body body/\ad d=some ⟨L.defers,0,0,id⟩/\
  (∃F,X.P.funcs[fn]? =some F/\L.tmps.size=F.ntmps)/\∀t∈a7,t<L.tmps.size:=by
 have⟨m,hm,_,_,L,J⟩:=j.eB _ _ h au
 grind
def bQ.JQ{st:ak}(I:bQ X ad st w){s:LoopState}{fn:d7}{d:Nat}(h:st.h.get l=some (.loop s gi fn t a7 ec body d))(aB:ad l=some ⟨bo,0,0,id⟩)
 {L:Loop} (S:w.heap[bo]? =some (.loop L)) (O:LoopState) (R:be c6) (u:be Code) (ba:Er R u):
 bQ X ad ⟨st.h.set l<|.loop O R fn t a7 ec body d,st.ae⟩ (w.putObj bo<|.loop {L with state:=O,pending:=u})/\eb ad ad w (w.putObj bo<|.loop {L with state:=O,pending:=u}):=by
 have⟨K,y,Y,G,A,J,C,H,M,W,B,g⟩:=I.loop h aB;rw[S]at y;cases y;exact I.yJ X h au (λD=>D) aB _ (.loop {L with state:=O,pending:=u}) _ j λ_ z=>⟨j,j,{L with state:=O,pending:=u},z,j,ba,A,J,C,H,M,W,B,g⟩
section
variable{ad:bH}{st:ak}{w:f5}
def acL{b:dR}{aN:Nat}{Fn:Func}{c:Frame}{cs:ac Frame}{s:Machine}{e6:aK}{aF:bH}{eJ:f5}{r:cN}(M:X.P.funcs[b.fn]? =some Fn)(af:b.b4=some bo)(ab:b.kind= .normal)(aB:aF l=some ⟨bo,0,0,id⟩)
 (h:fY X b aN (λ_=>c::cs) s [] e6 aF eJ r):
 match qI l r with
 |.ret v al _=>∃cO bE w',bd cO v bE/\bQ X cO al w'/\eb aF cO eJ w'/\Steps X.P s (lone (c.finish bE) cs w')
 |.aV v al _=>∃cO bE w',bd cO v bE/\bQ X cO al w'/\eb aF cO eJ w'/\Steps X.P s (lone (c.raise [{v:=bE,recovered:=false}]) cs w')
 |.no=>True:=by
 cases r with
 |no=>trivial
 |out e o st=>
  have⟨cO,a,w,D,hw,ag,_,_,aa⟩:=h;have C:=ag.le _ _ aB;cases a':o.dd with
  |cons d aj=>
   have:qI l (.out e o st)= .no:=apG
   rw[this];trivial
  |nil=>
   have y:a.defers=[]:=by
    have:=D.dd;rw[a']at this;cases A:a.defers with
    |nil=>rfl
    |cons d aj=>rw[A]at this;exact this.elim
   have key:∀(O:LoopState) gi u v,Er gi u->
    (∀L,w.heap[bo]? =some (.loop L)->∃w',w'=w.putObj bo (.loop {L with state:=O,pending:=u})/\Steps X.P s (lone (c.finish v) cs w'))->bd cO v v->
    match mW (st.h.get l) (λ_ _ fn t a7 a b d=>st.g8 l (.loop O gi fn t a7 a b d) λst=>dY.ret v st false) .no with
    |.ret v al _=>∃cO bE w',bd cO v bE/\bQ X cO al w'/\eb aF cO eJ w'/\Steps X.P s (lone (c.finish bE) cs w')
    |.aV v al _=>∃cO bE w',bd cO v bE/\bQ X cO al w'/\eb aF cO eJ w'/\Steps X.P s (lone (c.raise [{v:=bE,recovered:=false}]) cs w')
    |.no=>True:=by
    intro O gi u v ar ak S;by_cases z:mW (st.h.get l) (λ_ _ fn t a7 a b d=>st.g8 l (.loop O gi fn t a7 a b d) λst=>dY.ret v st false) .no= .no
    .rw[z];trivial
    .have⟨aq,aw,B,t0,au,av,G,d0,ah,Y⟩:=E1 j λe=>z e.symm;rw[<-Y,ja];have⟨L,J,_⟩:=hw.loop ah C;have⟨w',H,K⟩:=ak L J;have⟨W,I⟩:=hw.JQ ah C J O gi u ar;exact⟨cO,v,w',S,by rwa [H],by rw[H];exact ag.trans I,K⟩
   cases e with
   |norm=>
    have:qI l (.out .norm o st)=mW (st.h.get l) (λ_ _ fn t a7 a b d=>st.g8 l (.loop .ready none fn t a7 a b d) λst=>dY.ret (.bool true) st false) .no:=by
     exact apG
    simpa[this]using key .ready none none (.bool true) az (λL J=>⟨_,j,Steps.trans aa<|.one<|step_lone_go<|by simp[stepG,stepG.exec,dR.at,af,ab,(run_endRound none J),doReturn]⟩) (.bool true)
   |exit i=>
    have:qI l (.out (.exit i) o st)=mW (st.h.get l) (λ_ _ fn t a7 a b d=>st.g8 l (.loop .done (some<|.exit i) fn t a7 a b d) λst=>dY.ret (.bool false) st false) .no:=by
     exact apG
    rw[this];have⟨R,ai,g⟩:=aa;exact key .done (some<|.exit i) (some<|.exit i) (.bool false) j (λL J=>⟨_,j,Steps.trans g<|.one<|acK af ab (by rw[ai];rfl)<|run_endRound (some<|.exit i) J⟩) (.bool false)
   |ret=>
    have:qI l (.out .ret o st)=mW (st.h.get l) (λ_ _ fn t a7 a b d=>st.g8 l (.loop .done (some .ret) fn t a7 a b d) λst=>dY.ret (.bool false) st false) .no:=by
     exact apG
    rw[this];have⟨R,g⟩:=aa;exact key .done (some .ret) (some .ret) (.bool false) az (λL J=>⟨_,j,Steps.trans g<|.one<|step_lone_go<|by simp[stepG,stepG.exec,dR.at,af,ab,(run_endRound (some .ret) J),doReturn]⟩) (.bool false)
   |aV v=>
    have:qI l (.out (.aV v) o st)= .aV v st false:=by
     exact apG
    rw[this];have⟨bE,R,S,g⟩:=aa;refine⟨cO,bE,w,S,hw,ag,Steps.trans g<|.one<|step_leave_panicked ⟨j,y,Fn,M⟩⟩
theorem acM(D:Good X)(Y:m4 X call)(aE:∀b aN bf,yT X call b aN bf){n:Nat}{args H:ac bv}(aB:ad l=some ⟨bo,0,0,id⟩)(bR:bI ad args H)(ax:bQ X ad st w)(a':wy call n l args st≠.no):
 ∃fn aA ec body,(Instr.yield bo H.toArray).run X.P w= .ok (.round bo fn aA ec body) w/\∀c cs,EP X ad w (Frame.round bo fn aA ec body .normal) c cs (wy call n l args st):=by
 unfold wy at a'⊢;have⟨s,gi,fn,t,a7,ec,body,d,bc,a5⟩:=E1 j λe=>a' e.symm;rw[<-a5]at a'⊢;have⟨hlen,G⟩:=kA j λe=>a' e.symm;rw[<-G]at a'⊢;rw[e4,e4]at hlen;have⟨L,J,bm,bq,O,aK,bg,aM,aJ,bn,⟨Fn,M,g⟩,aW⟩:=ax.loop bc aB;have aU:H.toArray.size=L.params.size:=by
  have:L.params.size=a7.length:=by grind
  rw[this,<-hlen];simpa using bR.1.symm
 refine⟨L.fn,_,L.assign,L.body,run_yield J aU,λc cs=>?_⟩;subst O;have⟨a8,K⟩:=Qb a7 args H t L.tmps aK bR hlen aW;have aq:(L.params.zip H.toArray).foldl (λab (x:Tmp×bv)=>ab.setIfInBounds x.1 x.2) L.tmps=(a7.zip H).foldl (λab (p:Tmp×bv)=>ab.setIfInBounds p.1 p.2) L.tmps:=by
  rw[<-Array.foldl_toList,Array.toList_zip,bg]
 let b:dR:=⟨L.fn,.normal,some bo⟩
 let BF:=(L.params.zip H.toArray).foldl (λab (x:Tmp×bv)=>ab.setIfInBounds x.1 x.2) L.tmps
 have⟨bk,ay,aX⟩:=(D.2 _ _ _).1 aM;have⟨jv,aC,bh⟩:=(D.2 _ _ _).1 aJ;rw[M]at ay aC;cases ay;cases aC;have aQ:eZ ad ⟨oZ a7 args t,[],none,false,some l⟩ ⟨BF,[]⟩ Fn.ntmps:=by
  refine⟨λu=>?_,?_,az⟩
  .have:=a8 u
   rwa [<-aq]at this
  .show BF.size=_;rw[<-g,<-K,<-aq]
 have ar:∀aV:be bv,aV=none->∀aF,ju b aV aF (λ_=>c::cs):=by
  rintro _ rfl aF F bp aS;simp[tryRecover,aS]
 have an:=E0 D Y (aE b Fn.ntmps _) ⟨Fn,M,j⟩ n ec L.assign ad ⟨oZ a7 args t,[],none,false,some l⟩ ⟨BF,[]⟩ st w [.beginRound,.code L.body] aX aQ ax (.inr ⟨l,bo,j,j,aB⟩)<|ar _ j ad;generalize db call n L.fn ec ⟨oZ a7 args t,[],none,false,some l⟩ st=eG at an a'⊢;cases eG with
 |no=>exact absurd j a'
 |out e z C=>
  have⟨aF,B,eJ,aI,aw,av,bd,a1,aO⟩:=an;cases e with
  |exit _=>exact absurd j a'
  |ret=>exact absurd j a'
  |aV _=>exact absurd j a'
  |norm=>
   have R:yB call n l L.fn body z C≠.no:=a';show EP X ad w _ c cs (yB call n l L.fn body z C);unfold yB at R⊢;have⟨s1,aa,ah,t1,ai,af,ag,d1,au,A⟩:=E1 j λe=>R e.symm;rw[<-A]at R⊢;cases s1 with
   |busy=>exact absurd j R
   |done=>exact absurd j R
   |exhausted=>exact absurd j R
   |ready=>
    have aj:=av.le _ _ aB;have⟨ak,aD,a9,ba,bl,_⟩:=aw.loop au aj;have aZ:(Instr.beginRound bo).run X.P eJ= .ok () (eJ.putObj bo<|.loop {ak with state:=.busy}):=run_beginRound aD a9;have aY:=acJ (b:=b) (a:=B) (k:=[.code L.body]) (cs:=c::cs) j aZ;have⟨aL,b'⟩:=aw.JQ au aj aD .busy aa ak.pending ba;have bb:=Steps.trans aO<|.one aY;have S:=av.trans b';have aH:=acL M j j aj<|E0 D Y (aE b Fn.ntmps _) ⟨Fn,M,j⟩ n body L.body aF z B ⟨C.h.set l<|.loop .busy aa ah t1 ai af ag d1,C.ae⟩ (eJ.putObj bo<|.loop {ak with state:=.busy}) [] bh aI aL (by rw[a1];exact .inr ⟨l,bo,j,j,aj⟩)<|ar _ bd aF;rw[ja];have br:db call n b.fn body z ⟨C.h.set l<|.loop .busy aa ah t1 ai af ag d1,C.ae⟩=db call n L.fn body z ⟨C.h.set l<|.loop .busy aa ah t1 ai af ag d1,C.ae⟩:=rfl;generalize qI l (db call n L.fn body z ⟨C.h.set l<|.loop .busy aa ah t1 ai af ag d1,C.ae⟩)=aR at aH⊢;cases aR with
    |no=>trivial
    |_=>obtain⟨cO,y,w',W,I,a0,cJ⟩:=aH;exact⟨cO,y,w',W,I,S.trans a0,bb.trans cJ⟩
end
section
variable{P:f8}{b:dR}{a:Act}{k:ac Item}{cs:ac Frame}{w eJ:f5}{f:ce}{a7:bi Tmp}{ec body:Code}{l:Nat}{mark:ac Deferred}
def Qc(j:b.b4=none):(Frame.eval {fn:=b.fn,tmps:=a.tmps,todo:=.inRangeFunc l::k,defers:=mark++a.defers,mode:=.run,kind:=b.kind,roundOf:=none}) f=a.eval f:=by cases f<;>rfl
def Qd{v:bv}:a.eval (.const v)=v:=rfl
def acN(ay:b.b4=none)(h:(Instr.enterLoop b.fn a.tmps a7 ec body none).run P w= .ok (l,mark) eJ){g:d7}{as:bi bv}
 (I:((do let d<-Deferred.ofValue (a.eval f) #[.func (.yield l) #[] #[]];invoke d.target d.args):Sem Next).run P eJ= .ok (.enter g as) eJ):
 step P (lone (b.at a<|.code (.rangeFunc f a7 ec body)::k) cs w)= .next (lone (Frame.enter P g as .normal) (b.at {a with defers:=mark++a.defers} (.inRangeFunc l::k)::cs) eJ):=by
 exact aqw
def acO(ay:b.b4=none)(h:(Instr.enterLoop b.fn a.tmps a7 ec body none).run P w= .ok (l,mark) eJ){R:Nat}{g:d7}{aA:bi bv}{S u:Code}
 (I:((do let d<-Deferred.ofValue (a.eval f) #[.func (.yield l) #[] #[]];invoke d.target d.args):Sem Next).run P eJ= .ok (.round R g aA S u) eJ):
 step P (lone (b.at a<|.code (.rangeFunc f a7 ec body)::k) cs w)= .next (lone (Frame.round R g aA S u .normal) (b.at {a with defers:=mark++a.defers} (.inRangeFunc l::k)::cs) eJ):=by
 exact aqw
def acP{u:be Code}(h:(Instr.endLoop l).run P w= .ok u eJ):step P (lone (b.at a<|.endRangeFunc l::k) cs w)= .next (lone (b.at a<|(u.map Item.code).toList++k) cs eJ):=
 step_lone_go<|by simp[stepG,stepG.exec,dR.at,h]
end
theorem uJ(b':m4 X call)(b:dR)(aN:Nat)(bf:Bool->ac Frame):yT X call b aN bf:=by
 intro f a7 ec body an av ad o a st w k a8 aW aD a0 aY D aO bh bz;unfold A6;cases aS:o.b4 with
 |some _=>trivial
 |none=>
  have aH:b.b4=none:=by
   rcases bh with⟨_,h⟩|⟨l,bo,h,_⟩
   .exact h
   .rw[aS]at h;cases h
  obtain⟨Fn,aD,a5⟩:=aD;have C:=run_enterLoop_outer (P:=X.P) (w:=w) b.fn a.tmps a7 an av;obtain⟨bE,bc,aL,Y,_⟩:=bQ.alloc X aO (.j1<|some []) (.deferred<|some []) 0 (λaF w' _ _ ab=>⟨j,j,.inl ⟨j,ab⟩⟩) (w.alloc<|.deferred<|some []) j
  let L:Loop:={state:=.ready,pending:=none,fn:=b.fn,tmps:=a.tmps,params:=a7,assign:=an,body:=av,defers:=w.heap.size}
  obtain⟨aX,aZ,O,ay,_⟩:=bQ.alloc X bc (.loop .ready none b.fn o.t a7.toList ec body st.ae) (.loop L) 0 (λaF w' hle _ ab=>⟨j,j,L,ab,j,az,j,λn=>(D.tmp n).mono<|aL.le.trans hle,j,a0,aY,hle _ _ Y,⟨Fn,aD,by rw[a5];exact D.size⟩,λt ab=>by rw[D.size];exact aW t ab⟩)
   ((w.alloc<|.deferred<|some []).alloc<|.loop L) j
  rw[gj,gj];have S:=aL.trans O;rw[(World.size_alloc _ _)]at ay
  let fl:ak:=⟨(st.h.set st.ae<|.j1<|some []).set (st.ae+1)<|.loop .ready none b.fn o.t a7.toList ec body st.ae,st.ae+1+1⟩
  let bt:aK:=⟨o.t,{target:=.collected st.ae,args:= #[]}::o.dd,o.aV,o.cQ,none⟩
  let K:Act:={a with defers:=[{target:=.collected w.heap.size,args:= #[]}]++a.defers}
  have aJ:eZ aX bt K aN:=⟨λt=>(D.tmp t).mono S.le,D.size,⟨⟨bI.nil _,O.le _ _ Y⟩,D.dd.mono S.le⟩⟩;have bs:=bd.A7 (.inr ⟨_,_,j,j,ay⟩) (bI.nil _)<|bI.nil _;by_cases ax:call (o.ar f) [.func (.yield<|st.ae+1) #[] #[]] none fl= .no
  .rw[ax];trivial
  obtain⟨eg,bb,bl⟩:=b' aX (o.ar f) [.func (.yield<|st.ae+1) #[] #[]] fl (a.eval f) [.func (.yield<|w.heap.size+1) #[] #[]] _ ((D.ar aO a8).mono S.le) (bI.cons bs<|bI.nil _) aZ ax;have aQ:step X.P (lone (b.at a<|.code (.rangeFunc f a7 an av)::k) (bf o.cQ) w)= .next (lone eg (b.at K (.inRangeFunc (w.heap.size+1)::k)::bf o.cQ)<|(w.alloc<|.deferred<|some []).alloc<|.loop L):=by
   cases bb with
   |enter g as M=>exact acN aH C M
   |round bB g aA bu bw M=>exact acO aH C M
  have ah:=bl (b.at K<|.inRangeFunc (w.heap.size+1)::k)<|bf o.cQ;have G:bt.aV=o.aV:=rfl;have z:=aS.symm;cases aB:call (o.ar f) [.func (.yield<|st.ae+1) #[] #[]] none fl with
  |no=>exact absurd aB ax
  |aV v af ba=>
   rw[aB]at ah;obtain⟨aF,y,w',aI,H,a',M⟩:=ah;exact⟨aF,K,w',aJ.mono a'.le,H,S.trans a',G,z,y,_,aI,Steps.head aQ M⟩
  |ret v af ba=>
   rw[aB]at ah;obtain⟨aF,y,w',aI,H,a',M⟩:=ah;have bD:(b.at K<|.inRangeFunc (w.heap.size+1)::k).finish y=b.at K (.endRangeFunc (w.heap.size+1)::k):=rfl;have B:=a'.le _ _ ay;show fY X b aN bf _ k o ad w (mW (af.h.get<|st.ae+1) (λs gi aE t a7 a b d=>
    LoopState.rec
    (af.g8 (st.ae+1) (.loop .exhausted gi aE t a7 a b d) λst=>bq gi (λe=>.out e bt st)<|.out .norm bt st)
    .no
    (af.g8 (st.ae+1) (.loop .exhausted gi aE t a7 a b d) λst=>bq gi (λe=>.out e bt st)<|.out .norm bt st)
    .no s) .no)
   generalize br:mW _ _ _=res;by_cases aj:res= .no
   .rw[aj];trivial
   obtain⟨aq,ai,a1,t0,a6,bp,bk,J,aR,A⟩:=E1 br λe=>aj e.symm;obtain⟨ag,aU,bg,u,_⟩:=H.loop aR B;have key:aq≠.busy->(af.g8 (st.ae+1) (.loop .exhausted ai a1 t0 a6 bp bk J) λst=>bq ai (λe=>cN.out e bt st)<|.out .norm bt st)=res->fY X b aN bf (lone (b.at a<|.code (.rangeFunc f a7 an av)::k) (bf o.cQ) w) k o ad w res:=by
    intro bF aC;rw[ja]at aC;have bm:(Instr.endLoop<|w.heap.size+1).run X.P w'= .ok ag.pending (w'.putObj (w.heap.size+1)<|.loop {ag with state:=.exhausted}):=run_endLoop aU (by rwa [bg]);obtain⟨W,I⟩:=H.JQ aR B aU .exhausted ai ag.pending u;have R:=(Steps.head aQ M).trans<|.one<|acP (b:=b) (a:=K) (k:=k) (cs:=bf o.cQ) bm;have aa:=(S.trans a').trans I;have aw:=aJ.mono a'.le;cases ai with
    |none=>
     cases hp:ag.pending with
     |some _=>rw[hp]at u;exact u.elim
     |none=>
      rw[<-aC];rw[hp]at R W aa;exact⟨aF,K,_,aw,W,aa,G,z,R⟩
    |some e=>
     rw[<-aC];cases hp:ag.pending with
     |none=>rw[hp]at u;cases e<;>exact u.elim
     |some di=>
      rw[hp]at u R W aa;cases e with
      |norm=>cases di<;>exact u.elim
      |aV v=>cases di<;>exact u.elim
      |exit i=>
       cases di with
       |exit bC=>
        cases u;exact⟨aF,K,_,aw,W,aa,G,z,k,j,R⟩
       |_=>exact u.elim
      |ret=>
       cases di with
       |ret=>exact⟨aF,K,_,aw,W,aa,G,z,k,R⟩
       |_=>exact u.elim
   cases aq with
   |ready=>exact key au A
   |busy=>exact absurd A.symm aj
   |done=>exact key au A
   |exhausted=>exact absurd A.symm aj
end Go.bC
namespace Go.bC
variable{X:Ctx}
def k0(X:Ctx)(aL:ao cX):Prop:=∀f a4,aL.get f=some a4->∃Fn c,wN X f a4 Fn c
def sf(X:Ctx)(gl:oc):Prop:=
 ∀(f:d7) (as:ac bv) (st:ak) (r:dY),gl f as st=some r->∀(ad:bH) (Y:ac bv) (w:f5),bI ad as Y->bQ X ad st w->r≠.no->
  (∀as w,(callFunc f as).run X.P w= .ok (.enter f as) w)/\
  ∀(K:CallKind) (bf:Bool->ac Frame),ju ⟨f,K,none⟩ none ad bf->hn X ad w ⟨f,K,none⟩ bf (lone (Frame.enter X.P f Y.toArray K) (bf false) w) r
def o4(aL:ao cX)(gl:oc)(n:Nat)(f:d7)(first M:bi bv)(args:ac bv)(aV:be bv)(st:ak):
 cg aL gl (n+1) (.func (.func f) first M) args aV st=
  bq aV (λ_=>bq (aL.get f) (λa4=>iF (cg aL gl n) n f a4 (fr first.toList (fr args M.toList)) aV st) .no)
   (bq (gl f (fr first.toList (fr args M.toList)) st) (λr=>r)<|bq (aL.get f) (λa4=>iF (cg aL gl n) n f a4 (fr first.toList (fr args M.toList)) aV st) .no):=rfl
theorem acQ{aL:ao cX}{gl:oc}(D:Good X)(R:k0 X aL)(S:sf X gl){n:Nat}(a':wM X (cg aL gl n))(aa:m4 X (cg aL gl n)):wM X (cg aL gl<|n+1):=by
 intro ad f first M args aV st d h H w Y G A hw u
 rw[o4]at u⊢;simp only[pS]at u⊢;have y:=Y.append<|G.append A;have J:(d.toList++(H++h.toList)).toArray=d++H.toArray++h:=by grind
 have s:∀{K:CallKind} {bf:Bool->ac Frame} (a4:cX),aL.get f=some a4->ju ⟨f,K,none⟩ aV ad bf->
  hn X ad w ⟨f,K,none⟩ bf (lone (Frame.enter X.P f (d++H.toArray++h) K) (bf false) w) (iF (cg aL gl n) n f a4 (first.toList++(args++M.toList)) aV st):=by
  intro K bf a4 O I;obtain⟨Fn,c,ok⟩:=R f a4 O
  grind [JP,uJ]
 have C:∀a4,aL.get f=some a4->∀as w,(callFunc f as).run X.P w= .ok (.enter f as) w:=by
  intro a4 O as w;obtain⟨Fn,c,ok⟩:=R f a4 O;exact ok.enters as w
 cases aV with
 |some g=>
  cases O:aL.get f with
  |none=>rw[O]at u;exact absurd j u
  |some a4=>exact⟨C a4 O,λK bf I=>s a4 O I⟩
 |none=>
  cases z:gl f (first.toList++(args++M.toList)) st with
  |some r=>
   rw[z]at u;obtain⟨W,B⟩:=S f _ st r z ad _ w y hw u;refine⟨W,λK bf I=>?_⟩;have:=B K bf I
   rwa [J]at this
  |none=>
   cases O:aL.get f with
   |none=>rw[z,O]at u;exact absurd j u
   |some a4=>exact⟨C a4 O,λK bf I=>s a4 O I⟩
def hn.out{ad:bH}{w:f5}{f:d7}{c:Frame}{cs:ac Frame}{eg:Frame}{r:dY}(h:hn X ad w ⟨f,.normal,none⟩ (λ_=>c::cs) (lone eg (c::cs) w) r):EP X ad w eg c cs r:=by
 cases r with
 |no=>trivial
 |ret v st R=>
  have⟨aF,y,w',F,Y,G,A,d,C,H,M⟩:=h;have⟨W,I,fn,a0,cJ⟩:=H;exact⟨aF,y,w',Y,G,A,Steps.trans M<|.one<|step_leave_returned ⟨W,I,d,fn,a0,cJ⟩⟩
 |aV v st R=>
  have⟨aF,y,w',F,Y,G,A,d,C,H,M⟩:=h;exact⟨aF,y,w',Y,G,A,Steps.trans M<|.one<|step_leave_panicked H⟩
theorem uK{aL:ao cX}{gl:oc}(D:Good X)(I:k0 X aL)(S:sf X gl):∀n,wM X (cg aL gl n)/\m4 X (cg aL gl n)
 |0=>⟨λad f first M args aV st d h H w _ _ _ _ u=>absurd j u,λad G args st K H w _ _ _ u=>absurd j u⟩
 |n+1=>by
  obtain⟨aC,aI⟩:=uK D I S n;have A:=acQ D I S aC aI;exact⟨A,(by
   intro ad G args st K H w s Y a' u;obtain⟨fn,first,M,rfl,_⟩:=Jd (r:=cg aL gl (n+1) G args none st) j λe=>u e.symm;cases s with
   |func _ J _ aP _ aa O B C aq g=>
    cases fn with
    |func f=>
     rcases O with⟨rfl,_⟩|⟨l,b,aC,_⟩
     .obtain⟨ak,aj⟩:=A ad f first M args none st aP aa H w (bI.uy B C) Y (bI.uy aq g) a' u
      refine⟨Frame.enter X.P f (aP++H.toArray++aa) .normal,.enter f _ ?_,λc cs=>hn.out<|aj .normal (λ_=>c::cs) λF R ag=>?_⟩
      .simp only[Sem.run_bind];exact ak _ _
      .have W:=ag;simp[tryRecover,W]
     .cases aC
    |yield l=>
     have ab:first.toList=[]:=by
      cases ah:first.toList with
      |nil=>rfl
      |cons x xs=>
       simp_all
     have ar:M.toList=[]:=by
      cases ah:M.toList with
      |nil=>rfl
      |cons x xs=>
       simp_all
     have ai:cg aL gl (n+1) (.func (.yield l) first M) args none st=wy (cg aL gl n) n l args st:=by
      show List.rec (motive:=λ_=>dY) (List.rec _ _ M.toList) _ first.toList=_
      rw[ab,ar];rfl
     rcases O with⟨_,z⟩|⟨au,b,aC,aI,A⟩
     .exact absurd j<|z l
     .cases aC;subst aI;rw[ai]at u⊢;obtain⟨fn,aA,ec,body,af,y⟩:=acM D aI (λb aN bf=>uJ aI b aN bf) A Y a' u;refine⟨_,.round b fn aA ec body ?_,y⟩;have an:aP= #[]:=by
       grind
      simp[Deferred.ofValue,invoke,an];simpa using af
    |_=>exact absurd j u)⟩
end Go.bC
namespace Go.bC
variable{α:Type}
def ao.sub(eq:α->α->Bool):ao α->ao α->Bool
 |.nil,_=>true
 |.node l v r,.nil=>v.isNone&&ao.sub eq l .nil&&ao.sub eq r .nil
 |.node l v r,.node bo bE O=>(match v,bE with|none,_=>true|some x,some y=>eq x y|some _,none=>false)&&ao.sub eq l bo&&ao.sub eq r O
theorem ao.BG{eq:α->α->Bool}(he:∀x y,eq x y=true->x=y):∀(a b:ao α),ao.sub eq a b=true->∀n x,a.get n=some x->b.get n=some x
 |.nil,_,_,n,x,h=>by simp at h
 |.node l v r,.nil,M,n,x,h=>by
  simp[ao.sub,c1]at M;exfalso;cases n with
  |zero=>rw[ao.Ej]at h;rw[h]at M;simp at M
  |succ m=>
   rw[ao.o0]at h;split at h
   .have:=ao.BG he l .nil M.1.2 _ x h;simp at this
   .have:=ao.BG he r .nil M.2 _ x h;simp at this
 |.node l v r,.node bo d O,M,n,x,h=>by
  simp[ao.sub,c1]at M;cases n with
  |zero=>
   rw[ao.Ej]at h⊢
   grind
  |succ m=>
   rw[ao.o0]at h⊢;split at h
   .rw[aD pT];exact ao.BG he l bo M.1.2 _ x h
   .rw[av pT];exact ao.BG he r O M.2 _ x h
def yW:ac f7->ac f7->Bool
 |[],[]=>true
 |e::es,f::bS=>dC e.key f.key&&dC e.val f.val&&Nat.beq e.born f.born&&yW es bS
 |_,_=>false
theorem Qe:∀(es bS:ac f7),yW es bS=true->es=bS
 |[],[],_=>rfl
 |e::es,f::bS,h=>by
  simp only[yW,c1]at h;have⟨⟨⟨aC,aI⟩,A⟩,d⟩:=h;cases e;rw[Qe es bS d];simp only at aC aI A;rw[j2 _ _ aC,j2 _ _ aI,dB A]
 |[],_::_,h=>by simp[yW]at h
 |_::_,[],h=>by simp[yW]at h
def E2:bx->bx->Bool
 |.map es c,.map eO cR=>Nat.beq c cR&&yW es eO
 |.cells cs e I aR,.cells R G y O=>Nat.beq e G&&Nat.beq I.1 y.1&&Nat.beq I.2 y.2&&(aR==O)&&oW cs R
 |.j1 none,.j1 none=>true
 |.j1 (some []),.j1 (some [])=>true
 |.dead,.dead=>true
 |_,_=>false
def acR(x y:bx)(h:E2 x y=true):x=y:=by
 unfold E2 at h;split at h
 .rw[c1]at h;rw[dB h.1,Qe _ _ h.2]
 .simp only[c1]at h;have⟨⟨⟨⟨Y,G⟩,A⟩,d⟩,C⟩:=h;rename_i I _ _ _ g _;rw[dB Y,(Prod.ext (dB G)<|dB A),AR _ _ C,Aw d]
 .rfl
 .rfl
 .rfl
 .cases h
def ak.le(s t:ak):Prop:=s.ae=t.ae/\∀n U,s.h.get n=some U->t.h.get n=some U
variable{t:ak}
def ak.E3(s t:ak):Bool:=Nat.beq s.ae t.ae&&ao.sub E2 s.h t.h
def ak.acS{s:ak}(h:ak.E3 s t=true):ak.le s t:=by
 rw[ak.E3]at h;rw[c1]at h;exact⟨dB h.1,ao.BG acR _ _ h.2⟩
theorem bQ.less{X:Ctx}{ad:bH}{s:ak}{w:f5}(aB:ak.le s t)(h:bQ X ad t w):bQ X ad s w:=by
 refine⟨λid U j g=>h.eB id U (aB.2 _ _ j) g,λi J U p l m af Y u d=>h.inj i J U p l m (aB.2 _ _ af) Y (aB.2 _ _ u) d,λid H=>?_,h.fK,h.kB,?_,λi l U W M j g=>h.km i l U W M (aB.2 _ _ j) g⟩
 .have:=h.fresh id (by rwa [<-aB.1]);refine⟨this.1,?_⟩;cases e:s.h.get id with
  |none=>rfl
  |some U=>rw[aB.2 _ _ e]at this;cases this.2
 .rw[aB.1];exact h.m0
structure Row where
 as:ac bv
 st:ak
 v:bv
 al:ak
def Row.o5(r:Row)(as:ac bv)(st:ak):Bool:=Nat.beq r.st.ae st.ae&&oW r.as as&&ao.sub E2 r.st.h st.h
variable{X:Ctx}
def e8(X:Ctx)(f:d7)(r:Row):Prop:=
 ∀(ad:bH) (Y:ac bv) (w:f5),bI ad r.as Y->bQ X ad r.st w->
  (∀as w,(callFunc f as).run X.P w= .ok (.enter f as) w)/\
  ∀(K:CallKind) (bf:Bool->ac Frame),ju ⟨f,K,none⟩ none ad bf->hn X ad w ⟨f,K,none⟩ bf (lone (Frame.enter X.P f Y.toArray K) (bf false) w) (.ret r.v r.al false)
variable{v:bv}{al:ak}
def ew(r:dY)(v:bv)(al:ak):Bool:=
 dY.rec (motive:=λ_=>Bool) (λv1 C R=>cond R false<|cond (dC v v1) (ak.E3 al C) false) (λ_ _ _=>false) false r
theorem hn.less{ad:bH}{w:f5}{b:dR}{bf:Bool->ac Frame}{s:Machine}{st:ak}{R:Bool}(aB:ak.le al st)(h:hn X ad w b bf s (.ret v st R)):hn X ad w b bf s (.ret v al R):=by
 have⟨aF,y,w',F,Y,G,A,d,C,H,M⟩:=h;exact⟨aF,y,w',F,Y,bQ.less aB G,A,d,C,H,M⟩
def acT{r:dY}(h:ew r v al=true):∃b8,r= .ret v b8 false/\ak.le al b8:=by
 cases r with
 |no=>cases h
 |aV a b c=>cases h
 |ret v1 b8 R=>
  cases R with
  |true=>cases h
  |false=>
   have D:cond (dC v v1) (ak.E3 al b8) false=true:=h;cases S:dC v v1 with
   |false=>rw[S]at D;cases D
   |true=>
    rw[S]at D;exact⟨b8,by rw[j2 _ _ S],ak.acS D⟩
theorem Qf{aL:ao cX}{gl:oc}(D:Good X)(j:k0 X aL)(S:sf X gl){n:Nat}{f:d7}{r:Row}
 (h:ew (cg aL gl n (.func (.func f) #[] #[]) r.as none r.st) r.v r.al=true):e8 X f r:=by
 have⟨b8,he,aB⟩:=acT h;intro ad ho w bR d;have M:=(uK D j S n).1 ad f #[] #[] r.as none r.st #[] #[] ho w (bI.nil ad) bR (bI.nil ad) d<|by grind
 grind [hn.less]
end Go.bC
namespace Go.bC
variable{X:Ctx}
def wO(o:aK)(st:ak)(Y id D:Nat)(seen:ac Nat)(left:ac f7):ac a2:=
 match left with
 |[]=>[.ok (.tuple #[.bool false]) o st]
 |left=>left.map λe=>.ok (.tuple #[.bool true,e.key,e.val]) o ⟨st.h.set Y<|.nr (some id) D (seen++[e.born]) D,st.ae⟩
def oo(o:aK)(st:ak)(Y:ce):ac a2:=
 hG (o.ar Y) (λp=>bq p (λa=>bq a.spot (λ_=>[.no]) (dL a.off 0 (A2 (st.h.get a.block) (λm D g O=>
  bq m (λid=>jH (st.h.get id) (λes d=>dL D d (dL O d (cond (g.all λs=>Nat.ble (Nat.succ s) d)
   (wO o st a.block id D g<|es.filter λe=> !g.any (Nat.beq e.born)) [.no]) [.no]) [.no]) [.no]) [.ok (.tuple #[.bool false]) o st]) [.no]) [.no])) [.no]) [.no]
section
variable{ad:bH}{o bt:aK}{a:Act}{aN:Nat}{st al:ak}{w:f5}{U:Oper}{v:bv}{call:bN}
def choose_lt(P:f8)(w:f5)(n:Nat)(aj:0<n):∃c w',(choose<|.mapNext n).run P w= .ok c w'/\c<n/\w'.heap=w.heap/\qN w w':=by
 rw[run_choose];by_cases h:(Question.mapNext n).forced=true
 .rw[aD h];exact⟨0,w,j,aj,j,fe⟩
 .rw[av h];exact⟨_,_,j,eY _ aj,j,fe⟩
def E4(left:bi f7):bi (be f7):=(if left.isEmpty then#[none]else#[])++(left++ #[]).map some
theorem acU(left:bi f7):0<(E4 left).size/\∀q∈E4 left,(q=none/\left= #[])\/∃e∈left,q=some e:=by
 rw[E4]
 grind
theorem acV{Y:ce}(af:gk X.a3 Y=true)(aJ:U.op= .next Y false)(av:eZ ad o a aN)(aa:bQ X ad st w)(h:∀r∈oo o st Y,r≠.no):
 ∃v al bE w',a2.ok v o al∈oo o st Y/\(execOp a.eval U).run X.P w= .ok (.value bE) w'/\bd ad v bE/\bQ X ad al w'/\eb ad ad w w':=by
 have u:[a2.no]≠oo o st Y:=λe=>h .no (by rw[<-e];simp) j;obtain⟨p,hp,bp⟩:=A8 (r:=oo o st Y) j u;obtain⟨cc,bM,a1⟩:=ie bp u;obtain⟨M,a0⟩:=yE a1 λ_=>u;obtain⟨bs,cJ⟩:=kA a0 u;obtain⟨m,bZ,a',O,aE,c2⟩:=Ps cJ u;have aA:=av.ar aa af;rw[hp,bM]at aA;generalize aD:a.eval Y=p0 at aA;obtain⟨l,B,aO,bm,bU,aY,g,aU,I,aB⟩:=aa.eB _ _ aE au;cases aA with
 |ptr _ bo W bX=>
  rw[B]at W;cases W;have H:l.de+cc.off=0:=by rw[aO,bs]
  cases m with
  |none=>
   rcases aB with⟨_,rfl⟩|⟨r,b,bF,S,_⟩
   .have eC:[a2.ok (.tuple #[.bool false]) o st]=oo o st Y:=c2;refine⟨.tuple #[.bool false],st,.tuple #[.bool false],w,by rw[<-eC];simp,?_,bd.qM<|bI.cons (.bool _)<|bI.nil ad,aa,.refl ad w⟩;unfold execOp;rw[aJ];simp only[aD,H,Instr.next,Sem.run_bind,JF I,Result.andThen,Sem.run_pure]
   .cases S
  |some id=>
   obtain⟨es,bT,d,fv⟩:=JE c2 u;obtain⟨S,lu⟩:=kA fv u;obtain⟨z,oh⟩:=kA lu u;obtain⟨bg,qP⟩:=jr oh u;rcases aB with⟨bA,_⟩|⟨r,b,bF,bh,bk,aK,aL,aw,bl⟩
   .cases bA
   cases bh;subst bk S z;obtain⟨bY,aS,bN,bW,C,cR,bu,D⟩:=aa.eB _ _ d au;rw[aS]at aK;cases aK;have D:jL ad bF es O C.toList cR:=D;have bG:cR=aY:=by rw[D.js,aL]
   have bD:cR=aU:=R
   subst bG bD;obtain⟨L,az,G,J⟩:=D.same;have bc:∀x∈C.toList,x.born<cR:=by
    intro x aC;obtain⟨i,A,rfl⟩:=mf aC;have ab:i<L.length:=R
    rw[(J i ab A).2.2,D.js];exact D.mZ.lt _<|D.born _<|az.mem_iff.1<|dH ab
   have bK:∀s∈a',s<O:=by
    intro s M;have:=ia.1 bg s M;exact lQ.1 this
   have bb:∀e∈es,g.contains (bF e.born)=a'.any (Nat.beq e.born):=by
    intro e ax;rw[pC,List.any_eq_true];constructor
    .intro bz;have:bF e.born∈g.toList:=by simpa using bz
     rw[aw]at this;obtain⟨s,M,aV⟩:=da.1 this;exact ar8 ar8
    .rintro⟨s,M,bw⟩;have:bF e.born∈g.toList:=by rw[aw,(dB bw)];exact da.2 ⟨s,M,j⟩
     exact apE
   obtain⟨left,aH⟩:∃left,left=C.filter (λe=> !g.contains e.born):=dN;have hold:left.filter (λe=>decide (e.born<cR))=left:=by
    rw[Array.filter_eq_self]
    grind
   have bB:left.filter (λe=>decide (e.born>=cR))= #[]:=by
    rw[Array.filter_eq_empty_iff]
    grind
   have ba:(!g.isEmpty&& !C.isEmpty&&C.all λe=>decide (e.born>=cR))=false:=by
    cases ak:C.toList with
    |nil=>have:C= #[]:=by simpa using ak
          subst this;simp
    |cons x xs=>
     have aC:=bc x<|by rw[ak];simp
     grind
   obtain⟨aR,aM⟩:=acU left;generalize aX:E4 left=ah at aR aM;obtain⟨ff,eJ,bC,aW,ai,aI⟩:=choose_lt X.P w ah.size aR;have a9:eJ.heap[l.cx]? =some (.mapIter (some b) cR g cR):=by rw[ai];exact I
   have aj:(execOp a.eval U).run X.P w=(match ah[ff]? with
    |some (some e)=>.ok (.value<|.tuple #[.bool true,e.key,e.val]) {eJ with heap:=eJ.heap.setIfInBounds l.cx<|.mapIter (some b) cR (g.push e.born) cR}
    |some none=>.ok (.value<|.tuple #[.bool false]) eJ
    |none=>.halt (.stuck "Next: no such candidate") eJ):=by
    unfold execOp;rw[aJ];simp only[aD,H,Instr.next,Sem.run_bind,JF I,Result.andThen,MapKept.run_getObj_map bu,ba,qp,if_false];rw[<-aH,hold,bB];have b':(if left.isEmpty then#[none]else#[])++(left++ #[]).map some=ah:=aX;simp only[b',bC];cases ay:ah[ff]? with
    |none=>simp
    |some q=>
     cases q with
     |none=>simp
     |some e=>simp[ab6 _ a9]
   rw[(vN aW)]at aj;have aq:=Array.getElem_mem aW;cases ay:ah[ff]with
   |none=>
    rw[ay]at aj aq;have ak:left= #[]:=by
     rcases aM none aq with⟨_,h⟩|⟨e,_,h⟩
     .exact h
     .cases h
    have aZ:es.filter (λe=> !a'.any (Nat.beq e.born))=[]:=by
     rw[List.filter_eq_nil_iff];intro e ax;obtain⟨i,A,aQ⟩:=mf<|az.mem_iff.2 ax;have ab:i<C.toList.length:=R
     have bS:C.toList[i]∉left.toList:=by
      rw[ak];simp
     grind
    rw[aZ]at qP;have uE:[a2.ok (.tuple #[.bool false]) o st]=oo o st Y:=qP;exact⟨.tuple #[.bool false],st,.tuple #[.bool false],eJ,by rw[<-uE];simp,aj,bd.qM<|bI.cons (.bool _)<|bI.nil ad,aa.uz X ai,.uz ad ai aI⟩
   |some e=>
    rw[ay]at aj aq;have bL:e∈left:=by
     grind
    obtain⟨br,bH⟩:=Array.mem_filter.1<|aH▸bL;obtain⟨i,A,aQ⟩:=mf (show e∈C.toList by simpa using br);have ab:i<L.length:=R
    have y:=J i ab A;rw[aQ]at y;have aG:=az.mem_iff.1<|dH ab;have bq:L[i]∈es.filter (λe=> !a'.any (Nat.beq e.born)):=by
     rw[rO];refine⟨aG,?_⟩;rw[<-bb _ aG,<-y.2.2];exact bH
    have uE:(es.filter λe=> !a'.any (Nat.beq e.born)).map (λe=>a2.ok (.tuple #[.bool true,e.key,e.val]) o ⟨st.h.set cc.block<|.nr (some id) O (a'++[e.born]) O,st.ae⟩)=oo o st Y:=by
     rw[<-qP];unfold wO
     grind
    obtain⟨bJ,K⟩:=bQ.yJ X (aa.uz X ai) aE au (λav=>av) B (.nr (some id) O (a'++[L[i].born]) O) (.mapIter (some b) cR (g.push e.born) cR)
     {eJ with heap:=eJ.heap.setIfInBounds l.cx<|.mapIter (some b) cR (g.push e.born) cR} rfl
     (λ_ a5=>⟨aO,bm,_,_,_,_,a5,.inr ⟨id,b,bF,j,j,aS,aL,by simp[aw,y.2.2],bl⟩⟩)
    refine⟨.tuple #[.bool true,L[i].key,L[i].val],_,.tuple #[.bool true,e.key,e.val],_,?_,aj,bd.qM<|bI.cons (.bool _)<|bI.cons y.1<|bI.cons y.2.1<|bI.nil ad,bJ,(eb.uz ad ai aI).trans K⟩;rw[<-uE];exact da.2 ⟨L[i],bq,j⟩
end
def o6(k:aK->ak->ac cN)(r:cN):ac cN:=
 cN.rec (motive:=λ_=>ac cN) (λe o st=>c6.rec (motive:=λ_=>ac cN) (k o st) (λi=>[.out (.exit i) o st]) [.out .ret o st] (λv=>[.out (.aV v) o st]) e) [.no] r
def tg(e:aK->ak->ac cN):Nat->aK->ak->ac cN
 |0,_,_=>[.no]
 |n+1,o,st=>(e o st).flatMap<|o6<|tg e n
def E5(call:bN)(d:be Tmp)(ops:ac bj)(r:a2):cN:=
 a2.rec (motive:=λ_=>cN) (λv o st=>gh call ops (o.put d v) st) (λ_ _=>.no) .no r
def gU(call:bN)(a6:Nat)(fn:d7):du->aK->ak->ac cN
 |.gg (⟨d,.ext<|.n7 Y,none⟩::ops),o,st=>(oo o st Y).map (E5 call d ops)
 |.seq a b,o,st=>(gU call a6 fn a o st).flatMap (o6<|gU call a6 fn b)
 |.cond c a b,o,st=>kj (o.ar c) (λt=>cond t (gU call a6 fn a o st)<|gU call a6 fn b o st) [.no]
 |.block i a,o,st=>(gU call a6 fn a o st).map (pP i)
 |.loop a,o,st=>tg (gU call a6 fn a) a6 o st
 |.scope a,o,st=>gU call a6 fn a o st
 |c,o,st=>[db call a6 fn c o st]
section
variable{aN:Nat}{ad:bH}{o bt:aK}{a:Act}{st al:ak}{w:f5}{v:bv}{call:bN}{b:dR}{bf:Bool->ac Frame}
def iQ(X:Ctx)(b:dR)(aN:Nat)(bf:Bool->ac Frame)(s:Machine)(k:ac Item)(o:aK)(ad:bH)(w:f5)(L:ac cN):Prop:=
 (∀r∈L,r≠.no)->∃r∈L,fY X b aN bf s k o ad w r
variable{k:ac Item}
def iQ.head{s O:Machine}{aF:bH}{w':f5}{L:ac cN}(h:Steps X.P s O)(aw:eb ad aF w w')(hp:bt.aV=o.aV)(I:bt.b4=o.b4)(D:iQ X b aN bf O k bt aF w' L):iQ X b aN bf s k o ad w L:=by
 intro aj;have⟨r,d,z⟩:=D aj;exact⟨r,d,fY.head h aw hp I z⟩
def iQ.one{s:Machine}{r:cN}(h:fY X b aN bf s k o ad w r):iQ X b aN bf s k o ad w [r]:=λ_=>⟨r,au,h⟩
def iQ.then{s:Machine}{D:ac Item}{L:ac cN}{g:aK->ak->ac cN}(u:∀id,exitTo id k=exitTo id D)(h:iQ X b aN bf s k o ad w L)
 (O:∀aF dm w' bt al,eZ aF bt dm aN->bQ X aF al w'->eb ad aF w w'->bt.aV=o.aV->bt.b4=o.b4->iQ X b aN bf (lone (b.at dm k) (bf bt.cQ) w') D bt aF w' (g bt al)):iQ X b aN bf s D o ad w (L.flatMap<|o6 g):=by
 intro aj;have J:∀r∈L,r≠.no:=by
  intro r I e;subst e;exact aj .no (sQ.2 ⟨.no,I,by simp[o6]⟩) j
 have⟨r,d,z⟩:=h J;cases r with
 |no=>exact absurd j (J _ d)
 |out e bt al=>
  have⟨aF,dm,w',Y,G,A,y,C,H⟩:=z;cases e with
  |norm=>
   have⟨q,B,S⟩:=O aF dm w' bt al Y G A y C λr I=>aj r<|sQ.2 ⟨_,d,I⟩;exact⟨q,sQ.2 ⟨_,d,B⟩,fY.head H A y C S⟩
  |exit id=>
   have⟨R,M,W⟩:=H;exact⟨.out (.exit id) bt al,sQ.2 ⟨_,d,by simp[o6]⟩,aF,dm,w',Y,G,A,y,C,R,M.trans<|u id,W⟩
  |ret=>exact⟨.out .ret bt al,sQ.2 ⟨_,d,by simp[o6]⟩,aF,dm,w',Y,G,A,y,C,H⟩
  |aV v=>exact⟨.out (.aV v) bt al,sQ.2 ⟨_,d,by simp[o6]⟩,aF,dm,w',Y,G,A,y,C,H⟩
def acW(L:ac cN):L.flatMap (o6 λo st=>[.out .norm o st])=L:=by
 induction L with
 |nil=>rfl
 |cons r L I=>
  rw[ub,I];cases r with
  |no=>rfl
  |out e o st=>cases e<;>rfl
theorem acX(ai:m4 X call){ops:bi Oper}{d:be Tmp}{Y:ce}{xs:ac bj}(G:xs.length+1=ops.size)(aa:∀(J:Nat) (x:bj) (U:Oper),(⟨d,.ext<|.n7 Y,none⟩::xs:ac bj)[J]? =some x->ops[J]? =some U->lT X aN ops x U=true)
 (D:eZ ad o a aN) (aq:bQ X ad st w) (ay:oi ad o.b4 b.b4) (I:ju b o.aV ad bf):
 iQ X b aN bf (lone (b.at a<|.inRegion ops (List.range ops.size)::k) (bf o.cQ) w) k o ad w ((oo o st Y).map<|E5 call d xs):=by
 intro aj;have aW:0<ops.size:=R
 have a':=vN aW;have K:=aa 0 _ ops[0] j a';have ah:ops[0].guard=none:=by
  unfold lT at K
  grind
 have ak:Region.wanted ops[0] (yielded ops a.tmps)=true:=by
  unfold Region.wanted;rw[ah]
 have C:∃g,ops[0].op= .next g false/\c9 X.a3 Y g=true:=by
  have M:Bt X.P X.a3 X.keys X.pV X.eqs X.pW X.lS ops[0].op (.n7 Y)=true:=Bx K;unfold Bt at M
  grind
 obtain⟨g,u,o5⟩:=C;obtain⟨rfl,af⟩:=sb o5;obtain⟨v,al,y,w',av,aw,S,H,M⟩:=acV af u D aq (λr I e=>by
  subst e;exact aj (E5 call d xs .no) (da.2 ⟨_,I,j⟩) j)
 obtain⟨h,ar⟩:=ER K;have z:List.range ops.size=0::(List.range xs.length).map (· +1):=by
  rw[<-G,Dw]
 have A:b.b4=none\/∀c,ops[0].op≠.defer c:=.inr (by rw[u];simp);refine⟨_,da.2 ⟨_,av,j⟩,?_⟩;rw[z];obtain⟨W,cA,dG,gT⟩:=tc o d v;have ab:=ET (k:=k) ai xs ((List.range xs.length).map (· +1)) ad (o.put d v) (a.put ops[0].dst y) al w' au (λJ x i O af=>by
  have B:=(dP.1 O).1;have e:i=J+1:=by
   grind
  subst e;have s:J+1<ops.size:=R
  exact⟨ops[J+1],vN s,aa (J+1) x _ (by simpa using O)<|vN s⟩)
  (by have:=D.put ar S;rw[<-h];exact this) H (by rw[cA];exact ay)<|by rw[W];exact I
 rw[dG]at ab;exact fY.head (.one (EN (k:=k) (cs:=bf o.cQ) (rest:=(List.range xs.length).map (· +1)) a' ak A aw)) M W cA ab
def acY(au:Good X)(ag:m4 X call)(ax:yT X call b aN bf)(av:∃F,X.P.funcs[b.fn]? =some F/\F.ntmps=aN)(a6:Nat):∀(u:du) (c:Code) (ad:bH) (o:aK) (a:Act) (st:ak) (w:f5) (k:ac Item),codeOk X aN u c=true->
 eZ ad o a aN->bQ X ad st w->oi ad o.b4 b.b4->ju b o.aV ad bf->
 iQ X b aN bf (lone (b.at a<|.code c::k) (bf o.cQ) w) k o ad w (gU call a6 b.fn u o st):=by
 intro u;have s:=
  λc ad o a st w k u W D a' C I=>iQ.one (E0 au ag ax av a6 u c ad o a st w k W D a' C I)
 induction u with
 |skip=>intro c ad o a st w k W D a' C I;exact s c ad o a st w k .skip W D a' C I
 |gg xs=>
  intro c ad o a st w k W D a' C I;unfold gU;split
  .rename_i d az ay M;cases M;cases c with
   |region id ops g=>
    cases g with
    |true=>cases W
    |false=>
     obtain⟨Y,G⟩:=JN W;refine iQ.head (.one PE) mr j j (acX ag R (λJ x U O af=>G J x U O atK) D a' C I)
   |_=>cases W
  all_goals first
   |exact s c ad _ a _ w k _ W D a' C I
   |(rename_i M;cases M)
 |qE L cz fc ms=>intro c ad o a st w k W D a' C I;exact s c ad o a st w k (.qE L cz fc ms) W D a' C I
 |seq x y ai h=>
  intro c ad o a st w k W D a' C I;cases c with
  |seq c d=>
   have W:(codeOk X aN x c&&codeOk X aN y d)=true:=W;rw[c1]at W;refine iQ.head (.one Pz) mr j j<|iQ.then (k:=.code d::k) (λid=>j) (ai c ad o a st w (.code d::k) W.1 D a' C I) λaF K w' bt al A H ab hp aj=>?_;exact h d aF bt K al w' k W.2 A H aqY aqX
  |_=>cases W
 |cond x y z h aq=>
  intro c ad o a st w k W D a' C I;cases c with
  |cond U c d=>
   have W:(c9 X.a3 x U&&codeOk X aN y c&&codeOk X aN z d)=true:=W;simp at W;obtain⟨rfl,af⟩:=sb W.1.1;show iQ X b aN bf _ k o ad w (kj (o.ar x) (λt=>_root_.cond t (gU call a6 b.fn y o st)<|gU call a6 b.fn z o st) [.no]);have S:=D.ar a' af;generalize B:a.eval x=kn at S;generalize o.ar x=v at S;cases v with
   |bool t=>
    cases S;cases t with
    |true=>exact iQ.head (.one<|EL B) mr j j (h c ad o a st w k W.1.2 D a' C I)
    |false=>exact iQ.head (.one<|EL B) mr j j (aq d ad o a st w k W.2 D a' C I)
   |_=>exactλaj=>absurd j (aj .no<|by simp[kj])
  |_=>cases W
 |block i x aa=>
  intro c ad o a st w k W D a' C I;cases c with
  |block J c=>
   have W:(Nat.beq i J&&codeOk X aN x c)=true:=W;rw[c1]at W;cases pY W.1;have Y:=aa c ad o a st w (.inBlock i::k) W.2 D a' C I;apply iQ.head (.one PA) mr j j;intro aj;obtain⟨r,aw,Y⟩:=Y (λr I e=>by subst e;exact aj (pP i .no) (da.2 ⟨_,I,j⟩) j);exact⟨pP i r,da.2 ⟨_,aw,j⟩,Y.cx⟩
  |_=>cases W
 |loop x aa=>
  intro c ad o a st w k W D a' C I;cases c with
  |loop c=>
   have key:∀(n:Nat) (ad:bH) o a st w,eZ ad o a aN->bQ X ad st w->oi ad o.b4 b.b4->ju b o.aV ad bf->
    iQ X b aN bf (lone (b.at a<|.code c:: .inLoop c::k) (bf o.cQ) w) k o ad w (tg (gU call a6 b.fn x) n o st):=by
    intro n
    induction n with
    |zero=>intros;exactλaj=>absurd j (aj .no<|by simp[tg])
    |succ n ah=>
     intro ad o a st w D a' C I;exact iQ.then (k:=.inLoop c::k) (λid=>j) (aa c ad o a st w (.inLoop c::k) W D a' C I) λaF K w' bt al A H ab hp aj=>(iQ.head (.one PC) mr j j<|ah aF bt K al w' A H aqY aqX)
   exact iQ.head (.one PB) mr j j (key a6 ad o a st w D a' C I)
  |_=>cases W
 |uq f a7 ec body _ _=>intro c ad o a st w k W D a' C I;exact s c ad o a st w k (.uq f a7 ec body) W D a' C I
 |exit i=>intro c ad o a st w k W D a' C I;exact s c ad o a st w k (.exit i) W D a' C I
 |scope x aa=>
  intro c ad o a st w k W D a' C I;cases c with
  |scope c=>
   refine iQ.head (.one PD) mr j j ?_;show iQ X b aN bf _ k o ad w (gU call a6 b.fn x o st);rw[<-acW (gU call a6 b.fn x o st)];exact iQ.then (k:=.inScope c::k) (λid=>j) (aa c ad o a st w (.inScope c::k) W D a' C I) λaF K w' bt al A H _ _ _=>iQ.one ⟨aF,K,w',A,H,.refl _ _,j,j,.one Py⟩
  |_=>cases W
 |ret=>intro c ad o a st w k W D a' C I;exact s c ad o a st w k .ret W D a' C I
 |refuse=>intro c ad o a st w k W D a' C I;exact s c ad o a st w k .refuse W D a' C I
end
section
variable(cB:Nat->be Nat)
def E6(a b:Addr):Bool:=(cB a.block==some b.block)&&Nat.beq a.off b.off&&a.spot.isNone&&b.spot.isNone
mutual
def fR:bv->bv->Bool
 |.bool a,.bool b=>a==b
 |.int k a,.int h b=>decide (k=h)&&a==b
 |.float k a,.float h b=>decide (k=h)&&a==b
 |.string a,.string b=>a.data.toList==b.data.toList
 |.pointer none,.pointer none=>true
 |.pointer (some a),.pointer (some b)=>E6 cB a b
 |.slice none l c,.slice none bo cR=>l==bo&&c==cR
 |.slice (some a) l c,.slice (some b) bo cR=>E6 cB a b&&l==bo&&c==cR
 |.map none,.map none=>true
 |.map (some a),.map (some b)=>cB a==some b
 |.chan (some<|c+1),.chan (some<|d+1)=>Nat.beq c d
 |.func (.func f) x y,.func (.func g) u v=>f==g&&BH x u&&BH y v
 |.nilFunc,.nilFunc=>true
 |.iface t v,.iface u w=>t==u&&fR v w
 |.nilIface,.nilIface=>true
 |.agg a,.agg b=>BH a b
 |.tuple a,.tuple b=>BH a b
 |_,_=>false
def BH:bi bv->bi bv->Bool
 |⟨a⟩,⟨b⟩=>wP a b
def wP:ac bv->ac bv->Bool
 |[],[]=>true
 |a::as,b::b2=>fR a b&&wP as b2
 |_,_=>false
end
theorem JR:∀(xs aP:ac bv),wP cB xs aP=true->xs.length=aP.length/\∀(i:Nat) (h:i<xs.length) (D:i<aP.length),fR cB xs[i] aP[i]=true
 |[],[],_=>arE
 |x::xs,y::aP,h=>by
  simp[wP,c1]at h;have⟨aC,aI⟩:=JR xs aP h.2
  grind
 |[],_::_,h=>by simp[wP]at h
 |_::_,[],h=>by simp[wP]at h
theorem E7(xs aP:bi bv)(h:BH cB xs aP=true):xs.size=aP.size/\∀(i:Nat) (h:i<xs.size) (D:i<aP.size),fR cB xs[i] aP[i]=true:=by
 have⟨xs⟩:=xs;have⟨aP⟩:=aP;have⟨Y,G⟩:=JR cB xs aP h
 grind
end
def JS(cB:Nat->be Nat)(aF cO:bH):Prop:=∀i J l,cB i=some J->cO J=some l->∃bF,aF i=some {l with bF:=bF}
variable{es:ac f7}{cB:Nat->be Nat}{aF cO:bH}{eO:ac f7}{c cR js:Nat}{α:Type}
theorem Qg{a b:Addr}(h:E6 cB a b=true):cB a.block=some b.block/\a.off=b.off/\a.spot=none/\b.spot=none:=by
 rw[E6]at h
 simp_all
theorem BI(D:JS cB aF cO){u c:bv}(h:bd cO u c):∀v,fR cB v u=true->bd aF v c:=by
 induction h with
 |bool b=>intro v S;cases v<;>simp[fR]at S;rw[S];exact .bool _
 |int k n=>intro v S;cases v<;>simp[fR]at S;rw[S.1,S.2];exact .int _ _
 |float k n=>intro v S;cases v<;>simp[fR]at S;rw[S.1,S.2];exact .float _ _
 |string s=>
  intro v S;cases v<;>simp[fR]at S;rename_i O;have:O=s:=by cases O;simp_all
  rw[this];exact .string _
 |lq=>
  intro v S;cases v<;>first|(simp[fR]at S)|skip
  rename_i p;cases p<;>simp[fR]at S;exact .lq
 |ptr a l h M=>
  intro v S;cases v<;>first|(simp[fR]at S)|skip
  rename_i p;cases p<;>simp[fR]at S;rename_i K;obtain⟨Y,G,A,ai⟩:=Qg S;obtain⟨bF,a'⟩:=D _ _ _ Y h;have:=bd.ptr K _ a' A;rw[G]at this;exact this
 |kl n c=>
  intro v S;cases v<;>first|(simp[fR]at S)|skip
  rename_i p _ _;cases p<;>simp[fR]at S;rw[S.1,S.2];exact .kl _ _
 |ft a l U n c h M ah=>
  intro v S;cases v<;>first|(simp[fR]at S)|skip
  rename_i p _ _;cases p<;>simp[fR]at S;rename_i K;obtain⟨⟨an,ab⟩,z⟩:=S;obtain⟨Y,G,A,ai⟩:=Qg an;obtain⟨bF,a'⟩:=D _ _ _ Y h;subst ab z;exact bd.ft K {l with bF:=bF} U _ _ a' A (by rw[G];exact ah)
 |mX=>
  intro v S;cases v<;>first|(simp[fR]at S)|skip
  rename_i p;cases p<;>simp[fR]at S;exact .mX
 |map r b bF h=>
  intro v S;cases v<;>first|(simp[fR]at S)|skip
  rename_i p;cases p<;>simp[fR]at S;obtain⟨J,a'⟩:=D _ _ _ S h;exact .map _ b J a'
 |func f g xs aP ax ay ag Y _ A _ ar H=>
  intro v S;cases v<;>first|(simp[fR]at S)|skip
  rename_i aq av au;cases aq<;>cases f<;>simp[fR]at S;obtain⟨⟨e,aa⟩,af⟩:=S;subst e;obtain⟨B,C⟩:=E7 cB _ _ aa;obtain⟨aj,ak⟩:=E7 cB _ _ af;refine .func _ _ _ _ _ _ ?_ (B.trans Y) (λi p q=>ar i R q _<|C i p R) (aj.trans A) λi p q=>H i R q _<|ak i p R;rcases ag with⟨rfl,h⟩|⟨l,b,h,_⟩
  .exact .inl ⟨j,λl e=>by cases e⟩
  .cases h
 |nilFunc=>intro v S;cases v<;>simp[fR]at S;exact .nilFunc
 |iface t v w _ I=>
  intro y S;cases y<;>simp[fR]at S;rw[S.1];exact .iface _ _ _ (I _ S.2)
 |nilIface=>intro v S;cases v<;>simp[fR]at S;exact .nilIface
 |agg xs aP Y _ I=>
  intro v S;cases v<;>simp[fR]at S;obtain⟨B,C⟩:=E7 cB _ _ S;exact .agg _ _ (B.trans Y) (λi p q=>I i R q _<|C i p R)
 |tuple xs aP Y _ I=>
  intro v S;cases v<;>simp[fR]at S;obtain⟨B,C⟩:=E7 cB _ _ S;exact .tuple _ _ (B.trans Y) (λi p q=>I i R q _<|C i p R)
 |hZ c m h=>
  intro v S;have W:c≠0:=by intro e;rcases h with h|⟨k,h,_⟩|⟨k,h,_⟩<;>omega
  obtain⟨c,rfl⟩:∃d,c=d+1:=⟨c-1,R⟩;cases v<;>first|(simp[fR]at S)|skip
  rename_i x;cases x with
  |none=>simp[fR]at S
  |some x=>
   cases x with
   |zero=>simp[fR]at S
   |succ d=>
    rw[dB S];exact .hZ _ _ h
 |emp p c=>intro v S;cases v<;>simp[fR]at S
 |top c=>intro v S;cases v<;>simp[fR,jG]at S
def JT(cB:Nat->be Nat)(es:ac f7)(c:Nat)(eO:ac f7):Bool:=
 Nat.beq c es.length&&(es.zipIdx.all λp=>Nat.beq p.1.born p.2)&&(eO.all λe=>(ic e.key es).isSome)&&
 (es.all λe=>(match ic e.key eO with|some G=>fR cB e.key G.key&&fR cB e.val G.val|none=>false))&&
 (es.zipIdx.all λp=>es.zipIdx.all λq=>Nat.beq p.2 q.2|| !dC p.1.key q.1.key)
def BJ(es eO:ac f7)(s:Nat):Nat:=((es[s]?).bind λe=>(ic e.key eO).map (·.born)).getD 0
def sg(bF:Nat->Nat)(es:ac f7)(c:Nat)(eO:ac f7)(cR:Nat):Nat->Nat:=λs=>if s<c then bF (BJ es eO s)else bF cR+(s-c)
theorem JU(h:es.Pairwise λa b=>a.born≠b.born){a b:f7}(bR:a∈es)(ay:b∈es)(e:a.born=b.born):a=b:=by
 induction es with
 |nil=>cases bR
 |cons x xs I=>
  rw[n0]at h
  grind
def E8{k:bv}(h:es.Pairwise λa b=>a.key≠b.key){e:f7}(he:e∈es)(aw:e.key=k):ic k es=some e:=by
 cases D:ic k es with
 |none=>exact absurd aw (Bv D e he)
 |some d=>
  have⟨Y,G⟩:=yN D;rw[uniq h Y he<|G.trans aw.symm]
def nodup_keys(h:es.Pairwise λa b=>a.key≠b.key):es.Nodup:=
 h.imp λ{a b} Y e=>Y<|by rw[e]
theorem Qh{bF:Nat->Nat}{C:ac f7}(aQ:c=es.length)(aj:∀(i:Nat) (af:i<es.length),es[i].born=i)(j:es.Pairwise λa b=>a.key≠b.key)
 (an:∀e∈es,∃G,G∈eO/\G.key=e.key/\ic e.key eO=some G/\(∀u,bd cO G.key u->bd aF e.key u)/\∀u,bd cO G.val u->bd aF e.val u) (au:∀G∈eO,(ic G.key es).isSome=true) (h:jL cO bF eO cR C js):
 jL aF (sg bF es c eO cR) es c C js:=by
 have ab:∀(s:Nat) M,∃G,G∈eO/\G.key=es[s].key/\BJ es eO s=G.born:=by
  intro s M;obtain⟨G,a',aa,d,_⟩:=an es[s]<|dH M;refine⟨G,a',aa,?_⟩;rw[BJ,aO M];simp[d]
 have aW:∀s,s<c->BJ es eO s<cR:=by
  intro s M;obtain⟨G,a',_,d⟩:=ab s R;rw[d];exact h.born G a'
 have H:∀s,s<c->sg bF es c eO cR s=bF (BJ es eO s):=λs M=>aD M;have ai:∀s,c<=s->sg bF es c eO cR s=bF cR+(s-c):=λs M=>av R;obtain⟨L,hp,aA,az⟩:=h.same;have aR:∀G∈eO,∃e,e∈es/\e.key=G.key/\ic G.key es=some e:=by
  intro G ar;have:=au G ar;obtain⟨e,D⟩:=Ao.1 this;obtain⟨a',aa⟩:=yN D;exact⟨e,a',aa,D⟩
 let g:f7->f7:=λG=>(ic G.key es).getD G
 have O:∀G∈eO,g G∈es/\(g G).key=G.key:=by
  grind
 refine⟨?_,⟨λs t M ak e=>?_,λs M=>?_,λJ=>?_⟩,λe D=>?_,j,?_,L.map g,?_,by simp[aA],?_⟩
 .rw[ai c<|cf _,Nat.sub_self];exact h.js
 .rw[H s M,H t ak]at e;have z:=h.mZ.inj _ _ (aW s M) (aW t ak) e;obtain⟨K,B,ay,aI⟩:=ab s R;obtain⟨aL,S,ax,aH⟩:=ab t R;rw[aI,aH]at z;cases JU h.jM B S z;have aM:es[s]=es[t]:=uniq j (dH _) (dH _)<|by rw[<-ay,<-ax]
  grind
 .rw[H s M,ai c<|cf _];have:=h.mZ.lt _<|aW s M;omega
 .grind
 .obtain⟨i,af,rfl⟩:=mf D;rw[aj i af];omega
 .rw[lk]
  grind
 .have aB:=hp.map g;refine aB.trans ?_;have A:(eO.map g).Nodup:=by
   have:(eO.map g).Pairwise (λa b=>a.key≠b.key):=by
    rw[oS,lk];intro i J af aq aC e;rw[(O _<|dH af).2,(O _<|dH aq).2]at e;exact lk.1 h.keys i J af aq aC e
   exact nodup_keys this
  rw[DA A<|nodup_keys j]
  grind [uniq]
 .intro i a b;have K:i<L.length:=by omega
  rw[sP];have y:=az i K b;have ah:=hp.mem_iff.1<|dH K;obtain⟨W,I⟩:=O L[i] ah;obtain⟨G,a',aa,d,aE,aJ⟩:=an (g L[i]) W;cases uniq h.keys a' ah (by rw[aa,I]);refine⟨aE _ y.1,aJ _ y.2.1,?_⟩;obtain⟨s,M,Y⟩:=mf W;rw[y.2.2,<-Y,aj s M,H s R];obtain⟨aK,aw,cA,dG⟩:=ab s M;rw[dG];have:=uniq h.keys aw ah (by rw[cA,Y,I]);rw[this]
theorem Qi(D:JS cB aF cO){bF:Nat->Nat}{C:ac f7}(ay:JT cB es c eO=true)(h:jL cO bF eO cR C js):
 jL aF (sg bF es c eO cR) es c C js:=by
 unfold JT at ay;simp only[c1,ia]at ay;obtain⟨⟨⟨⟨Y,G⟩,A⟩,u⟩,s⟩:=ay;have W:=dB Y;have d:∀(i:Nat) af,es[i].born=i:=by
  intro i af;have:=G (es[i],i) apt;exact dB this
 have j:es.Pairwise (λa b=>a.key≠b.key):=by
  rw[lk];intro i J af y O e;have:=s (es[i],i) apt (es[J],J) apt;rw[Av]at this;rcases this with g|g
  .have:=dB g;omega
  .simp only[e,oX]at g;cases g
 grind [Qh,yN,BI]
def yX(cB:Nat->be Nat):ac f7->ac f7->Bool
 |[],[]=>true
 |e::es,f::bS=>dC e.key f.key&&fR cB e.key f.key&&fR cB e.val f.val&&Nat.beq e.born f.born&&yX cB es bS
 |_,_=>false
theorem Qj{cB:Nat->be Nat}:∀(es bS:ac f7),yX cB es bS=true->es.length=bS.length/\∀(i:Nat) (h:i<es.length) (D:i<bS.length),es[i].key=bS[i].key/\fR cB es[i].key bS[i].key=true/\fR cB es[i].val bS[i].val=true/\es[i].born=bS[i].born
 |[],[],_=>arE
 |e::es,f::bS,h=>by
  simp only[yX,c1]at h;have⟨⟨⟨⟨aC,aI⟩,A⟩,d⟩,C⟩:=h;have⟨bJ,K⟩:=Qj es bS C;refine⟨by simp[bJ],λi a b=>?_⟩;cases i with
  |zero=>exact⟨j2 _ _ aC,aI,A,dB d⟩
  |succ i=>exact K i asM asL
 |[],_::_,h=>by simp[yX]at h
 |_::_,[],h=>by simp[yX]at h
def oq(ae:Nat)(l:ac (Nat×Nat))(i:Nat):be Nat:=if i<ae then some i else(l.find? λp=>Nat.beq p.1 i).map (·.2)
def ot(hy:Bool)(cB:Nat->be Nat):bx->bx->Bool
 |.cells cs e I aR,.cells R G y O=>Nat.beq e G&&Nat.beq I.1 y.1&&Nat.beq I.2 y.2&&(aR==O)&&wP cB cs R
 |.map es c,.map eO cR=>if hy then Nat.beq c cR&&yX cB es eO else JT cB es c eO
 |_,_=>false
def ao.BK(q:Nat->α->Bool):ao α->(Nat->Nat)->Bool
 |.nil,_=>true
 |.node l v r,g=>(match v with|some x=>q (g 0) x|none=>true)&&ao.BK q l (λn=>g<|2*n+1)&&ao.BK q r λn=>g<|2*n+2
theorem ao.JV{q:Nat->α->Bool}:∀(t:ao α) (g:Nat->Nat),ao.BK q t g=true->∀n x,t.get n=some x->q (g n) x=true
 |.nil,_,_,n,x,h=>by simp at h
 |.node l v r,g,bR,n,x,h=>by
  simp[ao.BK,c1]at bR;have⟨⟨aC,aI⟩,A⟩:=bR;cases n with
  |zero=>subst h;exact aC
  |succ m=>
   rw[ao.o0]at h;split at h
   .have:=ao.JV l _ aI _ x h
    grind
   .have:=ao.JV r _ A _ x h
    grind
def wQ(ae:Nat)(l:ac (Nat×Nat))(v:bv)(st:ak)(v2:bv)(fl:ak):Bool:=
 fR (oq ae l) v v2&&Nat.ble ae st.ae&&(l.all λp=>Nat.ble ae p.1&&Nat.ble (Nat.succ p.1) st.ae&&Nat.ble ae p.2)&&(l.all λp=>l.all λq=> !Nat.beq p.2 q.2||Nat.beq p.1 q.1)&&
 ao.BK (λi U=>match oq ae l i with
  |some J=>(match fl.h.get J with|some e7=>ot (decide (i<ae)) (oq ae l) U e7|none=>false)
  |none=>false) st.h id
section
variable(ae:Nat)(l:ac (Nat×Nat))(st fl:ak)(cO:bH)
def sh(i J:Nat)(u:Loc):Nat->Nat:=
 match st.h.get i,fl.h.get J with
 |some (.map es c),some (.map eO cR)=>sg u.bF es c eO cR
 |_,_=>u.bF
def p1:bH:=λi=>
 if i<ae then cO i else((l.find? λp=>Nat.beq p.1 i).map (·.2)).bind λJ=>(cO J).map λj=>{j with bF:=sh st fl i J j}
end
variable{w:f5}{l:ac (Nat×Nat)}{fl:ak}{ad:bH}{ae:Nat}{v v2:bv}
def Qk(ae:Nat)(l:ac (Nat×Nat))(st fl:ak)(cO:bH):JS (oq ae l) (p1 ae l st fl cO) cO:=by
 intro i J j I hm;rw[oq]at I;rw[p1];split at I
 .rename_i h;cases I;rw[aD h];exact⟨j.bF,hm⟩
 .rename_i h;rw[av h,I];simp[hm]
theorem bQ.can{st:ak}(aQ:wQ ae l v st v2 fl=true)(bL:X.a3<=ae)(h:bQ X cO fl w):bQ X (p1 ae l st fl cO) st w:=by
 have ar:=Qk ae l st fl cO;unfold wQ at aQ;simp only[c1]at aQ;obtain⟨⟨⟨⟨_,b'⟩,bB⟩,bG⟩,bE⟩:=aQ;have b':=lQ.1 b';have a9:∀p∈l,ae<=p.1/\p.1<st.ae/\ae<=p.2:=by
  intro p hp;have:=ia.1 bB p hp;simp only[c1]at this;exact atx atx
 have bI:∀p∈l,∀q∈l,p.2=q.2->p.1=q.1:=by
  intro p hp q bw e;have:=ia.1 (ia.1 bG p hp) q bw
  simp_all
 have aZ:∀i J,¬i<ae->(l.find? λp=>Nat.beq p.1 i).map (·.2)=some J->(i,J)∈l:=by
  intro i J _ D;obtain⟨p,hp,rfl⟩:=n3.1 D;have Y:=Ar hp;have G:=As hp;have aw:=dB G;subst aw;exact Y
 have aq:∀i U,st.h.get i=some U->∃J e7,oq ae l i=some J/\fl.h.get J=some e7/\ot (decide (i<ae)) (oq ae l) U e7=true:=by
  intro i U ab;have:=ao.JV st.h id bE i U ab
  grind
 have aj:∀{hy:Bool} {U e7:bx},ot hy (oq ae l) U e7=true->e7≠.dead:=by
  intro hy U e7 h e;subst e;cases U<;>simp[ot]at h
 have az:∀i J j,oq ae l i=some J->cO J=some j->p1 ae l st fl cO i=some {j with bF:=if i<ae then j.bF else sh st fl i J j}:=by
  intro i J j I hm;unfold oq at I;unfold p1;split at I
  .rename_i af;cases I;rw[aD af,aD af];exact hm
  .grind
 have a1:∀i J U e7 j,st.h.get i=some U->fl.h.get J=some e7->ot (decide (i<ae)) (oq ae l) U e7=true->cO J=some j->(if i<ae then j.bF else sh st fl i J j)≠eU->j.bF≠eU:=by
  intro i J U e7 j ab aa a' ai u e;have D:=h.km J j e7 ai e aa<|aj a';apply u;split
  .exact e
  .unfold sh;rw[ab,aa];cases e7<;>first|exact D.elim|(cases U<;>exact e)
 refine⟨λi U ab bg=>?_,λi k U p a b af bM a6 bK aY aX O e=>?_,λi af=>?_,λi a A=>?_,λg O=>?_,R,λi a U A M ab bg=>?_⟩
 .obtain⟨J,e7,I,aa,a'⟩:=aq i U ab;obtain⟨j,ai,hm⟩:=h.eB J e7 aa<|aj a';refine⟨_,az i J j I ai,?_⟩;cases U with
  |cells cs e aE aR=>
   cases e7 with
   |cells bl ax y bC=>
    simp only[ot,c1]at a';obtain⟨⟨⟨⟨Y,G⟩,aw⟩,a2⟩,bh⟩:=a';have S:=dB Y;have aG:=Prod.ext (dB G)<|dB aw;have H:=Aw a2;subst S aG H;obtain⟨bJ,K⟩:=JR _ _ _ bh;obtain⟨C,y,an⟩:=hm;exact⟨C,y,an.there,by rw[bJ];exact an.jK,by rw[bJ];exact an.room,λi af=>by
     obtain⟨c,bk,bn⟩:=an.cell i R;exact⟨c,bk,BI ar bn _<|K i af R⟩,by rw[bJ];exact an.s7,by rw[bJ];exact an.plain⟩
   |_=>simp[ot]at a'
  |map es c=>
   cases e7 with
   |map eO cR=>
    obtain⟨aH,aI,C,js,aS,ah⟩:=hm;simp only[ot]at a';by_cases af:i<ae
    .simp only[af,decide_true,if_true,c1]at a';have S:=dB a'.1;subst S;refine⟨aH,aI,C,js,aS,?_⟩;simp[af];obtain⟨bJ,K⟩:=Qj es eO a'.2;obtain⟨L,hp,bs,bq⟩:=ah.same
     let g:f7->f7:=λax=>(ic ax.key es).getD ax
     have ba:es.Pairwise (λa b=>a.key≠b.key):=by
      rw[lk];intro i J af aL aO;rw[(K i af R).1,(K J aL R).1];exact lk.1 ah.keys i J R R aO
     have O:∀(i:Nat) af (aK:i<es.length),g eO[i]=es[i]:=by
      intro i af aK;show(ic eO[i].key es).getD eO[i]=es[i];rw[E8 ba (dH aK) (K i aK af).1];rfl
     have bd:eO.map g=es:=by
      apply Au
      .simp[bJ]
      .grind
     refine⟨ah.js,ah.mZ,λe br=>?_,ba,?_,L.map g,by rw[<-bd];exact hp.map g,by simp[bs],?_⟩
     .obtain⟨i,af,rfl⟩:=mf br;rw[(K i af R).2.2.2];exact ah.born _<|dH _
     .rw[lk];intro i J af aL aO;rw[(K i af R).2.2.2,(K J aL R).2.2.2];exact lk.1 ah.jM i J R R aO
     .intro i a b;have a0:i<L.length:=by omega
      rw[sP];have aT:=bq i a0 b;obtain⟨s,M,bc⟩:=mf<|hp.mem_iff.1<|dH a0;have bp:s<es.length:=R
      have S:g L[i]=es[s]:=by grind
      obtain⟨W,cA,dG,gT⟩:=K s bp M;rw[bc]at W cA dG gT;rw[S];exact asO asO
    .simp[af]at a';refine⟨aH,aI,C,js,aS,?_⟩;simp[af];have:sh st fl i J j=sg j.bF es c eO cR:=by unfold sh;rw[ab,aa]
     rw[this];exact Qi ar a' ah
   |_=>simp[ot]at a'
  |_=>cases e7<;>simp[ot]at a'
 .obtain⟨ay,e7,d,aa,aA⟩:=aq i U af;obtain⟨K,aJ,z,aM,aB⟩:=aq k p a6;obtain⟨B,aV,_⟩:=h.eB ay e7 aa<|aj aA;obtain⟨aW,aC,_⟩:=h.eB K aJ aM<|aj aB;rw[az i ay B d aV]at aY;rw[az k K aW z aC]at aX;cases aY;cases aX;have aG:=h.inj ay K e7 aJ B aW aa (aj aA) aM (aj aB) aV aC (O.imp (a1 i ay U e7 B af aa aA aV)<|a1 k K p aJ aW a6 aM aB aC) e;subst aG;unfold oq at d z;split at d<;>split at z
  .cases d;cases z;rfl
  .grind
  .grind
  .grind
 .constructor
  .unfold p1;rw[av R];cases D:(l.find? λp=>Nat.beq p.1 i).map (·.2)with
   |none=>rfl
   |some J=>
    have:=a9 _<|aZ i J R D;omega
  .cases O:st.h.get i with
   |none=>rfl
   |some U=>
    obtain⟨J,_,I,_⟩:=aq i U O;unfold oq at I;rw[av R]at I;have:=a9 _<|aZ i J R I;omega
 .unfold p1 at A;split at A
  .exact h.fK i a A
  .obtain⟨J,_,A⟩:=rN.1 A;obtain⟨j,ai,rfl⟩:=n3.1 A;exact h.fK J j ai
 .unfold p1;rw[aD R];exact h.kB g O
 .obtain⟨J,e7,I,aa,a'⟩:=aq i U ab;obtain⟨j,ai,hm⟩:=h.eB J e7 aa<|aj a';have bb:=az i J j I ai;rw[A]at bb;cases bb;cases U with
  |cells cs e aE aR=>
   cases e7 with
   |cells bl ax y bC=>
    have bz:j.bF=eU:=by
     by_cases af:i<ae
     .rw[aD af]at M;exact M
     .rw[av af]at M;have:sh st fl i J j=j.bF:=by unfold sh;rw[ab]
      rw[<-this];exact M
    have bA:=h.km J j _ ai bz aa au;simp only[ot,c1]at a';obtain⟨⟨⟨⟨_,G⟩,aw⟩,a2⟩,_⟩:=a';have bm:=dB G;have bD:=dB aw;show aE.1<aE.2;rw[bm,bD];exact bA
   |_=>simp[ot]at a'
  |map es c=>
   cases e7 with
   |map eO cR=>
    exfalso;obtain⟨aH,aI,C,js,aS,ah⟩:=hm;have u:∀{bF:Nat->Nat} {a5:Nat},Jg bF a5->bF≠eU:=by
     intro bF a5 bH e;have Y:=bH.up 1;rw[e]at Y;simp[eU]at Y
    by_cases af:i<ae
    .rw[aD af]at M;exact u ah.mZ M
    .rw[av af]at M;simp[af]at a';have:sh st fl i J j=sg j.bF es c eO cR:=by unfold sh;rw[ab,aa]
     rw[this]at M;exact u (Qi ar a' ah).mZ M
   |_=>simp[ot]at a'
  |_=>cases e7<;>simp[ot]at a'
theorem eb.can{st:ak}{w':f5}(u:∀i,ae<=i->ad i=none)(h:eb ad cO w w')(aB:∀p∈l,ae<=p.2):eb ad (p1 ae l st fl cO) w w':=by
 refine⟨λi a A=>?_,h.size,h.kept,λi a A=>?_,h.fQ⟩
 .have af:i<ae:=by
   grind
  rw[p1,aD af];exact h.le i a A
 .rw[p1]at A;split at A
  .exact h.new i a A
  .have⟨J,d,A⟩:=rN.1 A;obtain⟨j,g,rfl⟩:=n3.1 A;obtain q|q|⟨k,m,W,jw,cA⟩:=h.new J j g
   .obtain⟨p,hp,rfl⟩:=n3.1 d
    grind
   .exact .inr<|.inl q
   .exact .inr<|.inr ⟨k,m,W,jw,cA⟩
theorem hn.can{b:dR}{bf:Bool->ac Frame}{s:Machine}{j:ak}{st:ak}{R:Bool}(u:bQ X ad j w)(aQ:wQ j.ae l v st v2 fl=true)
 (h:hn X ad w b bf s (.ret v2 fl R)):hn X ad w b bf s (.ret v st R):=by
 have⟨aF,y,w',F,Y,G,A,d,C,H,M⟩:=h;have S:fR (oq j.ae l) v v2=true:=by
  rw[wQ]at aQ;simp at aQ;exact aQ.1.1.1.1
 have B:∀p∈l,j.ae<=p.2:=by
  rw[wQ]at aQ;simp only[c1]at aQ;intro p hp;have:=ia.1 aQ.1.1.2 p hp
  simp_all
 exact⟨p1 j.ae l st fl aF,y,w',F,BI (Qk _ _ _ _ _) Y _ S,bQ.can aQ u.m0 G,eb.can (λi af=>(u.fresh i af).1) A B,d,C,H,M⟩
def wR(call:bN)(res:ac gS)(r:cN):dY:=
 cN.rec (motive:=λ_=>dY)
  (λe o st=>c6.rec (motive:=λ_=>dY) (fJ call res none o st) (λ_=>.no) (fJ call res none o st) (λv=>fJ call res (some v) o st) e) .no r
def mu(call:bN)(n:Nat)(f:d7)(a4:cX)(as:ac bv)(st:ak):ac dY:=
 ev (dE as) a4.aN ((gU call n f a4.body ⟨lP as 0 .nil,[],none,false,none⟩ st).map<|wR call a4.res) [.no]
theorem E9{call:bN}{st:ak}{bf:Bool->ac Frame}(D:Good X)(a':m4 X call)(O:wM X call)(af:∀b aN bf,b.b4=none->yT X call b aN bf){f:d7}{a4:cX}{Fn:Func}{body:Code}(ok:wN X f a4 Fn body)(n:Nat){K:CallKind}{as ho:ac bv}
 (aa:bI ad as ho) (ab:bQ X ad st w) (I:ju ⟨f,K,none⟩ none ad bf) (u:∀r∈mu call n f a4 as st,r≠.no):
 ∃r∈mu call n f a4 as st,hn X ad w ⟨f,K,none⟩ bf (lone (Frame.enter X.P f ho.toArray K) (bf false) w) r:=by
 unfold mu at u⊢;rw[lR]at u⊢;split
 .rename_i g;rw[aD g]at u;rw[e4]at g
  let b:dR:=⟨f,K,none⟩
  have C:Frame.enter X.P f ho.toArray K=b.at ⟨ho.toArray++Array.replicate (a4.aN-ho.toArray.size) undef,[]⟩ [.code body]:=by
   simp[Frame.enter,dR.at,ok.fn,ok.body,ok.aN,b]
  rw[C];obtain⟨r,d,z⟩:=(acY D a' (af b a4.aN bf j) ⟨Fn,ok.fn,ok.aN⟩ n a4.body body ad ⟨lP as 0 .nil,[],none,false,none⟩ ⟨ho.toArray++Array.replicate (a4.aN-ho.toArray.size) undef,[]⟩ st w [] ok.code (Qa aa g) ab (.inl fe) I) (λr I e=>by subst e;exact u (wR call a4.res .no) (da.2 ⟨_,I,j⟩) j);refine⟨wR call a4.res r,da.2 ⟨r,d,j⟩,?_⟩;cases r with
  |no=>trivial
  |out e bt al=>
   have⟨aF,h,w',Y,G,A,_,_,H⟩:=z;cases e with
   |norm=>
    exact arC
   |exit id=>trivial
   |ret=>
    exact aqo
   |aV v=>
    exact aqR
 .grind
mutual
def yY:bv->ac Nat
 |.pointer (some a)=>[a.block]
 |.slice (some a) _ _=>[a.block]
 |.map (some r)=>[r]
 |.func _ x y=>Fa x++Fa y
 |.iface _ v=>yY v
 |.agg a=>Fa a
 |.tuple a=>Fa a
 |_=>[]
def Fa:bi bv->ac Nat
 |⟨a⟩=>Fb a
def Fb:ac bv->ac Nat
 |[]=>[]
 |a::as=>yY a++Fb as
end
variable{mv:ac Nat}
def Ql:be bx->be bx->ac (Nat×Nat)
 |some (.cells cs _ _ _),some (.cells R _ _ _)=>(Fb cs).zip (Fb R)
 |some (.map es _),some (.map eO _)=>es.flatMap λe=>match ic e.key eO with|some G=>(yY e.val).zip (yY G.val)|none=>[]
 |_,_=>[]
def JW(ae:Nat)(h D:ao bx):Nat->ac (Nat×Nat)->ac (Nat×Nat)->ac (Nat×Nat)
 |0,_,j=>j
 |_,[],j=>j
 |n+1,(a,b)::todo,j=>
  cond (Nat.ble (Nat.succ a) ae||j.any λp=>Nat.beq p.1 a) (JW ae h D n todo j) (JW ae h D n (Ql (h.get a) (D.get b)++todo)<|(a,b)::j)
def acZ(j:Nat)(h D:ao bx)(mv:ac Nat):ac (Nat×Nat):=mv.flatMap λi=>Ql (h.get i)<|D.get i
def JX(ae:Nat)(mv:ac Nat)(v:bv)(st:ak)(r:dY):Bool:=
 dY.rec (motive:=λ_=>Bool) (λv2 fl R=>cond R false<|wQ ae (JW ae st.h fl.h 1000 ((yY v).zip (yY v2)++acZ ae st.h fl.h mv) []) v st v2 fl) (λ_ _ _=>false) false r
def p2(mv:ac Nat)(ae:Nat)(v:bv)(st:ak)(L:ac dY):Bool:=
 List.rec (motive:=λ_=>Bool) true (λr _ I=>cond (JX ae mv v st r) I false) L
theorem Qm{mv:ac Nat}{ae:Nat}{v:bv}{st:ak}:∀{L:ac dY},p2 mv ae v st L=true->∀r∈L,JX ae mv v st r=true
 |[],_,r,I=>by cases I
 |x::xs,h,r,I=>by
  obtain⟨aC,aI⟩:=jr h au;obtain rfl|I:=fh.1 I
  .exact aC
  .exact Qm aI r I
theorem ac0{st:ak}{r:dY}(h:JX ae mv v st r=true):∃v2 fl l,r= .ret v2 fl false/\wQ ae l v st v2 fl=true:=by
 cases r with
 |no=>cases h
 |aV a b c=>cases h
 |ret v2 fl R=>
  cases R with
  |true=>cases h
  |false=>exact⟨v2,fl,_,j,h⟩
theorem ac1{aL:ao cX}{gl:oc}(D:Good X)(j:k0 X aL)(S:sf X gl){n:Nat}{f:d7}{a4:cX}{r:Row}(O:aL.get f=some a4)
 (h:p2 mv r.st.ae r.v r.al (mu (cg aL gl n) n f a4 r.as r.st)=true):e8 X f r:=by
 have⟨Fn,c,ok⟩:=j f a4 O;have⟨d,C⟩:=uK D j S n;have R:=Qm h;intro ad Y w A g;refine⟨ok.enters,λK bf I=>?_⟩;have⟨q,B,s⟩:=E9 D C d (λb aN bf _=>uJ C b aN bf) ok n A g I (λr I e=>by
  have:=R r I;subst e;cases this)
 grind [ac0,hn.can]
end Go.bC
namespace Go.bC
variable{α:Type}
def JY(X:Ctx)(a4:cX)(Fn:Func):Bool:=
 match Fn.body with
 |some c=>Nat.beq Fn.ntmps a4.aN&&codeOk X a4.aN a4.body c&&tf X a4.res Fn.results.toList&& !(Fn.name== "runtime.NumGoroutine")
 |none=>false
def ac2{X:Ctx}{f:d7}{a4:cX}{Fn:Func}(D:X.P.funcs[f]? =some Fn)(h:JY X a4 Fn=true):∃Fn c,wN X f a4 Fn c:=by
 rw[JY]at h;split at h
 .rename_i c W;simp only[c1]at h;have⟨⟨⟨Y,G⟩,A⟩,d⟩:=h;exact⟨Fn,c,D,W,dB Y,G,A,by simpa using d⟩
 .cases h
def ao.Fc(Q:Nat->α->Prop):ao α->(Nat->Nat)->Prop
 |.nil,_=>True
 |.node l v r,g=>(match v with|some x=>Q (g 0) x|none=>True)/\ao.Fc Q l (λn=>g<|2*n+1)/\ao.Fc Q r λn=>g<|2*n+2
theorem ao.JZ{Q:Nat->α->Prop}:∀(t:ao α) (g:Nat->Nat),ao.Fc Q t g->∀n x,t.get n=some x->Q (g n) x
 |.nil,_,_,n,x,h=>by simp at h
 |.node l v r,g,bR,n,x,h=>by
  have⟨aC,aI,A⟩:=bR;cases n with
  |zero=>subst h;exact aC
  |succ m=>
   rw[ao.o0]at h;split at h
   .rename_i hm;have:=ao.JZ l _ aI _ x h
    grind
   .rename_i hm;have:=ao.JZ r _ A _ x h
    grind
def gm:oc:=λ_ _ _=>none
def gF(X:Ctx):sf X gm:=λ_ _ _ _ h=>by cases h
structure BL where
 P:f8
 a3:Nat
 ll:d7->Bool
 lO:d7->Bool
 Bc:∀f,ll f=true->∀x w,(callFunc f #[x]).run P w= .ok (.value x) w
 Bd:∀f,lO f=true->∀s c w,(callFunc f #[.string s,.int .u8 c]).run P w= .ok (.value (goInt (match(List.range s.size).find? (fun i=>s[i]! ==c.toNat.toUInt8)with|some i=>(i:Int)|none=> -1))) w
 keys:co->be fH
 r7:∀k ct,keys k=some ct->Maps.Keyed P k∧∀v,ct.ok v=true->∃l,keyOf P k v=some l
 pV:d7->Bool
 Be:∀f,pV f=true->∀s c w,(callFunc f #[.string s,.int .u8 c]).run P w= .ok (.value (goInt (s.data.toList.countP (fun b=>b==c.toNat.toUInt8):Nat))) w
 pW:d7->Bool
 lS:Nat
 Bf:lS<a3
 Bg:∀f,pW f=true->∀(s b:f9) (m:Int) w,(load ⟨lS,0,none⟩).run P w= .ok (.int .i64 m) w->2<=b.size->(b.size:Int)<=m->s.size<=1000000->
  (callFunc f #[.string s,.string b]).run P w= .ok (.value (goInt (match pN b.data.toList s.data.toList with|some i=>(i:Int)|none=> -1))) w
 eqs:co->be Nat
 wC:∀t n,eqs t=some n->P.eqGuardType P.depth t=false∧∀xs aP b w,xs.size=n%100+n/100->aP.size=n%100+n/100->qH (n%100) xs.toList aP.toList=some b->(Op.equalIn 10000 t (.agg xs) (.agg aP)).run P w= .ok b w
def BL.with(B:BL)(ok:d7->Code->du->Prop):Ctx:=
 {P:=B.P,ok:=ok,a3:=B.a3,ll:=B.ll,lO:=B.lO,Bc:=B.Bc,Bd:=B.Bd,keys:=B.keys,r7:=B.r7,pV:=B.pV,Be:=B.Be,pW:=B.pW,lS:=B.lS,Bf:=B.Bf,Bg:=B.Bg,eqs:=B.eqs,wC:=B.wC}
def mkCtx(B:BL):Ctx:=B.with λfn c u=>∃F,B.P.funcs[fn]? =some F/\codeOk (B.with λ_ _ _=>False) F.ntmps u c=true
def ac3(B:BL)(j:B.P.follows .mixedOrders=true):Good (mkCtx B):=by
 refine⟨j,λfn c u=>?_⟩;have e:codeOk (mkCtx B)=codeOk (B.with λ_ _ _=>False):=bu
 rw[e];exact Iff.rfl
section
variable{X:Ctx}
theorem bQ.Qn{ad:bH}{st:ak}{w:f5}(h:bQ X ad st w){g:Nat}{u:bv}{el:co}{I:Nat×Nat}{aR:Bool}(O:st.h.get g=some (.cells [u] el I aR)):
 ∃c,bd ad u c/\∀R,bd ad R c->bQ X ad ⟨st.h.set g<|.cells [R] el I aR,st.ae⟩ w:=by
 have⟨l,B,C,y,hC⟩:=h.eB _ _ O au;have⟨c,ar,an⟩:=hC.cell 0 au;refine⟨c,by simpa using an,λR j=>⟨λi U z H=>?_,λi J U p a b af aj a' d A ah s e=>?_,λi af=>?_,h.fK,h.kB,h.m0,λi a U A M z H=>?_⟩⟩
 .rw[ao.eo]at z;by_cases e:i=g
  .rw[aD e]at z;cases z;subst e;refine⟨l,B,C,y,hC.there,hC.jK,hC.room,λJ a'=>?_,hC.s7,hC.plain⟩
   grind
  .rw[av e]at z;exact h.eB i U z H
 .have S:∀k q,(st.h.set g<|.cells [R] el I aR).get k=some q->q≠.dead->∃K,st.h.get k=some K/\K≠.dead:=by
   intro k q ai aq;rw[ao.eo]at ai
   grind
  have⟨W,Y,G⟩:=S i U af aj;have⟨D,aa,ab⟩:=S J p a' d;exact h.inj i J W D a b Y G aa ab A ah s e
 .have:=h.fresh i af;refine⟨this.1,?_⟩;rw[ao.eo,av]
  .exact this.2
  .grind
 .rw[ao.eo]at z;by_cases e:i=g
  .rw[aD e]at z;cases z;subst e;show I.1<I.2;exact h.km i a _ A M O au
  .rw[av e]at z;exact h.km i a U A M z H
def Row.nx(r:Row)(g:Nat)(el:co)(c:Nat):Row:=
 ⟨r.as,⟨r.st.h.set g<|.cells [.chan<|some c] el (0,1) false,r.st.ae⟩,r.v,⟨r.al.h.set g<|.cells [.chan<|some c] el (0,1) false,r.al.ae⟩⟩
theorem ac4{st:ak}{g:Nat}{U cv:bx}(h:st.h.get g=some U):ak.le st ⟨(st.h.set g cv).set g U,st.ae⟩:=by
 refine⟨j,λn x O=>?_⟩;rw[ao.eo];by_cases e:n=g
 .grind
 .rw[av e,ao.eo,av e];exact O
def th{f:d7}{r:Row}{g n:Nat}{el:co}(bX:r.st.h.get g=some (.cells [.chan<|some 1] el (0,1) false))(S:r.al.h.get g=some (.cells [.chan<|some 1] el (0,1) false))
 (aC:e8 X f (r.nx g el<|2*n+2)) (aI:e8 X f (r.nx g el<|2*n+3)):e8 X f r:=by
 intro ad Y w A H;have⟨c,G,s⟩:=H.Qn bX;obtain⟨m,rfl,_⟩:=G.Bw ai;have key:∀k,Jc k m->e8 X f (r.nx g el k)->(∀as w,(callFunc f as).run X.P w= .ok (.enter f as) w)/\
  ∀(K:CallKind) bf,ju ⟨f,K,none⟩ none ad bf->hn X ad w ⟨f,K,none⟩ bf (lone (Frame.enter X.P f Y.toArray K) (bf false) w) (.ret r.v r.al false):=by
  intro k u B;have⟨W,cA⟩:=B ad Y w A<|s _<|.hZ k m u;refine⟨W,λK bf z=>?_⟩;have⟨aF,y,w',F,D,I,a0,cJ⟩:=cA K bf z;obtain⟨M,J,d⟩:=bQ.Qn I (by show(r.al.h.set g _).get g=_;rw[ao.mm]);obtain⟨C,rfl,_⟩:=J.Bw (by intro e;rcases u with h|⟨_,h,_⟩|⟨_,h,_⟩<;>omega);exact⟨aF,y,w',F,D,bQ.less (ac4 S)<|d (.chan<|some 1)<|.hZ 1 C m2,a0,cJ⟩
 by_cases hm:n<=m
 .exact key _ (.inr<|.inl ⟨n,j,hm⟩) aC
 .exact key _ (.inr<|.inr ⟨n,j,R⟩) aI
end
end Go.bC
namespace Go.bC
variable{P:f8}
def Qo(i:Nat)(d:be TypeDesc):Bool:=match i,d with
 |0,some .string=>true
 |_+1,some (.int _)=>true
 |_,_=>false
def Fe(P:f8):ac Field->Nat->Nat->Bool
 |[],_,_=>true
 |f::bS,i,U=>Nat.beq f.offset U&&f.name != "_"&&Qo i (P.underlying f.type)&&Fe P bS (i-1) (U+1)
def J0(P:f8)(t n:Nat):Bool:=match P.underlying t with
 |some (.struct bS)=> !P.stoodInHeld t&&Nat.beq bS.size (n%100+n/100)&&Fe P bS.toList (n%100) 0&& !P.eqGuardType P.depth t
 |_=>false
theorem Qp(w:f5)(d:Nat)(xs aP:bi bv):∀(bS:ac Field) (i U:Nat) (b:Bool),Fe P bS i U=true->qH i (xs.toList.drop U) (aP.toList.drop U)=some b->xs.size=U+bS.length->aP.size=U+bS.length->
 (Op.eqFields (d+1) xs aP bS).run P w= .ok b w
 |[],i,U,b,_,he,O,aa=>by
  rw[x7 apt,x7 apt]at he;cases he;simp[Op.eqFields]
 |f::bS,i,U,b,D,he,O,aa=>by
  unfold Fe at D;simp only[c1]at D;obtain⟨⟨⟨aC,aI⟩,A⟩,ah⟩:=D;have aC:=dB aC;have aj:f.name≠ "_":=by grind
  rw[hQ]at O aa;have H:U<xs.toList.length:=by simp;omega
  have g:U<aP.toList.length:=by simp;omega
  rw[Am H,Am g]at he;obtain⟨G,Y,he⟩:=ie he au;have s:∃S,qH (i-1) (xs.toList.drop<|U+1) (aP.toList.drop<|U+1)=some S/\b=(G&&S):=by
   cases G
   .obtain⟨S,a',u⟩:=ie he au;cases u;exact⟨S,a',j⟩
   .exact⟨b,he,au⟩
  obtain⟨S,a',C⟩:=s;have I:=Qp w d xs aP bS (i-1) (U+1) S ah a' R R;have B:xs[f.offset]? =some xs.toList[U]:=by grind
  have W:aP[f.offset]? =some aP.toList[U]:=by grind
  generalize xs.toList[U]=x at *;generalize aP.toList[U]=y at *;have ab:(i=0/\P.underlying f.type=some .string)\/(i≠0/\∃k,P.underlying f.type=some (.int k)):=by
   unfold Qo at A
   grind
  have hp:∀(cs:bi bv) v,cs[f.offset]? =some v->(part f.type cs f.offset).run P w= .ok v w:=by
   intro cs v h;rcases ab with⟨_,M⟩|⟨_,k,M⟩
   .simp[part,isAgg,run_underlying M,h]
   .simp[part,isAgg,run_underlying M,h]
  have ai:(Op.equalIn (d+1) f.type x y).run P w= .ok G w:=by
   rcases ab with⟨af,M⟩|⟨af,k,M⟩
   .subst af;have Y:Eg x y=some G:=Y;unfold Eg at Y;split at Y
    .cases Y;rw[run_equalIn_string w d f.type _ _ M,toList_eq]
    .cases Y
   .obtain⟨J,rfl⟩:∃J,i=J+1:=⟨i-1,R⟩;cases x<;>cases y<;>try (cases Y)
    rename_i bJ m K n;have Y:=Y;have Y:(if bJ=K then some (m==n)else none)=some G:=Y;by_cases e:bJ=K
    .subst e;rw[aD j]at Y;cases Y;exact run_equalIn_int w d f.type _ k _ _ M
    .rw[av e]at Y;cases Y
  have z:=hp aP y W;simp[Op.eqFields,aj,ne_eq,not_false_eq_true,if_true,Sem.run_bind,(hp xs x B),z,ai,Result.andThen_ok];rw[C];cases G
  .simp
  .simpa using I
theorem ac5{t n:Nat}(h:J0 P t n=true):P.eqGuardType P.depth t=false/\∀xs aP b w,xs.size=n%100+n/100->aP.size=n%100+n/100->qH (n%100) xs.toList aP.toList=some b->(Op.equalIn 10000 t (.agg xs)<|.agg aP).run P w= .ok b w:=by
 rw[J0]at h;split at h
 .rename_i bS M;simp only[c1]at h;have⟨⟨⟨Y,G⟩,A⟩,d⟩:=h;have G:=dB G;have D:P.fieldsOf t=bS:=by simp[Program.fieldsOf,M]
  refine⟨by simpa using d,λxs aP b w O g j=>?_⟩;rw[run_equalIn_struct w (9998+1) t xs aP (by rwa [D])<|by simpa using Y,D]
  grind [Qp]
 .cases h
end Go.bC
namespace Go.bC
inductive fS(ah:Nat->Nat->Prop):Value->Value->Prop
 |bool (b:Bool):fS ah (.bool b) (.bool b)
 |int (k:IntKind) (n:Int):fS ah (.int k n) (.int k n)
 |string (s:ByteArray):fS ah (.string s) (.string s)
 |lq:fS ah (.pointer none) (.pointer none)
 |ptr (a b:Addr) (h:ah a.block b.block) (O0:a.off=b.off) (bR:a.spot=none) (ay:b.spot=none):fS ah (.pointer (some a)) (.pointer (some b))
 |kl (n c:Nat):fS ah (.slice none n c) (.slice none n c)
 |ft (a b:Addr) (n c:Nat) (h:ah a.block b.block) (O0:a.off=b.off) (bR:a.spot=none) (ay:b.spot=none):fS ah (.slice (some a) n c) (.slice (some b) n c)
 |mX:fS ah (.map none) (.map none)
 |map (i J:Nat) (h:ah i J):fS ah (.map (some i)) (.map (some J))
 |func (f:FuncId) (xs aP us ab:Array Value) (aC:xs.size=aP.size) (aI:∀i (h:i<xs.size) (ux:i<aP.size),fS ah xs[i] aP[i])
  (abw:us.size=ab.size) (abx:∀i (h:i<us.size) (ux:i<ab.size),fS ah us[i] ab[i]):fS ah (.func (.func f) xs us) (.func (.func f) aP ab)
 |nilFunc:fS ah .nilFunc .nilFunc
 |iface (t:TypeId) (v w:Value) (h:fS ah v w):fS ah (.iface t v) (.iface t w)
 |nilIface:fS ah .nilIface .nilIface
 |agg (xs aP:Array Value) (aC:xs.size=aP.size) (aI:∀i (h:i<xs.size) (ux:i<aP.size),fS ah xs[i] aP[i]):fS ah (.agg xs) (.agg aP)
 |tuple (xs aP:Array Value) (aC:xs.size=aP.size) (aI:∀i (h:i<xs.size) (ux:i<aP.size),fS ah xs[i] aP[i]):fS ah (.tuple xs) (.tuple aP)
 |chan (c:Nat):fS ah (.chan (some c)) (.chan (some c))
variable{v w:bv}
def fS.mono{ah S:Nat->Nat->Prop}(hle:∀i J,ah i J->S i J)(h:fS ah v w):fS S v w:=by
 induction h with
 |bool b=>exact .bool b
 |int k n=>exact .int k n
 |string s=>exact .string s
 |lq=>exact .lq
 |ptr a b h d A C=>exact .ptr a b (hle _ _ h) d A C
 |kl n c=>exact .kl n c
 |ft a b n c h d A C=>exact .ft a b n c (hle _ _ h) d A C
 |mX=>exact .mX
 |map i J h=>exact .map i J (hle _ _ h)
 |func f xs aP O y Y _ g _ u H=>exact .func f xs aP O y Y u g H
 |nilFunc=>exact .nilFunc
 |iface t v w _ I=>exact .iface t v w I
 |nilIface=>exact .nilIface
 |agg xs aP Y _ I=>exact .agg xs aP Y I
 |tuple xs aP Y _ I=>exact .tuple xs aP Y I
 |chan c=>exact .chan c
def fS.symm{ah:Nat->Nat->Prop}(h:fS ah v w):fS (λJ i=>ah i J) w v:=by
 induction h with
 |bool b=>exact .bool b
 |int k n=>exact .int k n
 |string s=>exact .string s
 |lq=>exact .lq
 |ptr a b h d A C=>exact .ptr b a h d.symm C A
 |kl n c=>exact .kl n c
 |ft a b n c h d A C=>exact .ft b a n c h d.symm C A
 |mX=>exact .mX
 |map i J h=>exact .map J i h
 |func f xs aP O u Y _ g _ S H=>exact .func f aP xs u O Y.symm (λi a b=>S i b a) g.symm (λi a b=>H i b a)
 |nilFunc=>exact .nilFunc
 |iface t v w _ I=>exact .iface t w v I
 |nilIface=>exact .nilIface
 |agg xs aP Y _ I=>exact .agg aP xs Y.symm (λi a b=>I i b a)
 |tuple xs aP Y _ I=>exact .tuple aP xs Y.symm (λi a b=>I i b a)
 |chan c=>exact .chan c
def fS.BM{ah:Nat->Nat->Prop}{a' aF:bH}(D:∀i J l,ah i J->a' i=some l->aF J=some l){c:bv}(h:fS ah v c):∀{x:bv},bd a' v x->bd aF c x:=by
 induction h with
 |bool b=>intro x O;cases O;exact .bool b
 |int k n=>intro x O;cases O;exact .int k n
 |string s=>intro x O;cases O;exact .string s
 |lq=>intro x O;cases O;exact .lq
 |ptr a b h K ai C=>
  intro x O;cases O with
  |ptr a l B M=>rw[K];exact .ptr b l (D _ _ _ h B) C
 |kl n c=>intro x O;cases O;exact .kl n c
 |ft a b n c h K ai C=>
  intro x O;cases O with
  |ft a l U n c B M A=>exact .ft b l U n c (D _ _ _ h B) C R
 |mX=>intro x O;cases O;exact .mX
 |map i J h=>intro x O;cases O with|map r b bF B=>exact .map J b bF (D _ _ _ h B)
 |func f xs aP ar an Y _ A _ ak H=>
  intro x O;cases O with
  |func aq g d G u ag af W I a0 cJ=>
   refine .func _ _ aP G an ag ?_ (Y.symm.trans W) (λi a b=>ak i R a<|I i R b) (A.symm.trans a0) λi a b=>H i R a<|cJ i R b;obtain⟨e,ab⟩|⟨l,b,e,_⟩:=af
   .exact .inl ⟨e,ab⟩
   .cases e
 |nilFunc=>intro x O;cases O;exact .nilFunc
 |iface t v w _ z=>intro x O;cases O with|iface t v y S=>exact .iface t w y (z S)
 |nilIface=>intro x O;cases O;exact .nilIface
 |agg xs aP Y _ z=>intro x O;cases O with|agg d G W I=>exact .agg aP G (Y.symm.trans W) (λi a b=>z i R a<|I i R b)
 |tuple xs aP Y _ z=>intro x O;cases O with|tuple d G W I=>exact .tuple aP G (Y.symm.trans W) (λi a b=>z i R a<|I i R b)
 |chan c=>
  intro x O;by_cases aa:c=0
  .subst aa;exact .top x
  .obtain⟨m,rfl,aj⟩:=O.Bw aa;exact .hZ c m aj
def kq(ah:Nat->Nat->Prop)(xs aP:ac bv):Prop:=xs.length=aP.length/\∀(i:Nat) (h:i<xs.length) (D:i<aP.length),fS ah xs[i] aP[i]
variable{xs:ac bv}{aP:bi bv}
def kq.mono{ah S:Nat->Nat->Prop}(hle:∀i J,ah i J->S i J){aP:ac bv}(h:kq ah xs aP):kq S xs aP:=⟨h.1,λi a b=>(h.2 i a b).mono hle⟩
def kq.symm{ah:Nat->Nat->Prop}{aP:ac bv}(h:kq ah xs aP):kq (λJ i=>ah i J) aP xs:=⟨h.1.symm,λi a b=>(h.2 i b a).symm⟩
def kq.nil(ah:Nat->Nat->Prop):kq ah [] []:=arE
def kq.cons{ah:Nat->Nat->Prop}{x y:bv}{xs aP:ac bv}(h:fS ah x y)(M:kq ah xs aP):kq ah (x::xs) (y::aP):=by
 refine⟨by simp[M.1],λi a b=>?_⟩;cases i with
 |zero=>exact h
 |succ i=>exact M.2 i asM asL
def kq.ac6{ah:Nat->Nat->Prop}{u aF:bH}(D:∀i J l,ah i J->u i=some l->aF J=some l){ab cs:ac bv}(h:kq ah ab cs)(O:bI u ab xs):bI aF cs xs:=
 ⟨h.1.symm.trans O.1,λi a b=>(h.2 i (by have:=h.1;omega) a).BM D<|O.2 i (by have:=h.1;omega) b⟩
def fS.Qq{ah:Nat->Nat->Prop}{xs:bi bv}(h:kq ah xs.toList aP.toList):fS ah (.agg xs) (.agg aP):=
 .agg xs aP aqN λi a b=>by exact aqf
def fS.tuple'{ah:Nat->Nat->Prop}{xs:bi bv}(h:kq ah xs.toList aP.toList):fS ah (.tuple xs) (.tuple aP):=
 .tuple xs aP aqN λi a b=>by exact aqf
def fS.Qr{ah:Nat->Nat->Prop}{f:d7}{xs us ab:bi bv}(h:kq ah xs.toList aP.toList)(D:kq ah us.toList ab.toList):fS ah (.func (.func f) xs us) (.func (.func f) aP ab):=
 .func f xs aP us ab aqN (λi a b=>by have:=h.2 i R R;rwa [kU,kU]at this) (by simpa using D.1) λi a b=>by have:=D.2 i R R;rwa [kU,kU]at this
inductive jv{α β:Type}(ah:α->β->Prop):List α->List β->Prop
 |nil:jv ah [] []
 |cons {a:α} {b:β} {as:List α} {b2:List β} (h:ah a b) (cy:jv ah as b2):jv ah (a::as) (b::b2)
variable{α β:Type}{as:ac α}
def jv.mono{ah S:α->β->Prop}(hle:∀a b,ah a b->S a b){b2:ac β}(h:jv ah as b2):jv S as b2:=by
 induction h with
 |nil=>exact .nil
 |cons h _ I=>exact .cons (hle _ _ h) I
def jv.flip{ah:α->β->Prop}{b2:ac β}(h:jv ah as b2):jv (λb a=>ah a b) b2 as:=by
 induction h with
 |nil=>exact .nil
 |cons h _ I=>exact .cons h I
def jv.perm{ah:α->β->Prop}{l es:ac α}(hp:l.Perm es):∀{bS:ac β},jv ah es bS->∃m:ac β,m.Perm bS/\jv ah l m:=by
 induction hp with
 |nil=>intro bS h;cases h;exact⟨[],.refl _,.nil⟩
 |cons x _ I=>
  intro bS h;cases h with
  |cons h M=>have⟨m,Y,G⟩:=I M;exact⟨_::m,.cons _ Y,.cons h G⟩
 |swap x y l=>
  intro bS h;cases h with
  |cons h M=>cases M with|cons D M=>exact⟨_::_::_,.swap _ _ _,.cons D<|.cons h M⟩
 |trans _ _ d S=>
  intro bS h;have⟨m,Y,G⟩:=S h;have⟨n,A,g⟩:=d G;exact⟨n,A.trans Y,g⟩
def jv.len{ah:α->β->Prop}{b2:ac β}(h:jv ah as b2):as.length=b2.length:=by
 induction h with
 |nil=>rfl
 |cons _ _ I=>simp[I]
theorem jv.at{α β:Type}{ah:α->β->Prop}{as:ac α}{b2:ac β}(h:jv ah as b2):∀(i:Nat) (a:i<as.length) (b:i<b2.length),ah as[i] b2[i]:=by
 induction h with
 |nil=>intro i a;simp at a
 |cons h _ I=>
  grind
structure o7(ah:Nat->Nat->Prop)(e f:f7):Prop where
 key:e.key=f.key
 J1:fS ah e.key f.key
 val:fS ah e.val f.val
 born:e.born=f.born
variable{e f:f7}
def o7.mono{ah S:Nat->Nat->Prop}(hle:∀i J,ah i J->S i J)(h:o7 ah e f):o7 S e f:=⟨h.key,h.J1.mono hle,h.val.mono hle,h.born⟩
def o7.symm{ah:Nat->Nat->Prop}(h:o7 ah e f):o7 (λJ i=>ah i J) f e:=⟨h.key.symm,h.J1.symm,h.val.symm,h.born.symm⟩
inductive kD(ah:Nat->Nat->Prop):bx->bx->Prop
 |cells (cs aM:List Value) (e:TypeId) (bY:Nat×Nat) (aR:Bool) (h:kq ah cs aM):kD ah (.cells cs e bY aR) (.cells aM e bY aR)
 |map (es bS:List MapEntry) (c:Nat) (h:jv (o7 ah) es bS):kD ah (.map es c) (.map bS c)
variable{U p:bx}
def kD.mono{ah S:Nat->Nat->Prop}(hle:∀i J,ah i J->S i J)(h:kD ah U p):kD S U p:=by
 cases h with
 |cells cs z e I aR h=>exact .cells cs z e I aR (h.mono hle)
 |map es bS c h=>exact .map es bS c<|h.mono λ_ _ h=>h.mono hle
def kD.symm{ah:Nat->Nat->Prop}(h:kD ah U p):kD (λJ i=>ah i J) p U:=by
 cases h with
 |cells cs z e I aR h=>exact .cells z cs e I aR h.symm
 |map es bS c h=>exact .map bS es c<|h.flip.mono λ_ _ h=>h.symm
def kD.live{ah:Nat->Nat->Prop}(h:kD ah U p):U≠.dead/\p≠.dead:=by cases h<;>simp
def kD.s8{ah:Nat->Nat->Prop}(h:kD ah U p):U.s8↔p.s8:=by cases h<;>exact Iff.rfl
variable{X:Ctx}
theorem kD.Qs{ah:Nat->Nat->Prop}{O aF:bH}(a':∀i J l,ah i J->O i=some l->aF J=some l)(h:kD ah U p){w:f5}{l:Loc}(hm:hz X O w U l):hz X aF w p l:=by
 cases h with
 |cells cs z e ar aR h=>
  have⟨C,y,hC⟩:=hm;refine⟨C,y,hC.there,by rw[<-h.1];exact hC.jK,by rw[<-h.1];exact hC.room,λi af=>?_,by rw[<-h.1];exact hC.s7,by rw[<-h.1];exact hC.plain⟩;have A:i<cs.length:=by rwa [h.1]
  have⟨c,Y,G⟩:=hC.cell i A;exact⟨c,Y,(h.2 i A af).BM a' G⟩
 |map es bS c h=>
  obtain⟨ak,S,C,cR,Y,G⟩:=hm;have H:∀f∈bS,∃e∈es,o7 ah e f:=by
   clear Y G;intro f D
   induction h with
   |nil=>cases D
   |cons h _ I=>
    grind
  have s:∀(Q:f7->f7->Prop),(∀a b c d,o7 ah a c->o7 ah b d->Q a b->Q c d)->es.Pairwise Q->bS.Pairwise Q:=by
   intro Q av hp;clear Y G H
   induction h with
   |nil=>exact .nil
   | @cons a b as b2 h M I=>
    rw[n0]at hp⊢;refine⟨λd g=>?_,I hp.2⟩;have:∃e∈as,o7 ah e d:=by
     induction M with
     |nil=>cases g
     |cons aa _ aq=>
      obtain rfl|g:=fh.1 g
      .exact⟨_,au,aa⟩
      .simp_all
    grind
  refine⟨ak,S,C,cR,Y,G.js,G.mZ,λf D=>?_,s _ (λa b c d Y G an=>by rwa [<-Y.key,<-G.key]) G.keys,s _ (λa b c d Y G an=>by rwa [<-Y.born,<-G.born]) G.jM,?_⟩
  .have⟨e,he,u⟩:=H f D;rw[<-u.born];exact G.born e he
  .have⟨ai,aj,ab,a0⟩:=G.same;have⟨m,bJ,B⟩:=h.perm aj;refine⟨m,bJ,B.len.symm.trans ab,λi a b=>?_⟩;have K:i<ai.length:=by omega
   have⟨W,cA,dG⟩:=a0 i K b;have q:=B.at i K a;exact ata ata
end Go.bC
namespace Go.bC
structure dv where
 cB:ao Nat
 inv:ao Nat
 aT:Nat
def dv.ah(s:dv)(i J:Nat):Prop:=s.cB.get i=some J
structure dv.Ok(s:dv):Prop where
 iff:∀i J,s.cB.get i=some J↔s.inv.get J=some i
 lW:∀i J,s.cB.get i=some J->i<s.aT
def dv.le(s t:dv):Prop:=∀i J,s.cB.get i=some J->t.cB.get i=some J
def dv.le.refl(s:dv):s.le s:=λ_ _ h=>h
theorem dv.le.trans{s t u:dv}(h:s.le t)(D:t.le u):s.le u:=λi J e=>D i J<|h i J e
def wS(i J:Nat)(s:dv):be dv:=
 bq (s.inv.get J) (λH=>cond (Nat.beq i H) (some s) none)
  (cond (Nat.beq i s.aT) (ao.fin (ao.ky (Nat.succ i) s.cB i J) λcB=>ao.fin (ao.ky (Nat.succ J) s.inv J i) λinv=>fW (Nat.succ i) λc=>some ⟨cB,inv,c⟩) none)
theorem J2{i J:Nat}{s O:dv}(M:s.Ok)(h:wS i J s=some O):O.Ok/\s.le O/\O.ah i J:=by
 rw[wS]at h;cases g:s.inv.get J with
 |some H=>
  rw[g]at h;have h:cond (Nat.beq i H) (some s) none=some O:=h;cases C:Nat.beq i H with
  |false=>rw[C]at h;cases h
  |true=>
   rw[C]at h;cases h;have:=dB C;subst this;exact⟨M,.refl s,(M.iff i J).2 g⟩
 |none=>
  rw[g]at h;have h:cond (Nat.beq i s.aT) (ao.fin (ao.ky (Nat.succ i) s.cB i J) λcB=>ao.fin (ao.ky (Nat.succ J) s.inv J i) λinv=>fW (Nat.succ i) λc=>some ⟨cB,inv,c⟩) none=some O:=h;cases C:Nat.beq i s.aT with
  |false=>rw[C]at h;cases h
  |true=>
   rw[C]at h;have e:=dB C;simp[ao.o1,ao.uw]at h;rw[fW]at h;simp at h;subst h;have z:∀b,s.cB.get i≠some b:=λb C=>by have:=M.lW _ _ C;omega
   refine⟨⟨λa b=>?_,λa b Y=>?_⟩,λa b Y=>?_,?_⟩
   .show(s.cB.set i J).get a=some b↔(s.inv.set J i).get b=some a;rw[ao.eo,ao.eo];by_cases A:a=i<;>by_cases d:b=J
    .rw[aD A,A,d];simp
    .rw[av d];subst A;constructor
     .grind
     .intro e;exact absurd ((M.iff _ _).2 e)<|z b
    .rw[av A];subst d;constructor
     .intro e;rw[(M.iff _ _).1 e]at g;cases g
     .grind
    .rw[av A,av d];exact M.iff a b
   .have Y:=Y;show a<Nat.succ i;rw[ao.eo]at Y;by_cases A:a=i
    .omega
    .rw[av A]at Y;have:=M.lW _ _ Y;omega
   .show(s.cB.set i J).get a=some b;rw[ao.eo,av]
    .exact Y
    .intro A;subst A;exact z b Y
   .show(s.cB.set i J).get i=some J;rw[ao.mm]
def J3(a b:be Addr)(s:dv):be dv:=
 Option.rec (motive:=λ_=>be dv) (Option.rec (motive:=λ_=>be dv) (some s) (λ_=>none) b)
  (λa=>Option.rec (motive:=λ_=>be dv) none
   (λb=>cond (Nat.beq a.off b.off) (Option.rec (motive:=λ_=>be dv) (Option.rec (motive:=λ_=>be dv) (wS a.block b.block s) (λ_=>none) b.spot) (λ_=>none) a.spot) none) b) a
theorem Qt{a b:be Addr}{s O:dv}(h:J3 a b s=some O):
 (a=none/\b=none/\O=s)\/∃p q,a=some p/\b=some q/\p.off=q.off/\p.spot=none/\q.spot=none/\wS p.block q.block s=some O:=by
 cases a with
 |none=>
  cases b with
  |none=>left;exact⟨j,j,(Option.some.inj h).symm⟩
  |some q=>cases h
 |some p=>
  cases b with
  |none=>cases h
  |some q=>
   right;have⟨g,d,a7⟩:=p;have⟨H,y,z⟩:=q;cases u:Nat.beq d y with
   |false=>
    have h:cond (Nat.beq d y) _ none=some O:=h;rw[u]at h;cases h
   |true=>
    cases a7 with
    |some x=>
     exact arH
    |none=>
     cases z with
     |some x=>
      exact arH
     |none=>
      have h:cond (Nat.beq d y) (wS g H s) none=some O:=h
      simp_all
def J4(f g:Fn)(k:be dv):be dv:=
 match f,g with
 |.func a,.func b=>cond (Nat.beq a b) k none
 |_,_=>none
def ac7{f g:Fn}{k:be dv}{s:dv}(h:J4 f g k=some s):∃a,f= .func a/\g= .func a/\k=some s:=by
 unfold J4 at h;split at h
 .rename_i a b;cases C:Nat.beq a b with
  |false=>rw[C]at h;cases h
  |true=>rw[C]at h;exact⟨a,j,by rw[dB C],h⟩
 .cases h
def ac8(a b:ac ci):Bool:=a==b
def J5(a b:Bool):Bool:=cond a b<|cond b false true
def Qu{a b:Bool}(h:J5 a b=true):a=b:=by cases a<;>cases b<;>first|rfl|cases h
def Qv(w:bv)(s:dv):be dv:=match w with|.nilFunc=>some s|_=>none
def Qw(w:bv)(s:dv):be dv:=match w with|.nilIface=>some s|_=>none
def Qx(c:be Nat)(w:bv)(s:dv):be dv:=match c,w with|some a,.chan (some b)=>cond (Nat.beq a b) (some s) none|_,_=>none
def Qy(f:Fn)(k:d7->be bv):be bv:=match f with|.func g=>k g|_=>none
def Qz(c:be Nat):be bv:=match c with|some c=>some (.chan<|some c)|none=>none
mutual
def si:bv->bv->dv->be dv
 |.bool a,w,s=>kj w (λb=>cond (J5 a b) (some s) none) none
 |.int k a,w,s=>fX w (λD b=>cond (j3 k D) (cond (rY a b) (some s) none) none) none
 |.string a,w,s=>hX w (λb=>cond (ac8 a.data.toList b.data.toList) (some s) none) none
 |.pointer a,w,s=>hG w (λb=>J3 a b s) none
 |.slice a n c,w,s=>hY w (λb M cR=>cond (Nat.beq n M) (cond (Nat.beq c cR) (J3 a b s) none) none) none
 |.map a,w,s=>oY w (λb=>Option.rec (motive:=λ_=>be dv) (Option.rec (motive:=λ_=>be dv) (some s) (λ_=>none) b) (λi=>Option.rec (motive:=λ_=>be dv) none (λJ=>wS i J s) b) a) none
 |.func f xs us,w,s=>yv w (λg aP ab=>J4 f g<|bq (yZ xs aP s) (λs=>yZ us ab s) none) none
 |.nilFunc,w,s=>Qv w s
 |.nilIface,w,s=>Qw w s
 |.iface t v,w,s=>yw w (λu y=>cond (Nat.beq t u) (si v y s) none) none
 |.agg xs,w,s=>rZ w (λaP=>yZ xs aP s) none
 |.tuple xs,w,s=>qF w (λaP=>yZ xs aP s) none
 |.chan c,w,s=>Qx c w s
 |_,_,_=>none
def yZ:bi bv->bi bv->dv->be dv
 |⟨xs⟩,aP,s=>BN xs aP.toList s
def BN:ac bv->ac bv->dv->be dv
 |[],aP,s=>List.rec (motive:=λ_=>be dv) (some s) (λ_ _ _=>none) aP
 |x::xs,aP,s=>List.rec (motive:=λ_=>be dv) none (λy G _=>bq (si x y s) (λO=>BN xs G O) none) aP
end
def ny{b:Bool}{U:be dv}{s:dv}(h:cond b U none=some s):b=true/\U=some s:=by
 cases b
 .cases h
 .exact⟨j,h⟩
def sj{α:Type}{U:be α}{k:α->be dv}{s:dv}(h:bq U k none=some s):∃a,U=some a/\k a=some s:=ie h au
mutual
theorem Ff:∀(v w:bv) (s O:dv),s.Ok->si v w s=some O->O.Ok/\s.le O/\fS O.ah v w
 |.bool a,w,s,O,M,h=>by
  obtain⟨b,rfl,h⟩:=O1 h au;obtain⟨Y,G⟩:=ny h;cases G;rw[Qu Y];exact⟨M,.refl s,.bool _⟩
 |.int k a,w,s,O,M,h=>by
  obtain⟨ab,b,rfl,h⟩:=od h au;obtain⟨Y,h⟩:=ny h;obtain⟨G,h⟩:=ny h;cases h;rw[AU]at G;rw[wF Y,Aw G];exact⟨M,.refl s,.int _ _⟩
 |.float k n,w,s,O,M,h=>by rw[si]at h<;>first|cases h|simp
 |.complex k n m,w,s,O,M,h=>by rw[si]at h<;>first|cases h|simp
 |.string a,w,s,O,M,h=>by
  obtain⟨b,rfl,h⟩:=yC h au;obtain⟨Y,G⟩:=ny h;cases G;have e:=Aw Y;have:a=b:=by cases a;simp only at e;rw[Array.toList_inj.1 e]
  rw[this];exact⟨M,.refl s,.string _⟩
 |.pointer a,w,s,O,M,h=>by
  obtain⟨b,rfl,h⟩:=A8 h au;rcases Qt h with⟨rfl,rfl,rfl⟩|⟨p,q,rfl,rfl,Y,G,A,C⟩
  .exact⟨M,.refl _,.lq⟩
  .obtain⟨W,I,a0⟩:=J2 M C;exact⟨W,I,.ptr p q a0 Y G A⟩
 |.slice a n c,w,s,O,M,h=>by
  obtain⟨b,af,cR,rfl,h⟩:=yD h au;obtain⟨S,h⟩:=ny h;obtain⟨z,h⟩:=ny h;rw[dB S,dB z];rcases Qt h with⟨rfl,rfl,rfl⟩|⟨p,q,rfl,rfl,Y,G,A,C⟩
  .exact⟨M,.refl _,.kl _ _⟩
  .obtain⟨W,I,a0⟩:=J2 M C;exact⟨W,I,.ft p q _ _ a0 Y G A⟩
 |.map a,w,s,O,M,h=>by
  have:∃b,w= .map b/\Option.rec (Option.rec (some s) (λ_=>none) b) (λi=>Option.rec none (λJ=>wS i J s) b) a=some O:=by
   cases w<;>first|cases h|exact⟨_,j,h⟩
  obtain⟨b,rfl,h⟩:=this;cases a with
  |none=>
   cases b with
   |none=>cases h;exact⟨M,.refl _,.mX⟩
   |some J=>cases h
  |some i=>
   cases b with
   |none=>cases h
   |some J=>
    obtain⟨W,I,a0⟩:=J2 M h;exact⟨W,I,.map i J a0⟩
 |.func f xs a',w,s,O,M,h=>by
  obtain⟨g,aP,aa,rfl,h⟩:=Jd h au;obtain⟨a,rfl,rfl,A⟩:=ac7 h;obtain⟨D,Y,G⟩:=sj A;obtain⟨B,K,d⟩:=Fg xs aP s D M Y;obtain⟨H,cA,dG⟩:=Fg a' aa D O B G;exact⟨H,K.trans cA,.Qr (d.mono cA) dG⟩
 |.nilFunc,w,s,O,M,h=>by
  rw[si]at h;unfold Qv at h;split at h
  .cases h;exact⟨M,.refl _,.nilFunc⟩
  .cases h
 |.nilIface,w,s,O,M,h=>by
  rw[si]at h;unfold Qw at h;split at h
  .cases h;exact⟨M,.refl _,.nilIface⟩
  .cases h
 |.iface t v,w,s,O,M,h=>by
  obtain⟨u,y,rfl,h⟩:=Je h au;obtain⟨S,h⟩:=ny h;obtain⟨B,K,d⟩:=Ff v y s O M h;rw[dB S];exact⟨B,K,.iface _ _ _ d⟩
 |.agg xs,w,s,O,M,h=>by
  obtain⟨aP,rfl,h⟩:=A9 h au;obtain⟨B,K,d⟩:=Fg xs aP s O M h;exact⟨B,K,.Qq d⟩
 |.tuple xs,w,s,O,M,h=>by
  obtain⟨aP,rfl,h⟩:=O2 h au;obtain⟨B,K,d⟩:=Fg xs aP s O M h;exact⟨B,K,.tuple' d⟩
 |.chan c,w,s,O,M,h=>by
  rw[si]at h;unfold Qx at h;split at h
  .obtain⟨S,h⟩:=ny h;cases h;rw[dB S];exact⟨M,.refl _,.chan _⟩
  .cases h
theorem Fg:∀(xs aP:bi bv) (s O:dv),s.Ok->yZ xs aP s=some O->O.Ok/\s.le O/\kq O.ah xs.toList aP.toList
 |⟨xs⟩,aP,s,O,M,h=>by rw[yZ]at h;exact Fh xs aP.toList s O M h
theorem Fh:∀(xs aP:ac bv) (s O:dv),s.Ok->BN xs aP s=some O->O.Ok/\s.le O/\kq O.ah xs aP
 |[],aP,s,O,M,h=>by
  cases aP with
  |nil=>cases h;exact⟨M,.refl _,.nil _⟩
  |cons y aP=>cases h
 |x::xs,aP,s,O,M,h=>by
  cases aP with
  |nil=>cases h
  |cons y aP=>
   obtain⟨G,aC,aI⟩:=sj h;obtain⟨B,K,d⟩:=Ff x y s G M aC;obtain⟨W,cA,dG⟩:=Fh xs aP G O B aI;exact⟨W,K.trans cA,.cons (d.mono cA) dG⟩
end
def QA(es:ac f7):ac f7->dv->be dv:=
 List.rec (motive:=λ_=>ac f7->dv->be dv) (λbS s=>List.rec (motive:=λ_=>be dv) (some s) (λ_ _ _=>none) bS)
  (λe _ I bS s=>List.rec (motive:=λ_=>be dv) none
   (λf h _=>cond (Nat.beq e.born f.born) (cond (dC e.key f.key) (bq (si e.key f.key s) (λs=>bq (si e.val f.val s) (λs=>I h s) none) none) none) none) bS) es
theorem QB:∀(es bS:ac f7) (s O:dv),s.Ok->QA es bS s=some O->O.Ok/\s.le O/\jv (o7 O.ah) es bS
 |[],[],s,O,M,h=>by cases h;exact⟨M,.refl _,.nil⟩
 |[],_::_,s,O,M,h=>by cases h
 |_::_,[],s,O,M,h=>by cases h
 |e::es,f::bS,s,O,M,h=>by
  have⟨S,h⟩:=ny h;have⟨z,h⟩:=ny h;have⟨s1,Y,h⟩:=sj h;have⟨s2,G,h⟩:=sj h;have⟨B,K,d⟩:=Ff _ _ _ _ M Y;have⟨W,cA,dG⟩:=Ff _ _ _ _ B G;have⟨eG,fD,m5⟩:=QB es bS s2 O W h;exact⟨eG,(K.trans cA).trans fD,.cons ⟨j2 _ _ z,d.mono<|cA.trans fD,dG.mono fD,dB S⟩ m5⟩
def wT(U p:bx)(s:dv):be dv:=
 match U,p with
 |.cells cs e I aR,.cells z G y O=>cond (Nat.beq e G) (cond (Nat.beq I.1 y.1) (cond (Nat.beq I.2 y.2) (cond (J5 aR O) (BN cs z s) none) none) none) none
 |.map es c,.map bS cR=>cond (Nat.beq c cR) (QA es bS s) none
 |_,_=>none
def QC{U p:bx}{s O:dv}(M:s.Ok)(h:wT U p s=some O):O.Ok/\s.le O/\kD O.ah U p:=by
 unfold wT at h;split at h
 .rename_i cs e I aR g G y j;have⟨S,h⟩:=ny h;have⟨z,h⟩:=ny h;have⟨H,h⟩:=ny h;have⟨A,h⟩:=ny h;have⟨B,K,d⟩:=Fh _ _ _ _ M h;have:=Prod.ext (dB z)<|dB H;subst this;rw[dB S,Qu A];exact⟨B,K,.cells _ _ _ _ _ d⟩
 .have⟨S,h⟩:=ny h;have⟨B,K,d⟩:=QB _ _ _ _ M h;rw[dB S];exact⟨B,K,.map _ _ _ d⟩
 .cases h
def QD(h:ao bx)(os:ac bx):Nat->dv->be dv:=
 List.rec (motive:=λ_=>Nat->dv->be dv) (λ_ s=>some s)
  (λU _ I i s=>bq (s.cB.get i) (λJ=>bq (h.get J) (λp=>bq (wT U p s) (λs=>fW (Nat.succ i) λH=>I H s) none) none) none) os
theorem QE{H:ao bx}:∀(os:ac bx) (i:Nat) (s O:dv),s.Ok->QD H os i s=some O->
 O.Ok/\s.le O/\∀k (aw:k<os.length),∃J p,O.ah (i+k) J/\H.get J=some p/\kD O.ah os[k] p
 |[],i,s,O,M,h=>by cases h;exact⟨M,.refl _,λk aw=>by simp at aw⟩
 |U::os,i,s,O,M,h=>by
  have⟨J,aC,h⟩:=sj h;have⟨p,G,h⟩:=sj h;have⟨s1,A,h⟩:=sj h;rw[fW]at h;rw[kT]at h;have⟨B,K,d⟩:=QC M A;have⟨W,cA,dG⟩:=QE os (i+1) s1 O B h;refine⟨W,K.trans cA,λk aw=>?_⟩;cases k with
  |zero=>exact⟨J,p,(K.trans cA) _ _ aC,G,d.mono cA⟩
  |succ k=>
   have⟨g,D,u,I,a0⟩:=dG k<|by simpa using aw
   grind
def mw(cB:ao Nat)(gV gW i:Nat):Nat:=bq (cB.get i) (λJ=>J)<|Nat.add gW<|Nat.sub i gV
section
variable(cB:ao Nat)(gV gW:Nat)
def J6{β:Type}(a:be Addr)(k:be Addr->be β):be β:=
 Option.rec (motive:=λ_=>be β) (k none) (λa=>Option.rec (motive:=λ_=>be β) (fW (mw cB gV gW a.block) λb=>k<|some ⟨b,a.off,none⟩) (λ_=>none) a.spot) a
mutual
def sk:bv->be bv
 |.pointer a=>J6 cB gV gW a λb=>some (.pointer b)
 |.slice a n c=>J6 cB gV gW a λb=>some (.slice b n c)
 |.map a=>Option.rec (motive:=λ_=>be bv) (some<|.map none) (λi=>fW (mw cB gV gW i) λJ=>some<|.map<|some J) a
 |.func f xs us=>Qy f λg=>bq (y0 xs) (λaP=>bq (y0 us) (λab=>some<|.func (.func g) ⟨aP⟩ ⟨ab⟩) none) none
 |.iface t v=>bq (sk v) (λw=>some<|.iface t w) none
 |.agg xs=>bq (y0 xs) (λaP=>some<|.agg ⟨aP⟩) none
 |.tuple xs=>bq (y0 xs) (λaP=>some<|.tuple ⟨aP⟩) none
 |.bool b=>some (.bool b)
 |.int k n=>some (.int k n)
 |.string s=>some (.string s)
 |.nilFunc=>some .nilFunc
 |.nilIface=>some .nilIface
 |.chan c=>Qz c
 |_=>none
def y0:bi bv->be (ac bv)
 |⟨xs⟩=>Fi xs
def Fi:ac bv->be (ac bv)
 |[]=>some []
 |x::xs=>bq (sk x) (λy=>bq (Fi xs) (λaP=>some<|y::aP) none) none
end
variable{β:Type}
def ed{α:Type}{U:be α}{k:α->be β}{b:β}(h:bq U k none=some b):∃a,U=some a/\k a=some b:=ie h au
theorem QF{a:be Addr}{k:be Addr->be β}{b:β}(h:J6 cB gV gW a k=some b):
 (a=none/\k none=some b)\/∃p,a=some p/\p.spot=none/\k (some ⟨mw cB gV gW p.block,p.off,none⟩)=some b:=by
 cases a with
 |none=>exact .inl ⟨j,h⟩
 |some p=>
  have⟨g,d,a7⟩:=p;cases a7 with
  |some x=>cases h
  |none=>
   have h:fW (mw cB gV gW g) (λb=>k<|some ⟨b,d,none⟩)=some b:=h;rw[fW]at h
   grind
mutual
theorem BO:∀(v w:bv),sk cB gV gW v=some w->fS (λi J=>J=mw cB gV gW i) v w
 |.bool b,w,h=>by cases h;exact .bool b
 |.int k n,w,h=>by cases h;exact .int k n
 |.float k n,w,h=>by rw[sk]at h<;>first|cases h|simp
 |.complex k n m,w,h=>by rw[sk]at h<;>first|cases h|simp
 |.string s,w,h=>by cases h;exact .string s
 |.pointer a,w,h=>by
  rcases QF cB gV gW h with⟨rfl,h⟩|⟨p,rfl,M,h⟩
  .cases h;exact .lq
  .cases h;exact .ptr _ _ j j M j
 |.slice a n c,w,h=>by
  rcases QF cB gV gW h with⟨rfl,h⟩|⟨p,rfl,M,h⟩
  .cases h;exact .kl _ _
  .cases h;exact .ft _ _ _ _ j j M j
 |.map a,w,h=>by
  cases a with
  |none=>cases h;exact .mX
  |some i=>
   have h:fW (mw cB gV gW i) (λJ=>some<|Value.map<|some J)=some w:=h;unfold fW at h;rw[kT]at h;cases h;exact .map _ _ j
 |.func f xs O,w,h=>by
  rw[sk]at h;unfold Qy at h;split at h
  .obtain⟨aP,Y,h⟩:=ed h;obtain⟨d,G,h⟩:=ed h;cases h;exact .Qr (Fj xs aP Y)<|Fj O d G
  .cases h
 |.nilFunc,w,h=>by cases h;exact .nilFunc
 |.nilIface,w,h=>by cases h;exact .nilIface
 |.iface t v,w,h=>by
  obtain⟨y,Y,h⟩:=ed h;cases h;exact .iface _ _ _ (BO v y Y)
 |.agg xs,w,h=>by
  obtain⟨aP,Y,h⟩:=ed h;cases h;exact .Qq (Fj xs aP Y)
 |.tuple xs,w,h=>by
  obtain⟨aP,Y,h⟩:=ed h;cases h;exact .tuple' (Fj xs aP Y)
 |.chan c,w,h=>by
  rw[sk]at h;unfold Qz at h;split at h
  .cases h;exact .chan _
  .cases h
theorem Fj:∀(xs:bi bv) (aP:ac bv),y0 cB gV gW xs=some aP->kq (λi J=>J=mw cB gV gW i) xs.toList aP
 |⟨xs⟩,aP,h=>by rw[y0]at h;exact J7 xs aP h
theorem J7:∀(xs aP:ac bv),Fi cB gV gW xs=some aP->kq (λi J=>J=mw cB gV gW i) xs aP
 |[],aP,h=>by cases h;exact .nil _
 |x::xs,aP,h=>by
  obtain⟨y,aC,h⟩:=ed h;obtain⟨I,G,h⟩:=ed h;cases h;exact .cons (BO x y aC)<|J7 xs I G
end
def QG(es:ac f7):be (ac f7):=
 List.rec (motive:=λ_=>be<|ac f7) (some [])
  (λe _ r=>bq (sk cB gV gW e.key) (λk=>cond (dC e.key k) (bq (sk cB gV gW e.val) (λv=>bq r (λes=>some<|⟨k,v,e.born⟩::es) none) none) none) none) es
theorem QH:∀(es bS:ac f7),QG cB gV gW es=some bS->jv (o7 λi J=>J=mw cB gV gW i) es bS
 |[],bS,h=>by cases h;exact .nil
 |e::es,bS,h=>by
  have⟨k,aC,h⟩:=ed h;cases d:dC e.key k with
  |false=>rw[d]at h;cases h
  |true=>
   rw[d]at h;have⟨v,G,h⟩:=ed h;have⟨gs,A,h⟩:=ed h;cases h;exact .cons ⟨j2 _ _ d,BO _ _ _ _ _ aC,BO _ _ _ _ _ G,j⟩<|QH es gs A
def Fk(U:bx):be bx:=
 match U with
 |.cells cs e I aR=>bq (Fi cB gV gW cs) (λz=>some<|.cells z e I aR) none
 |.map es c=>bq (QG cB gV gW es) (λbS=>some<|.map bS c) none
 |.dead=>some .dead
 |_=>none
def ac9{U p:bx}(h:Fk cB gV gW U=some p):(U= .dead/\p= .dead)\/kD (λi J=>J=mw cB gV gW i) U p:=by
 unfold Fk at h;split at h
 .have⟨z,Y,h⟩:=ed h;cases h;exact .inr<|.cells _ _ _ _ _<|J7 _ _ _ _ _ Y
 .have⟨bS,Y,h⟩:=ed h;cases h;exact .inr<|.map _ _ _<|QH _ _ _ _ _ Y
 .cases h;exact .inl fe
 .cases h
def J8(a3:Nat)(us:ac (Nat×bx)):ao bx->be (ao bx):=
 List.rec (motive:=λ_=>ao bx->be (ao bx)) (λh=>some h)
  (λu _ I h=>cond (Nat.ble a3 u.1) (fW (mw cB gV gW u.1) λJ=>bq (Fk cB gV gW u.2) (λp=>ao.fin (ao.ky (Nat.succ J) h J p) I) none) none) us
end
def kr(us:ac (Nat×bx)):ao bx->ao bx:=
 List.rec (motive:=λ_=>ao bx->ao bx) (λh=>h) (λu _ I h=>ao.fin (ao.ky (Nat.succ u.1) h u.1 u.2) I) us
def y1(os:ac bx):Nat->ao bx->ao bx:=
 List.rec (motive:=λ_=>Nat->ao bx->ao bx) (λ_ h=>h) (λU _ I i h=>fW (Nat.succ i) λH=>ao.fin (ao.ky H h i U) λD=>I H D) os
def y2(h:ao bx)(os:ac (Nat×bx)):dv->be dv:=
 List.rec (motive:=λ_=>dv->be dv) (λs=>some s)
  (λU _ I s=>bq (s.cB.get U.1) (λJ=>bq (h.get J) (λp=>bq (wT U.2 p s) I none) none) none) os
theorem QI{H:ao bx}:∀(os:ac (Nat×bx)) (s O:dv),s.Ok->y2 H os s=some O->
 O.Ok/\s.le O/\∀U∈os,∃J p,O.ah U.1 J/\H.get J=some p/\kD O.ah U.2 p
 |[],s,O,M,h=>by cases h;exact⟨M,.refl _,λU g=>by cases g⟩
 |U::os,s,O,M,h=>by
  have⟨J,aC,h⟩:=sj h;have⟨p,G,h⟩:=sj h;have⟨s1,A,h⟩:=sj h;have⟨B,K,d⟩:=QC M A;have⟨W,cA,dG⟩:=QI os s1 O B h;refine⟨W,K.trans cA,λu C=>?_⟩;obtain rfl|C:=fh.1 C
  .exact⟨J,p,(K.trans cA) _ _ aC,G,d.mono cA⟩
  .exact dG u C
theorem J9:∀(os:ac bx) (i:Nat) (h:ao bx) (k:Nat),(y1 os i h).get k=if i<=k/\k<i+os.length then os[k-i]? else h.get k
 |[],i,h,k=>by rw[av au];rfl
 |U::os,i,h,k=>by
  have e:y1 (U::os) i h=y1 os (i+1) (h.set i U):=by
   show fW (Nat.succ i) (λH=>ao.fin (ao.ky H h i U) λD=>y1 os H D)=_;rw[fW,kT];show ao.fin (ao.ky (Nat.succ i) h i U) (λD=>y1 os (i+1) D)=_;rw[ao.o1,ao.uw]
  rw[e,J9 os (i+1) _ k,ao.eo]
  grind
def Fl(u:Nat×bx)(us:ac (Nat×bx))(h:ao bx):kr (u::us) h=kr us (h.set u.1 u.2):=by
 show ao.fin (ao.ky (Nat.succ u.1) h u.1 u.2) (kr us)=_;rw[ao.o1,ao.uw]
theorem y3:∀(us:ac (Nat×bx)) (h:ao bx) (k:Nat) (U:bx),(kr us h).get k=some U->(k,U)∈us\/h.get k=some U
 |[],_,_,_,e=>.inr e
 |u::us,h,k,U,e=>by
  rw[Fl]at e;obtain hm|hm:=y3 us _ k U e
  .exact .inl<|fq _ hm
  .rw[ao.eo]at hm
   grind
structure dr where
 as:ac bv
 gs:ac (Nat×bx)
 o8:ac bx
 v:bv
 e3:ac (Nat×bx)
 ax:Nat
def dr.dw(r:dr)(a3:Nat):ao bx:=y1 r.o8 a3<|kr r.gs .nil
def dr.row(r:dr)(a3:Nat):Row:=⟨r.as,⟨r.dw a3,Nat.add a3<|dE r.o8⟩,r.v,⟨kr r.e3<|r.dw a3,r.ax⟩⟩
def dr.app(aq:dv)(r:dr)(as:ac bv)(st:ak):be dY:=
 bq (BN r.as as aq) (λs=>bq (y2 st.h r.gs s) (λs=>bq (QD st.h r.o8 aq.aT s) (λs=>cond (Nat.beq s.aT<|Nat.add aq.aT<|dE r.o8) (cond (Nat.ble s.aT r.ax)
  (bq (sk s.cB s.aT st.ae r.v) (λv=>bq (J8 s.cB s.aT st.ae aq.aT r.e3 st.h) (λh=>fW (Nat.add st.ae<|Nat.sub r.ax s.aT) λn=>some<|.ret v ⟨h,n⟩ false) none) none) none) none) none) none) none
structure Ka(Fm:Nat->Nat)(H:ao bx)(ae a3:Nat)(bX BP aQ:ao bx):Prop where
 obj:∀J U,aQ.get J=some U->U≠.dead->(∃i p,J=Fm i∧BP.get i=some p∧kD (fun i J=>J=Fm i) p U)∨((∀i,BP.get i≠none->Fm i≠J)∧H.get J=some U)
 lW:∀J,aQ.get J≠none->J<ae∨∃i,J=Fm i∧BP.get i≠none
 o8:∀i,bX.get i≠none->BP.get i≠none
 QJ:∀i,i<a3->BP.get i≠none->bX.get i≠none
theorem QK{cB:ao Nat}{gV gW:Nat}{H:ao bx}{ae a3:Nat}{bX:ao bx}:∀(us:ac (Nat×bx)) (I aQ D:ao bx),Ka (mw cB gV gW) H ae a3 bX I aQ->
 J8 cB gV gW a3 us aQ=some D->Ka (mw cB gV gW) H ae a3 bX (kr us I) D
 |[],I,aQ,D,s,h=>by cases h;exact s
 |u::us,I,aQ,D,s,h=>by
  have h:cond (Nat.ble a3 u.1) (fW (mw cB gV gW u.1) λJ=>bq (Fk cB gV gW u.2) (λp=>ao.fin (ao.ky (Nat.succ J) aQ J p)<|J8 cB gV gW a3 us) none) none=some D:=h;cases M:Nat.ble a3 u.1 with
  |false=>rw[M]at h;cases h
  |true=>
  rw[M]at h;have M:=ib M;rw[fW]at h;rw[kT]at h;have⟨p,Y,h⟩:=ed h;rw[ao.o1,ao.uw]at h;rw[Fl];refine QK us _ _ _ ⟨λJ U g y=>?_,λJ g=>?_,λi af=>?_,λi af A=>?_⟩ h
  .rw[ao.eo]at g;by_cases G:J=mw cB gV gW u.1
   .rw[aD G]at g;cases g;obtain⟨_,C⟩|d:=ac9 _ _ _ Y
    .exact absurd C y
    .exact .inl ⟨u.1,u.2,G,by rw[ao.mm],d⟩
   .rw[av G]at g;obtain⟨i,q,S,z,B⟩|⟨S,z⟩:=s.obj J U g y
    .refine .inl ⟨i,q,S,?_,B⟩;rw[ao.eo,av]
     .exact z
     .intro e;subst e;exact G S
    .refine .inr ⟨λi af K=>?_,z⟩;rw[ao.eo]at af
     grind
  .rw[ao.eo]at g;by_cases G:J=mw cB gV gW u.1
   .exact .inr ⟨u.1,G,au⟩
   .rw[av G]at g;obtain aW|⟨i,S,z⟩:=s.lW J g
    .exact .inl aW
    .refine .inr ⟨i,S,?_⟩;rw[ao.eo];split
     .simp
     .exact z
  .rw[ao.eo];split
   .simp
   .exact s.o8 i af
  .rw[ao.eo,av R]at A;exact s.QJ i af A
variable{X:Ctx}
theorem QL{f:d7}{r:dr}(bT:e8 X f (r.row X.a3)){aq:dv}(cn:aq.Ok)(cm:aq.aT=X.a3)(O:∀g,g<X.a3->aq.cB.get g=some g){as:ac bv}{st:ak}{o:dY}(h:r.app aq as st=some o)
 (ad:bH) (ho:ac bv) (w:f5) (bR:bI ad as ho) (aa:bQ X ad st w):
 (∀as w,(callFunc f as).run X.P w= .ok (.enter f as) w)/\
 ∀(K:CallKind) (bf:Bool->ac Frame),ju ⟨f,K,none⟩ none ad bf->hn X ad w ⟨f,K,none⟩ bf (lone (Frame.enter X.P f ho.toArray K) (bf false) w) o:=by
 obtain⟨ct,ca,h⟩:=ed h;obtain⟨cu,bP,h⟩:=ed h;obtain⟨s,cb,h⟩:=ed h;obtain⟨c',C,ck⟩:=Fh _ _ _ _ cn ca;obtain⟨b0,bs,b1⟩:=QI _ _ _ c' bP;obtain⟨aE,a5,bC⟩:=QE _ _ _ _ b0 cb;rw[cm]at h bC;cases b':Nat.beq s.aT (Nat.add X.a3<|dE r.o8)with
 |false=>rw[b']at h;cases h
 |true=>
 cases bB:Nat.ble s.aT r.ax with
 |false=>rw[b',bB]at h;cases h
 |true=>
 rw[b',bB]at h;have cp:s.aT=X.a3+r.o8.length:=by rw[<-e4];exact dB b'
 obtain⟨v,bM,h⟩:=ed h;obtain⟨hp,bY,h⟩:=ed h;unfold fW at h;rw[kT]at h;cases h;have bp:∀g,g<X.a3->s.cB.get g=some g:=λg p3=>a5 _ _<|bs _ _<|C _ _<|O g p3;have aW:∀J l,ad J=some l->J<st.ae:=by
  intro J l e;rcases gf J st.ae with aW|bl
  .exact aW
  .rw[(aa.fresh J bl).1]at e;cases e
 have aJ:∀i U,(r.dw X.a3).get i=some U->∃J p,s.cB.get i=some J/\st.h.get J=some p/\kD s.ah U p:=by
  intro i U ai;unfold dr.dw at ai;rw[J9]at ai;split at ai
  .rename_i af;obtain⟨a1,rfl⟩:=dP.1 ai;obtain⟨J,p,S,z,H⟩:=bC (i-X.a3) a1;rw[show X.a3+(i-X.a3)=i by omega]at S;exact⟨J,p,S,z,H⟩
  .rcases y3 _ _ _ _ ai with hm|hm
   .obtain⟨J,p,S,z,H⟩:=b1 _ hm;exact⟨J,p,a5 _ _ S,z,H.mono a5⟩
   .simp at hm
 have ba:∀i,X.a3<=i->i<s.aT->∃U,(r.dw X.a3).get i=some U:=by
  intro i af cr;unfold dr.dw;rw[J9,aD R,aO R];exact dN
 have bU:∀i,i<s.aT->∃J l,s.cB.get i=some J/\ad J=some l:=by
  intro i af;rcases gf i X.a3 with aj|aj
  .exact⟨i,_,bp i aj,aa.kB i aj⟩
  .obtain⟨U,ai⟩:=ba i aj af;obtain⟨J,p,S,z,H⟩:=aJ i U ai;obtain⟨l,aQ,_⟩:=aa.eB J p z H.live.2;exact⟨J,l,S,aQ⟩
 let aI:bH:=λi=>match s.cB.get i with|some J=>ad J|none=>none
 have aK:∀i J,s.cB.get i=some J->aI i=ad J:=by
  grind
 have aL:∀i l,aI i=some l->∃J,s.cB.get i=some J/\ad J=some l:=by
  grind
 have bD:∀J i l,(λJ i=>s.ah i J) J i->ad J=some l->aI i=some l:=λJ i l bZ B=>by rw[aK i J bZ];exact B
 have bS:bQ X aI (r.row X.a3).st w:=by
  refine⟨λi U ai ar=>?_,λi J U p l m af Y a' d aA A O e=>?_,λi af=>?_,λi l B=>?_,λg p3=>(by rw[aK g g<|bp g p3];exact aa.kB g p3),It _ _,λi l U B M ai ar=>?_⟩
  .obtain⟨J,p,S,z,H⟩:=aJ i U ai;obtain⟨l,aQ,cj⟩:=aa.eB J p z H.live.2;exact ati ati
  .obtain⟨bw,cc,S,z,H⟩:=aJ i U af;obtain⟨ab,bk,W,I,a0⟩:=aJ J p a';rw[aK i bw S]at aA;rw[aK J ab W]at A;have:=aa.inj bw ab cc bk l m z H.live.2 I a0.live.2 aA A O e;subst this;have bd:=(aE.iff _ _).1 S;have cA:=(aE.iff _ _).1 W;rw[bd]at cA;exact Option.some.inj cA
  .have af:X.a3+dE r.o8<=i:=af;rw[e4]at af;refine⟨?_,?_⟩
   .cases e:aI i with
    |none=>rfl
    |some l=>
     obtain⟨J,a',_⟩:=aL i l e;have:=aE.lW _ _ a';omega
   .cases e:(r.row X.a3).st.h.get i with
    |none=>rfl
    |some U=>
     obtain⟨J,_,S,_⟩:=aJ i U e;have:=aE.lW _ _ S;omega
  .obtain⟨J,_,aX⟩:=aL i l B;exact aa.fK J l aX
  .obtain⟨J,p,S,z,H⟩:=aJ i U ai;rw[aK i J S]at B;exact H.s8.2<|aa.km J l p B M z H.live.2
 have bG:=((ck.mono bs).mono a5).symm.ac6 bD bR;obtain⟨bd,cA⟩:=bT aI ho w bG bS;refine⟨bd,λK bf cl=>?_⟩;obtain⟨a9,y,w',F,bJ,ay,aH,bE,bL,bW,bX⟩:=cA K bf cl
 let aC:Nat->Nat:=mw s.cB s.aT st.ae
 have a2:∀i J,s.cB.get i=some J->aC i=J:=by
  intro i J e;show bq (s.cB.get i) (λJ=>J) _=J;rw[e];rfl
 have cq:∀i,s.aT<=i->aC i=st.ae+(i-s.aT):=by
  intro i af;show bq (s.cB.get i) (λJ=>J) _=_;cases e:s.cB.get i with
  |none=>rfl
  |some J=>have:=aE.lW _ _ e;omega
 let aF:bH:=λJ=>if J<st.ae then ad J else a9 (s.aT+(J-st.ae))
 have bb:∀J,J<st.ae->aF J=ad J:=λJ a'=>aD a';have bc:∀J,st.ae<=J->aF J=a9 (s.aT+(J-st.ae)):=λJ a'=>av R;have hle:ad.le aF:=λJ l e=>by rw[bb J<|aW J l e];exact e
 have aM:∀i J l,(λi J=>J=aC i) i J->a9 i=some l->aF J=some l:=by
  intro i J l e B;rcases gf i s.aT with af|af
  .obtain⟨J,b9,S,aQ⟩:=bU i af;have:=aH.le i b9<|by rw[aK i J S];exact aQ
   grind
  .grind
 have bN:Ka aC st.h st.ae X.a3 (r.dw X.a3) (r.dw X.a3) st.h:=by
  refine⟨λJ U a' ar=>?_,λJ a'=>?_,λi af=>af,λi _ af=>af⟩
  .by_cases cf:∃i,(r.dw X.a3).get i≠none/\aC i=J
   .obtain⟨i,af,e⟩:=cf;cases h0:(r.dw X.a3).get i with
    |none=>exact absurd h0 af
    |some bn=>
     obtain⟨ab,p,S,z,H⟩:=aJ i bn h0;have:ab=J:=by rw[<-e];exact(a2 i ab S).symm
     subst this;rw[a']at z;cases z;exact .inl ⟨i,bn,e.symm,h0,H.mono λa b b3=>(a2 a b b3).symm⟩
   .grind
  .left;rcases gf J st.ae with a1|bl
   .exact a1
   .exact absurd (aa.fresh J bl).2 a'
 have aR:=QK r.e3 _ _ _ bN bY;have hold:∀a l,(kr r.e3<|r.dw X.a3).get a≠none->aI a=some l->∃J p,s.cB.get a=some J/\st.h.get J=some p/\p≠.dead/\ad J=some l:=by
  intro a l bK B;obtain⟨J,S,z⟩:=aL a l B;have:∃U,(r.dw X.a3).get a=some U:=by
   rcases gf a X.a3 with aj|aj
   .cases h0:(r.dw X.a3).get a with
    |none=>exact absurd h0 (aR.QJ a aj bK)
    |some U=>exact⟨U,j⟩
   .exact ba a aj<|aE.lW _ _ S
  obtain⟨U,ai⟩:=this;obtain⟨ab,p,W,I,a0⟩:=aJ a U ai;rw[S]at W;cases W;exact⟨J,p,S,I,a0.live.2,z⟩
 have br:∀J U l,st.h.get J=some U->U≠.dead->ad J=some l->(∀i,(kr r.e3<|r.dw X.a3).get i≠none->aC i≠J)->∀i bo,aI i=some bo->bo.bF≠eU->bo.cx≠l.cx:=by
  intro J U l ai ar B D i bo aX M e;have bu:(kr r.e3<|r.dw X.a3).get i≠none:=by
   obtain⟨ab,S,z⟩:=aL i bo aX;rcases gf i X.a3 with aj|aj
   .exfalso;rw[bp i aj]at S;cases S;rw[aa.kB i aj]at z;cases z;exact M j
   .obtain⟨bn,b8⟩:=ba i aj<|aE.lW _ _ S;exact aR.o8 i<|by rw[b8];simp
  obtain⟨ab,p,S,z,H,aQ⟩:=hold i bo bu aX;have:=aa.inj ab J p U bo l z H ai ar aQ B (.inl M) e;subst this;exact D i bu<|a2 i ab S
 refine⟨aF,y,w',F,(BO _ _ _ _ _ bM).BM aM bJ,⟨λJ U a' ar=>?_,λi J U p l m af Y a' d aA A O e=>?_,λJ a'=>?_,λJ l B=>?_,λg p3=>(hle _ _<|aa.kB g p3),ch aa.m0<|It _ _,λJ l U B M a' ar=>?_⟩,⟨hle,aH.size,λb cd b4=>?_,λJ l B=>?_,aH.fQ⟩,bE,bL,bW,bX⟩
 .rcases aR.obj J U a' ar with⟨i,p,S,z,H⟩|⟨S,z⟩
  .obtain⟨l,W,I⟩:=ay.eB i p z H.live.1;exact⟨l,aM i J l S W,H.Qs aM I⟩
  .obtain⟨l,W,I⟩:=aa.eB J U z ar;refine⟨l,hle J l W,hz.mono X I hle ?_⟩;exact aH.kept l.cx (aa.fK J l W)<|br J U l z ar W S
 .have key:∀i J U p l m,hp.get i=some U->U≠.dead->hp.get J=some p->p≠.dead->aF i=some l->aF J=some m->(l.bF≠eU\/m.bF≠eU)->l.cx=m.cx->
   (∃a q,i=aC a/\(kr r.e3<|r.dw X.a3).get a=some q/\kD (λi J=>J=aC i) q U)->((∀a,(kr r.e3<|r.dw X.a3).get a≠none->aC a≠J)/\st.h.get J=some p)->False:=by
   intro i J U p l m af Y a' d aA A O e ⟨a,q,S,z,H⟩ ⟨W,I⟩;obtain⟨az,an,_⟩:=ay.eB a q z H.live.1;have:=aM a i az S an;rw[aA]at this;cases this;obtain⟨aY,aw,_⟩:=aa.eB J p I d;have:=hle J aY aw;rw[A]at this;cases this;rcases aH.new a l an with aj|aj|⟨b,b2,bh,bm,u⟩
   .obtain⟨ab,bk,b5,G,b6,b7⟩:=hold a l (by rw[z];simp) aj;have:=aa.inj ab J bk p l m G b6 I d b7 aw O e;subst this;exact W a (by rw[z];simp)<|a2 a ab b5
   .have:=aa.fK J m aw;omega
   .exact br J p m I d aw W b b2 bh bm R
  rcases aR.obj i U af Y with aS|aS<;>rcases aR.obj J p a' d with aU|aU
  .obtain⟨a,q,S,z,H⟩:=aS;obtain⟨b,bz,W,I,a0⟩:=aU;obtain⟨az,an,_⟩:=ay.eB a q z H.live.1;obtain⟨aY,aw,_⟩:=ay.eB b bz I a0.live.1;have au:=aM a i az S an;rw[aA]at au;cases au;have aZ:=aM b J aY W aw;rw[A]at aZ;cases aZ;have:=ay.inj a b q bz l m z H.live.1 I a0.live.1 an aw O e;rw[S,W,this]
  .exact(key i J U p l m af Y a' d aA A O e aS aU).elim
  .exact(key J i p U m l a' d af Y A aA O.symm e.symm aU aS).elim
  .obtain⟨az,an,_⟩:=aa.eB i U aS.2 Y;obtain⟨aY,aw,_⟩:=aa.eB J p aU.2 d;have au:=hle i az an;rw[aA]at au;cases au;have aZ:=hle J aY aw;rw[A]at aZ;cases aZ;exact aa.inj i J U p l m aS.2 Y aU.2 d an aw O e
 .have a':st.ae+(r.ax-s.aT)<=J:=a';have cg:∀i,r.ax<=i->a9 i=none/\(kr r.e3<|r.dw X.a3).get i=none:=λi af=>ay.fresh i af;refine⟨by rw[bc J R];exact(cg _ R).1,?_⟩;cases e:hp.get J with
  |none=>rfl
  |some U=>
   exfalso;rcases aR.lW J (by rw[e];simp)with a1|⟨i,S,z⟩
   .omega
   .rcases gf i s.aT with af|af
    .grind
    .grind
 .rcases gf J st.ae with a'|a'
  .rw[bb J a']at B;exact e2 (aa.fK J l B) aH.size
  .rw[bc J a']at B;exact ay.fK _ l B
 .rcases aR.obj J U a' ar with⟨a,q,S,z,H⟩|⟨S,z⟩
  .obtain⟨az,an,_⟩:=ay.eB a q z H.live.1;have au:=aM a J az S an;rw[B]at au;cases au;exact H.s8.1<|ay.km a l q an M z H.live.1
  .obtain⟨az,an,_⟩:=aa.eB J U z ar;have au:=hle J az an;rw[B]at au;cases au;exact aa.km J l U an M z ar
 .refine aH.kept b cd λi l B M=>?_;obtain⟨J,_,aX⟩:=aL i l B;exact b4 J l aX M
 .rcases gf J st.ae with a'|a'
  .rw[bb J a']at B;exact .inl B
  .rw[bc J a']at B;rcases aH.new _ l B with aj|aj|⟨b,m,bh,bm,u⟩
   .obtain⟨ab,S,_⟩:=aL _ l aj;have:=aE.lW _ _ S;omega
   .exact .inr<|.inl aj
   .obtain⟨ab,_,z⟩:=aL b m bh;exact .inr<|.inr ⟨ab,m,z,bm,u⟩
def wU(aq:dv)(as:ac bv)(st:ak)(R:ac (Nat×dr)):be dY:=
 List.rec (motive:=λ_=>be dY) none (λr _ I=>cond (Nat.beq r.1 st.ae) (bq (r.2.app aq as st) some I)<|cond (Nat.beq r.1 0) (bq (r.2.app aq as st) some I) I) R
theorem QM{aq:dv}{as:ac bv}{st:ak}:∀{R:ac (Nat×dr)} {o:dY},wU aq as st R=some o->∃r∈R,r.2.app aq as st=some o
 |[],o,h=>by cases h
 |r::R,o,h=>by
  have h:cond (Nat.beq r.1 st.ae) (bq (r.2.app aq as st) some<|wU aq as st R) (cond (Nat.beq r.1 0) (bq (r.2.app aq as st) some<|wU aq as st R)<|wU aq as st R)=some o:=h;have Fo:wU aq as st R=some o->∃O∈r::R,O.2.app aq as st=some o:=λh=>by
   have⟨O,Y,G⟩:=QM h;exact⟨O,fq _ Y,G⟩
  have d:bq (r.2.app aq as st) some (wU aq as st R)=some o->∃O∈r::R,O.2.app aq as st=some o:=λh=>by
   cases A:r.2.app aq as st with
   |none=>rw[A]at h;exact Fo h
   |some x=>rw[A]at h;cases h;exact⟨r,au,A⟩
  grind
end Go.bC
namespace Go.bC
variable{X:Ctx}
variable{n:Nat}{gl:oc}{a3:Nat}{f:d7}{r:dr}
def y4(n:Nat):ao Nat:=Nat.rec (motive:=λ_=>ao Nat) .nil (λm t=>ao.fin t λt=>ao.ky (Nat.succ m) t m m) n
theorem BQ:∀(n i:Nat),(y4 n).get i=if i<n then some i else none
 |0,i=>by rfl
 |n+1,i=>by
  have e:y4 (n+1)=(y4 n).set n n:=by
   show ao.fin (y4 n) (λt=>ao.ky (Nat.succ n) t n n)=_;rw[ao.o1,ao.uw]
  rw[e,ao.eo,BQ n i]
  grind
theorem ada{s:dv}(aC:s.cB=y4 n)(aI:s.inv=y4 n)(j:s.aT=n):s.Ok/\s.aT=n/\∀g,g<n->s.cB.get g=some g:=by
 refine⟨⟨λi J=>?_,λi J h=>?_⟩,j,λg O=>(by rw[aC,BQ,aD O])⟩
 .rw[aC,aI,BQ,BQ]
  grind
 .rw[aC,BQ]at h
  grind
def dr.ew(r:dr)(a3:Nat)(aL:ao cX)(gl:oc)(n f:Nat):Bool:=
 ao.fin (r.dw a3) λh=>ao.fin (kr r.e3 h) λD=>fW (Nat.add a3<|dE r.o8) λm=>bC.ew (cg aL gl n (.func (.func f) #[] #[]) r.as none ⟨h,m⟩) r.v ⟨D,r.ax⟩
def jP{aL:ao cX}(D:Good X)(j:k0 X aL)(S:sf X gl)(h:r.ew a3 aL gl n f=true):e8 X f (r.row a3):=by
 apply Qf D j S (n:=n);unfold dr.ew fW at h
 rwa [ao.o1,ao.o1,kT]at h
def dr.k1(r:dr)(a3 g:Nat)(el:co)(c:Nat)(aL:ao cX)(gl:oc)(n f:Nat):Bool:=
 ao.fin ((r.dw a3).set g<|.cells [.chan<|some c] el (0,1) false) λh=>ao.fin ((kr r.e3<|r.dw a3).set g<|.cells [.chan<|some c] el (0,1) false) λD=>fW (Nat.add a3<|dE r.o8) λm=>
  bC.ew (cg aL gl n (.func (.func f) #[] #[]) r.as none ⟨h,m⟩) r.v ⟨D,r.ax⟩
def lZ{aL:ao cX}(D:Good X)(j:k0 X aL)(S:sf X gl){g:Nat}{el:co}{c:Nat}(h:r.k1 a3 g el c aL gl n f=true):e8 X f ((r.row a3).nx g el c):=by
 apply Qf D j S (n:=n);unfold dr.k1 fW at h
 rwa [ao.o1,ao.o1,kT]at h
def dr.p2(r:dr)(a3:Nat)(mv:ac Nat)(aL:ao cX)(gl:oc)(n f:Nat)(a4:cX):Bool:=
 ao.fin (r.dw a3) λh=>ao.fin (kr r.e3 h) λD=>fW (Nat.add a3<|dE r.o8) λm=>bC.p2 mv m r.v ⟨D,r.ax⟩<|mu (cg aL gl n) n f a4 r.as ⟨h,m⟩
def y5{aL:ao cX}(D:Good X)(j:k0 X aL)(S:sf X gl){a4:cX}{mv:ac Nat}(O:aL.get f=some a4)(h:r.p2 a3 mv aL gl n f a4=true):e8 X f (r.row a3):=by
 apply ac1 D j S (n:=n) (mv:=mv) O;unfold dr.p2 fW at h
 rwa [ao.o1,ao.o1,kT]at h
def assoc(t:ac (Nat×ac (Nat×dr)))(f:Nat):ac (Nat×dr):=
 List.rec (motive:=λ_=>ac<|Nat×dr) [] (λp _ I=>cond (Nat.beq p.1 f) p.2 I) t
def qU(aq:dv)(t:ac (Nat×ac (Nat×dr))):oc:=λf as st=>wU aq as st<|assoc t f
def p4(X:Ctx)(f:Nat)(l:ac (Nat×dr)):Prop:=∀r∈l,e8 X f<|r.2.row X.a3
def BR(X:Ctx)(t:ac (Nat×ac (Nat×dr))):Prop:=∀p∈t,p4 X p.1 p.2
variable{l:ac (Nat×dr)}{t:ac (Nat×ac (Nat×dr))}
def h3{f:Nat}:p4 X f []:=λ_ h=>by cases h
def di{f:Nat}(h:e8 X f (r.row X.a3))(M:p4 X f l):p4 X f ((n,r)::l):=List.forall_mem_cons.2 ⟨h,M⟩
def a8:BR X []:=λ_ h=>by cases h
def ih{f:Nat}(h:p4 X f l)(M:BR X t):BR X ((f,l)::t):=List.forall_mem_cons.2 ⟨h,M⟩
theorem QN:∀{t:ac (Nat×ac (Nat×dr))},BR X t->∀f,p4 X f (assoc t f)
 |[],_,f=>h3
 |p::t,h,f=>by
  show p4 X f (cond (Nat.beq p.1 f) p.2<|assoc t f);cases ay:Nat.beq p.1 f with
  |true=>rw[<-dB ay];exact h p au
  |false=>exact QN (λq cD=>h q<|fq _ cD) f
def sl{aq:dv}(R:aq.Ok/\aq.aT=X.a3/\∀g,g<X.a3->aq.cB.get g=some g)(j:BR X t):sf X (qU aq t):=by
 intro f as st r I ad Y w A h _;have⟨row,hm,d⟩:=QM I;exact QL (QN j f row hm) R.1 R.2.1 R.2.2 d ad Y w A h
def adb{r:Row}(u:e8 X f r){ad:bH}{ho:ac bv}{w:f5}(bR:bI ad r.as ho)(D:bQ X ad r.st w):
 Calls X.P f ho.toArray w (λe w'=>∃aF bE,e= .returned bE/\bd aF r.v bE/\bQ X aF r.al w'/\eb ad aF w w'):=by
 intro cs;have⟨_,G⟩:=u ad ho w bR D;have⟨aF,bE,w',F,Y,G,A,g,C,H,M⟩:=G .normal (λ_=>cs) (λF R d=>by
  simp[tryRecover,d])
 have⟨W,I,fn,a0,cJ⟩:=H;exact⟨.returned bE,w',F,⟨aF,bE,j,Y,G,A⟩,M,C,W,I,g,fn,a0,cJ⟩
def Fp(n:Nat):bH:=λi=>if i<n then some ⟨i,0,0,eU⟩else none
def uL(n:Nat)(W:f5)(p:Nat×bx):Prop:=
 p.1<n/\∃cs el m C I,p.2= .cells cs el (0,m) false/\0<m/\W.heap[p.1]? =some (.cells C el I)/\bI (Fp n) cs C.toList
def Fq{α β j:Type}(f:α->β->be j):ac α->ac β->be (ac j)
 |[],[]=>some []
 |a::as,b::b2=>(f a b).bind λc=>(Fq f as b2).map λcs=>c::cs
 |_,_=>none
def y6:Nat->ac (Nat×Nat)->Nat->Bool
 |U,[],n=>Nat.beq U n
 |U,p::r,n=>Nat.beq p.1 U&&y6 (U+p.2) r n
def y7(P:f8):Nat->co->DataW Unit->be (ac bv)
 |0,_,_=>none
 |n+1,t,d=>
  match P.underlying t,d with
  |some .bool,.lit (.bool b)=>some [.bool b]
  |some (.int _),.lit (.int k m)=>some [.int k m]
  |some .string,.lit (.string s)=>some [.string ⟨⟨s⟩⟩]
  |some (.struct bS),.agg aM=>if y6 0 (bS.toList.map λf=>(f.offset,P.cellsOf f.type)) (P.cellsOf t)then(Fq (λ(f:Field) d=>y7 P n f.type d) bS.toList aM).map List.flatten else none
  |some (.array m e),.agg aM=>if y6 0 ((List.range m).map λi=>(i*P.cellsOf e,P.cellsOf e)) (P.cellsOf t)then(Fq (λ(_:Nat) d=>y7 P n e d) (List.range m) aM).map List.flatten else none
  |_,_=>none
theorem Fs(cs:ac bv):∀(l:ac (Nat×Nat)) (U:Nat),y6 U l cs.length=true->cs.drop U=(l.map λp=>(cs.drop p.1).take p.2).flatten
 |[],U,h=>by
  have:=dB h;rw[this];simp
 |p::r,U,h=>by
  rw[y6]at h;rw[c1]at h;rw[jZ,List.flatten_cons,<-Fs cs r (U+p.2) h.2,(dB h.1),<-qv,np]
theorem Kb{α:Type}{g:α->be (DataW Unit×ac MemPlace)}{k:α->DataW Unit->be (ac bv)}{y8:α->ac bv}
 (aw:∀a d p ab,g a=some (d,p)->k a d=some ab->y8 a=ab):∀(as:ac α) (xs:ac (DataW Unit×ac MemPlace)) (u:ac (ac bv)),as.mapM g=some xs->Fq k as (xs.map (·.1))=some u->as.map y8=u
 |[],xs,u,h,D=>by
  simp at h;subst h;cases D;rfl
 |a::as,xs,u,h,D=>by
  rw[List.mapM_cons]at h;have⟨x,O,h⟩:=rN.1 h;have⟨aP,j,h⟩:=rN.1 h;cases h;have⟨ab,S,D⟩:=rN.1 D;obtain⟨s,z,rfl⟩:=n3.1 D;rw[jZ,aw a x.1 x.2 ab O S,Kb aw as aP s j z]
theorem BS{P:f8}{w:f5}{base:Nat}{sp:Nat->Bool}{R:Bool}:∀(j n:Nat) (t:co) (cs:ac bv) (d:DataW Unit) (p:ac MemPlace) (ab:ac bv),
 DataW.trod (λ_=>()) P w base sp R j t cs=some (d,p)->y7 P n t d=some ab->cs=ab
 |0,_,_,_,_,_,_,h,_=>by simp[DataW.trod]at h
 |_+1,0,_,_,_,_,_,_,h=>by simp[y7]at h
 |j+1,n+1,t,cs,d,p,ab,h,D=>by
  unfold y7 at D;split at D
  .rename_i b M;cases D;simp[DataW.trod,M]at h
   grind
  .rename_i k y m M;cases D;simp[DataW.trod,M]at h
   grind
  .rename_i s M;cases D;simp[DataW.trod,M]at h;split at h<;>first|(rename_i cD;cases cD)|skip
   all_goals first
    |(split at h
      .cases h;rfl
      .cases h)
    |(simp at h)
  .rename_i bS aM M;split at D
   .rename_i aQ;obtain⟨u,S,rfl⟩:=n3.1 D;simp only[DataW.trod,M]at h;split at h
    .rename_i B;obtain⟨xs,z,H⟩:=n3.1 h;cases H;rw[<-B]at aQ;have A:=Fs cs _ 0 aQ;rw[qq]at A;have g:=Kb (λf d p ab Y G=>BS j n f.type _ d p ab Y G) _ _ _ z S;rw[<-g];exact A
    .cases h
   .cases D
  .rename_i m e aM M;split at D
   .rename_i aQ;obtain⟨u,S,rfl⟩:=n3.1 D;simp only[DataW.trod,M]at h;split at h
    .rename_i B;obtain⟨xs,z,H⟩:=n3.1 h;cases H;rw[<-B]at aQ;have A:=Fs cs _ 0 aQ;rw[qq]at A;have g:=Kb (λi d p ab Y G=>BS j n e _ d p ab Y G) _ _ _ z S;rw[<-g];exact A
    .cases h
   .cases D
  .cases D
theorem QO{P:f8}{w:f5}:∀{l:ac (String×DataW Unit)} {a7:ac MemPlace},DataW.LaidVars P w l a7->∀x∈l,∃g t cs j p,P.globalNamed x.1=some g/\(P.globals[g]?).map (·.type)=some t/\w.var? P x.1=some cs/\
 DataW.trod (λ_=>()) P w 0 (λ_=>true) false j t cs.toList=some (x.2,p)
 |[],_,_,x,O=>by cases O
 |(n,d)::r,a7,h,x,O=>by
  have⟨g,t,cs,j,p,q,aC,aI,A,s,C,_⟩:=h;obtain rfl|O:=fh.1 O
  .exact⟨g,t,cs,j,p,aC,aI,A,s⟩
  .exact QO C x O
def Ft:bv->Bool
 |.bool _|.int _ _|.string _=>true
 |_=>false
def ade{ad:bH}{v:bv}(h:Ft v=true):bd ad v v:=by
 cases v<;>first|(simp[Ft]at h;done)|constructor
theorem QP{ad:bH}:∀{ab:ac bv},ab.all Ft=true->bI ad ab ab
 |[],_=>.nil ad
 |v::ab,h=>by
  rw[vQ,c1]at h;exact .cons (ade h.1)<|QP h.2
def Fu{P:f8}{W:f5}{l:ac (String×DataW Unit)}{a7:ac MemPlace}(aB:DataW.LaidVars P W l a7){g N:Nat}{name:String}{d:DataW Unit}{t el:co}{ab:ac bv}{m:Nat}
 (M:(name,d)∈l) (O:P.globalNamed name=some g) (R:(P.globals[g]?).map (·.type)=some t) (D:y7 P n t d=some ab) (p3:g<N) (hm:0<m) (hp:ab.all Ft=true)
 (u:∃cs,W.heap[g]? =some (.cells cs el)):uL N W (g,.cells ab el (0,m) false):=by
 have⟨s,I,cs,fuel,p,Y,G,A,h⟩:=QO aB _ M;rw[O]at Y;cases Y;rw[R]at G;cases G;have⟨C,hC⟩:=u;have S:C=cs:=by
  simp only[World.var?,O,Option.bind_some,hC]at A;exact Option.some.inj A
 subst S;refine⟨p3,ab,el,m,C,_,j,hm,hC,?_⟩;rw[BS fuel n t _ d p ab h D];exact QP hp
end Go.bC
namespace Go.bC
variable{Q:Nat->cX->Prop}
variable{i:Nat}
def QQ(t:ao {p:Nat×cX //Q p.1 p.2}):ao cX:=
 ao.rec (motive:=λ_=>ao cX) .nil (λ_ v _ l r=>.node l (Option.rec (motive:=λ_=>be cX) none (λp=>some p.1.2) v) r) t
def keyed:ao {p:Nat×cX //Q p.1 p.2}->(Nat->Nat)->Bool
 |.nil,_=>true
 |.node l v r,g=>(match v with|some p=>Nat.beq p.1.1 (g 0)|none=>true)&&(keyed l (λn=>g<|2*n+1)&&keyed r λn=>g<|2*n+2)
theorem Kc:∀(t:ao {p:Nat×cX //Q p.1 p.2}) (g:Nat->Nat),keyed t g=true->ao.Fc Q (QQ t) g
 |.nil,_,_=>trivial
 |.node l v r,g,h=>by
  unfold keyed at h;rw[c1,c1]at h;refine⟨?_,Kc l _ h.2.1,Kc r _ h.2.2⟩;cases v with
  |none=>trivial
  |some p=>
   show Q (g 0) p.1.2;rw[<-(dB h.1)];exact p.2
def b0(g:{b:cX //Q i b}):ao {p:Nat×cX //Q p.1 p.2}:=.node .nil (some ⟨(i,g.1),g.2⟩) .nil
def bh(a:ao {p:Nat×cX //Q p.1 p.2})(g:{b:cX //Q i b})(b:ao {p:Nat×cX //Q p.1 p.2}):ao {p:Nat×cX //Q p.1 p.2}:=.node a (some ⟨(i,g.1),g.2⟩) b
def kE(a b:ao {p:Nat×cX //Q p.1 p.2}):ao {p:Nat×cX //Q p.1 p.2}:=.node a none b
end Go.bC
namespace Go.bC.Kd
inductive Ke where
 |bool|int (k:IntKind)|str|aH (e:Nat)|bO (n e:Nat)|st (l:List (Nat×Nat))|mx (e:Nat)|mp (k v:Nat)|fn|Kf|up
inductive BU where
 |l
 |n (a:BU) (k:Nat) (d:Ke) (s b:Nat) (c:BU)
def BU.get:BU->Nat->Ke×Nat×Nat
 |.l,_=>(.up,0,0)
 |.n a k d s b c,t=>match Nat.blt t k with
  |true=>a.get t
  |false=>match Nat.beq t k with
   |true=>(d,s,b)
   |false=>c.get t
structure Env where
 ll:Nat
 lO:Nat
 aT:Nat
 idx:Nat
 lS:Nat
 ty:BU
 mt:ac (String×ac (Nat×d7)):=[]
 adf:be (Nat×Nat):=none
namespace Env
def QR(C:Env)(n:String):ac (Nat×d7):=match C.mt.find? (λp=>p.1==n)with
 |some p=>p.2
 |none=>[]
def d(C:Env)(t:Nat):Ke:=(C.ty.get t).1
def s(C:Env)(t:Nat):Nat:=(C.ty.get t).2.1
def b(C:Env)(t:Nat):Nat:=(C.ty.get t).2.2
def g(C:Env)(t:Nat):Bool:=match C.d t with
 |.st _=>true
 |.bO _ _=>true
 |_=>false
def cE(C:Env)(t:Nat):Nat:=match C.d t with
 |.st l=>l.foldl (λn p=>match C.d p.2 with
  |.str=>n+100
  |_=>n+1) 0
 |_=>C.s t
def Kg(C:Env):Nat->Nat->ac bv
 |0,_=>[]
 |f+1,t=>match C.d t with
  |.bool=>[.bool false]
  |.int k=>[.int k 0]
  |.str=>[.string ⟨#[]⟩]
  |.aH _=>[.slice none 0 0]
  |.bO n e=>(List.replicate n<|C.Kg f e).flatten
  |.st l=>l.flatMap λp=>C.Kg f p.2
  |.mx _=>[.pointer none]
  |.mp _ _=>[.map none]
  |.fn=>[.nilFunc]
  |.Kf=>[.nilIface]
  |.up=>[]
def z(C:Env)(t:Nat):ac bv:=C.Kg 20 t
def uB(C:Env)(t:Nat):bv:=match C.g t with
 |true=>.agg ⟨C.z t⟩
 |false=>(C.z t).headD .nilIface
def ct(C:Env)(t:Nat):fH:=match C.d t with
 |.int k=>.int k
 |.bO n e=>match C.d e with
  |.int k=>.arr k n
  |_=>.str
 |_=>.str
def QS(C:Env)(t:Nat):qB:=match C.d t with
 |.aH _=>.mi
 |.mp _ _=>.IQ
 |.fn=>.D0
 |.Kf=>.D1
 |.mx _=>.ptr
 |_=>.yn
def bin(C:Env)(hZ:ac Nat)(U:BinOp)(t:Nat)(a b:ce):dh:=
 let u:=match b with
  |.tmp J=>hZ.any (Nat.beq J)
  |_=>false
 match C.d t,U,u with
 |.int _,.leq,true=>.ext (.yo false a b)
 |.int _,.gtr,true=>.ext (.yo true a b)
 |.int _,U,_=>.bin U a b
 |.str,U,_=>.bin U a b
 |.st _,.neq,_=>.ext (.uh true (C.cE t) a b)
 |.bO _ _,.neq,_=>.ext (.uh true (C.s t) a b)
 |.st _,_,_=>.ext (.uh false (C.cE t) a b)
 |.bO _ _,_,_=>.ext (.uh false (C.s t) a b)
 |_,.neq,_=>.eqv true (C.QS t) a b
 |_,_,_=>.eqv false (C.QS t) a b
def conv(C:Env)(s t:Nat)(a:ce):dh:=match C.d s,C.d t with
 |.int _,.int k=>.uj k a
 |.str,.str=>.yq a
 |.aH _,.str=>.AO a
 |.str,.aH e=>.wb e a
 |.mx _,.up=>.D7 a
 |.up,.mx e=>.D8 e (C.s e) a
 |_,_=>.refuse
def parts(C:Env)(e:Nat)(a7:ac (Nat×ce)):ac (Nat×Nat×ce):=a7.map λp=>(p.1*C.s e,C.s e,p.2)
def adg(C:Env)(f:Nat)(as:ac ce):dh:=
 match as,Nat.beq f C.ll,Nat.beq f C.lO,Nat.beq f C.aT,Nat.beq f C.idx with
 |[a],true,_,_,_=>.ll a
 |[a,b],_,true,_,_=>.lO a b
 |[a,b],_,_,true,_=>.ext (.aT a b)
 |[a,b],_,_,_,true=>.ext (.idxs C.lS a b)
 |as,_,_,_,_=>match as,C.adf with
  |[a],some (g,e)=>match Nat.beq f g with
   |true=>.ext (.D4 e a)
   |false=>.call (.func f) [a]
  |as,_=>.call (.func f) as
def len(C:Env)(t:Nat)(a:ce):dh:=match C.d t with
 |.aH _=>.we a
 |.str=>.wg a
 |.bO n _=>.AP n
 |.mp _ _=>.ext (.v9 a)
 |.mx e=>match C.d e with
  |.bO n _=>.AP n
  |_=>.refuse
 |_=>.refuse
def el(C:Env)(t:Nat):Nat:=match C.d t with
 |.aH e=>e
 |.bO _ e=>e
 |.mx e=>e
 |_=>0
def adh(C:Env)(f:Builtin)(as:ac ce)(aA:ac Nat):dh:=
 match f,as,aA with
 |.len,[a],t::_=>C.len t a
 |.cap,[a],t::_=>match C.d t with
  |.aH _=>.ext (.IS a)
  |_=>.refuse
 |.delete,[a,b],t::_=>match C.d t with
  |.mp k _=>.ext (.del (C.ct k) a b)
  |_=>.refuse
 |.append,[a,b],t::_=>.app (C.el t) (C.s<|C.el t) (C.b<|C.el t) a b
 |.max,a::as,_=>.g7 a as
 |.min,a::as,_=>.AQ a as
 |.copy,[a,b],t::_=>.s0 (C.s<|C.el t) a b
 |.recover,_,_=>.um
 |.unsafeSliceData,[a],_=>.D9 a
 |.unsafeString,[a,b],t::_=>.uo (C.el t) a b
 |_,_,_=>.refuse
def pI(C:Env)(t f:Nat):Nat×Nat:=match C.d t with
 |.st l=>l.getD f (0,0)
 |_=>(0,0)
def adi(C:Env)(hZ:ac Nat):Op->dh
 |.move a=>.jF a
 |.assign a=>.jF a
 |.pick a b c=>.pick a b c
 |.alloc t=>.alloc (C.z t) t
 |.box t a=>.box t a
 |.build t a7=>.build (C.z t) (match C.d t with
  |.st l=>a7.toList.map λp=>((l.getD p.1 (0,0)).1,C.s (l.getD p.1 (0,0)).2,p.2)
  |.bO _ e=>C.parts e a7.toList
  |_=>[])
 |.buildSlice t n a7=>.qC (C.el t) n ((List.replicate n<|C.z<|C.el t).flatten) (C.parts (C.el t) a7.toList)
 |.load t a=>match C.g t with
  |true=>.mV (C.s t) a
  |false=>.iv a
 |.store t a x=>.store (C.s t) a x
 |.nilCheck a=>.ui a
 |.binOp U t a b _=>C.bin hZ U t a b
 |.unOp U _ a=>.un U a
 |.convert s t a=>C.conv s t a
 |.makeInterface t a=>.D5 t a
 |.makeFunc f a b=>.rU f a.toList b.toList
 |.makeMap _ _=>.pG
 |.makeSlice t l c=>.pH (C.el t) (C.b<|C.el t) (C.z<|C.el t) l c
 |.slice t a bm af g7=>match C.d t with
  |.str=>.sZ a bm af
  |.bO n e=>.wc n (C.s e) a bm af g7
  |.aH e=>.n8 (C.s e) a bm af g7
  |_=>.refuse
 |.fieldAddr t a f=>.qD (C.pI t f).1 a
 |.field t a f=>.pI (C.pI t f).1 (C.s (C.pI t f).2) (C.g (C.pI t f).2) a
 |.indexAddr t a i=>match C.d t with
  |.bO n e=>.rV n (C.s e) a i
  |.aH e=>.iC (C.s e) a i
  |_=>.refuse
 |.index t a i=>match C.d t with
  |.str=>.uk a i
  |.bO n e=>.IT n (C.s e) (C.g e) a i
  |_=>.refuse
 |.typeAssert a _ t ok=>.D6 t (C.uB t) ok a
 |.extract a i=>.rW a i
 |.call c=>match c.callee with
  |.value f=>match f with
   |.func f=>C.adg f c.args.toList
   |f=>.call f c.args.toList
  |.builtin b=>C.adh b c.args.toList c.argTypes.toList
  |.invoke r n=>.inv (C.QR n) r c.args.toList
 |.defer c=>match c.callee with
  |.value f=>.pJ f c.args.toList
  |_=>.refuse
 |.panic a=>.n9 a
 |.lookup t m k ok=>match C.d t with
  |.mp a v=>.ext (.look (C.ct a) (C.uB v) ok m k)
  |_=>.refuse
 |.mapUpdate t m k v=>match C.d t with
  |.mp a _=>.ext (.e3 (C.ct a) m k v)
  |_=>.refuse
 |.insert t m k v=>match C.d t with
  |.mp a _=>.ext (.e3 (C.ct a) m k v)
  |_=>.refuse
 |.range t m=>match C.d t with
  |.str=>.ext (.D2 m)
  |_=>.ext (.ug m)
 |.next i s=>match s with
  |true=>.ext (.D3 i)
  |false=>.ext (.n7 i)
 |.entry i=>.ext (.wa i)
 |_=>.refuse
end Env
def ol:be ce->ac ce
 |none=>[]
 |some a=>[a]
def adj:uf->ac ce
 |.look _ _ _ a b=>[a,b]
 |.e3 _ a b c=>[a,b,c]
 |.del _ a b=>[a,b]
 |.v9 a=>[a]
 |.ug a=>[a]
 |.wa a=>[a]
 |.aT a b=>[a,b]
 |.uh _ _ a b=>[a,b]
 |.n7 a=>[a]
 |.yo _ a b=>[a,b]
 |.idxs _ a b=>[a,b]
 |.D2 a=>[a]
 |.D3 a=>[a]
 |.D4 _ a=>[a]
 |.IS a=>[a]
def Fo:dh->ac ce
 |.jF a=>[a]
 |.pick a b c=>[a,b,c]
 |.alloc _ _=>[]
 |.box _ a=>[a]
 |.build _ l=>l.map λp=>p.2.2
 |.qC _ _ _ l=>l.map λp=>p.2.2
 |.iv a=>[a]
 |.mV _ a=>[a]
 |.store _ a b=>[a,b]
 |.ui a=>[a]
 |.bin _ a b=>[a,b]
 |.eqv _ _ a b=>[a,b]
 |.un _ a=>[a]
 |.uj _ a=>[a]
 |.yq a=>[a]
 |.AO a=>[a]
 |.wb _ a=>[a]
 |.D5 _ a=>[a]
 |.rU _ a b=>a++b
 |.pG=>[]
 |.pH _ _ _ a b=>[a,b]
 |.sZ a b c=>a::(ol b++ol c)
 |.wc _ _ a b c e=>a::(ol b++(ol c++ol e))
 |.n8 _ a b c e=>a::(ol b++(ol c++ol e))
 |.qD _ a=>[a]
 |.pI _ _ _ a=>[a]
 |.rV _ _ a b=>[a,b]
 |.iC _ a b=>[a,b]
 |.uk a b=>[a,b]
 |.IT _ _ _ a b=>[a,b]
 |.D6 _ _ _ a=>[a]
 |.rW a _=>[a]
 |.call f l=>f::l
 |.inv _ f l=>f::l
 |.Oy _ _ a=>[a]
 |.we a=>[a]
 |.wg a=>[a]
 |.yr a=>[a]
 |.app _ _ _ a b=>[a,b]
 |.g7 a l=>a::l
 |.AQ a l=>a::l
 |.s0 _ a b=>[a,b]
 |.pJ f l=>f::l
 |.n9 a=>[a]
 |.D7 a=>[a]
 |.D8 _ _ a=>[a]
 |.D9 a=>[a]
 |.uo _ a b=>[a,b]
 |.lO a b=>[a,b]
 |.ll a=>[a]
 |.ext y=>adj y
 |_=>[]
def BF(l:ac ce):ac Nat:=l.filterMap λ
 |.tmp J=>some J
 |_=>none
def fM:dh->Nat
 |.ext y=>match y with
  |.e3 _ _ _ _=>0
  |.del _ _ _=>0
  |.ug _=>0
  |.n7 _=>0
  |.D2 _=>0
  |.D3 _=>0
  |.D4 _ _=>0
  |_=>2
 |.call _ _=>0
 |.inv _ _ _=>0
 |.app _ _ _ _ _=>0
 |.s0 _ _ _=>0
 |.um=>0
 |.pJ _ _=>0
 |.n9 _=>0
 |.store _ _ _=>0
 |.refuse=>0
 |.uo _ _ _=>0
 |.yr _=>0
 |.alloc _ _=>1
 |.box _ _=>1
 |.qC _ _ _ _=>1
 |.wb _ _=>1
 |.pG=>1
 |.pH _ _ _ _ _=>1
 |_=>2
def mem(l:ac Nat)(t:Nat):Bool:=l.any<|Nat.beq t
def add(l:ac Nat)(t:Nat):ac Nat:=match mem l t with
 |true=>l
 |false=>l++[t]
def wV(ops:ac Oper)(U:Oper):be (Nat×Bool):=match U.guard with
 |none=>none
 |some (J,w)=>match(ops[J]?).bind (·.dst)with
  |some t=>some (t,w)
  |none=>none
def Kh(t:Nat):ac Oper->be String
 |[]=>none
 |U::os=>match U.op,U.dst with
  |.makeFunc (.method n) _ _,some d=>(match Nat.beq d t with
   |true=>some n
   |false=>Kh t os)
  |_,_=>Kh t os
def QT(C:Env)(hZ:ac Nat)(ops:ac Oper)(U:Oper):bj:=⟨U.dst,(match U.op with
 |.nilCheck (.tmp t)=>(match Kh t ops with
  |some n=>.Oy n (C.QR n) (.tmp t)
  |none=>.ui<|.tmp t)
 |_=>C.adi hZ U.op),wV ops U⟩
def binds(e:Edge):Bool:=match e.ground with
 |.textOnly _=>false
 |.gcOnly _=>false
 |_=>true
def QU:ac Nat->ac Oper->ac Nat
 |B,[]=>B
 |B,U::os=>QU (B++[(U.after.toList.filter binds).foldl (λm e=>m|||(2^e.on|||B.getD e.on 0)) 0]) os
def ord(n:Nat)(B K:ac Nat):ac Nat:=
 let es:=(List.range n).filter λi=>Nat.beq (K.getD i 2) 0
 let l:=es.foldl (λl e=>add (((List.range n).filter λi=>(B.getD e 0).testBit i).foldl add l) e) []
 (List.range n).foldl add l
def maskAt(m:Nat):Nat->ac Nat->Nat
 |_,[]=>0
 |p,i::l=>(match m.testBit i with
  |true=>2^p
  |false=>0)+maskAt m (p+1) l
def qE(C:Env)(hZ:ac Nat)(ops:ac Oper):du:=
 let xs:=ops.map<|QT C hZ ops
 let K:=xs.map λx=>fM x.U
 let L:=xs.map λx=>BF (Fo x.U)++(match x.g with
  |some (t,_)=>[t]
  |none=>[])
 let B:=QU [] ops
 let h:=ord ops.length B K
 let row (p:Nat) (i:Nat):bj×cn:=(xs.getD i ⟨none,.refuse,none⟩,match K.getD i 0 with
  |0=>.dI
  |1=>.hx (L.getD i [])
  |_=>.read (((h.take p).filter λJ=>Nat.beq (K.getD J 2) 0&& !(B.getD i 0).testBit J).length)<|L.getD i [])
 let fc:=(List.range h.length).foldl (λl p=>match(xs.getD (h.getD p 0) ⟨none,.refuse,none⟩).d with
  |none=>l
  |some t=>match(h.take p).any λJ=>(Nat.beq (K.getD J 2) 0||mem (L.getD J []) t)&& !(B.getD (h.getD p 0) 0).testBit J with
   |true=>add l t
   |false=>l) []
 .qE ((List.range h.length).map λp=>row p<|h.getD p 0) h fc<|h.map λi=>maskAt (B.getD i 0) 0 h
def code(C:Env)(hZ:ac Nat):Code->du
 |.skip=>.skip
 |.label _=>.skip
 |.region _ ops h=>match h with
  |true=>qE C hZ ops.toList
  |false=>.gg (ops.toList.map<|QT C hZ ops.toList)
 |.seq a b=>.seq (code C hZ a) (code C hZ b)
 |.cond x a b=>.cond x (code C hZ a) (code C hZ b)
 |.block n a=>.block n (code C hZ a)
 |.loop a=>.loop (code C hZ a)
 |.rangeFunc x a7 a b=>.uq x a7.toList (code C hZ a) (code C hZ b)
 |.scope a=>.scope (code C hZ a)
 |.exit n=>.exit n
 |.ret=>.ret
 |_=>.refuse
def adk(g:Nat)(U:Oper):ac Nat:=match U.op,U.dst with
 |.load _ (.global h),some t=>match Nat.beq g h with
  |true=>[t]
  |false=>[]
 |_,_=>[]
def sm(g:Nat):Code->ac Nat
 |.region _ ops _=>ops.toList.flatMap (adk g)
 |.seq a b=>sm g a++sm g b
 |.cond _ a b=>sm g a++sm g b
 |.block _ a=>sm g a
 |.loop a=>sm g a
 |.rangeFunc _ _ a b=>sm g a++sm g b
 |.scope a=>sm g a
 |_=>[]
def res(C:Env):ResultVar->gS
 |.tmp t=>.tmp t
 |.cell t k=>.cell t (C.g k)<|C.s k
def fn(C:Env)(f:Func):cX:=match f.body with
 |none=>⟨0,[],.refuse⟩
 |some c=>⟨f.ntmps,f.results.toList.map<|res C,code C (sm C.lS c) c⟩
end Go.bC.Kd
