/- An abstract machine, and that its evaluations stand for runs of the model (part 2); no condition. -/
import Derived.Orders
import Derived.Defers
import Derived.RangeFuncLeaves
import Derived.RangeFuncRecord
import Derived.KernelRfl
import Derived.LaidLaws
import Derived.Test.YtnbgimpdclpgbaaGreatDoorM1
noncomputable section
set_option linter.all false
namespace Go.bA
variable{X:Ctx}{call:bM}
def kY(o:aJ)(g:be (Tmp×Bool))(b:Bool):Prop:=gW o g (some true) (some false) none=some b
variable{β:Type}
def Ba{α:Type}{o:aJ}{g:be (Tmp×Bool)}{D u z r:α}(h:gW o g D u z=r)(G:z≠r):(kY o g true/\D=r)\/(kY o g false/\u=r):=by
 cases g with
 |none=>exact .inl ⟨j,h⟩
 |some p=>
  have s:jX (o.tmp p.1) (λb=>cond b (cond p.2 D u)<|cond p.2 u D) (qd (o.tmp p.1) (λ_=>u) z)=r:=h;show(jX (o.tmp p.1) (λb=>cond b (cond p.2 (some true)<|some false)<|cond p.2 (some false)<|some true) (qd (o.tmp p.1) (λ_=>some false) none)=some true/\_)\/
   (jX (o.tmp p.1) (λb=>cond b (cond p.2 (some true)<|some false)<|cond p.2 (some false)<|some true) (qd (o.tmp p.1) (λ_=>some false) none)=some false/\_)
  generalize o.tmp p.1=y at s;cases y with
  |bool A=>
   have d:=s;cases A<;>cases hp:p.2<;>rw[hp]at d
   ·exact .inl ⟨j,d⟩
   ·exact .inr ⟨j,d⟩
   ·exact .inr ⟨j,d⟩
   ·exact .inl ⟨j,d⟩
  |tuple xs=>exact .inr ⟨j,s⟩
  |_=>exact absurd s G
def Eu(t:ao bv)(ay:ac Tmp):ao bv:=jq t ay λm=>m
def aJ.only(o:aJ)(ay:ac Tmp):aJ:=⟨Eu o.t ay,[],none,false,none⟩
def nH(t:ao bv)(ay:ac Tmp)(k:ao bv->β)(m:ao bv):β:=
 List.rec (motive:=λ_=>ao bv->β) (λm=>k m) (λx _ d m=>bn (t.get x) (λv=>ao.im (Nat.succ x) m x v d)<|d m) ay m
theorem Jj{β:Type}(t:ao bv)(k:ao bv->β):∀(ay:ac Tmp) (m:ao bv),nH t ay k m=k (nH t ay (λm=>m) m)
 |[],_=>rfl
 |x::ay,m=>by
  show bn (t.get x) (λv=>ao.im (Nat.succ x) m x v<|nH t ay k) (nH t ay k m)=k (bn (t.get x) (λv=>ao.im (Nat.succ x) m x v<|nH t ay λm=>m)<|nH t ay (λm=>m) m);cases t.get x with
  |none=>exact Jj t k ay m
  |some v=>
   show ao.im (Nat.succ x) m x v (nH t ay k)=k (ao.im (Nat.succ x) m x v<|nH t ay λm=>m);rw[ao.vV,ao.vV];exact Jj t k ay _
def nI(t:ao bv)(ay:ac Tmp)(k:ao bv->β):jq t ay k=k (Eu t ay):=Jj t k ay .nil
theorem Jk(t:ao bv):∀(ay:ac Tmp) (m:ao bv) (J:Nat),(nH t ay (λm=>m) m).get J=if J∈ay/\(t.get J).isSome then t.get J else m.get J
 |[],m,J=>by rfl
 |x::ay,m,J=>by
  show(bn (t.get x) (λv=>ao.im (Nat.succ x) m x v<|nH t ay λm=>m)<|nH t ay (λm=>m) m).get J=_;cases d:t.get x with
  |none=>
   show(nH t ay (λm=>m) m).get J=_;rw[Jk t ay m J]
   grind
  |some v=>
   show(ao.im (Nat.succ x) m x v<|nH t ay λm=>m).get J=_;rw[ao.vV,Jk t ay _ J,ao.ee]
   grind
def Pl(o:aJ)(ay:ac Tmp)(J:Nat):(o.only ay).tmp J=if J∈ay then o.tmp J else iR:=by
 have h:=Jk o.t ay .nil J;have e:(o.only ay).t.get J=(nH o.t ay (λm=>m) .nil).get J:=rfl;show Option.rec (motive:=λ_=>bv) (.chan<|some 0) (λv=>v) ((o.only ay).t.get J)=_;rw[e,h];by_cases d:J∈ay
 ·rw[aE d];cases g:o.t.get J with
  |none=>simp[aJ.tmp,g]
  |some v=>rw[aE ⟨d,j⟩];simp[aJ.tmp,g]
 ·rw[aw λh=>d h.1,aw d];rfl
theorem Pm:∀(ay:ac Tmp) (o:aJ),(∀J,(pb o ay).tmp J=if J∈ay then iR else o.tmp J)/\(pb o ay).aR=o.aR/\(pb o ay).b1=o.b1/\(pb o ay).cL=o.cL/\(pb o ay).c4=o.c4
 |[],o=>⟨λJ=>by simp[pb],j,j,j,j⟩
 |t::ay,o=>by
  obtain⟨aF,aL,g,d,h⟩:=Pm ay<|o.put (some t) iR;obtain⟨s,cw,dg,fY⟩:=rH o (some t) iR;refine⟨λJ=>?_,aL.trans s,g.trans cw,d.trans dg,h.trans fY⟩;show(pb (o.put (some t) iR) ay).tmp J=_;rw[aF J,qi]
  grind
theorem Pn{U:c7}{o:aJ}{v:bv}{ae:Nat}:∀(n:Nat) (u:ac (ao bz)),sameAt call U o v ae n u=true->∀J,J<n->∃h bs ak,u[J]? =some h/\bw call U o ⟨h,ae⟩= .ok v bs ak
 |0,_,_,J,ba=>by omega
 |n+1,[],h,_,_=>by cases h
 |n+1,h::u,cA,J,ba=>by
  have d:a1.rec (λbD _ _=>cond (dm v bD) (sameAt call U o v ae n u) false) (λ_ _=>false) false (bw call U o ⟨h,ae⟩)=true:=cA;cases g:bw call U o ⟨h,ae⟩with
  |ok bD bs ak=>
   rw[g]at d;have D:=d;obtain⟨z,s⟩:=iT D av;have:=jH _ _ z;subst this;cases J with
   |zero=>exact⟨h,bs,ak,j,g⟩
   |succ J=>
    obtain⟨y,G,B,A,C⟩:=Pn n u s J R;exact⟨y,G,B,by simpa using A,C⟩
  |aR _ _=>rw[g]at d;cases d
  |no=>rw[g]at d;cases d
def DStep(call:bM)(x:bm)(c:cr)(o:aJ)(st:aj)(N:ac (ao bz))(v:bv)(eU:aJ)(b4:aj)(j:ac (ao bz)):Prop:=
 match c with
 |.dF=>((kY o x.g false\/(kY o x.g true/\∃u s,bw call x.U o st= .aR u s))/\v=undef/\eU=o.put x.d undef/\b4=st/\j=st.h::N)\/
  (kY o x.g true/\∃bs,bw call x.U o st= .ok v bs b4/\st.ae<=b4.ae/\eU=aJ.put ⟨o.t,bs.c4,bs.aR,bs.cL,bs.b1⟩ x.d v/\j=b4.h::N)
 |.gq ay=>eU=o.put x.d v/\j=N/\((kY (o.only ay) x.g false/\v=undef/\b4=st)\/(kY (o.only ay) x.g true/\∃bs,bw call x.U (o.only ay) st= .ok v bs b4))
 |.read back ay=>eU=o.put x.d v/\j=N/\b4=st/\((kY (o.only ay) x.g false/\v=undef)\/(kY (o.only ay) x.g true/\sameAt call x.U (o.only ay) v st.ae (Nat.succ back) N=true))
def yq(call:bM)(x:bm)(c:cr)(o:aJ)(st:aj):Prop:=c= .dF->kY o x.g true->∀u d,bw call x.U o st≠.aR u d
variable{o:aJ}
def abX{g:be (Tmp×Bool)}(h:kY o g false)(j:kY o g true):False:=by
 unfold kY at h j;rw[h]at j;cases j
theorem abY{x:bm}{c:cr}{L:ac (bm×cr)}{N:ac (ao bz)}{st:aj}{e:c1}{bs:aJ}{ak:aj}{D:sx}(h:gX call D ((x,c)::L) N o st= .out e bs ak):
 (∃v eU b4 J,DStep call x c o st N v eU b4 J/\yq call x c o st/\gX call D L J eU b4= .out e bs ak)\/
 (c= .dF/\kY o x.g true/\x.U.kU=true/\bs=o/\D L (st.h::N) (o.put x.d undef) st=true/\∃u,e= .aR u/\bw call x.U o st= .aR u ak):=by
 cases c with
 |dF=>
  have B:=h;rcases Ba B av with⟨z,s⟩|⟨z,s⟩
  ·cases y:bw call x.U o st with
   |ok v A e6=>
    rw[y]at s;obtain⟨G,C⟩:=iS s av;exact .inl ⟨v,aJ.put ⟨o.t,A.c4,A.aR,A.cL,A.b1⟩ x.d v,e6,e6.h::N,.inr ⟨z,A,y,G,j,j⟩,(λ_ _ u M I=>by rw[y]at I;cases I),C⟩
   |aR u M=>
    rw[y]at s
    grind
   |no=>rw[y]at s;cases s
  ·exact .inl ⟨undef,o.put x.d undef,st,st.h::N,.inl ⟨.inl z,j,j,j,j⟩,(λ_ K=>(abX z K).elim),s⟩
 |gq ay=>
  have B:jq o.t ay (λt=>gW ⟨t,[],none,false,none⟩ x.g
   (a1.rec (λv _ ak=>gX call D L N (o.put x.d v) ak) (λ_ _=>.no) .no<|bw call x.U ⟨t,[],none,false,none⟩ st)
   (gX call D L N (o.put x.d undef) st) .no)= .out e bs ak:=h
  rw[nI]at B;have H:gW (o.only ay) x.g (a1.rec (λv _ ak=>gX call D L N (o.put x.d v) ak) (λ_ _=>.no) .no<|bw call x.U (o.only ay) st)
   (gX call D L N (o.put x.d undef) st) .no= .out e bs ak:=B
  rcases Ba H av with⟨z,s⟩|⟨z,s⟩
  ·cases y:bw call x.U (o.only ay) st with
   |ok v A e6=>
    rw[y]at s;exact .inl ⟨v,o.put x.d v,e6,N,⟨j,j,.inr ⟨z,A,y⟩⟩,(λh=>by cases h),s⟩
   |aR _ _=>rw[y]at s;cases s
   |no=>rw[y]at s;cases s
  ·exact .inl ⟨undef,o.put x.d undef,st,N,⟨j,j,.inl ⟨z,j,j⟩⟩,(λh=>by cases h),s⟩
 |read back ay=>
  have B:jq o.t ay (λt=>gW ⟨t,[],none,false,none⟩ x.g
   (a1.rec (λv _ _=>cond (sameAt call x.U ⟨t,[],none,false,none⟩ v st.ae (Nat.succ back) N) (gX call D L N (o.put x.d v) st) .no) (λ_ _=>.no) .no<|bw call x.U ⟨t,[],none,false,none⟩ st)
   (gX call D L N (o.put x.d undef) st) .no)= .out e bs ak:=h
  rw[nI]at B;have H:gW (o.only ay) x.g (a1.rec (λv _ _=>cond (sameAt call x.U (o.only ay) v st.ae (Nat.succ back) N) (gX call D L N (o.put x.d v) st) .no) (λ_ _=>.no) .no<|bw call x.U (o.only ay) st)
   (gX call D L N (o.put x.d undef) st) .no= .out e bs ak:=B
  rcases Ba H av with⟨z,s⟩|⟨z,s⟩
  ·cases y:bw call x.U (o.only ay) st with
   |ok v A e6=>
    rw[y]at s;obtain⟨G,C⟩:=iT s av;exact .inl ⟨v,o.put x.d v,st,N,⟨j,j,j,.inr ⟨z,G⟩⟩,(λh=>by cases h),C⟩
   |aR _ _=>rw[y]at s;cases s
   |no=>rw[y]at s;cases s
  ·exact .inl ⟨undef,o.put x.d undef,st,N,⟨j,j,j,.inl ⟨z,j⟩⟩,(λh=>by cases h),s⟩
def Ev(x:bm)(c:cr)(o:aJ)(st:aj)(N:ac (ao bz))(v:bv)(eU:aJ)(b4:aj)(j:ac (ao bz)):Prop:=v=undef/\eU=o.put x.d undef/\b4=st/\j=(match c with|.dF=>st.h::N|_=>N)
structure jK(call:bM)(Z:Nat->Bool)(L:ac (bm×cr))(fb:ac (ao bz))(o:aJ)(st:aj)(bs:aJ)(ak:aj)(F:Nat->aJ)(T:Nat->aj)(N:Nat->ac (ao bz))(V:Nat->bv):Prop where
 f0:F 0=o
 t0:T 0=st
 cb:N 0=fb
 fn:F L.length=bs
 arI:T L.length=ak
 step:∀p x c,L[p]? =some (x,c)->(Z p=false∧DStep call x c (F p) (T p) (N p) (V p) (F (p+1)) (T (p+1)) (N (p+1)))∨(Z p=true∧Ev x c (F p) (T p) (N p) (V p) (F (p+1)) (T (p+1)) (N (p+1)))
def Jl(call:bM)(Z:Nat->Bool)(L:ac (bm×cr))(F:Nat->aJ)(T:Nat->aj)(n:Nat):Prop:=∀p x c,p≠n->Z p=false->L[p]? =some (x,c)->yq call x c (F p) (T p)
def abZ(call:bM)(ms:ac Nat)(Z:Nat->Bool)(L:ac (bm×cr))(F:Nat->aJ)(T:Nat->aj)(e:c1)(bs:aJ)(ak:aj):Prop:=
 (e= .norm/\(∀p,Z p=false)/\Jl call Z L F T L.length/\F L.length=bs/\T L.length=ak)\/
 (∃n x u,L[n]? =some (x,.dF)/\(∀p,Z p=true->n<p/\(ms.getD p 0).testBit n=true)/\Jl call Z L F T n/\kY (F n) x.g true/\x.U.kU=true/\bs=F n/\e= .aR u/\bw call x.U (F n) (T n)= .aR u ak)
theorem Po{D:sx}{e:c1}{bs:aJ}{ak:aj}:∀(L:ac (bm×cr)) (fb:ac (ao bz)) (o:aJ) (st:aj),gX call D L fb o st= .out e bs ak->∃(F:Nat->aJ) (T:Nat->aj) (N:Nat->ac (ao bz)) (V:Nat->bv),(F 0=o/\T 0=st/\N 0=fb)/\
 ((e= .norm/\F L.length=bs/\T L.length=ak/\∀p x c,L[p]? =some (x,c)->DStep call x c (F p) (T p) (N p) (V p) (F<|p+1) (T<|p+1) (N<|p+1)/\yq call x c (F p) (T p))\/
  (∃n x u,L[n]? =some (x,.dF)/\(∀p x c,p<n->L[p]? =some (x,c)->DStep call x c (F p) (T p) (N p) (V p) (F<|p+1) (T<|p+1) (N<|p+1)/\yq call x c (F p) (T p))/\kY (F n) x.g true/\x.U.kU=true/\bs=F n/\e= .aR u/\bw call x.U (F n) (T n)= .aR u ak/\
   D (L.drop<|n+1) ((T n).h::N n) ((F n).put x.d undef) (T n)=true))
 |[],fb,o,st,h=>by
  have A:=h;cases A;exact⟨λ_=>bs,λ_=>ak,λ_=>fb,λ_=>undef,rD,.inl ⟨j,j,j,λp x c hp=>by simp at hp⟩⟩
 |(x,c)::L,fb,o,st,h=>by
  rcases abY h with⟨v,H,G,aa,af,ag,K⟩|⟨rfl,S,O,rfl,Y,u,rfl,W⟩
  ·obtain⟨F,T,N,V,⟨f0,t0,cb⟩,a'⟩:=Po L aa H G K;refine⟨λp=>Nat.casesOn p o F,λp=>Nat.casesOn p st T,λp=>Nat.casesOn p fb N,λp=>Nat.casesOn p v V,rD,?_⟩;have z:∀s cM,((x,c)::L)[0]? =some (s,cM)->DStep call s cM o st fb v (F 0) (T 0) (N 0)/\yq call s cM o st:=λs cM hp=>by
    grind
   rcases a' with⟨M,B,I,y⟩|⟨n,ad,w,J,y,C,a2,cD,cX,et,fs⟩
   ·refine .inl ⟨M,B,I,λp s cM hp=>?_⟩;cases p with
    |zero=>exact z s cM hp
    |succ p=>exact y p s cM<|by simpa using hp
   ·refine .inr ⟨n+1,ad,w,by simpa using J,λp s cM ah hp=>?_,C,a2,cD,cX,et,by simpa using fs⟩;cases p with
    |zero=>exact z s cM hp
    |succ p=>exact y p s cM R<|by simpa using hp
  ·exact⟨λ_=>bs,λ_=>st,λ_=>fb,λ_=>undef,rD,.inr ⟨0,x,u,j,λp _ _ hp=>R,S,O,j,j,W,Y⟩⟩
theorem Pp{a b c:Bool}(h:cond a b c=true):(a=true/\b=true)\/(a=false/\c=true):=by
 grind
theorem Pq{ms:ac Nat}{n:Nat}:∀(u:ac (bm×cr)) (p:Nat) (fb:ac (ao bz)) (o:aJ) (st:aj),jJ call ms n u p fb o st=true->∃(F:Nat->aJ) (T:Nat->aj) (N:Nat->ac (ao bz)) (V:Nat->bv),(F 0=o/\T 0=st/\N 0=fb)/\
 ∀q x c,u[q]? =some (x,c)->((ms.getD (p+q) 0).testBit n=false/\DStep call x c (F q) (T q) (N q) (V q) (F<|q+1) (T<|q+1) (N<|q+1)/\c≠.dF)\/((ms.getD (p+q) 0).testBit n=true/\Ev x c (F q) (T q) (N q) (V q) (F<|q+1) (T<|q+1) (N<|q+1))
 |[],p,fb,o,st,_=>⟨λ_=>o,λ_=>st,λ_=>fb,λ_=>undef,rD,λq x c cz=>by simp at cz⟩
 |(x,c)::u,p,fb,o,st,h=>by
  have key:∃v eU b4 D,jJ call ms n u (p+1) D eU b4=true/\(((ms.getD p 0).testBit n=false/\DStep call x c o st fb v eU b4 D/\c≠.dF)\/((ms.getD p 0).testBit n=true/\Ev x c o st fb v eU b4 D)):=by
   rcases Pp h with⟨z,y⟩|⟨z,y⟩
   ·cases c with
    |dF=>exact⟨undef,_,_,_,y,.inr ⟨z,j,j,j,j⟩⟩
    |gq ay=>exact⟨undef,_,_,_,y,.inr ⟨z,j,j,j,j⟩⟩
    |read back ay=>exact⟨undef,_,_,_,y,.inr ⟨z,j,j,j,j⟩⟩
   ·cases c with
    |dF=>cases y
    |gq ay=>
     have C:jq o.t ay (λt=>gW ⟨t,[],none,false,none⟩ x.g
      (a1.rec (λv _ ak=>jJ call ms n u (p+1) fb (o.put x.d v) ak) (λ_ _=>false) false<|bw call x.U ⟨t,[],none,false,none⟩ st)
      (jJ call ms n u (p+1) fb (o.put x.d undef) st) false)=true:=y
     rw[nI]at C;rcases Ba C av with⟨B,s⟩|⟨B,s⟩
     ·cases A:bw call x.U (o.only ay) st with
      |ok v G e6=>
       have s:a1.rec (λv _ ak=>jJ call ms n u (p+1) fb (o.put x.d v) ak) (λ_ _=>false) false (bw call x.U (o.only ay) st)=true:=s;rw[A]at s;exact⟨v,_,e6,fb,s,.inl ⟨z,⟨j,j,.inr ⟨B,G,A⟩⟩,av⟩⟩
      |aR _ _=>
       have s:a1.rec (λv _ ak=>jJ call ms n u (p+1) fb (o.put x.d v) ak) (λ_ _=>false) false (bw call x.U (o.only ay) st)=true:=s;rw[A]at s;cases s
      |no=>
       have s:a1.rec (λv _ ak=>jJ call ms n u (p+1) fb (o.put x.d v) ak) (λ_ _=>false) false (bw call x.U (o.only ay) st)=true:=s;rw[A]at s;cases s
     ·exact⟨undef,_,st,fb,s,.inl ⟨z,⟨j,j,.inl ⟨B,j,j⟩⟩,av⟩⟩
    |read back ay=>
     have C:jq o.t ay (λt=>gW ⟨t,[],none,false,none⟩ x.g
      (a1.rec (λv _ _=>cond (sameAt call x.U ⟨t,[],none,false,none⟩ v st.ae (Nat.succ back) fb) (jJ call ms n u (p+1) fb (o.put x.d v) st) false) (λ_ _=>false) false<|bw call x.U ⟨t,[],none,false,none⟩ st)
      (jJ call ms n u (p+1) fb (o.put x.d undef) st) false)=true:=y
     rw[nI]at C;rcases Ba C av with⟨B,s⟩|⟨B,s⟩
     ·have s:a1.rec (λv _ _=>cond (sameAt call x.U (o.only ay) v st.ae (Nat.succ back) fb) (jJ call ms n u (p+1) fb (o.put x.d v) st) false) (λ_ _=>false) false (bw call x.U (o.only ay) st)=true:=s;cases A:bw call x.U (o.only ay) st with
      |ok v G e6=>
       rw[A]at s;rcases Pp s with⟨a2,cD⟩|⟨_,cD⟩
       ·exact⟨v,_,st,fb,cD,.inl ⟨z,⟨j,j,j,.inr ⟨B,a2⟩⟩,av⟩⟩
       ·cases cD
      |aR _ _=>rw[A]at s;cases s
      |no=>rw[A]at s;cases s
     ·exact⟨undef,_,st,fb,s,.inl ⟨z,⟨j,j,j,.inl ⟨B,j⟩⟩,av⟩⟩
  obtain⟨v,eU,b4,D,y,H⟩:=key;obtain⟨F,T,N,V,⟨f0,t0,cb⟩,J⟩:=Pq u (p+1) D eU b4 y;refine⟨λp=>Nat.casesOn p o F,λp=>Nat.casesOn p st T,λp=>Nat.casesOn p fb N,λp=>Nat.casesOn p v V,rD,λq I cM cz=>?_⟩;cases q with
  |zero=>
   have:(x,c)=(I,cM):=by grind
   cases this;show(_/\DStep call x c o st fb v (F 0) (T 0) (N 0)/\_)\/(_/\Ev x c o st fb v (F 0) (T 0) (N 0));rw[f0,t0,cb];exact H
  |succ q=>
   grind
theorem ab0{ms:ac Nat}(L:ac (bm×cr))(fb:ac (ao bz))(o:aJ)(st:aj)(e:c1)(bs:aJ)(ak:aj)(h:gX call (ry call ms<|du L) L fb o st= .out e bs ak):∃Z F T N V,jK call Z L fb o st (F L.length) (T L.length) F T N V/\abZ call ms Z L F T e bs ak:=by
 obtain⟨F,T,N,V,⟨f0,t0,cb⟩,ay⟩:=Po L fb o st h;rcases ay with⟨av,aa,aq,g⟩|⟨n,x,u,D,g,M,a2,cD,cX,et,fs⟩
 ·exact⟨λ_=>false,F,T,N,V,⟨f0,t0,cb,j,j,λp x c hp=>.inl ⟨j,(g p x c hp).1⟩⟩,.inl ⟨av,λ_=>j,λp x c _ _ hp=>(g p x c hp).2,aa,aq⟩⟩
 ·have ah:=(dN.1 D).1;have fs:jJ call ms (L.length-(L.drop<|n+1).length.succ) (L.drop<|n+1) (L.length-(L.drop<|n+1).length) ((T n).h::N n) ((F n).put x.d undef) (T n)=true:=by
   have:=fs;unfold ry at this;rw[eP,eP]at this;exact this
  rw[k7,show L.length-(L.length-(n+1)).succ=n by omega,show L.length-(L.length-(n+1))=n+1 by omega]at fs;obtain⟨iY,J,I,z,⟨ar,aB,hk⟩,ax⟩:=Pq _ _ _ _ _ fs
  let Z:Nat->Bool:=λp=>decide (n<p)&&(ms.getD p 0).testBit n
  let s:Nat->aJ:=λp=>if p<=n then F p else iY (p-(n+1))
  let gu:Nat->aj:=λp=>if p<=n then T p else J (p-(n+1))
  let y:Nat->ac (ao bz):=λp=>if p<=n then N p else I (p-(n+1))
  let A:Nat->bv:=λp=>if p<n then V p else if p=n then undef else z (p-(n+1))
  have bg:∀p,p<=n->s p=F p/\gu p=T p/\y p=N p:=λp hp=>⟨aE hp,aE hp,aE hp⟩;have af:∀r,s (n+1+r)=iY r/\gu (n+1+r)=J r/\y (n+1+r)=I r:=λr=>by
   grind
  have ai:∀p,p<=n->Z p=false:=λp hp=>by
   show(decide (n<p)&&_)=false;rw[cq R];rfl
  have ad:∀r,Z (n+1+r)=(ms.getD (n+1+r) 0).testBit n:=λr=>by
   show(decide (n<n+1+r)&&_)=_;rw[ck R];rfl
  refine⟨Z,s,gu,y,A,⟨(bg 0<|dw _).1.trans f0,(bg 0<|dw _).2.1.trans t0,(bg 0<|dw _).2.2.trans cb,j,j,λp G c hp=>?_⟩,.inr ⟨n,x,u,D,λp hp=>?_,λp G c aA K hp=>?_,?_,a2,?_,cX,?_⟩⟩
  ·rcases xL p n with aT|rfl|an
   ·grind
   ·obtain⟨C,B,az⟩:=bg p<|cn _;obtain⟨S,W,Y⟩:=af 0;have O:A p=undef:=by
     grind
    rw[D]at hp;cases hp;rw[C,B,az,S,W,Y,O,ar,aB,hk];exact .inl ⟨ai p<|cn _,.inl ⟨.inr ⟨M,u,_,et⟩,j,j,j,j⟩⟩
   ·obtain⟨r,rfl⟩:∃r,p=n+1+r:=⟨p-(n+1),R⟩;obtain⟨S,W,Y⟩:=af<|r+1;have O:A (n+1+r)=z r:=by
     show(if n+1+r<n then _ else if n+1+r=n then _ else z (n+1+r-(n+1)))=_;rw[aw R,aw R,show n+1+r-(n+1)=r by omega]
    grind
  ·grind
  ·rcases xL p n with aT|rfl|an
   ·obtain⟨C,B,_⟩:=bg p R;rw[C,B];exact(g p G c aT hp).2
   ·exact absurd j aA
   ·obtain⟨r,rfl⟩:∃r,p=n+1+r:=⟨p-(n+1),R⟩;rw[ad r]at K;rcases ax r G c (by rw[oa];exact hp)with⟨_,_,a'⟩|⟨H,_⟩
    ·exactλau=>absurd au a'
    ·rw[K]at H;cases H
  ·rw[(bg n<|cn _).1];exact M
  ·rw[(bg n<|cn _).1];exact cD
  ·rw[(bg n<|cn _).1,(bg n<|cn _).2.1];exact et
def ab1{α:Type}(l:ac α)(n:Nat)(ad:ac α):(∃out,∀(k:ac α->a1),o8 l n ad k .no=k out)\/(∀k:ac α->a1,o8 l n ad k .no= .no):=by
 by_cases h:n+ad.length<=l.length
 ·exact .inl ⟨_,λk=>by rw[pf,aE h]⟩
 ·by_cases d:ad=[]
  ·exact .inl ⟨l,λk=>by rw[pf,aw h,aE d]⟩
  ·exact .inr λk=>by rw[pf,aw h,aw d]
theorem Pr(o:aJ):∀(a8:ac (Nat×Nat×ce)) (cs:ac bv),(∃out,∀c,nB o a8 cs c=c out)\/(∀c,nB o a8 cs c= .no)
 |[],cs=>.inl ⟨cs,λ_=>j⟩
 |p::a8,cs=>by
  have s:∀c,nB o (p::a8) cs c=cond (su<|o.ar p.2.2) .no (dz (du<|hB<|o.ar p.2.2) p.2.1 (ek (Nat.add p.1 p.2.1) (du cs) (o8 cs p.1 (hB<|o.ar p.2.2) (λg=>nB o a8 g c) .no) .no) .no):=λ_=>j;simp[s];cases su (o.ar p.2.2)with
  |true=>exact .inr λ_=>j
  |false=>
   simp only[lO,lg];split
   ·split
    ·rcases ab1 cs p.1 (hB<|o.ar p.2.2)with⟨out,d⟩|ah
     ·rcases Pr o a8 out with⟨y,h⟩|u
      ·exact .inl ⟨y,λc=>by rw[d];exact h c⟩
      ·exact .inr λc=>by rw[d];exact u c
     ·exact .inr λc=>ah _
    ·exact .inr λ_=>j
   ·exact .inr λ_=>j
def Ps{x:c7}{bs:aJ}{bX:ao bz}{ae:Nat}{v:bv}{ak:aj}(D:x.qt=true)(h:bw call x o ⟨bX,ae⟩= .ok v bs ak):
 ∃U,U≠.dead/\bs=o/\ak=⟨bX.set ae U,ae+1⟩/\∀d,bw call x o ⟨d,ae⟩= .ok v o ⟨d.set ae U,ae+1⟩:=by
 cases x with
 |alloc z e=>
  have h:yc z e call o ⟨bX,ae⟩= .ok v bs ak:=h;unfold yc at h;rw[gF]at h;cases h;exact⟨_,av,j,j,λd=>by show yc z e call o ⟨d,ae⟩=_;unfold yc;rw[gF]⟩
 |box e p=>
  have h:=h;obtain⟨u,g⟩:=yh h av;rw[gF]at g;cases g;exact⟨_,av,j,j,λd=>by show Iy e p call o ⟨d,ae⟩=_;unfold Iy;simp[u,cond_false];rw[gF]⟩
 |qa e n z a8=>
  have h:AG e n z a8 call o ⟨bX,ae⟩= .ok v bs ak:=h;unfold AG at h;rcases Pr o a8 z with⟨out,y⟩|ah
  ·rw[y,gF]at h;cases h;exact⟨_,av,j,j,λd=>by show AG e n z a8 call o ⟨d,ae⟩=_;unfold AG;rw[y,gF]⟩
  ·rw[ah]at h;cases h
 |vI e p=>
  have h:=h;obtain⟨s,H,u⟩:=ye h av;obtain⟨hle,g⟩:=iS u av;rw[gF]at g;cases g;exact⟨_,av,j,j,λd=>by
   show IB e p call o ⟨d,ae⟩=_;unfold IB;rw[H];show ek (du s.data.toList) (2^40) _ _=_;rw[lg,aE hle,gF]⟩
 |rk e bZ z l c=>
  have h:=h;obtain⟨bH,S,M,u⟩:=nD h av;obtain⟨R,W,K,g⟩:=nD u av;obtain⟨cV,C,I⟩:=pe g av;obtain⟨jv,O,G⟩:=pe I av;obtain⟨hle,J⟩:=iS G av;obtain⟨B,A⟩:=iS J av;rw[gF]at A;cases A;exact⟨_,av,j,j,λd=>by
   show AH e bZ z l c call o ⟨d,ae⟩=_;unfold AH;rw[M,K,C,O];show ek cV jv (ek (Nat.mul jv<|Nat.succ bZ) (2^40) _ _) _=_;rw[lg,aE hle,lg,aE B,gF]⟩
 |o4=>
  have h:vT call o ⟨bX,ae⟩= .ok v bs ak:=h;unfold vT at h;rw[gF]at h;cases h;exact⟨_,av,j,j,λd=>by show vT call o ⟨d,ae⟩=_;unfold vT;rw[gF]⟩
 |_=>cases D
end Go.bA
namespace Go.bA
def cr.v8:cr->Bool
 |.dF=>true
 |_=>false
def cr.looks:cr->ac Tmp
 |.dF=>[]
 |.gq ay=>ay
 |.read _ ay=>ay
def sD(L:ac (bm×cr))(q:Nat):Bool:=((L[q]?).map (·.2.v8)).getD false
structure ln(X:Ctx)(aM:Nat)(ops:bi Oper)(L:ac (bm×cr))(cu:ac Nat)(e3:ac Tmp)(ms:ac Nat):Prop where
 sE:L.length=ops.size
 yr:cu.length=ops.size
 op:∀(p i:Nat) x c,cu[p]? =some i->L[p]? =some (x,c)->∃U,ops[i]? =some U∧ll X aM ops x U=true
 gq:∀(p:Nat) x ay,L[p]? =some (x,.gq ay)->x.U.qt=true
 rd:∀(p:Nat) x n ay,L[p]? =some (x,.read n ay)->x.U.po=true
 inj:∀(p q i:Nat),cu[p]? =some i->cu[q]? =some i->p=q
 ab2:∀i,i<ops.size->∃p:Nat,cu[p]? =some i
 ab3:∀(p i:Nat) U,cu[p]? =some i->ops[i]? =some U->∀e∈U.after,Region.binds .any e=true->∃q,q<p∧cu[q]? =some e.on
 mask:∀(p i:Nat) U q,cu[p]? =some i->ops[i]? =some U->(ms.getD p 0).testBit q=true->∃e∈U.after,Region.binds .any e=true∧∃r,r<p∧cu[r]? =some e.on∧(q=r∨(ms.getD r 0).testBit q=true)
 dF:∀(p:Nat) x q,L[p]? =some (x,.dF)->q<p->(ms.getD p 0).testBit q=true
 back:∀(p:Nat) x n ay,L[p]? =some (x,.read n ay)->(List.range p).countP (fun q=>sD L q&& !(ms.getD p 0).testBit q)<=n
 dst:∀(p q:Nat) x y c d t,L[p]? =some (x,c)->L[q]? =some (y,d)->x.d=some t->y.d=some t->p=q
 ab4:∀(p q:Nat) x y c d t,L[p]? =some (x,c)->L[q]? =some (y,d)->p<q->y.d=some t->t∉e3->(c= .dF∨t∈c.looks)->(ms.getD q 0).testBit p=true
 dep:∀(p q:Nat) x y c d t,L[p]? =some (x,c)->L[q]? =some (y,d)->q<p->y.d=some t->t∈c.looks->(ms.getD p 0).testBit q=true
section
variable{X:Ctx}{aM:Nat}{ops:bi Oper}{L:ac (bm×cr)}{cu:ac Nat}{e3:ac Tmp}{ms:ac Nat}{call:bM}
def mX(ops:bi Oper)(cu:ac Nat)(E:Nat->Prop)(p:Nat):Prop:=∀i U,cu[p]? =some i->ops[i]? =some U->∀e∈U.after,Region.binds .any e=true->∀r:Nat,cu[r]? =some e.on->E r
theorem ln.before(D:ln X aM ops L cu e3 ms){E:Nat->Prop}(G:∀p,E p->mX ops cu E p)(p:Nat):mX ops cu E p->p<ops.size->∀q,(ms.getD p 0).testBit q=true->E q:=by
 induction p using Nat.strongRecOn with
 |_ p B=>
  intro s hp q z;have j:p<cu.length:=by rw[D.yr];exact hp
  have af:=a0 j;obtain⟨x,g⟩:∃x,L[p]? =some x:=⟨_,a0<|by rw[D.sE];exact hp⟩;obtain⟨U,d,_⟩:=D.op p _ x.1 x.2 af g;obtain⟨e,y,u,r,C,h,H⟩:=D.mask p _ U q af d z;have A:=s _ U af d e y u r h
  grind
variable{Z:Nat->Bool}{fb:ac (ao bz)}{o bs:aJ}{st ak:aj}{F:Nat->aJ}{T:Nat->aj}{N:Nat->ac (ao bz)}{V:Nat->bv}
variable{p q:Nat}{x:bm}{c:cr}
def jK.Pt(j:jK call Z L fb o st bs ak F T N V)(D:ln X aM ops L cu e3 ms)(hp:p<L.length):(T p).ae<=(T<|p+1).ae:=by
 obtain⟨⟨x,c⟩,g⟩:∃x,L[p]? =some x:=⟨_,a0 hp⟩;rcases j.step p x c g with⟨_,d⟩|⟨_,d⟩
 case inr=>rw[d.2.2.1];exact cn _
 cases c with
 |dF=>
  rcases d with⟨_,_,_,h,_⟩|⟨_,_,_,h,_⟩
  ·rw[h];exact cn _
  ·exact h
 |gq ay=>
  obtain⟨_,_,h⟩:=d;rcases h with⟨_,_,h⟩|⟨_,y,h⟩
  ·rw[h];exact cn _
  ·have s:=D.gq p x ay g;obtain⟨U,_,_,u,_⟩:=Ps s h;rw[u];exact k9 _
 |read n ay=>obtain⟨_,_,h,_⟩:=d;rw[h];exact cn _
def jK.lo(j:jK call Z L fb o st bs ak F T N V)(D:ln X aM ops L cu e3 ms)(h:p<=q)(cz:q<=L.length):(T p).ae<=(T q).ae:=by
 induction q with
 |zero=>have:p=0:=by omega
        subst this;exact cn _
 |succ q d=>
  by_cases e:p=q+1
  ·subst e;exact cn _
  ·exact cC (d R R)<|j.Pt D R
def jK.Pu(u:jK call Z L fb o st bs ak F T N V)(j:L[p]? =some (x,c))(t:Nat):(F<|p+1).tmp t=if x.d=some t then V p else(F p).tmp t:=by
 rcases u.step p x c j with⟨_,g⟩|⟨_,g⟩
 case inr=>rw[g.2.1,qi,g.1]
 cases c with
 |dF=>
  rcases g with⟨_,s,h,_⟩|⟨_,y,_,_,h,_⟩
  ·rw[h,qi,s]
  ·rw[h,qi];rfl
 |gq ay=>obtain⟨h,_⟩:=g;rw[h,qi]
 |read n ay=>obtain⟨h,_⟩:=g;rw[h,qi]
def jK.Ew(j:jK call Z L fb o st bs ak F T N V)(t:Nat):∀p,p<=L.length->(∀(q:Nat) x c,q<p->L[q]? =some (x,c)->x.d≠some t)->(F p).tmp t=(F 0).tmp t
 |0,_,_=>rfl
 |p+1,hp,h=>by
  obtain⟨⟨x,c⟩,g⟩:∃x,L[p]? =some x:=⟨_,a0 R⟩;rw[j.Pu g,aw<|h p x c R g];exact j.Ew t p R λq x c s=>h q x c R
theorem jK.Jm(u:jK call Z L fb o st bs ak F T N V)(D:ln X aM ops L cu e3 ms){y:bm}{d:cr}{t:Nat}(j:L[q]? =some (y,d))(G:y.d=some t):∀p,q<p->p<=L.length->(F p).tmp t=V q
 |0,h,_=>by omega
 |p+1,h,hp=>by
  obtain⟨⟨x,c⟩,g⟩:∃x,L[p]? =some x:=⟨_,a0 R⟩;rw[u.Pu g];by_cases e:p=q
  ·grind
  ·rw[aw λh=>e<|D.dst p q x y c d t g j h G];exact u.Jm D j G p R R
def jK.same(D:jK call Z L fb o st bs ak F T N V)(u:L[p]? =some (x,c))(aS:c≠.dF):(F<|p+1).c4=(F p).c4/\(F<|p+1).cL=(F p).cL/\(F<|p+1).aR=(F p).aR/\(F<|p+1).b1=(F p).b1:=by
 rcases D.step p x c u with⟨_,s⟩|⟨_,s⟩
 case inr=>obtain⟨g,cw,dg,fY⟩:=rH (F p) x.d undef;rw[s.2.1];exact⟨fY,dg,g,cw⟩
 cases c with
 |dF=>exact absurd j aS
 |gq ay=>obtain⟨h,_⟩:=s;obtain⟨g,cw,dg,fY⟩:=rH (F p) x.d<|V p;rw[h];exact⟨fY,dg,g,cw⟩
 |read n ay=>obtain⟨h,_⟩:=s;obtain⟨g,cw,dg,fY⟩:=rH (F p) x.d<|V p;rw[h];exact⟨fY,dg,g,cw⟩
theorem jK.snap(j:jK call Z L [st.h] o st bs ak F T N V){c:Nat}(aS:c=0\/∃p x,c=p+1/\L[p]? =some (x,cr.dF)):∀p,c<=p->p<=L.length->
 (N p)[(List.range p).countP λq=>decide (c<=q)&&sD L q]? =some (T c).h
 |0,h,_=>by
  have:c=0:=R
  subst this;simp[j.cb,j.t0]
 |p+1,h,hp=>by
  obtain⟨⟨x,k⟩,s⟩:∃x,L[p]? =some x:=⟨_,a0 R⟩;have g:=j.step p x k s;by_cases e:c=p+1
  ·subst e;have B:(List.range<|p+1).countP (λq=>decide (p+1<=q)&&sD L q)=0:=by
    grind
   rw[B];rcases aS with aS|⟨C,H,aS,z⟩
   ·omega
   ·have:C=p:=by omega
    subst this;rw[s]at z;cases z;rcases g with⟨_,⟨_,_,_,y,d⟩|⟨_,_,_,_,_,d⟩⟩|⟨_,_,_,y,d⟩
    ·rw[d,y];rfl
    ·rw[d];rfl
    ·rw[d,y];rfl
  ·have u:=j.snap aS p R R;rw[List.range_succ,List.countP_append,List.countP_singleton];have G:decide (c<=p)=true:=by simp;omega
   have A:sD L p=k.v8:=by simp[sD,s]
   simp[G,A];cases k with
   |dF=>
    have:∃h,N (p+1)=h::N p:=by
     rcases g with⟨_,⟨_,_,_,_,d⟩|⟨_,_,_,_,_,d⟩⟩|⟨_,_,_,_,d⟩
     ·exact⟨_,d⟩
     ·exact⟨_,d⟩
     ·exact⟨_,d⟩
    obtain⟨h,D⟩:=this;rw[D];simpa[cr.v8]using u
   |gq ay=>
    have d:N (p+1)=N p:=by
     rcases g with⟨_,_,d,_⟩|⟨_,_,_,_,d⟩
     ·exact d
     ·exact d
    rw[d];simpa[cr.v8]using u
   |read n ay=>
    have d:N (p+1)=N p:=by
     rcases g with⟨_,_,d,_⟩|⟨_,_,_,_,d⟩
     ·exact d
     ·exact d
    rw[d];simpa[cr.v8]using u
end
end Go.bA
namespace Go.bA
variable{X:Ctx}
variable{ab:bF}{n:Nat}{l:Loc}{aG:bF}{m:Nat}{w:f5}
def fO(ab:bF)(n:Nat):bF:=λid=>if id<n then ab id else none
def j2{id:Nat}:fO ab n id=some l↔id<n/\ab id=some l:=by
 unfold fO;by_cases h:id<n<;>simp[h]
def Pv(ab:bF)(n:Nat):(fO ab n).le ab:=λ_ _ h=>(j2.1 h).2
def rI(h:ab.le aG)(ah:m<=n):(fO ab m).le (fO aG n):=λ_ _ d=>j2.2 ⟨eR (j2.1 d).1 ah,h _ _ (j2.1 d).2⟩
def Pw(h:∀id,n<=id->ab id=none):fO ab n=ab:=by
 funext id;unfold fO;by_cases af:id<n
 ·simp[af]
 ·simp[af,h id R]
def bN.look{h:ao bz}(u:bN X ab ⟨h,n⟩ w)(hle:ab.le aG)(M:∀id,m<=id->aG id=none)(ah:n<=m)(aA:∀id l,aG id=some l->l.ct<w.heap.size):bN X aG ⟨h,m⟩ w:=by
 refine⟨λid U y s=>?_,λi H U p l Y af G D I R S A e=>?_,λid J=>⟨M id J,(u.fresh id<|cC ah J).2⟩,aA,λg A=>hle _ _<|u.kh g A,cC u.mu ah,λi l U B K y s=>?_⟩
 ·obtain⟨l,B,hm⟩:=u.er id U y s;exact⟨l,hle _ _ B,g6.mono X hm hle j⟩
 ·obtain⟨bp,d,_⟩:=u.er i U af G;obtain⟨W,C,_⟩:=u.er H p D I;have z:=(hle _ _ d).symm.trans R;have O:=(hle _ _ C).symm.trans S;cases z;cases O;exact u.inj i H U p _ _ af G D I d C A e
 ·obtain⟨bp,d,_⟩:=u.er i U y s;have z:=(hle _ _ d).symm.trans B;cases z;exact u.j0 i _ U d K y s
theorem bN.ab5{st:aj}(u:bN X ab st w){U:bz}(aa:g6 X (gr ab st.ae l) w U l)(aA:l.ct<w.heap.size)(ah:l.bu≠eH)(ad:∀id bp,ab id=some bp->bp.ct≠l.ct):
 bN X (gr ab st.ae l) ⟨st.h.set st.ae U,st.ae+1⟩ w:=by
 have hle:ab.le (gr ab st.ae l):=by
  intro id bp C;show(if id=st.ae then some l else ab id)=some bp;rw[aw];exact C;intro e;subst e;rw[(u.fresh _<|cn _).1]at C;cases C
 have ai:gr ab st.ae l st.ae=some l:=aE j;have d:∀id,id≠st.ae->gr ab st.ae l id=ab id:=λid h=>aw h;refine⟨λid p hp z=>?_,λi D p q A O af S B W I J y e=>?_,λid Y=>?_,λid bp s=>?_,λg y=>hle _ _<|u.kh g y,sj u.mu,λi A p K M hp z=>?_⟩
 ·rw[ao.ee]at hp;by_cases e:id=st.ae
  ·grind
  ·rw[aw e]at hp;obtain⟨bp,s,hm⟩:=u.er id p hp z;exact⟨bp,hle _ _ s,g6.mono X hm hle j⟩
 ·rw[ao.ee]at af B;by_cases G:i=st.ae
  ·grind
  ·by_cases H:D=st.ae
   ·grind
   ·rw[aw G]at af;rw[aw H]at B;rw[d i G]at I;rw[d D H]at J;exact u.inj i D p q A O af S B W I J y e
 ·have a':st.ae+1<=id:=Y;refine⟨?_,?_⟩
  ·rw[d id R];exact(u.fresh id R).1
  ·show(st.h.set st.ae U).get id=none;rw[ao.ee,aw R];exact(u.fresh id R).2
 ·by_cases e:id=st.ae
  ·grind
  ·rw[d id e]at s;exact u.fw id bp s
 ·rw[ao.ee]at hp;by_cases e:i=st.ae
  ·grind
  ·rw[aw e]at hp;rw[d i e]at K;exact u.j0 i A p K M hp z
def ub(L:ac (bm×cr))(F:Nat->aJ)(p:Nat):Prop:=∃x ay,L[p]? =some (x,cr.gq ay)/\kY ((F p).only ay) x.g true
structure j3(X:Ctx)(aM:Nat)(L:ac (bm×cr))(F:Nat->aJ)(T:Nat->aj)(V:Nat->bv)(gY:bF)(dG:f5)(E:Nat->Prop)(c:Nat)(ab:bF)(a:Act)(w:f5):Prop where
 low:∀p,p<c->E p
 Ex:c<=L.length
 start:c=0∨∃p x,c=p+1∧L[p]? =some (x,cr.dF)
 Bb:∀(p:Nat) x,c<=p->E p->L[p]? ≠some (x,cr.dF)
 wr:bN X (fO ab (T c).ae) (T c) w
 lp:∀id l,ab id=some l->id<(T c).ae∨∃p,c<=p∧p<L.length∧E p∧ub L F p∧id=(T p).ae
 fW:∀p,c<=p->E p->ub L F p->∃U l,T (p+1)=⟨(T p).h.set (T p).ae U,(T p).ae+1⟩∧ab (T p).ae=some l∧g6 X (fO ab ((T p).ae+1)) w U l∧
  l.bu≠eH∧∀id bp,ab id=some bp->id≠(T p).ae->bp.ct≠l.ct
 fw:∀id l,ab id=some l->l.ct<w.heap.size
 keeps:dS gY ab dG w
 size:a.tmps.size=aM
 c4:sA (fO ab (T c).ae) (F c).c4 a.defers
 Bc:∀(p:Nat) x fx t,L[p]? =some (x,fx)->x.d=some t->E p->bc (fO ab (max (T (p+1)).ae (T c).ae)) (V p) (a.tmps.getD t undef)
 ys:∀t,(∀(p:Nat) x fx,L[p]? =some (x,fx)->x.d=some t->¬E p)->bc gY ((F 0).tmp t) (a.tmps.getD t undef)
section
variable{aM:Nat}{ops:bi Oper}{L:ac (bm×cr)}{cu:ac Nat}{e3:ac Tmp}{ms:ac Nat}{call:bM}
variable{Z:Nat->Bool}{o bs:aJ}{st ak:aj}{F:Nat->aJ}{T:Nat->aj}{N:Nat->ac (ao bz)}{V:Nat->bv}{gY:bF}{dG:f5}{E:Nat->Prop}{c:Nat}{ab:bF}{a:Act}{w:f5}
def j3.look(I:j3 X aM L F T V gY dG E c ab a w)(G:jK call Z L [st.h] o st bs ak F T N V)(D:ln X aM ops L cu e3 ms)(bX:∀id,st.ae<=id->gY id=none)(a':∀t∈e3,(F 0).tmp t=iR)
 (O:∀p,E p->mX ops cu E p) {p:Nat} {x:bm} {fx:cr} (M:L[p]? =some (x,fx)) (aa:mX ops cu E p) (ah:¬E p) {t:Nat} (aD:fx= .dF\/t∈fx.looks):
 bc (fO ab (T p).ae) ((F p).tmp t) (a.tmps.getD t undef):=by
 have ag:=(dN.1 M).1;have af:c<=p:=by
  rcases fS p c with h|h
  ·exact absurd (I.low p h) ah
  ·exact h
 have ai:p<ops.size:=by rw[<-D.sE];exact ag
 have W:gY.le (fO ab (T p).ae):=by
  intro id l aD;refine j2.2 ⟨?_,I.keeps.le _ _ aD⟩;rcases fS id st.ae with h|h
  ·have:=G.lo D (dw p) R;rw[G.t0]at this;omega
  ·rw[bX id h]at aD;cases aD
 by_cases S:∃(q:Nat) (s:bm) (d:cr),L[q]? =some (s,d)/\s.d=some t
 ·obtain⟨q,s,d,u,A⟩:=S;rcases fS q p with B|B
  ·have C:(ms.getD p 0).testBit q=true:=by
    rcases aD with rfl|aD
    ·exact D.dF p x q M B
    ·exact D.dep p q x s fx d t M u B A aD
   have ad:=D.before O p aa ai q C;rw[G.Jm D u A p B R];refine(I.Bc q s d t u A ad).mono<|rI (.refl ab) ?_;have an:=G.lo D (p:=q+1) B R;have aq:=G.lo D af R;omega
  ·have hold:=G.Ew t p R λz g cM aj j y=>by
    have:=D.dst z q g s cM d t j u y A;omega
   rw[hold];by_cases H:t∈e3
   ·rw[a' t H];exact .top _
   ·refine(I.ys t λz g cM j y J=>?_).mono W;have Y:=D.dst z q g s cM d t j u y A;subst Y;by_cases e:z=p
    ·subst e;exact ah J
    ·have C:=D.ab4 p z x s fx d t M u R A H aD;exact ah<|D.before O z (O z J) (by rw[<-D.sE];exact(dN.1 u).1) p C
 ·have K:∀(q:Nat) g cM,L[q]? =some (g,cM)->g.d≠some t:=λq g cM j y=>S ⟨q,g,cM,j,y⟩;rw[G.Ew t p R λq g cM _ j=>K q g cM j];exact(I.ys t λq g cM j y=>absurd y<|K q g cM j).mono W
theorem j3.upto(u:j3 X aM L F T V gY dG E c ab a w)(D:jK call Z L [st.h] o st bs ak F T N V)(ai:ln X aM ops L cu e3 ms):∀q,c<=q->q<=L.length->(∀r,c<=r->r<q->E r)->
 bN X (fO ab (T q).ae) (T q) w/\(F q).c4=(F c).c4/\(F q).cL=(F c).cL/\(F q).aR=(F c).aR/\(F q).b1=(F c).b1:=by
 intro q aj
 induction q with
 |zero=>
  intro _ _;have:c=0:=R
  subst this;exact⟨u.wr,j,j,j,j⟩
 |succ q M=>
  intro aq B;by_cases e:c=q+1
  ·subst e;exact⟨u.wr,j,j,j,j⟩
  obtain⟨s,Y,a',aa,ad⟩:=M R R λr y G=>B r y R;obtain⟨⟨x,fx⟩,d⟩:∃x,L[q]? =some x:=⟨_,a0 R⟩;have C:=B q R R;have A:fx≠.dF:=λh=>u.Bb q x R C (by rw[d,h]);obtain⟨af,ag,H,J⟩:=D.same d A;refine⟨?_,af.trans Y,ag.trans a',H.trans aa,J.trans ad⟩;rcases D.step q x fx d with⟨_,g⟩|⟨_,g⟩
  case inr=>rw[g.2.2.1];exact s
  cases fx with
  |dF=>exact absurd j A
  |read n ay=>obtain⟨_,_,h,_⟩:=g;rw[h];exact s
  |gq ay=>
   obtain⟨_,_,h⟩:=g;rcases h with⟨_,_,h⟩|⟨S,_⟩
   ·rw[h];exact s
   ·obtain⟨U,l,y,G,z,W,I⟩:=u.fW q R C ⟨x,ay,d,S⟩;have ah:fO ab ((T q).ae+1)=gr (fO ab (T q).ae) (T q).ae l:=by
     funext id;unfold fO gr
     grind
    rw[y];rw[ah]at z⊢;refine s.ab5 z (u.fw _ _ G) W λid bp O=>?_;obtain⟨an,K⟩:=j2.1 O;exact I id bp K R
end
def Bd(E:Nat->Prop)(p:Nat):Nat->Prop:=λq=>E q\/q=p
def v9(a:Act)(d:be Tmp)(v:bv)(t:Nat):(a.put d v).tmps.getD t undef=if d=some t/\t<a.tmps.size then v else a.tmps.getD t undef:=by
 cases d with
 |none=>simp[Act.put]
 |some d=>
  by_cases e:d=t
  ·subst e;by_cases h:d<a.tmps.size
   ·simp[Act.put,h]
   ·simp[Act.put,h]
  ·simp[Option.some.injEq,e];simp[Act.put,HR e]
section
variable{aM:Nat}{ops:bi Oper}{L:ac (bm×cr)}{cu:ac Nat}{e3:ac Tmp}{ms:ac Nat}{call:bM}
variable{Z:Nat->Bool}{o bs:aJ}{st ak:aj}{F:Nat->aJ}{T:Nat->aj}{N:Nat->ac (ao bz)}{V:Nat->bv}{gY:bF}{dG:f5}{E:Nat->Prop}{c:Nat}{ab:bF}{a:Act}{w:f5}
variable{p:Nat}{x:bm}
def j3.float(u:j3 X aM L F T V gY dG E c ab a w)(D:ln X aM ops L cu e3 ms){fx:cr}(G:L[p]? =some (x,fx))(aS:fx≠.dF)(a':c<=p)(Y:¬ub L F p){bD:bv}
 (M:∀t,x.d=some t->t<aM) (O:bc (fO ab (T<|p+1).ae) (V p) bD):j3 X aM L F T V gY dG (Bd E p) c ab (a.put x.d bD) w:=by
 have J:(a.put x.d bD).tmps.size=aM:=by rw[<-u.size];cases x.d<;>simp[Act.put]
 refine⟨λq A=>.inl<|u.low q A,u.Ex,u.start,λq z A g=>?_,u.wr,λid l W=>?_,λq A g C=>?_,u.fw,u.keeps,J,?_,λq z k t s y g=>?_,λt B=>?_⟩
 ·rcases g with g|rfl
  ·exact u.Bb q z A g
  ·intro h;rw[G]at h;cases h;exact aS j
 ·rcases u.lp id l W with h|⟨q,K,S,I,H⟩
  ·exact .inl h
  ·exact .inr ⟨q,K,S,.inl I,H⟩
 ·rcases g with g|rfl
  ·exact u.fW q A g C
  ·exact absurd C Y
 ·have:(a.put x.d bD).defers=a.defers:=by cases x.d<;>rfl
  rw[this];exact u.c4
 ·rw[v9];by_cases e:q=p
  ·subst e;rw[G]at s;cases s;rw[aE ⟨y,by rw[u.size];exact M t y⟩];exact O.mono<|rI (.refl ab) R
  ·rw[aw λh=>e<|D.dst q p z x k fx t s G y h.1];rcases g with g|h
   ·exact u.Bc q z k t s y g
   ·exact absurd h e
 ·rw[v9,aw λh=>B p x fx G h.1 sC];exact u.ys t λq z k s y g=>B q z k s y<|.inl g
theorem j3.ab6(u:j3 X aM L F T V gY dG E c ab a w)(M:jK call Z L [st.h] o st bs ak F T N V)(D:ln X aM ops L cu e3 ms){ay:ac Tmp}(G:L[p]? =some (x,.gq ay))(ag:c<=p)(aJ:¬E p)
 {bD:bv} {U:bz} {O:Obj} {l:Loc} {w':f5} (au:∀t,x.d=some t->t<aM) (af:T (p+1)=⟨(T p).h.set (T p).ae U,(T p).ae+1⟩) (aD:l.ct=w.heap.size) (av:l.bu≠eH) (cA:w'.heap=w.heap.push O) (fE:qo w w')
 (az:bc (gr (fO ab (T p).ae) (T p).ae l) (V p) bD) (ax:g6 X (gr (fO ab (T p).ae) (T p).ae l) w' U l):j3 X aM L F T V gY dG (Bd E p) c (gr ab (T p).ae l) (a.put x.d bD) w':=by
 have aI:=(dN.1 G).1;have mY:ab (T p).ae=none:=by
  cases ah:ab (T p).ae with
  |none=>rfl
  |some m=>
   rcases u.lp _ _ ah with h|⟨q,z,y,B,I,aL⟩
   ·have:=M.lo D ag R;omega
   ·obtain⟨W,bp,aA,_⟩:=u.fW q z B I;have aN:(T<|q+1).ae=(T q).ae+1:=by rw[aA]
    have a':(T<|p+1).ae=(T p).ae+1:=by rw[af]
    rcases xL q p with h|h|h
    ·have:=M.lo D (p:=q+1) h R;omega
    ·subst h;exact absurd B aJ
    ·have:=M.lo D (p:=p+1) h R;omega
 have hle:ab.le (gr ab (T p).ae l):=by
  intro id bp g;show(if id=(T p).ae then some l else ab id)=some bp
  grind
 have Y:gr ab (T p).ae l (T p).ae=some l:=aE j;have K:∀id,id≠(T p).ae->gr ab (T p).ae l id=ab id:=λid h=>aw h;have ar:∀n,(T p).ae<n->(gr (fO ab (T p).ae) (T p).ae l).le (fO (gr ab (T p).ae l) n):=by
  intro n ah id bp g;unfold gr at g;by_cases e:id=(T p).ae
  ·rw[aE e]at g;cases g;subst e;exact j2.2 ⟨ah,Y⟩
  ·rw[aw e]at g;obtain⟨z,y⟩:=j2.1 g;exact j2.2 ⟨R,by rw[K id e];exact y⟩
 have hold:∀b,b<w.heap.size->w'.heap[b]? =w.heap[b]? :=λb aq=>by rw[cA,C1,aw R]
 have aK:w'.heap.size=w.heap.size+1:=by grind
 have aC:(a.put x.d bD).tmps.size=aM:=by rw[<-u.size];cases x.d<;>simp[Act.put]
 have aO:=M.lo D ag R;have ai:fO (gr ab (T p).ae l) (T c).ae=fO ab (T c).ae:=by
  funext id;unfold fO
  grind
 have a':(T<|p+1).ae=(T p).ae+1:=by rw[af]
 refine⟨λq J=>.inl<|u.low q J,u.Ex,u.start,λq H J s=>?_,?_,λid bp g=>?_,λq J s S=>?_,λid bp g=>?_,?_,aC,?_,λq H k t A C s=>?_,λt an=>?_⟩
 ·rcases s with s|rfl
  ·exact u.Bb q H J s
  ·intro h;rw[G]at h;cases h
 ·rw[ai];refine⟨λid W aF aB=>?_,u.wr.inj,u.wr.fresh,λid bp g=>?_,u.wr.kh,u.wr.mu,u.wr.j0⟩
  ·obtain⟨bp,z,y⟩:=u.wr.er id W aF aB;exact⟨bp,z,g6.mono X y dO<|hold _<|u.wr.fw id bp z⟩
  ·have:=u.wr.fw id bp g;omega
 ·by_cases e:id=(T p).ae
  ·by_cases S:ub L F p
   ·exact .inr ⟨p,ag,aI,.inr j,S,e⟩
   ·exfalso;rcases M.step p x (.gq ay) G with⟨_,aa⟩|⟨_,aa⟩
    case inr=>rw[aa.2.2.1]at a';omega
    obtain⟨_,_,h⟩:=aa;rcases h with⟨_,_,h⟩|⟨h,_⟩
    ·rw[h]at a';omega
    ·exact S ⟨x,ay,G,h⟩
  ·rw[K id e]at g;rcases u.lp id bp g with h|⟨q,z,y,B,I⟩
   ·exact .inl h
   ·exact .inr ⟨q,z,y,.inl B,I⟩
 ·by_cases e:q=p
  ·subst e;refine⟨U,l,af,Y,g6.mono X ax (ar _ R) j,av,λid bp g ad=>?_⟩;rw[K id ad]at g;have:=u.fw id bp g;omega
  ·rcases s with s|h
   ·obtain⟨W,bp,z,y,B,aH,I⟩:=u.fW q J s S;refine⟨W,bp,z,hle _ _ y,g6.mono X B (rI hle<|cn _)<|hold _<|u.fw _ _ y,aH,λid m hm ad=>?_⟩;by_cases aj:id=(T p).ae
    ·subst aj;rw[Y]at hm;cases hm;have:=u.fw _ _ y;omega
    ·rw[K id aj]at hm;exact I id m hm ad
   ·exact absurd h e
 ·by_cases e:id=(T p).ae
  ·subst e;rw[Y]at g;cases g;omega
  ·rw[K id e]at g;have:=u.fw id bp g;omega
 ·refine u.keeps.trans ⟨hle,R,λb aq _=>hold b aq,λid bp g=>?_,fE⟩
  grind
 ·have:(a.put x.d bD).defers=a.defers:=by cases x.d<;>rfl
  rw[this,ai];exact u.c4
 ·rw[v9];by_cases e:q=p
  ·subst e;rw[G]at A;cases A;rw[aE ⟨C,by rw[u.size];exact au t C⟩];exact az.mono<|ar _ R
  ·rw[aw λh=>e<|D.dst q p H x k _ t A G C h.1];rcases s with s|h
   ·exact(u.Bc q H k t A C s).mono<|rI hle<|cn _
   ·exact absurd h e
 ·rw[v9,aw λh=>an p x _ G h.1 sC];exact u.ys t λq H k A C s=>an q H k A C<|.inl s
theorem j3.effect(u:j3 X aM L F T V gY dG E c ab a w)(O:jK call Z L [st.h] o st bs ak F T N V)(D:ln X aM ops L cu e3 ms)(I:L[p]? =some (x,.dF))(aP:c<=p)(aA:∀q,q<p->E q)
 {aG:bF} {Y:Act} {w':f5} {bD:bv} (aC:∀t,x.d=some t->t<aM) (ad:bN X aG (T<|p+1) w') (ax:dS (fO ab (T p).ae) aG w w') (a':Y.tmps=(a.put x.d bD).tmps) (aY:bc aG (V p) bD\/x.d=none) (aR:sA aG (F<|p+1).c4 Y.defers):
 ∃G,j3 X aM L F T V gY dG (Bd E p) (p+1) G Y w':=by
 have av:=(dN.1 I).1;have aU:=O.Pt D av;have a1:=O.lo D aP R;have aD:¬ub L F p:=λ⟨H,ay,A,_⟩=>by rw[I]at A;cases A
 have aI:∀q,c<=q->q<L.length->E q->ub L F q->(q<p/\(T q).ae<(T p).ae)\/(p<q/\(T<|p+1).ae<=(T q).ae):=by
  intro q s B C z;obtain⟨az,bp,W,_⟩:=u.fW q s C z;have a0:(T<|q+1).ae=(T q).ae+1:=by rw[W]
  rcases xL q p with h|h|h
  ·left;have:=O.lo D (p:=q+1) h R;exact⟨h,R⟩
  ·subst h;exact absurd z aD
  ·right;exact⟨h,O.lo D h R⟩
 let G:bF:=λid=>if id<(T<|p+1).ae then aG id else ab id
 have M:∀id,id<(T<|p+1).ae->G id=aG id:=λid h=>aE h;have K:∀id,(T<|p+1).ae<=id->G id=ab id:=λid h=>aw R;have hle:ab.le G:=by
  intro id l g;rcases fS id (T<|p+1).ae with h|h
  ·rw[M id h];apply ax.le;refine j2.2 ⟨?_,g⟩;rcases u.lp id l g with s|⟨q,s,B,C,z,aq⟩
   ·omega
   ·grind
  ·rw[K id h];exact g
 have aj:fO G (T<|p+1).ae=aG:=by
  funext id;unfold fO;by_cases h:id<(T<|p+1).ae
  ·rw[aE h,M id h]
  ·rw[aw h,(ad.fresh id R).1]
 have aW:∀n,(T<|p+1).ae<=n->aG.le (fO G n):=by
  intro n ah;rw[<-aj];exact rI dO ah
 have aL:dS ab G w w':=by
  refine⟨hle,ax.size,λb aO af=>ax.kept b aO λid l g aB=>af id l (j2.1 g).2 aB,λid l g=>?_,ax.fE⟩;rcases fS id (T<|p+1).ae with h|h
  ·rw[M id h]at g;rcases ax.new id l g with s|s|⟨ai,m,s,B,C⟩
   ·exact .inl (j2.1 s).2
   ·exact .inr<|.inl s
   ·exact .inr<|.inr ⟨ai,m,(j2.1 s).2,B,C⟩
  ·rw[K id h]at g;exact .inl g
 have aK:Y.tmps.size=aM:=by rw[a',<-u.size];cases x.d<;>simp[Act.put]
 refine⟨G,λq aa=>?_,av,.inr ⟨p,x,j,I⟩,λq H aa y=>?_,by rw[aj];exact ad,λid l g=>?_,λq aa y au=>?_,λid l g=>?_,u.keeps.trans aL,aK,by rw[aj];exact aR,λq H k t A J y=>?_,λt ar=>?_⟩
 ·by_cases e:q=p
  ·exact .inr e
  ·exact .inl<|aA q R
 ·rcases y with y|h
  ·exact u.Bb q H R y
  ·omega
 ·rcases fS id (T<|p+1).ae with h|h
  ·exact .inl h
  ·rw[K id h]at g;rcases u.lp id l g with s|⟨q,s,B,C,z,aq⟩
   ·omega
   ·rcases aI q s B C z with⟨_,W⟩|⟨W,_⟩
    ·omega
    ·exact .inr ⟨q,W,B,.inl C,z,aq⟩
 ·rcases y with y|h
  ·have aF:=au;obtain⟨az,bp,s,B,C,aN,z⟩:=u.fW q R y au;have aS:q<L.length:=by obtain⟨H,ay,A,_⟩:=aF;exact(dN.1 A).1
   have aT:=O.lo D aa R;refine⟨az,bp,s,hle _ _ B,g6.mono X C (rI hle<|cn _) ?_,aN,λid m hm an=>?_⟩
   ·exact ax.kept bp.ct (u.fw _ _ B) λid m hm _=>z id m (j2.1 hm).2 (by have:=(j2.1 hm).1;omega)
   ·rcases fS id (T<|p+1).ae with h|h
    ·rw[M id h]at hm;rcases ax.new id m hm with S|S|⟨ai,aJ,S,_,aX⟩
     ·exact z id m (j2.1 S).2 an
     ·have:=u.fw _ _ B;omega
     ·have:=z ai aJ (j2.1 S).2 (by have:=(j2.1 S).1;omega);omega
    ·rw[K id h]at hm;exact z id m hm an
  ·omega
 ·rcases fS id (T<|p+1).ae with h|h
  ·rw[M id h]at g;exact ad.fw id l g
  ·rw[K id h]at g;exact eR (u.fw id l g) ax.size
 ·rw[a',v9];by_cases e:q=p
  ·subst e;rw[I]at A;cases A;rw[aE ⟨J,by rw[u.size];exact aC t J⟩]
   grind
  ·rw[aw λh=>e<|D.dst q p H x k _ t A I J h.1];rcases y with y|h
   ·refine(u.Bc q H k t A J y).mono<|rI hle ?_;omega
   ·exact absurd h e
 ·rw[a',v9,aw λh=>ar p x _ I h.1 sC];exact u.ys t λq H k A J y=>ar q H k A J<|.inl y
end
end Go.bA
namespace Go.bA
variable{X:Ctx}{call:bM}
variable{x:c7}
def ab7(h:x.po=true):x.inPlace=true:=by cases x<;>first|rfl|cases h
def ab8(h:x.qt=true):x.inPlace=true:=by cases x<;>first|rfl|cases h
def Px{op:Op}(j:X.pk op x=true)(u:x.po=true\/x.qt=true)(c:Call):op≠.defer c:=by
 intro g;rw[g]at j;cases d:x with
 |rj fn p q=>rw[d]at j;cases fn<;>cases j
 |x3 p=>rw[d]at u;rcases u with h|h<;>cases h
 |refuse=>rw[d]at u;rcases u with h|h<;>cases h
 |o7 p q=>rw[d]at u;rcases u with h|h<;>cases h
 |ext s=>rw[d]at j;cases s<;>cases j
 |_=>rw[d]at j;cases j
section
variable{aM:Nat}{ops:bi Oper}{L:ac (bm×cr)}{cu:ac Nat}{e3:ac Tmp}{ms:ac Nat}
variable{Z:Nat->Bool}{o bs:aJ}{st ak:aj}{F:Nat->aJ}{T:Nat->aj}{N:Nat->ac (ao bz)}{V:Nat->bv}{gY:bF}{dG:f5}{E:Nat->Prop}{c:Nat}{ab:bF}{a:Act}{w:f5}
variable{b:dK}{bd:Bool->ac Frame}{k:ac Item}{i:Nat}{rest:ac Nat}
def wa{x:bm}{U:Oper}{t:Bool}(h:ll X aM ops x U=true)(j:eK ab o a aM)(ax:kY o x.g t):Region.wanted U (yielded ops a.tmps)=t:=by
 rcases Ph h j ax av with⟨e,d⟩|⟨e,d⟩
 ·cases e;exact d
 ·cases e;exact d
def j3.Py(j:j3 X aM L F T V gY dG E c ab a w)(G:jK call Z L [st.h] o st bs ak F T N V)(D:ln X aM ops L cu e3 ms)(bX:∀id,st.ae<=id->gY id=none)(I:∀t∈e3,(F 0).tmp t=iR)
 (S:∀p,E p->mX ops cu E p) {p:Nat} {x:bm} {fx:cr} (u:L[p]? =some (x,fx)) (M:mX ops cu E p) (ah:¬E p) (O:c<=p):
 eK (fO ab (T p).ae) ((F p).only fx.looks) ⟨a.tmps,[]⟩ aM/\bN X (fO ab (T p).ae) ⟨(T c).h,(T p).ae⟩ w:=by
 have s:=(dN.1 u).1;refine⟨⟨λt=>?_,j.size,aC⟩,?_⟩
 ·rw[Pl];by_cases h:t∈fx.looks
  ·rw[aE h];exact j.look G D bX I S u M ah<|.inr h
  ·rw[aw h];exact .top _
 ·have d:=G.lo D O R;refine bN.look j.wr (rI (.refl ab) d) (λid y=>?_) d λid l g=>j.fw id l (j2.1 g).2;show(if id<(T p).ae then ab id else none)=none;rw[aw R]
theorem ab9(bG:lk X call)(G:j3 X aM L F T V gY dG E c ab a w)(I:jK call Z L [st.h] o st bs ak F T N V)(D:ln X aM ops L cu e3 ms)(bX:∀id,st.ae<=id->gY id=none)(aP:∀t∈e3,(F 0).tmp t=iR)
 (aB:∀p,E p->mX ops cu E p) {p:Nat} (hp:p<L.length) (bq:Z p=false) (bN:∀x c,L[p]? =some (x,c)->yq call x c (F p) (T p)) (af:cu[p]? =some i) (au:mX ops cu E p) (ah:¬E p) (aA:nG gY (F 0).b1 b.b1) (bR:iX b (F 0).aR gY bd) (an:(F c).aR=(F 0).aR) (aq:(F c).b1=(F 0).b1):
 ∃cM aI aT w',Steps X.P (lone (b.at a<|.inRegion ops (i::rest)::k) (bd (F c).cL) w) (lone (b.at aT<|.inRegion ops rest::k) (bd (F cM).cL) w')/\j3 X aM L F T V gY dG (Bd E p) cM aI aT w'/\
  (F cM).aR=(F 0).aR/\(F cM).b1=(F 0).b1:=by
 obtain⟨⟨x,fx⟩,y⟩:∃x,L[p]? =some x:=⟨_,a0 hp⟩;obtain⟨U,a',H⟩:=D.op p i x fx af y;obtain⟨W,S⟩:=Er H;have bj:p<ops.size:=by rw[<-D.sE];exact hp
 have B:c<=p:=by
  rcases fS p c with h|h
  ·exact absurd (G.low p h) ah
  ·exact h
 have ar:DStep call x fx (F p) (T p) (N p) (V p) (F<|p+1) (T<|p+1) (N<|p+1):=by
  rcases I.step p x fx y with⟨_,ar⟩|⟨h,_⟩
  ·exact ar
  ·rw[bq]at h;cases h
 have bO:=I.lo D (dw p) R;rw[I.t0]at bO;have bk:gY.le (fO ab (T p).ae):=by
  intro id l ba;refine j2.2 ⟨?_,G.keeps.le _ _ ba⟩
  grind
 cases fx with
 |dF=>
  have aK:∀q,q<p->E q:=λq bf=>D.before aB p au bj q<|D.dF p x q y bf;obtain⟨bg,bJ,bn,lq,a5⟩:=G.upto I D p B R λr _ h=>aK r h;have aF:eK (fO ab (T p).ae) (F p) a aM:=⟨λt=>G.look I D bX aP aB y au ah mw,G.size,by rw[bJ];exact G.c4.mono<|rI (.refl ab)<|I.lo D B R⟩;rcases ar with⟨z|⟨z,u,bC,bS⟩,A,Y,ad,_⟩|⟨z,aa,aX,_,Y,_⟩
  ·have C:=wa H aF z;have J:=Em (P:=X.P) (b:=b) (k:=k) (cs:=bd (F c).cL) (w:=w) (rest:=rest) a' C;obtain⟨bD,cw,dg,fY⟩:=rH (F p) x.d undef;obtain⟨aI,bh⟩:=G.effect I D y B aK S (by rw[ad];exact bg) lR j (.inl<|by rw[A];exact bc.undef _) (by
    rw[Y,fY];have:(a.put x.d undef).defers=a.defers:=by cases x.d<;>rfl
    rw[this];exact aF.c4)
   refine⟨p+1,aI,_,w,?_,bh,?_,?_⟩
   ·rw[Y,dg,bn,W];exact .one J
   ·rw[Y,bD,lq,an]
   ·rw[Y,cw,a5,aq]
  ·exact absurd bS<|bN x .dF y j z u bC
  ·have C:=wa H aF z;obtain⟨aG,aT,w',J,a7,aw,aW,bT,bU,a2,a6⟩:=Pj (k:=k) (rest:=rest) H bG a' C aF bg (by rw[a5,aq];exact aA.mono bk) (by rw[lq,an];exact bR.mono bk) aX;have bx:=rH ⟨(F p).t,aa.c4,aa.aR,aa.cL,aa.b1⟩ x.d<|V p;have A:bc aG (V p) a2\/x.d=none:=by
    cases aL:x.d with
    |none=>exact .inr j
    |some t=>
     left;have:=a7.tmp t;rw[qi,aE aL,a6,<-W,v9,aE ⟨aL,by rw[G.size];exact S t aL⟩]at this;exact this
   obtain⟨aI,bh⟩:=G.effect I D y B aK S aw aW (by rw[a6,W]) A (by
    rw[Y,bx.2.2.2];have:=a7.c4;rw[(rH aa x.d<|V p).2.2.2]at this;exact this)
   grind
 |read n ay=>
  obtain⟨M,aS⟩:=G.Py I D bX aP aB y au ah B;have aC:¬ub L F p:=λ⟨a4,bt,K,_⟩=>by rw[y]at K;cases K
  obtain⟨_,_,ad,aU⟩:=ar;rcases aU with⟨z,A⟩|⟨z,bP⟩
  ·have C:=wa H M z;have J:=Em (P:=X.P) (b:=b) (a:=a) (k:=k) (cs:=bd (F c).cL) (w:=w) (rest:=rest) a' C;exact⟨c,ab,_,w,.one J,by rw[<-W];exact G.float D y av B aC S<|by rw[A];exact bc.undef _,an,aq⟩
  ·have C:=wa H M z;have bw:(List.range p).countP (λq=>decide (c<=q)&&sD L q)<n+1:=by
    refine Nat.lt_succ_of_le<|cC (List.countP_mono_left λq bf az=>?_)<|D.back p x n ay y;simp only[cO,decide_eq_true_eq]at az⊢;refine⟨az.2,?_⟩;cases bo:(ms.getD p 0).testBit q with
    |false=>rfl
    |true=>
     exfalso;have bH:=D.before aB p au bj q bo;have ai:=az.2;unfold sD at ai;cases K:L[q]? with
     |none=>rw[K]at ai;cases ai
     |some a4=>
      obtain⟨bK,bu⟩:=a4;rw[K]at ai;cases bu with
      |dF=>exact G.Bb q bK az.1 bH K
      |gq _=>cases ai
      |read _ _=>cases ai
   obtain⟨az,bV,e6,aD,a9⟩:=Pn _ _ bP _ bw;have bE:=I.snap G.start p B R;rw[bE]at aD;cases aD;have ax:=A9 H;have a1:=D.rd p x n ay y;obtain⟨_,_,bB,_⟩:=Ek ax M aS a9<|ab7 a1;obtain⟨_,_,a2,aY,A⟩:=bB a1;have aN:=aY;have J:=En (b:=b) (a:=a) (k:=k) (cs:=bd (F c).cL) (rest:=rest) a' C (.inr<|Px ax<|.inl a1) aN;exact⟨c,ab,_,w,.one J,by rw[<-W];exact G.float D y av B aC S<|by rw[ad];exact A,an,aq⟩
 |gq ay=>
  obtain⟨M,aS⟩:=G.Py I D bX aP aB y au ah B;obtain⟨_,_,aU⟩:=ar;rcases aU with⟨z,A,ad⟩|⟨z,aa,aX⟩
  ·have C:=wa H M z;have J:=Em (P:=X.P) (b:=b) (a:=a) (k:=k) (cs:=bd (F c).cL) (w:=w) (rest:=rest) a' C;have aC:¬ub L F p:=λ⟨a4,bt,K,aw⟩=>by
    rw[y]at K;cases K;have bM:=z;have b':gW ((F p).only ay) x.g (some true) (some false) none=some true:=aw;rw[bM]at b';cases b'
   exact⟨c,ab,_,w,.one J,by rw[<-W];exact G.float D y av B aC S<|by rw[A];exact bc.undef _,an,aq⟩
  ·have C:=wa H M z;have aJ:=D.gq p x ay y;have ax:=A9 H;obtain⟨aO,bA,_,ad,bF⟩:=Ps aJ aX;obtain⟨_,_,_,bI⟩:=Ek ax M aS (bF (T c).h)<|ab8 aJ;obtain⟨eV,O,ex,a2,w',aD,a9,aY,br,A,aw,aW⟩:=bI aJ;have bQ:(some aO:be bz)=some eV:=by
    have:=congrArg (λs:aj=>s.h.get (T p).ae) aD;simp only[ao.ee]at this;exact this
   cases bQ;have bl:g6 X (gr (fO ab (T p).ae) (T p).ae ⟨w.heap.size,0,ex,id⟩) w' aO ⟨w.heap.size,0,ex,id⟩:=by
    obtain⟨l,ba,hm⟩:=aw.er (T p).ae aO av bA;have:gr (fO ab (T p).ae) (T p).ae ⟨w.heap.size,0,ex,id⟩ (T p).ae=some ⟨w.heap.size,0,ex,id⟩:=aE j
    grind
   have aN:=aY;have J:=En (b:=b) (a:=a) (k:=k) (cs:=bd (F c).cL) (rest:=rest) a' C (.inr<|Px ax<|.inr aJ) aN;exact⟨c,_,_,w',.one J,by rw[<-W];exact G.ab6 I D y B ah S ad (by rfl) (by exact IJ) br aW.fE A bl,an,aq⟩
theorem aca(aa:lk X call)(j:j3 X aM L F T V gY dG E c ab a w)(G:jK call Z L [st.h] o st bs ak F T N V)(D:ln X aM ops L cu e3 ms)(bX:∀id,st.ae<=id->gY id=none)(S:∀t∈e3,(F 0).tmp t=iR)
 (O:∀p,E p->mX ops cu E p) {p:Nat} (hp:p<L.length) {x:bm} (I:L[p]? =some (x,.dF)) (af:cu[p]? =some i) (M:mX ops cu E p) (ah:¬E p) (ar:(F c).aR=(F 0).aR) (av:(F c).b1=(F 0).b1)
 (ad:kY (F p) x.g true) (az:x.U.kU=true) {u:bv} {Jn:aj} (aq:bw call x.U (F p) (T p)= .aR u Jn):
 ∃aG bD w',Steps X.P (lone (b.at a<|.inRegion ops (i::rest)::k) (bd (F p).cL) w) (lone (b.panics a (.inRegion ops (i::rest)::k) bD) (bd (F p).cL) w')/\bc aG u bD/\bN X aG Jn w'/\dS gY aG dG w'/\eK aG (F p) a aM/\
  (F c).cL=(F p).cL/\(F p).aR=(F 0).aR/\(F p).b1=(F 0).b1:=by
 obtain⟨U,W,y⟩:=D.op p i x .dF af I;have ax:p<ops.size:=by rw[<-D.sE];exact hp
 have z:c<=p:=by
  rcases fS p c with h|h
  ·exact absurd (j.low p h) ah
  ·exact h
 have B:∀q,q<p->E q:=λq an=>D.before O p M ax q<|D.dF p x q I an;obtain⟨au,ai,H,lq,C⟩:=j.upto G D p z R λr _ h=>B r h;have d:eK (fO ab (T p).ae) (F p) a aM:=⟨λt=>j.look G D bX S O I M ah mw,j.size,by rw[ai];exact j.c4.mono<|rI (.refl ab)<|G.lo D z R⟩;have ay:=wa y d ad;obtain⟨aG,bD,w',K,Y,a',A⟩:=Pk y aa W ay d au az aq;have aw:=G.lo D (dw p) R;rw[G.t0]at aw;have aA:gY.le (fO ab (T p).ae):=by
  intro id l s;refine j2.2 ⟨?_,j.keeps.le _ _ s⟩
  grind
 have J:dS gY (fO ab (T p).ae) dG w:=⟨aA,j.keeps.size,j.keeps.kept,λid l s=>j.keeps.new id l (j2.1 s).2,j.keeps.fE⟩;exact⟨aG,bD,w',K,Y,a',J.trans A,d.mono A.le,H.symm,lq.trans ar,C.trans av⟩
end
theorem Pz{α:Type}{p q:α->Bool}:∀{l:ac α},(∀x∈l,p x=true->q x=true)->(∃x∈l,q x=true/\p x=false)->l.countP p<l.countP q
 |[],_,⟨x,d,_⟩=>by cases d
 |y::l,h,⟨x,d,aF,aL⟩=>by
  have hle:=List.countP_mono_left λz g=>h z<|e5 _ g;rw[HV,HV];rcases e1.1 d with rfl|d
  ·simp only[aF,aL];simp;omega
  ·have:=Pz (λz g=>h z<|e5 _ g) ⟨x,d,aF,aL⟩
   grind
section
variable{aM:Nat}{ops:bi Oper}{L:ac (bm×cr)}{cu:ac Nat}{e3:ac Tmp}{ms:ac Nat}
variable{Z:Nat->Bool}{o bs:aJ}{st ak:aj}{F:Nat->aJ}{T:Nat->aj}{N:Nat->ac (ao bz)}{V:Nat->bv}{gY:bF}{dG:f5}
variable{b:dK}{bd:Bool->ac Frame}{k:ac Item}
variable{listed:bi Bool}
def lr(cu:ac Nat)(listed:bi Bool):Nat->Prop:=λp=>∃i,cu[p]? =some i/\listed.getD i false=true
def acb{i:Nat}(af:i<listed.size)(h:listed.getD i false≠true):listed.getD i true=false:=by
 simpa[af]using h
def ln.acd(D:ln X aM ops L cu e3 ms)(I:listed.size=ops.size)(h:Region.ready .any ops listed=[]):∀p,p<L.length->lr cu listed p:=by
 intro p
 induction p using Nat.strongRecOn with
 |_ p z=>
  intro hp;have g:p<ops.size:=by rw[<-D.sE];exact hp
  have af:cu[p]? =some (cu[p]'(by rw[D.yr];exact g)):=a0 _;obtain⟨⟨x,fx⟩,y⟩:∃x,L[p]? =some x:=⟨_,a0 hp⟩;obtain⟨U,d,_⟩:=D.op p _ x fx af y;refine⟨_,af,?_⟩;by_cases s:listed.getD (cu[p]'(by rw[D.yr];exact g)) false=true
  ·exact s
  ·exfalso;have aT:=(tu.1 d).1;have u:(cu[p]'(by rw[D.yr];exact g))∈Region.ready .any ops listed:=by
    rw[mem_ready];refine⟨acb R s,U,d,λe G C=>?_⟩;obtain⟨q,H,A⟩:=D.ab3 p _ U af d e G C;obtain⟨J,j,B⟩:=z q H R;rw[A]at j;cases j;exact B
   rw[h]at u;cases u
theorem ace(a5:lk X call)(aL:jK call Z L [st.h] o st bs ak F T N V)(D:ln X aM ops L cu e3 ms)(bX:∀id,st.ae<=id->gY id=none)(aJ:∀t∈e3,(F 0).tmp t=iR)
 (aA:nG gY (F 0).b1 b.b1) (b':iX b (F 0).aR gY bd) (n:Nat) (a7:Jl call Z L F T n) (aH:∀p,Z p=true->n<L.length/\(ms.getD p 0).testBit n=true):∀(u t:Nat) (listed:bi Bool) (c:Nat) (ab:bF) (a:Act) (w:f5),listed.size=ops.size->(List.range ops.size).countP (λi=> !listed.getD i true)<=u->
 (∀p,lr cu listed p->mX ops cu (lr cu listed) p)->¬lr cu listed n->j3 X aM L F T V gY dG (lr cu listed) c ab a w->(F c).aR=(F 0).aR->(F c).b1=(F 0).b1->
 (∃d cM y j w',Steps X.P (lone (b.at a<|.inRegion ops (Region.linearise.go .any ops u t listed [])::k) (bd (F c).cL) w) (lone (b.at j<|.inRegion ops []::k) (bd (F cM).cL) w')/\
  (∀p,p<L.length->d p)/\j3 X aM L F T V gY dG d cM y j w'/\(F cM).aR=(F 0).aR/\(F cM).b1=(F 0).b1/\(d n->lr cu listed n))\/
 (∃d cM y j w' i rest,Steps X.P (lone (b.at a<|.inRegion ops (Region.linearise.go .any ops u t listed [])::k) (bd (F c).cL) w) (lone (b.at j<|.inRegion ops (i::rest)::k) (bd (F cM).cL) w')/\
  n<L.length/\cu[n]? =some i/\(∀p,d p->mX ops cu d p)/\mX ops cu d n/\¬d n/\j3 X aM L F T V gY dG d cM y j w'/\(F cM).aR=(F 0).aR/\(F cM).b1=(F 0).b1):=by
 intro u
 induction u with
 |zero=>
  intro t listed c ab a w R az J ad z G H;refine .inl ⟨lr cu listed,c,ab,a,w,.refl _ _,λp hp=>?_,z,G,H,id⟩;have a9:p<ops.size:=by rw[<-D.sE];exact hp
  have af:cu[p]? =some (cu[p]'(by rw[D.yr];exact a9)):=a0 _;obtain⟨⟨x,fx⟩,Y⟩:∃x,L[p]? =some x:=⟨_,a0 hp⟩;obtain⟨U,O,_⟩:=D.op p _ x fx af Y;have aT:=(tu.1 O).1;refine⟨_,af,?_⟩
  simp_all
 |succ u aK=>
  intro t listed c ab a w R az J ad z G H;change(∃d cM y j w',Steps X.P (lone (b.at a (.inRegion ops (match(Region.ready .any ops listed)[t%(Region.ready .any ops listed).length]? with
   |some i=>Region.linearise.go .any ops u (t/(Region.ready .any ops listed).length) (listed.setIfInBounds i true) [i]
   |none=>[].reverse)::k)) (bd (F c).cL) w) _/\_)\/(∃d cM y j w' i rest,Steps X.P (lone (b.at a (.inRegion ops (match(Region.ready .any ops listed)[t%(Region.ready .any ops listed).length]? with
   |some i=>Region.linearise.go .any ops u (t/(Region.ready .any ops listed).length) (listed.setIfInBounds i true) [i]
   |none=>[].reverse)::k)) (bd (F c).cL) w) _/\_)
  cases ax:(Region.ready .any ops listed)[t%(Region.ready .any ops listed).length]? with
  |none=>
   have aD:Region.ready .any ops listed=[]:=by
    cases ba:Region.ready .any ops listed with
    |nil=>rfl
    |cons x xs=>
     rw[ba]at ax;have aT:t%(x::xs).length<(x::xs).length:=eG _ av;simp at ax;simp at aT;omega
   exact .inl ⟨lr cu listed,c,ab,a,w,.refl _ _,D.acd R aD,z,G,H,id⟩
  |some i=>
   simp only[];rw[linearise_go_acc,List.reverse_singleton];obtain⟨aX,U,O,a4⟩:=mem_ready.1<|hg ax;have aT:=(tu.1 O).1;obtain⟨p,hp⟩:=D.ab2 i aT;have ai:p<L.length:=by rw[D.sE,<-D.yr];exact(dN.1 hp).1
   have ah:¬lr cu listed p:=by
    rintro⟨g,s,C⟩
    grind
   have M:mX ops cu (lr cu listed) p:=by
    intro I au B A e S K r W;rw[hp]at B;cases B;rw[O]at A;cases A;exact⟨_,W,a4 e S K⟩
   by_cases aw:p=n
   ·subst aw;exact .inr ⟨lr cu listed,c,ab,a,w,i,_,.refl _ _,ai,hp,J,M,ah,z,G,H⟩
   have ay:Z p=false:=by
    cases aF:Z p with
    |false=>rfl
    |true=>exact absurd (D.before J p M (by rw[<-D.sE];exact ai) n (aH p aF).2) ad
   obtain⟨cM,y,j,w',aB,aC,aW,a2⟩:=ab9 a5 z aL D bX aJ J ai ay (λx c Y=>a7 p x c aw ay Y) hp M ah aA b' G H;have aq:Bd (lr cu listed) p=lr cu (listed.setIfInBounds i true):=by
    funext q;apply propext;constructor
    ·rintro(⟨g,s,C⟩|rfl)
     ·exact⟨g,s,getD_set_true C⟩
     ·exact⟨i,hp,by simp[R,aT]⟩
    ·rintro⟨g,s,C⟩;by_cases e:g=i
     ·subst e;exact .inr<|D.inj q p g s hp
     ·left;refine⟨g,s,?_⟩;rw[getD_set_ne false<|Ne.symm e]at C;exact C
   rw[aq]at aC;have aO:∀p,lr cu (listed.setIfInBounds i true) p->mX ops cu (lr cu<|listed.setIfInBounds i true) p:=by
    rw[<-aq];rintro q (a6|rfl) I au B A e S K r W
    ·exact .inl<|J q a6 I au B A e S K r W
    ·exact .inl<|M I au B A e S K r W
   have aN:¬lr cu (listed.setIfInBounds i true) n:=by
    rw[<-aq];rintro(h|h)
    ·exact ad h
    ·exact aw h.symm
   have aP:(List.range ops.size).countP (λg=> !(listed.setIfInBounds i true).getD g true)<=u:=by
    refine Nat.le_of_lt_succ<|eR (Pz (λg _ s=>?_) ⟨i,List.mem_range.2 aT,?_,?_⟩) az
    ·by_cases e:g=i
     ·subst e;simp[aT]at s
     ·rw[getD_set_ne true<|Ne.symm e]at s;exact s
    ·rw[aX];rfl
    ·simp[aT]
   rcases aK (t/(Region.ready .any ops listed).length) (listed.setIfInBounds i true) cM y j w' (by simp[R]) aP aO aN aC aW a2 with⟨d,aa,aj,a',ar,an,aE,aS,aU,aY,bc⟩|⟨d,aa,aj,a',ar,I,aI,an,a1⟩
   ·refine .inl ⟨d,aa,aj,a',ar,aB.trans an,aE,aS,aU,aY,λh=>?_⟩
    grind
   ·exact .inr ⟨d,aa,aj,a',ar,I,aI,aB.trans an,a1⟩
theorem acf{ab:bF}{a:Act}{w:f5}{id:Nat}(hm:X.P.follows .mixedOrders=true)(aC:lk X call)(D:ln X aM ops L cu e3 ms)(ad:eK ab o a aM)(aL:bN X ab st w)(aA:nG ab o.b1 b.b1)(a4:iX b o.aR ab bd):
 fN X b aM bd (lone (b.at a<|.code (.region id ops true)::k) (bd o.cL) w) k o ab w (gX call (ry call ms<|du L) L [st.h] (pb o e3) st):=by
 cases br:gX call (ry call ms<|du L) L [st.h] (pb o e3) st with
 |no=>trivial
 |out e bs ak=>
  obtain⟨Z,F,T,N,V,s,bw⟩:=ab0 _ _ _ _ _ _ _ br;obtain⟨S,a',W,bE,a1⟩:=Pm e3 o
  let eE:f5:={w with drawn:=w.drawn+1}
  have aD:bN X ab st eE:=aL.tV X j;have y:=s.f0;have Y:∀id,st.ae<=id->ab id=none:=λid h=>(aL.fresh id h).1;have aO:fO ab (T 0).ae=ab:=by rw[s.t0];exact Pw Y
  have mY:∀p,¬lr cu (Array.replicate ops.size false) p:=by
   rintro p ⟨i,_,af⟩;by_cases h:i<ops.size<;>simp[h]at af
  have bc:j3 X aM L F T V ab eE (lr cu<|Array.replicate ops.size false) 0 ab a eE:=by
   refine⟨λp hp=>R,dw _,.inl j,λp x _ h=>absurd h<|mY p,by rw[aO,s.t0];exact aD,λid l aJ=>.inl ?_,λp _ h=>absurd h<|mY p,aD.fw,.refl _ _,ad.size,by rw[aO,y,a1];exact ad.c4,λp x fx t _ _ h=>absurd h<|mY p,λt _=>?_⟩
   ·rw[s.t0]
    grind
   ·rw[y,S];by_cases h:t∈e3
    ·rw[aE h];exact .top _
    ·rw[aw h];exact ad.tmp t
  have aj:=abQ (P:=X.P) (b:=b) (a:=a) (k:=k) (cs:=bd o.cL) (w:=w) (ops:=ops) (id:=id);have a9:Region.schedule (X.P.follows .mixedOrders) ops (w.tape w.drawn<|.order b.fn id)=Region.linearise.go .any ops ops.size (w.tape w.drawn<|.order b.fn id) (Array.replicate ops.size false) []:=by
   simp[hm];rfl
  rw[a9]at aj;have bD:bd (F 0).cL=bd o.cL:=by grind
  have an:=λn I aX=>ace (k:=k) aC s D Y (λt h=>by rw[y,S,aE h]) (by rw[y,W];exact aA) (by rw[y,a'];exact a4) n I aX ops.size (w.tape w.drawn<|.order b.fn id) (Array.replicate ops.size false) 0 ab a eE av (by
   refine cC List.countP_le_length ?_;simp) (λp h=>absurd h<|mY p) (mY n) bc j j
  rw[bD]at an;rcases bw with⟨rfl,aW,I,aI,a6⟩|⟨n,x,u,au,a7,I,bk,bC,rfl,rfl,aP⟩
  case inr=>
   have ax:=(dN.1 au).1;rcases an n I (λp hp=>⟨ax,(a7 p hp).2⟩)with⟨ah,cM,A,C,w',B,J,g,K,M,G⟩|⟨ah,cM,A,C,w',i,rest,B,ai,af,bB,bx,a5,g,K,M⟩
   ·exact absurd (G<|J n ax)<|mY n
   ·obtain⟨aG,bA,bu,bq,b',aU,bt,aS,a0,bj,bf⟩:=aca aC g s D Y (λt h=>by rw[y,S,aE h]) bB ai au af bx a5 K M bk bC aP;rw[a0]at B;exact⟨aG,C,bu,aS,aU,dS.trans (w':=eE) (dS.tV ab j) bt,by rw[bj,y,a'],by rw[bf,y,W],bA,_,b',(Steps.head aj B).trans bq⟩
  obtain⟨ah,cM,A,C,w',B,J,g,K,M,_⟩:∃ah cM A C w',_:=by
   rcases an L.length I (λp hp=>by rw[aW p]at hp;cases hp)with h|⟨_,_,_,_,_,_,_,_,ai,_⟩
   ·exact h
   ·exact absurd ai R
  obtain⟨aN,aF,ar,lq,aq⟩:=g.upto s D L.length g.Ex (cn _) λr _ h=>J r h;have aT:fO A (T L.length).ae=A:=by
   refine Pw λid bI=>?_;cases aJ:A id with
   |none=>rfl
   |some l=>
    exfalso;rcases g.lp id l aJ with h|⟨p,bl,bn,a2,aY,bG⟩
    ·have:=s.lo D g.Ex<|cn _;omega
    ·obtain⟨U,bp,ba,_⟩:=g.fW p bl a2 aY;have bH:(T<|p+1).ae=(T p).ae+1:=by rw[ba]
     have:=s.lo D (p:=p+1) bn<|cn _;omega
  rw[aT,a6]at aN;rw[aI]at aF ar lq aq;have bg:eK A bs C aM:=by
   refine⟨λt=>?_,g.size,by rw[aF];exact g.c4.mono<|Pv _ _⟩;rw[<-aI];by_cases ay:∃(q:Nat) (O:bm) (d:cr),L[q]? =some (O,d)/\O.d=some t
   ·obtain⟨q,O,d,aa,az⟩:=ay;have aK:=(dN.1 aa).1;rw[s.Jm D aa az L.length aK<|cn _];exact(g.Bc q O d t aa az<|J q aK).mono<|Pv _ _
   ·have aB:∀(q:Nat) z cM,L[q]? =some (z,cM)->z.d≠some t:=λq z cM H G=>ay ⟨q,z,cM,H,G⟩;rw[s.Ew t L.length (cn _) λq z cM _ H=>aB q z cM H];exact(g.ys t λq z cM H G=>absurd G<|aB q z cM H).mono g.keeps.le
  refine⟨A,C,w',bg,aN,dS.trans (w':=eE) (dS.tV ab j) g.keeps,?_,?_,?_⟩
  ·rw[lq,K,y,a']
  ·rw[aq,M,y,W]
  ·rw[<-ar]at B;exact(Steps.head aj B).trans<|.one Pe
end
end Go.bA
namespace Go.bA
variable{X:Ctx}
abbrev uc:=Nat×(bm×cr)×Nat×Nat
def qv:Nat->ac (bm×cr)->ac Nat->ac Nat->ac uc
 |p,a::L,i::cu,m::ms=>(p,a,i,m)::qv (p+1) L cu ms
 |_,_,_,_=>[]
theorem PA:∀(L:ac (bm×cr)) (cu ms:ac Nat) (j p:Nat) {a:bm×cr} {i m:Nat},L[p]? =some a->cu[p]? =some i->ms[p]? =some m->(j+p,a,i,m)∈qv j L cu ms
 |[],_,_,_,p,_,_,_,h,_,_=>by simp at h
 |_::_,[],_,_,p,_,_,_,_,h,_=>by simp at h
 |_::_,_::_,[],_,p,_,_,_,_,_,h=>by simp at h
 |g::L,u::cu,s::ms,j,p,a,i,m,aF,aL,d=>by
  cases p with
  |zero=>
   simp at aF aL d;subst aF aL d;exact g5
  |succ p=>
   have:=PA L cu ms (j+1) p (by simpa using aF) (by simpa using aL) (by simpa using d);rw[show j+(p+1)=j+1+p by omega];exact e5 _ this
theorem PB:∀(L:ac (bm×cr)) (cu ms:ac Nat) (u:Nat) {r:uc},r∈qv u L cu ms->∃p:Nat,r.1=u+p/\L[p]? =some r.2.1/\cu[p]? =some r.2.2.1/\ms[p]? =some r.2.2.2
 |[],_,_,_,_,h=>by simp[qv]at h
 |_::_,[],_,_,_,h=>by simp[qv]at h
 |_::_,_::_,[],_,_,h=>by simp[qv]at h
 |s::L,z::cu,y::ms,u,r,h=>by
  rcases e1.1 h with rfl|h
  ·exact⟨0,j,j,j,j⟩
  ·obtain⟨p,aF,aL,g,d⟩:=PB L cu ms (u+1) h;exact⟨p+1,R,aL,g,d⟩
def wb(j:ac uc)(p:Nat):ac Edge->be Nat
 |[]=>some 0
 |e::es=>if Region.binds .any e then
  match j.find? λr=>Nat.beq r.2.2.1 e.on,wb j p es with
  |some r,some m=>if Nat.ble (Nat.succ r.1) p then some (m|||((1<<<r.1)|||r.2.2.2))else none
  |_,_=>none
  else wb j p es
theorem Ey{j:ac uc}{p:Nat}:∀(es:ac Edge) (m:Nat),wb j p es=some m->
 (∀e∈es,Region.binds .any e=true->∃r∈j,r.2.2.1=e.on/\r.1<p)/\
 (∀q,m.testBit q=true->∃e∈es,Region.binds .any e=true/\∃r∈j,r.2.2.1=e.on/\r.1<p/\(q=r.1\/r.2.2.2.testBit q=true))
 |[],m,h=>by
  simp[wb]at h
  grind
 |e::es,m,h=>by
  simp only[wb]at h;by_cases aA:Region.binds .any e=true
  ·rw[aE aA]at h;split at h
   ·rename_i r s g u;split at h
    ·rename_i aT;cases h;obtain⟨y,z⟩:=Ey es s u;have A:r.2.2.1=e.on:=by
      have:=z3 g;exact dM this
     have B:=lf.1 aT;refine⟨λC G D=>?_,λq d=>?_⟩
     ·grind
     ·rw[Nat.testBit_or,Nat.testBit_or,z6,z6]at d;rcases d with d|d|d
      ·grind
      ·rw[Nat.one_shiftLeft]at d
       grind
      ·grind
    ·cases h
   ·cases h
  ·rw[aw aA]at h;obtain⟨y,z⟩:=Ey es m h
   grind
def PC(d:be Tmp)(t:Tmp):Bool:=match d with|some u=>Nat.beq u t|none=>false
def ud(ay:ac Tmp)(t:Tmp):Bool:=ay.any<|Nat.beq t
theorem Ez{ay:ac Tmp}{t:Tmp}:ud ay t=true↔t∈ay:=by
 unfold ud
 simp_all
def Be(X:Ctx)(aM:Nat)(ops:bi Oper)(L:ac (bm×cr))(j:ac uc)(r:uc):Bool:=
 (match ops[r.2.2.1]? with
  |some U=>ll X aM ops r.2.1.1 U&&(match wb j r.1 U.after.toList with|some m=>Nat.beq m r.2.2.2|none=>false)
  |none=>false)&&
 (match r.2.1.2 with
  |.dF=>Nat.beq r.2.2.2 (2^r.1-1)
  |.gq _=>r.2.1.1.U.qt
  |.read n _=>r.2.1.1.U.po&&Nat.ble ((List.range r.1).countP λq=>sD L q&& !r.2.2.2.testBit q) n)
def yt(e3:ac Tmp)(r s:uc):Bool:=
 (!Nat.beq r.2.2.1 s.2.2.1||Nat.beq r.1 s.1)&&
 (match s.2.1.1.d with
  |none=>true
  |some t=>
   (!PC r.2.1.1.d t||Nat.beq r.1 s.1)&&
   (!Nat.ble (Nat.succ r.1) s.1||ud e3 t|| !(r.2.1.2.v8||ud r.2.1.2.looks t)||s.2.2.2.testBit r.1)&&
   (!Nat.ble (Nat.succ s.1) r.1|| !ud r.2.1.2.looks t||r.2.2.2.testBit s.1))
def Jo(X:Ctx)(aM:Nat)(ops:bi Oper)(L:ac (bm×cr))(cu:ac Nat)(e3:ac Tmp)(ms:ac Nat):Bool:=
 (λd=>Nat.beq L.length ops.size&&Nat.beq cu.length ops.size&&Nat.beq ms.length ops.size&&(List.range ops.size).all (λi=>ud cu i)&&d.all (Be X aM ops L d)&&d.all λr=>d.all<|yt e3 r)<|qv 0 L cu ms
theorem acg{aM:Nat}{ops:bi Oper}{L:ac (bm×cr)}{cu:ac Nat}{e3:ac Tmp}{ms:ac Nat}(h:Jo X aM ops L cu e3 ms=true):ln X aM ops L cu e3 ms:=by
 unfold Jo at h;simp only[cO]at h;obtain⟨⟨⟨⟨⟨aw,ax⟩,ar⟩,Y⟩,ad⟩,au⟩:=h;have aq:=pn aw;have av:=pn ax;have aE:=pn ar;rw[il]at Y ad au;have aC:∀(p:Nat) a i,L[p]? =some a->cu[p]? =some i->(p,a,i,ms.getD p 0)∈qv 0 L cu ms:=by
  intro p a i s af;have hp:=(dN.1 s).1;have hm:ms[p]? =some (ms.getD p 0):=by
   have:p<ms.length:=R
   simp[this]
  have:=PA L cu ms 0 p s af hm
  rwa [iE]at this
 have A:∀p:Nat,p<L.length->∃i,cu[p]? =some i:=λp hp=>⟨_,a0 R⟩;have S:∀p i:Nat,cu[p]? =some i->∃a,L[p]? =some a:=λp i af=>⟨_,a0 (by have:=(dN.1 af).1;omega)⟩;have W:∀(p:Nat) a i,L[p]? =some a->cu[p]? =some i->Be X aM ops L (qv 0 L cu ms) (p,a,i,ms.getD p 0)=true:=λp a i s af=>ad _<|aC p a i s af;have O:∀(p:Nat) a i q b z,L[p]? =some a->cu[p]? =some i->L[q]? =some b->cu[q]? =some z->yt e3 (p,a,i,ms.getD p 0) (q,b,z,ms.getD q 0)=true:=by
  grind
 have a':∀(p i:Nat) a U,L[p]? =some a->cu[p]? =some i->ops[i]? =some U->ll X aM ops a.1 U=true/\∃m,wb (qv 0 L cu ms) p U.after.toList=some m/\m=ms.getD p 0:=by
  intro p i a U s af G;have:=W p a i s af;unfold Be at this;simp only[G,cO]at this;refine⟨this.1.1,?_⟩;have j:=this.1.2;split at j
  ·rename_i m hm;exact⟨m,hm,pn j⟩
  ·cases j
 have ai:∀{r:uc} {p:Nat},r∈qv 0 L cu ms->∃q:Nat,r.1=q/\cu[q]? =some r.2.2.1/\ms.getD q 0=r.2.2.2:=by
  intro r p D;obtain⟨q,B,u,a2,cD⟩:=PB L cu ms 0 D;exact⟨q,R,a2,by simp[cD]⟩
 have aa:∀(p i:Nat) a,L[p]? =some a->cu[p]? =some i->(match a.2 with|.dF=>Nat.beq (ms.getD p 0) (2^p-1)|.gq _=>a.1.U.qt|.read n _=>a.1.U.po&&Nat.ble ((List.range p).countP λq=>sD L q&& !(ms.getD p 0).testBit q) n)=true:=by
  intro p i a s af;have:=W p a i s af;unfold Be at this;rw[cO]at this;exact this.2
 refine⟨aq,av,λp i x c af g=>?_,λp x ay g=>?_,λp x n ay g=>?_,λp q i hp C=>?_,λi af=>?_,λp i U af G e I H=>?_,λp i U q af G C=>?_,λp x q g C=>?_,λp x n ay g=>?_,λp q x ah c d t g y aj M=>?_,λp q x ah c d t g y an M al K=>?_,λp q x ah c d t g y aD M K=>?_⟩
 ·have:=W p (x,c) i g af;unfold Be at this
  grind
 ·grind
 ·grind
 ·obtain⟨a,s⟩:=S p i hp;obtain⟨b,H⟩:=S q i C;have:=O p a i q b i s hp H C;unfold yt at this;simp only[cO,z6]at this;rcases this.1 with h|h
  ·simp at h
  ·exact pn h
 ·have:=Y i<|List.mem_range.2 af;have hm:=Ez.1 this;obtain⟨p,hp,I⟩:=List.mem_iff_getElem.1 hm;exact⟨p,by rw[a0 hp,I]⟩
 ·obtain⟨a,s⟩:=S p i af;obtain⟨_,m,hm,_⟩:=a' p i a U s af G;obtain⟨r,D,j,aA⟩:=(Ey _ _ hm).1 e (by simpa using I) H;obtain⟨q,B,u,_⟩:=ai (p:=0) D;exact⟨q,R,by rw[u,j]⟩
 ·obtain⟨a,s⟩:=S p i af;obtain⟨_,m,hm,rfl⟩:=a' p i a U s af G;obtain⟨e,I,H,r,D,j,aA,aB⟩:=(Ey _ _ hm).2 q C;obtain⟨az,B,u,a2⟩:=ai (p:=0) D;exact⟨e,by simpa using I,H,az,R,by rw[u,j],by rw[a2,<-B];exact aB⟩
 ·obtain⟨i,af⟩:=A p (dN.1 g).1;have:=pn<|aa p i _ g af;rw[this];simpa using C
 ·obtain⟨i,af⟩:=A p (dN.1 g).1;have:=aa p i _ g af;simp only[cO]at this;exact lf.1 this.2
 ·obtain⟨i,af⟩:=A p (dN.1 g).1;obtain⟨z,J⟩:=A q (dN.1 y).1;have:=O p _ i q _ z g af y J;unfold yt at this;simp only[M,cO]at this;have j:=this.2.1.1;simp[PC,aj]at j;exact j
 ·obtain⟨i,af⟩:=A p (dN.1 g).1;obtain⟨z,J⟩:=A q (dN.1 y).1;have:=O p _ i q _ z g af y J;unfold yt at this;simp only[M,cO]at this;have j:=this.2.1.2;have B:=lf.2 an;have u:ud e3 t=false:=by rw[vo];intro h;exact al<|Ez.1 h
  have a2:(c.v8||ud c.looks t)=true:=by
   rcases K with rfl|K
   ·rfl
   ·rw[z6];exact .inr<|Ez.2 K
  rw[B,u,a2]at j;simpa using j
 ·obtain⟨i,af⟩:=A p (dN.1 g).1;obtain⟨z,J⟩:=A q (dN.1 y).1;have:=O p _ i q _ z g af y J;unfold yt at this;simp only[M,cO]at this;have j:=this.2.2;have B:=lf.2 aD;have u:=Ez.2 K;rw[B,u]at j;simpa using j
end Go.bA
namespace Go.bA
variable{X:Ctx}{call:bM}
def yu(X:Ctx)(aM:Nat)(ops:bi Oper):ac bm->ac Oper->Bool
 |[],[]=>true
 |x::xs,U::os=>ll X aM ops x U&&yu X aM ops xs os
 |_,_=>false
theorem Jp{aM:Nat}{ops:bi Oper}:∀{xs:ac bm} {os:ac Oper},yu X aM ops xs os=true->xs.length=os.length/\∀(J:Nat) x U,xs[J]? =some x->os[J]? =some U->ll X aM ops x U=true
 |[],[],_=>⟨j,λJ x U h=>by simp at h⟩
 |x::xs,U::os,h=>by
  simp[yu,cO]at h;obtain⟨aF,aL⟩:=Jp h.2
  grind
 |[],_::_,h=>by simp[yu]at h
 |_::_,[],h=>by simp[yu]at h
def wc:ac Nat->ac Nat->Bool
 |[],[]=>true
 |a::as,b::bZ=>Nat.beq a b&&wc as bZ
 |_,_=>false
theorem PD:∀{as bZ:ac Nat},wc as bZ=true->as=bZ
 |[],[],_=>rfl
 |a::as,b::bZ,h=>by
  simp only[wc,cO]at h;rw[pn h.1,PD h.2]
 |[],_::_,h=>by simp[wc]at h
 |_::_,[],h=>by simp[wc]at h
def codeOk(X:Ctx)(aM:Nat):dk->Code->Bool
 |.skip,.skip=>true
 |.skip,.label _=>true
 |.fU xs,.region _ ops false=>yu X aM ops xs ops.toList
 |.qc L cu e3 ms,.region _ ops true=>Jo X aM ops L cu e3 ms
 |.seq a b,.seq c d=>codeOk X aM a c&&codeOk X aM b d
 |.cond x a b,.cond y c d=>c0 X.a3 x y&&codeOk X aM a c&&codeOk X aM b d
 |.block i a,.block J c=>Nat.beq i J&&codeOk X aM a c
 |.loop a,.loop c=>codeOk X aM a c
 |.tO f a8 dV body,.rangeFunc g ju h s=>c0 X.a3 f g&&wc a8 ju.toList&&a8.all (λt=>Nat.ble (Nat.succ t) aM)&&codeOk X aM dV h&&codeOk X aM body s
 |.exit i,.exit J=>Nat.beq i J
 |.scope a,.scope c=>codeOk X aM a c
 |.ret,.ret=>true
 |.refuse,_=>true
 |_,_=>false
def Good(X:Ctx):Prop:=X.P.follows .mixedOrders=true/\∀fn c d,X.ok fn c d↔∃F,X.P.funcs[fn]? =some F/\codeOk X F.ntmps d c=true
section
variable{b:dK}{aM:Nat}{bd:Bool->ac Frame}
def yv(X:Ctx)(call:bM)(b:dK)(aM:Nat)(bd:Bool->ac Frame):Prop:=
 ∀(f:ce) (a8:bi Tmp) (dV body:dk) (d g:Code) (ab:bF) (o:aJ) (a:Act) (st:aj) (w:f5) (k:ac Item),fX X.a3 f=true->(∀t∈a8.toList,t<aM)->(∃F,X.P.funcs[b.fn]? =some F/\F.ntmps=aM)->X.ok b.fn d dV->X.ok b.fn g body->
  eK ab o a aM->bN X ab st w->nG ab o.b1 b.b1->iX b o.aR ab bd->
  fN X b aM bd (lone (b.at a<|.code (.rangeFunc f a8 d g)::k) (bd o.cL) w) k o ab w (AJ call b.fn f a8.toList dV body o st)
theorem fN.kf{s:Machine}{k C:ac Item}{o:aJ}{ab:bF}{w:f5}{r:cH}{g:aJ->aj->cH}(I:∀id,exitTo id k=exitTo id C)(h:fN X b aM bd s k o ab w r)
 (D:∀aG d w' bs ak,eK aG bs d aM->bN X aG ak w'->dS ab aG w w'->bs.aR=o.aR->bs.b1=o.b1->fN X b aM bd (lone (b.at d k) (bd bs.cL) w') C bs aG w' (g bs ak)):fN X b aM bd s C o ab w (kf r g):=by
 cases r with
 |no=>trivial
 |out e bs ak=>
  obtain⟨aG,d,w',A,B,u,j,y,z⟩:=h;cases e with
  |norm=>exact fN.head z u j y (D aG d w' bs ak A B u j y)
  |exit id=>
   obtain⟨J,G,H⟩:=z;exact⟨aG,d,w',A,B,u,j,y,J,G.trans<|I id,H⟩
  |ret=>exact⟨aG,d,w',A,B,u,j,y,z⟩
  |aR v=>exact⟨aG,d,w',A,B,u,j,y,z⟩
def fN.ct{s:Machine}{k:ac Item}{o:aJ}{ab:bF}{w:f5}{r:cH}{i:Nat}(aF:fN X b aM bd s (.inBlock i::k) o ab w r):fN X b aM bd s k o ab w (pc i r):=by
 cases r with
 |no=>trivial
 |out e bs ak=>
  obtain⟨aG,u,w',A,g,d,y,z,B⟩:=aF;cases e with
  |norm=>exact⟨aG,u,w',A,g,d,y,z,Steps.trans B<|.one abO⟩
  |exit id=>
   obtain⟨G,C,D⟩:=B;show fN X b aM bd _ k o ab w (dz id i (.out .norm bs ak)<|.out (.exit id) bs ak);rw[lO];by_cases e:id=i
   ·subst e;rw[aE j];have H:exitTo id G=some k:=by rw[C];simp[exitTo]
    exact⟨aG,u,w',A,g,d,y,z,Steps.trans D<|.one<|abP H⟩
   ·rw[aw e];refine⟨aG,u,w',A,g,d,y,z,G,?_,D⟩;rw[C];have:¬i=id:=λh=>e h.symm;simp[exitTo,this]
  |ret=>exact⟨aG,u,w',A,g,d,y,z,B⟩
  |aR v=>exact⟨aG,u,w',A,g,d,y,z,B⟩
def Bf(r:cH):kf r (λo st=>.out .norm o st)=r:=by
 cases r with
 |no=>rfl
 |out e o st=>cases e<;>rfl
theorem EA(Y:Good X)(aq:lk X call)(aN:yv X call b aM bd)(aK:∃F,X.P.funcs[b.fn]? =some F/\F.ntmps=aM)(bb:Nat):∀(M:dk) (c:Code) (ab:bF) (o:aJ) (a:Act) (st:aj) (w:f5) (k:ac Item),codeOk X aM M c=true->
 eK ab o a aM->bN X ab st w->nG ab o.b1 b.b1->iX b o.aR ab bd->
 fN X b aM bd (lone (b.at a<|.code c::k) (bd o.cL) w) k o ab w (cZ call bb b.fn M o st):=by
 obtain⟨Fn,R,ad⟩:=aK;intro M
 induction M with
 |skip=>
  intro c ab o a st w k h s u A y;cases c with
  |skip=>exact⟨ab,a,w,s,u,.refl _ _,j,j,.one abM⟩
  |label l=>exact⟨ab,a,w,s,u,.refl _ _,j,j,.one abN⟩
  |_=>cases h
 |fU xs=>
  intro c ab o a st w k h s u A y;cases c with
  |region id ops a'=>
   cases a' with
   |true=>cases h
   |false=>
    obtain⟨B,aa⟩:=Jp h;have:=Et (k:=k) aq xs (List.range ops.size) ab o a st w (by simpa using B) (λJ x i aB af=>by
     have aL:i=J:=by
      grind
     subst aL;have aT:i<ops.size:=by grind
     exact⟨ops[i],vp aT,aa i x _ aB av⟩) s u A y
    exact fN.head (.one Pd) lR j j this
  |_=>cases h
 |qc L cu e3 ms=>
  intro c ab o a st w k h s u A y;cases c with
  |region id ops a'=>
   cases a' with
   |false=>cases h
   |true=>exact acf Y.1 aq (acg h) s u A y
  |_=>cases h
 |seq x K aC O=>
  intro c ab o a st w k h s u A y;cases c with
  |seq c d=>
   have h:(codeOk X aM x c&&codeOk X aM K d)=true:=h;rw[cO]at h;have B:=aC c ab o a st w (.code d::k) h.1 s u A y;refine fN.head (.one O8) lR j j<|fN.kf (k:=.code d::k) (λid=>j) B λaG D w' bs ak G H I hp ah=>?_;exact O d aG bs D ak w' k h.2 G H (by rw[ah];exact A.mono I.le) (by rw[hp];exact y.mono I.le)
  |_=>cases h
 |cond x K z O aD=>
  intro c ab o a st w k h s u A y;cases c with
  |cond U c d=>
   have h:(c0 X.a3 x U&&codeOk X aM K c&&codeOk X aM z d)=true:=h;simp at h;obtain⟨rfl,S⟩:=rE h.1.1;show fN X b aM bd _ k o ab w (jX (o.ar x) (λt=>_root_.cond t (cZ call bb b.fn K o st)<|cZ call bb b.fn z o st) .no);have W:=s.ar u S;generalize aw:a.eval x=j1 at W;generalize o.ar x=v at W;cases v with
   |bool t=>
    cases W;cases t with
    |true=>exact fN.head (.one<|El aw) lR j j (O c ab o a st w k h.1.2 s u A y)
    |false=>exact fN.head (.one<|El aw) lR j j (aD d ab o a st w k h.2 s u A y)
   |_=>trivial
  |_=>cases h
 |block i x C=>
  intro c ab o a st w k h s u A y;cases c with
  |block J c=>
   have h:(Nat.beq i J&&codeOk X aM x c)=true:=h;rw[cO]at h;have e:=pn h.1;subst e;have B:=C c ab o a st w (.inBlock i::k) h.2 s u A y;refine fN.head (.one O9) lR j j ?_;exact B.ct
  |_=>cases h
 |loop x C=>
  intro c ab o a st w k h s u A y;cases c with
  |loop c=>
   have key:∀(n:Nat) (ab:bF) o a st w,eK ab o a aM->bN X ab st w->nG ab o.b1 b.b1->iX b o.aR ab bd->
    fN X b aM bd (lone (b.at a<|.code c:: .inLoop c::k) (bd o.cL) w) k o ab w (Nat.rec (λ_ _=>.no) (λ_ aA o st=>Go.bA.kf (cZ call bb b.fn x o st) aA) n o st):=by
    intro n
    induction n with
    |zero=>intros;trivial
    |succ n az=>
     intro ab o a st w s u A y;refine fN.kf (k:=.inLoop c::k) (λid=>j) (C c ab o a st w (.inLoop c::k) h s u A y) λaG D w' bs ak G H I hp ah=>?_;exact fN.head (.one Pb) lR j j (az aG bs D ak w' G H (by rw[ah];exact A.mono I.le)<|by rw[hp];exact y.mono I.le)
   exact fN.head (.one Pa) lR j j (key bb ab o a st w s u A y)
  |_=>cases h
 |tO f a8 dV body _ _=>
  intro c ab o a st w k h s u A y;cases c with
  |rangeFunc g au ax ay=>
   have h:(c0 X.a3 f g&&wc a8 au.toList&&a8.all (λt=>Nat.ble (Nat.succ t) aM)&&codeOk X aM dV ax&&codeOk X aM body ay)=true:=h;simp only[cO]at h;obtain⟨⟨⟨⟨B,aa⟩,an⟩,aI⟩,aE⟩:=h;rw[il]at an;obtain⟨rfl,S⟩:=rE B;have e:=PD aa;subst e;exact aN f au dV body ax ay ab o a st w k S (λt aF=>lf.1<|an t aF) ⟨Fn,R,ad⟩ ((Y.2 _ _ _).2 ⟨Fn,R,by rw[ad];exact aI⟩) ((Y.2 _ _ _).2 ⟨Fn,R,by rw[ad];exact aE⟩) s u A y
  |_=>cases h
 |exit i=>
  intro c ab o a st w k h s u A y;cases c with
  |exit J=>
   have e:=pn (h:Nat.beq i J=true);subst e;exact⟨ab,a,w,s,u,.refl _ _,j,j,k,j,.refl _ _⟩
  |_=>cases h
 |scope x C=>
  intro c ab o a st w k h s u A y;cases c with
  |scope c=>
   have B:=C c ab o a st w (.inScope c::k) h s u A y;refine fN.head (.one Pc) lR j j ?_;show fN X b aM bd _ k o ab w (cZ call bb b.fn x o st);rw[<-Bf (cZ call bb b.fn x o st)];exact fN.kf (k:=.inScope c::k) (λid=>j) B λaG D w' bs ak G H _ _ _=>⟨aG,D,w',G,H,.refl _ _,j,j,.one O7⟩
  |_=>cases h
 |ret=>
  intro c ab o a st w k h s u A y;cases c with
  |ret=>exact⟨ab,a,w,s,u,.refl _ _,j,j,k,.refl _ _⟩
  |_=>cases h
 |refuse=>intros;trivial
end
def Jq(X:Ctx):gU->ResultVar->Bool
 |.tmp t,.tmp u=>Nat.beq t u
 |.cell a g n,.cell b t=>Nat.beq a b&&X.pk (.load t<|.tmp b) (cond g (.mi n<|.tmp b)<|.h2<|.tmp b)&&(g||Nat.beq n 1)
 |_,_=>false
def sF(X:Ctx):ac gU->ac ResultVar->Bool
 |[],[]=>true
 |x::xs,r::rs=>Jq X x r&&sF X xs rs
 |_,_=>false
def Bg(tmps:bi bv):ResultVar->Sem bv
 |.tmp t=>pure (tmps.getD t undef)
 |.cell a t=>do loadVar t (<-asAddr (tmps.getD a undef))
section
variable{ab:bF}{o:aJ}{a:Act}{aM:Nat}{st:aj}{w:f5}
def ach{α:Type}{a:Addr}{n:Nat}{k:ac bv->α}{z r:α}(h:st.load a n k z=r)(G:z≠r):∃ad,k ad=r/\∀{D:Type} (j:ac bv->D) (u:D),st.load a n j u=j ad:=by
 obtain⟨s,cs,el,A,aU,y,g,d⟩:=D0 h G;refine⟨_,d,λj u=>?_⟩;unfold aj.load aj.fM;rw[s,y];show hQ cs a.off n j u=_;unfold hQ;rw[AN,AO,aE g];rfl
theorem aci{t:co}{x:ce}{ca:Addr}{v:bv}(j:a.eval x= .pointer (some ca))(h:(execOp a.eval {(default:Oper)with op:=.load t x}).run X.P w= .ok (.value v) w):(loadVar t ca).run X.P w= .ok v w:=by
 unfold execOp at h;simp[j,Instr.loadAt,Instr.sureAddr,Sem.run_bind,Sem.run_pure,Result.andThen]at h
 grind
def acj{x:gU}{r:ResultVar}(u:Jq X x r=true)(D:eK ab o a aM)(M:bN X ab st w){ad out:ac bv}
 (h:gU.rec (motive:=λ_=>be<|ac bv) (λt=>some<|o.tmp t::ad)
  (λa agg n=>hi (o.tmp a) (λp=>bn p (λca=>st.load ca n (λcs=>cond agg (some<|.agg ⟨cs⟩::ad)<|one cs (λv=>some<|v::ad) none) none) none) none) x=some out):
 ∃v bD,out=v::ad/\bc ab v bD/\(Bg a.tmps r).run X.P w= .ok bD w:=by
 cases x<;>cases r<;>try cases u
 ·obtain rfl:=dM u;cases h;exact⟨_,_,j,D.tmp _,j⟩
 ·rename_i b g n _ t;simp only[Jq,cO,lQ]at u;obtain⟨⟨rfl,H⟩,I⟩:=u;obtain⟨p,hp,h⟩:=AL h av;obtain⟨ca,rfl,G⟩:=hS h av;obtain⟨cs,s,y⟩:=ach G av;have key:∃v,out=v::ad/\bw (λ_ _ _ _=>.no) (cond g (.mi n<|.tmp b)<|.h2<|.tmp b) o st= .ok v o st:=by
   cases g with
   |true=>
    cases s;refine⟨_,j,?_⟩;show hi (o.tmp b) _ _=_;rw[hp];exact y (λad=>a1.ok (.agg ⟨ad⟩) o st) .no
   |false=>
    obtain rfl:=dM I;obtain⟨v,rfl,C⟩:=yi s av;cases C;refine⟨_,j,?_⟩;show hi (o.tmp b) _ _=_;rw[hp];exact y (λad=>one ad (λv=>a1.ok v o st) .no) .no
  obtain⟨v,rfl,J⟩:=key;obtain⟨_,_,B,_⟩:=Ek (U:={(default:Oper)with op:=.load t<|.tmp b}) H D M J (by cases g<;>rfl);obtain⟨_,_,bD,K,A⟩:=B (by cases g<;>rfl);have d:=D.tmp b;rw[hp]at d;generalize z:a.tmps.getD b undef=j1 at d;cases d with
  |ptr _ l R O=>
   refine⟨v,bD,j,A,?_⟩;simp[Bg,z];exact aci (x:=.tmp b) z K
theorem PE(D:eK ab o a aM)(G:bN X ab st w):∀(xs:ac gU) (u:ac ResultVar) (out:ac bv),sF X xs u=true->pd o st xs=some out->
 ∃g,bI ab out g/\(u.mapM<|Bg a.tmps).run X.P w= .ok g w
 |[],[],out,_,h=>by
  have s:=h;cases s;exact⟨[],bI.nil ab,j⟩
 |x::xs,r::u,out,d,h=>by
  simp[sF,cO]at d;have s:=h;obtain⟨H,y,B⟩:=hS s av;obtain⟨v,C,rfl,A,J⟩:=acj d.1 D G B;obtain⟨g,z,I⟩:=PE D G xs u H d.2 y;refine⟨C::g,bI.cons A z,?_⟩
  simp_all
 |[],_::_,_,d,_=>by simp[sF]at d
 |_::_,[],_,d,_=>by simp[sF]at d
def ack{F:Func}{xs:ac gU}(G:sF X xs F.results.toList=true)(D:eK ab o a aM)(I:bN X ab st w){out:ac bv}(h:pd o st xs=some out):
 ∃bD,bc ab (one out (λv=>v)<|.tuple ⟨out⟩) bD/\(results F a.tmps).run X.P w= .ok bD w:=by
 obtain⟨B,g,C⟩:=PE D I xs F.results.toList out G h;have A:(results F a.tmps)=(do let d<-F.results.mapM (Bg a.tmps);pure (if h:d.size=1 then d[0]else .tuple d)):=by
  congr 2
 rw[A];have hm:(F.results.mapM<|Bg a.tmps).run X.P w= .ok B.toArray w:=by
  rw[NV];rw[Sem.run_map,C];rfl
 simp only[Sem.run_bind,hm];refine⟨_,?_,j⟩;cases out with
 |nil=>rw[g.ql];exact bc.qm (bI.nil ab)
 |cons v d=>
  obtain⟨M,aQ,rfl,s,u⟩:=g.cons_inv;cases d with
  |nil=>rw[u.ql];exact s
  |cons v2 K=>
   obtain⟨H,J,rfl,z,y⟩:=u.cons_inv;exact bc.qm<|bI.cons s<|bI.cons z y
end
def gZ(X:Ctx)(ab:bF)(w:f5)(b:dK)(bd:Bool->ac Frame)(s:Machine):dQ->Prop
 |.ret v ak d=>∃aG bD w' F,bc aG v bD/\bN X aG ak w'/\dS ab aG w w'/\F.kind=b.kind/\F.fn=b.fn/\Frame.going X.P F w' (.returned bD)/\Steps X.P s (lone F (bd d) w')
 |.aR v ak d=>∃aG bD w' F,bc aG v bD/\bN X aG ak w'/\dS ab aG w w'/\F.kind=b.kind/\F.fn=b.fn/\Frame.going X.P F w' (.panicked [{v:=bD,recovered:=false}])/\Steps X.P s (lone F (bd d) w')
 |.no=>True
def gZ.head{ab aG:bF}{w w':f5}{b:dK}{bd:Bool->ac Frame}{s G:Machine}{r:dQ}(h:Steps X.P s G)(ax:dS ab aG w w')(D:gZ X aG w' b bd G r):gZ X ab w b bd s r:=by
 cases r with
 |no=>trivial
 |ret v st H=>obtain⟨cY,C,B,F,z,A,g,d,j,u,y⟩:=D;exact⟨cY,C,B,F,z,A,ax.trans g,d,j,u,h.trans y⟩
 |aR v st H=>obtain⟨cY,C,B,F,z,A,g,d,j,u,y⟩:=D;exact⟨cY,C,B,F,z,A,ax.trans g,d,j,u,h.trans y⟩
def ue(X:Ctx)(call:bM):Prop:=
 ∀(ab:bF) (f:d7) (first d:bi bv) (args:ac bv) (aR:be bv) (st:aj) (j h:bi bv) (g:ac bv) (w:f5),
  bI ab first.toList j.toList->bI ab args g->bI ab d.toList h.toList->bN X ab st w->call (.func (.func f) first d) args aR st≠.no->
  (∀as w,(callFunc f as).run X.P w= .ok (.enter f as) w)/\
  ∀(K:CallKind) (bd:Bool->ac Frame),iX ⟨f,K,none⟩ aR ab bd->gZ X ab w ⟨f,K,none⟩ bd (lone (Frame.enter X.P f (j++g.toArray++h) K) (bd false) w) (call (.func (.func f) first d) args aR st)
variable{ab:bF}{m:be bv}{md:FrameMode}
def rJ(aG:bF):be bv->FrameMode->Prop
 |none,m=>m= .returning
 |some v,m=>∃bD,bc aG v bD/\m= .panicking [{v:=bD,recovered:=false}]
def rJ.mono{aG:bF}(hle:ab.le aG)(h:rJ ab m md):rJ aG m md:=by
 cases m with
 |none=>exact h
 |some v=>obtain⟨j,d,g⟩:=h;exact⟨j,d.mono hle,g⟩
def rJ.PF(h:rJ ab m md):md≠.run:=by
 cases m with
 |none=>rw[show md= .returning from h];simp
 |some v=>obtain⟨g,_,d⟩:=h;rw[d];simp
theorem yw(a':ue X call):∀(aN:ac Deferred) (m:be bv) (st:aj) (r:be bv×aj),jr call aN m st=some r->∀(ab:bF) (w:f5) (F:Frame) (cs:ac Frame),sA ab aN F.defers->rJ ab m F.mode->bN X ab st w->
 ∃aG w' md,Steps X.P (lone F cs w) (lone {F with defers:=[],mode:=md} cs w')/\rJ aG r.1 md/\bN X aG r.2 w'/\dS ab aG w w'
 |[],m,st,r,h,ab,w,F,cs,R,hm,aa=>by
  have z:=h;cases z;have aS:F.defers=[]:=by
   cases ad:F.defers with
   |nil=>rfl
   |cons d aN=>rw[ad]at R;exact R.elim
  refine⟨ab,w,F.mode,?_,hm,aa,.refl _ _⟩;have:({F with defers:=[],mode:=F.mode}:Frame)=F:=by cases F;subst aS;rfl
  rw[this];exact .refl _ _
 |⟨t,args⟩::aN,m,st,r,h,ab,w,F,cs,R,hm,aa=>by
  cases ad:F.defers with
  |nil=>rw[ad]at R;exact R.elim
  |cons e es=>
   rw[ad]at R;obtain⟨⟨aU,O⟩,al⟩:=R;cases t with
   |collected ba=>
    cases J:e.target with
    |collected aC=>
     rw[J]at O;simp[jr]at h;split at h
     ·rename_i aE;rw[iH]at h;obtain⟨l,aA,_,_,b'⟩:=aa.er _ _ aE av;have aL:=O.symm.trans aA;cases aL;rcases b' with⟨_,aI⟩|⟨s,_⟩
      ·have aT:=aa.fw _ _ aA;have aW:(Instr.takeDeferred aC).run X.P w= .ok [] (w.putObj aC<|.deferred none):=run_takeDeferred aI;have af:=step_collected (cs:=cs) hm.PF ad J aW;obtain⟨I,a5⟩:=aa.yl X aE av (λaP=>aP) aA (.jm none) (.deferred none) (w.putObj aC<|.deferred none) j λ_ aO=>⟨j,j,.inr ⟨j,aO⟩⟩;obtain⟨aG,w',md,D,B,A,a2⟩:=yw a' aN m _ r h ab _ {F with defers:=[]++es} cs (by simpa using al) hm I;exact⟨aG,w',md,.head af D,B,A,a5.trans a2⟩
      ·cases s
     ·cases h
    |_=>rw[J]at O;exact O.elim
   |fn a6 aw=>
    cases J:e.target with
    |fn bb ax=>
     rw[J]at O;obtain⟨aF,aK⟩:=O;cases a6 with
     |func g=>
      rcases aF with⟨rfl,_⟩|⟨l,b,a1,_⟩
      ·have ay:call (.func (.func g) #[] aw) args.toList m st≠.no:=by
        intro aY;simp only[jr,aY]at h;cases h
       obtain⟨aJ,aB⟩:=a' ab g #[] aw args.toList m st #[] ax e.args.toList w (bI.nil ab) aU aK aa ay;have a4:(invoke e.target e.args).run X.P w= .ok (.enter g<|e.args++ax) w:=by
        rw[J];exact aJ _ _
       have af:=step_defer (cs:=cs) hm.PF ad J a4;have aV:(#[]++e.args.toList.toArray++ax:bi bv)=e.args++ax:=av
       rw[aV]at aB;cases m with
       |none=>
        have au:F.mode= .returning:=hm;have M:=aB .deferred (λ_=>{F with defers:=es}::cs) (λG H ai=>by
         have ah:=ai;rw[tryRecover_deferred ah];simp[recoverD,au])
        cases s:call (.func (.func g) #[] aw) args.toList none st with
        |no=>exact absurd s ay
        |ret v u H=>
         rw[s]at M;have z:jr call aN none u=some r:=by
          simp[jr,s]at h;exact h
         obtain⟨aG,ag,w',G,_,I,y,ar,_,aq,D⟩:=M;have K:=step_going_returned (c:={F with defers:=es}) (cs:=cs) ar aq;have an:settle ({F with defers:=es}:Frame).mode= .returning:=by
          rw[au];rfl
         rw[an]at K;obtain⟨W,Y,md,S,B,A,a2⟩:=yw a' aN none u r z aG w' {{F with defers:=es}with mode:=.returning} cs (al.mono y.le) (show rJ aG none .returning from rfl) I;exact⟨W,Y,md,(Steps.head af D).trans<|.head K S,B,A,y.trans a2⟩
        |aR v u H=>
         rw[s]at M;have z:jr call aN (some v) u=some r:=by
          simp[jr,s]at h;exact h
         obtain⟨aG,ag,w',G,aX,I,y,ar,_,aq,D⟩:=M;have K:=step_going_panicked (c:={F with defers:=es}) (cs:=cs) aq;have an:raised ({F with defers:=es}:Frame).mode [{v:=ag,recovered:=false}]= .panicking [{v:=ag,recovered:=false}]:=by
          rw[au];rfl
         rw[an]at K;obtain⟨W,Y,md,S,B,A,a2⟩:=yw a' aN (some v) u r z aG w' {{F with defers:=es}with mode:=.panicking [{v:=ag,recovered:=false}]} cs (al.mono y.le) ⟨ag,aX,j⟩ I;exact⟨W,Y,md,(Steps.head af D).trans<|.head K S,B,A,y.trans a2⟩
       |some az=>
        obtain⟨C,aD,au⟩:=hm;have M:=aB .deferred (λH=>{F with defers:=es,mode:=.panicking [{v:=C,recovered:=H}]}::cs) ⟨C,aD,λG ai=>by
         have ah:=ai;rw[tryRecover_deferred ah];simp[recoverD],λG ai=>by
         have ah:=ai;rw[tryRecover_deferred ah];simp[recoverD]⟩
        have a7:({F with defers:=es,mode:=.panicking [{v:=C,recovered:=false}]}:Frame)={F with defers:=es}:=by grind
        rw[a7]at M;cases s:call (.func (.func g) #[] aw) args.toList (some az) st with
        |no=>exact absurd s ay
        |ret v u H=>
         rw[s]at M;obtain⟨aG,ag,w',G,_,I,y,ar,_,aq,D⟩:=M;have K:=step_going_returned (c:={F with defers:=es,mode:=.panicking [{v:=C,recovered:=H}]}) (cs:=cs) ar aq;cases H with
         |true=>
          have z:jr call aN none u=some r:=by
           simp[jr,s]at h;exact h
          have an:settle ({F with defers:=es,mode:=.panicking [{v:=C,recovered:=true}]}:Frame).mode= .returning:=rfl;obtain⟨W,Y,md,S,B,A,a2⟩:=yw a' aN none u r z aG w' {{F with defers:=es}with mode:=.returning} cs (al.mono y.le) (show rJ aG none .returning from rfl) I;exact⟨W,Y,md,(Steps.head af D).trans<|.head K S,B,A,y.trans a2⟩
         |false=>
          have z:jr call aN (some az) u=some r:=by
           simp[jr,s]at h;exact h
          have an:settle ({F with defers:=es,mode:=.panicking [{v:=C,recovered:=false}]}:Frame).mode= .panicking [{v:=C,recovered:=false}]:=rfl;obtain⟨W,Y,md,S,B,A,a2⟩:=yw a' aN (some az) u r z aG w' {{F with defers:=es}with mode:=.panicking [{v:=C,recovered:=false}]} cs (al.mono y.le) ⟨C,aD.mono y.le,j⟩ I;exact⟨W,Y,md,(Steps.head af D).trans<|.head K S,B,A,y.trans a2⟩
        |aR v u H=>
         exfalso;simp only[jr,s]at h;cases h
      ·cases a1
     |_=>simp[jr]at h
    |_=>rw[J]at O;exact O.elim
   |_=>simp[jr]at h
section
variable{P:f8}{b:dK}{a:Act}{k:ac Item}{cs:ac Frame}{w:f5}
def dK.returns(b:dK)(a:Act)(j:ac Item):Frame:={b.at a j with mode:=.returning}
def PG(aA:b.b1=none):step P (lone (b.at a []) cs w)= .next (lone (b.returns a []) cs w):=step_lone_go<|by simp[stepG,stepG.exec,dK.at,dK.returns,aA]
def PH(aA:b.b1=none):step P (lone (b.at a<|.code .ret::k) cs w)= .next (lone (b.returns a<|.code .ret::k) cs w):=step_lone_go<|by simp[stepG,stepG.exec,dK.at,dK.returns,aA]
end
theorem PI:∀(ad:ac bv) (i:Nat) (t:ao bv) (J:Nat),(ld ad i t).get J=if i<=J/\J<i+ad.length then ad[J-i]? else t.get J
 |[],i,t,J=>by rw[aw av];rfl
 |v::ad,i,t,J=>by
  show(ao.im (Nat.succ i) t i v λt=>ld ad (Nat.succ i) t).get J=_;rw[ao.vV,PI ad (Nat.succ i) _ J,ao.ee]
  grind
def PJ{as gG:ac bv}{aM:Nat}{aR:be bv}{u:Bool}{b1:be Nat}(h:bI ab as gG)(ah:as.length<=aM):
 eK ab ⟨ld as 0 .nil,[],aR,u,b1⟩ ⟨gG.toArray++Array.replicate (aM-gG.toArray.size) undef,[]⟩ aM:=by
 refine⟨λt=>?_,by simp[<-h.1];omega,aC⟩;show bc ab (Option.rec (.chan<|some 0) (λv=>v)<|(ld as 0 .nil).get t) _;rw[PI];by_cases d:t<as.length
 ·rw[aE ⟨dw _,R⟩];have g:t<gG.length:=by rw[<-h.1];exact d
  have:=h.2 t d g;simp only[Nat.sub_zero,a0 d];have j:(gG.toArray++Array.replicate (aM-gG.toArray.size) undef).getD t undef=gG[t]:=by
   simp[Array.getElem?_append,g]
  rw[j];exact this
 ·rw[aw R];exact .top _
section
variable{b:dK}{bd:Bool->ac Frame}{ab:bF}{o:aJ}{a:Act}{aM:Nat}{st:aj}{w:f5}
theorem yx(M:ue X call){Fn:Func}{res:ac gU}{F:Frame}(I:X.P.funcs[b.fn]? =some Fn)(R:sF X res Fn.results.toList=true)(D:eK ab o a aM)(O:bN X ab st w)
 (aF:F.tmps=a.tmps) (aL:F.defers=a.defers) (G:F.kind=b.kind) (u:F.fn=b.fn) (hm:rJ ab m F.mode):gZ X ab w b bd (lone F (bd o.cL) w) (fv call res m o st):=by
 unfold fv;cases K:jr call o.c4 m st with
 |none=>trivial
 |some p=>
  obtain⟨A,ak⟩:=p;obtain⟨aG,w',md,z,B,h,a2⟩:=yw M o.c4 m st (A,ak) K ab w F (bd o.cL) (by rw[aL];exact D.c4) hm O;cases A with
  |some v=>
   obtain⟨y,s,g⟩:=B;exact⟨aG,y,w',{F with defers:=[],mode:=md},s,h,a2,G,u,⟨g,j,Fn,by rw[u];exact I⟩,z⟩
  |none=>
   have g:=B;show gZ X ab w b bd _ (bn (pd o ak res) (λd=>one d (λv=>.ret v ak o.cL)<|.ret (.tuple ⟨d⟩) ak o.cL) .no);cases J:pd o ak res with
   |none=>trivial
   |some out=>
    have H:eK aG ⟨o.t,[],o.aR,o.cL,o.b1⟩ ⟨a.tmps,[]⟩ aM:=⟨λt=>(D.tmp t).mono a2.le,D.size,aC⟩;obtain⟨y,s,S⟩:=ack R H h<|J;have C:bn (some out) (λd=>one d (λv=>dQ.ret v ak o.cL)<|.ret (.tuple ⟨d⟩) ak o.cL) .no= .ret (one out (λv=>v)<|.tuple ⟨out⟩) ak o.cL:=by
     cases out with
     |nil=>rfl
     |cons x xs=>cases xs<;>rfl
    rw[C];refine⟨aG,y,w',{F with defers:=[],mode:=md},s,h,a2,G,u,⟨g,j,Fn,by rw[u];exact I,?_⟩,z⟩
    grind
structure uf(X:Ctx)(f:d7)(aZ:cJ)(Fn:Func)(c:Code):Prop where
 fn:X.P.funcs[f]? =some Fn
 body:Fn.body=some c
 aM:Fn.ntmps=aZ.aM
 code:codeOk X aZ.aM aZ.body c=true
 res:sF X aZ.res Fn.results.toList=true
 name:(Fn.name== "runtime.NumGoroutine")=false
variable{f:d7}{aZ:cJ}{Fn:Func}{body:Code}
def uf.enters(h:uf X f aZ Fn body)(as:bi bv)(w:f5):(callFunc f as).run X.P w= .ok (.enter f as) w:=by
 have ah:=h.name;simp only[callFunc,Sem.run_bind];simp[h.fn,h.body,ah,Result.andThen]
def Jr(G:Good X)(I:lk X call)(u:ue X call)(Y:∀b aM bd,b.b1=none->yv X call b aM bd)(ok:uf X f aZ Fn body)(n:Nat){K:CallKind}{as gG:ac bv}{aR:be bv}
 (M:bI ab as gG) (O:bN X ab st w) (D:iX ⟨f,K,none⟩ aR ab bd):gZ X ab w ⟨f,K,none⟩ bd (lone (Frame.enter X.P f gG.toArray K) (bd false) w) (ie call n f aZ as aR st):=by
 unfold ie;rw[lg];split
 ·rename_i A;rw[eP]at A
  let b:dK:=⟨f,K,none⟩
  have R:Frame.enter X.P f gG.toArray K=b.at ⟨gG.toArray++Array.replicate (aZ.aM-gG.toArray.size) undef,[]⟩ [.code body]:=by
   simp[Frame.enter,dK.at,ok.fn,ok.body,ok.aM,b]
  rw[R];have z:=EA G I (Y b aZ.aM bd j) ⟨Fn,ok.fn,ok.aM⟩ n aZ.body body ab ⟨ld as 0 .nil,[],aR,false,none⟩ ⟨gG.toArray++Array.replicate (aZ.aM-gG.toArray.size) undef,[]⟩ st w [] ok.code (PJ M A) O (.inl eT) D;cases H:cZ call n f aZ.body ⟨ld as 0 .nil,[],aR,false,none⟩ st with
  |no=>trivial
  |out e bs ak=>
   have B:=H;rw[B]at z;obtain⟨aG,W,w',s,y,d,_,_,g⟩:=z;cases e with
   |norm=>
    refine gZ.head (Steps.trans g<|.one<|PG j) d ?_;exact yx u ok.fn ok.res s y j j j j (rfl)
   |exit id=>trivial
   |ret=>
    obtain⟨J,h⟩:=g;refine gZ.head (Steps.trans h<|.one<|PH j) d ?_;exact yx u ok.fn ok.res s y j j j j (rfl)
   |aR v=>
    obtain⟨S,J,C,h⟩:=g;refine gZ.head h d ?_;exact yx u ok.fn ok.res s y j j j j ⟨S,C,j⟩
 ·trivial
end
def EB{β:Type}{U:be bz}{k:LoopState->be c1->d7->ao bv->ac Tmp->dk->dk->Nat->β}{z r:β}(h:mm U k z=r)(j:z≠r):
 ∃s fW fn t a8 a b d,U=some (.loop s fW fn t a8 a b d)/\k s fW fn t a8 a b d=r:=by
 obtain⟨y,u,g⟩:=hS h j;cases y<;>first|exact absurd g j|exact⟨_,_,_,_,_,_,_,_,u,g⟩
section
variable{P:f8}{b:dK}{a:Act}{k:ac Item}{c:Frame}{cs:ac Frame}{w w':f5}{l:Nat}
variable{v:bv}
def acm(aA:b.b1=some l)(h:(Instr.beginRound l).run P w= .ok () w'):step P (lone (b.at a<|.beginRound::k) cs w)= .next (lone (b.at a k) cs w'):=
 step_lone_go<|by simp[stepG,stepG.exec,stepG.apply,dK.at,aA,h,Frame.finish]
def acn(aA:b.b1=some l)(ax:b.kind= .normal)(h:(Instr.endRound l none).run P w= .ok v w'):step P (lone (b.at a []) (c::cs) w)= .next (lone (c.finish v) cs w'):=
 step_lone_go<|by simp[stepG,stepG.exec,dK.at,aA,ax,h,doReturn]
def aco(aA:b.b1=some l)(ax:b.kind= .normal)(h:(Instr.endRound l<|some .ret).run P w= .ok v w'):step P (lone (b.at a<|.code .ret::k) (c::cs) w)= .next (lone (c.finish v) cs w'):=
 step_lone_go<|by simp[stepG,stepG.exec,dK.at,aA,ax,h,doReturn]
def acp{i:Nat}(aA:b.b1=some l)(ax:b.kind= .normal)(j:exitTo i k=none)(h:(Instr.endRound l<|some<|.exit i).run P w= .ok v w'):step P (lone (b.at a<|.code (.exit i)::k) (c::cs) w)= .next (lone (c.finish v) cs w'):=
 step_lone_go<|by simp[stepG,stepG.exec,dK.at,aA,ax,j,h,doReturn]
end
variable{w:f5}{l bp:Nat}{fW:be c1}{t:ao bv}{a8:ac Tmp}{dV body:dk}
theorem PK{ab:bF}:∀(a8:ac Tmp) (ad d:ac bv) (m:ao bv) (arr:bi bv),(∀n,bc ab (yk m n)<|arr.getD n undef)->bI ab ad d->ad.length=a8.length->(∀t∈a8,t<arr.size)->
 (∀n,bc ab (yk (oo a8 ad m) n)<|((a8.zip d).foldl (λtmps (p:Tmp×bv)=>tmps.setIfInBounds p.1 p.2) arr).getD n undef)/\((a8.zip d).foldl (λtmps (p:Tmp×bv)=>tmps.setIfInBounds p.1 p.2) arr).size=arr.size
 |[],_,_,m,arr,h,_,_,_=>⟨h,j⟩
 |t::a8,[],_,_,_,_,_,aD,_=>by simp at aD
 |t::a8,v::ad,d,m,arr,h,g,aD,aT=>by
  obtain⟨y,aQ,rfl,aF,aL⟩:=g.cons_inv;have z:∀n,bc ab (yk (m.set t v) n) ((arr.setIfInBounds t y).getD n undef):=by
   intro n;have ah:=h n;unfold yk at ah⊢;rw[ao.ee];by_cases e:n=t
   ·simp_all
   ·rw[aw e];have:(arr.setIfInBounds t y).getD n undef=arr.getD n undef:=by
     simp[HR<|Ne.symm e]
    rw[this];exact ah
  obtain⟨B,A⟩:=PK a8 ad aQ (m.set t v) (arr.setIfInBounds t y) z aL (by simpa using aD) (λu s=>by simpa using aT u (e5 _ s));have hp:oo (t::a8) (v::ad) m=oo a8 ad (m.set t v):=by
   show ao.im (Nat.succ t) m t v (λm=>oo a8 ad m)=_;rw[ao.vV]
  simp_all
theorem bN.loop{st:aj}(j:bN X ab st w){s:LoopState}{fn:d7}{d:Nat}(h:st.h.get l=some (.loop s fW fn t a8 dV body d))(aD:ab l=some ⟨bp,0,0,id⟩):
 ∃L:Loop,w.heap[bp]? =some (.loop L)/\L.state=s/\D1 fW L.pending/\L.fn=fn/\(∀n,bc ab (yk t n)<|L.tmps.getD n undef)/\L.params.toList=a8/\X.ok fn L.assign dV/\X.ok fn L.body body/\ab d=some ⟨L.defers,0,0,id⟩/\
  (∃F,X.P.funcs[fn]? =some F/\L.tmps.size=F.ntmps)/\∀t∈a8,t<L.tmps.size:=by
 obtain⟨m,hm,_,_,L,g⟩:=j.er _ _ h av
 grind
def bN.Js{st:aj}(I:bN X ab st w){s:LoopState}{fn:d7}{d:Nat}(h:st.h.get l=some (.loop s fW fn t a8 dV body d))(aD:ab l=some ⟨bp,0,0,id⟩)
 {L:Loop} (M:w.heap[bp]? =some (.loop L)) (u:LoopState) (G:be c1) (D:be Code) (ba:D1 G D):
 bN X ab ⟨st.h.set l<|.loop u G fn t a8 dV body d,st.ae⟩ (w.putObj bp<|.loop {L with state:=u,pending:=D})/\dS ab ab w (w.putObj bp<|.loop {L with state:=u,pending:=D}):=by
 obtain⟨S,g,W,Y,B,y,C,H,J,K,O,R⟩:=I.loop h aD;rw[M]at g;cases g;exact I.yl X h av (λA=>A) aD _ (.loop {L with state:=u,pending:=D}) _ j λ_ z=>⟨j,j,{L with state:=u,pending:=D},z,j,ba,B,y,C,H,J,K,O,R⟩
section
variable{ab:bF}{st:aj}{w:f5}
def acq{b:dK}{aM:Nat}{Fn:Func}{c:Frame}{cs:ac Frame}{s:Machine}{eU:aJ}{aG:bF}{eE:f5}{r:cH}(an:X.P.funcs[b.fn]? =some Fn)(G:b.b1=some bp)(D:b.kind= .normal)(aD:aG l=some ⟨bp,0,0,id⟩)
 (h:fN X b aM (λ_=>c::cs) s [] eU aG eE r):
 match qh l r with
 |.ret v ak _=>∃cY bD w',bc cY v bD/\bN X cY ak w'/\dS aG cY eE w'/\Steps X.P s (lone (c.finish bD) cs w')
 |.aR v ak _=>∃cY bD w',bc cY v bD/\bN X cY ak w'/\dS aG cY eE w'/\Steps X.P s (lone (c.raise [{v:=bD,recovered:=false}]) cs w')
 |.no=>True:=by
 cases r with
 |no=>trivial
 |out e o st=>
  obtain⟨cY,a,w,a',I,H,_,_,A⟩:=h;have R:=H.le _ _ aD;cases u:o.c4 with
  |cons d ad=>
   have:qh l (.out e o st)= .no:=by show List.rec (motive:=λ_=>dQ) _ _ o.c4=_;rw[u]
   rw[this];trivial
  |nil=>
   have S:a.defers=[]:=by
    have:=a'.c4;rw[u]at this;cases W:a.defers with
    |nil=>rfl
    |cons d ad=>rw[W]at this;exact this.elim
   have key:∀(y:LoopState) fW B v,D1 fW B->
    (∀L,w.heap[bp]? =some (.loop L)->∃w',w'=w.putObj bp (.loop {L with state:=y,pending:=B})/\Steps X.P s (lone (c.finish v) cs w'))->bc cY v v->
    match mm (st.h.get l) (λ_ _ fn t a8 a b d=>st.gO l (.loop y fW fn t a8 a b d) λst=>dQ.ret v st false) .no with
    |.ret v ak _=>∃cY bD w',bc cY v bD/\bN X cY ak w'/\dS aG cY eE w'/\Steps X.P s (lone (c.finish bD) cs w')
    |.aR v ak _=>∃cY bD w',bc cY v bD/\bN X cY ak w'/\dS aG cY eE w'/\Steps X.P s (lone (c.raise [{v:=bD,recovered:=false}]) cs w')
    |.no=>True:=by
    intro y fW B v aj ag C;by_cases K:mm (st.h.get l) (λ_ _ fn t a8 a b d=>st.gO l (.loop y fW fn t a8 a b d) λst=>dQ.ret v st false) .no= .no
    ·rw[K];trivial
    ·obtain⟨au,ay,aq,t0,ar,az,ax,av,O,ai⟩:=EB j λe=>K e.symm;rw[<-ai,iH];obtain⟨L,g,_⟩:=I.loop O R;obtain⟨w',J,af⟩:=ag L g;obtain⟨ah,Y⟩:=I.Js O R g y fW B aj;exact⟨cY,v,w',C,by rw[J];exact ah,by rw[J];exact H.trans Y,af⟩
   cases e with
   |norm=>
    have:qh l (.out .norm o st)=mm (st.h.get l) (λ_ _ fn t a8 a b d=>st.gO l (.loop .ready none fn t a8 a b d) λst=>dQ.ret (.bool true) st false) .no:=by
     show List.rec (motive:=λ_=>dQ) _ _ o.c4=_;rw[u]
    rw[this];exact key .ready none none (.bool true) aC (λL g=>⟨_,j,Steps.trans A<|.one<|acn G D<|run_endRound none g⟩) (.bool true)
   |exit i=>
    have:qh l (.out (.exit i) o st)=mm (st.h.get l) (λ_ _ fn t a8 a b d=>st.gO l (.loop .done (some<|.exit i) fn t a8 a b d) λst=>dQ.ret (.bool false) st false) .no:=by
     show List.rec (motive:=λ_=>dQ) _ _ o.c4=_;rw[u]
    rw[this];obtain⟨M,aa,z⟩:=A;exact key .done (some<|.exit i) (some<|.exit i) (.bool false) j (λL g=>⟨_,j,Steps.trans z<|.one<|acp G D (by rw[aa];rfl)<|run_endRound (some<|.exit i) g⟩) (.bool false)
   |ret=>
    have:qh l (.out .ret o st)=mm (st.h.get l) (λ_ _ fn t a8 a b d=>st.gO l (.loop .done (some .ret) fn t a8 a b d) λst=>dQ.ret (.bool false) st false) .no:=by
     show List.rec (motive:=λ_=>dQ) _ _ o.c4=_;rw[u]
    rw[this];obtain⟨M,z⟩:=A;exact key .done (some .ret) (some .ret) (.bool false) aC (λL g=>⟨_,j,Steps.trans z<|.one<|aco G D<|run_endRound (some .ret) g⟩) (.bool false)
   |aR v=>
    have:qh l (.out (.aR v) o st)= .aR v st false:=by
     show List.rec (motive:=λ_=>dQ) _ _ o.c4=_;rw[u]
    rw[this];obtain⟨bD,M,C,z⟩:=A;refine⟨cY,bD,w,C,I,H,Steps.trans z<|.one<|step_leave_panicked ⟨j,S,Fn,an⟩⟩
theorem acr(M:Good X)(ar:lk X call)(aI:∀b aM bd,yv X call b aM bd){n:Nat}{args y:ac bv}(aD:ab l=some ⟨bp,0,0,id⟩)(ag:bI ab args y)(az:bN X ab st w)(D:vU call n l args st≠.no):
 ∃fn ay dV body,(Instr.yield bp y.toArray).run X.P w= .ok (.round bp fn ay dV body) w/\∀c cs,Ep X ab w (Frame.round bp fn ay dV body .normal) c cs (vU call n l args st):=by
 unfold vU at D⊢;obtain⟨s,fW,fn,t,a8,dV,body,d,bn,bg⟩:=EB j λe=>D e.symm;rw[<-bg]at D⊢;obtain⟨a',bh⟩:=kg j λe=>D e.symm;rw[<-bh]at D⊢;rw[eP,eP]at a';obtain⟨L,bb,bB,bD,bf,bw,bo,aN,aJ,bC,⟨Fn,R,b'⟩,aT⟩:=az.loop bn aD;have a1:y.toArray.size=L.params.size:=by
  have:L.params.size=a8.length:=by grind
  rw[this,<-a'];simpa using ag.1.symm
 refine⟨L.fn,_,L.assign,L.body,run_yield bb a1,λc cs=>?_⟩;subst bf;obtain⟨ba,a7⟩:=PK a8 args y t L.tmps bw ag a' aT;have an:(L.params.zip y.toArray).foldl (λC (x:Tmp×bv)=>C.setIfInBounds x.1 x.2) L.tmps=(a8.zip y).foldl (λC (p:Tmp×bv)=>C.setIfInBounds p.1 p.2) L.tmps:=by
  rw[<-Array.foldl_toList,Array.toList_zip,bo]
 let b:dK:=⟨L.fn,.normal,some bp⟩
 let Bh:=(L.params.zip y.toArray).foldl (λC (x:Tmp×bv)=>C.setIfInBounds x.1 x.2) L.tmps
 obtain⟨bx,aB,aX⟩:=(M.2 _ _ _).1 aN;obtain⟨iY,aA,bt⟩:=(M.2 _ _ _).1 aJ;rw[R]at aB aA;cases aB;cases aA;have aP:eK ab ⟨oo a8 args t,[],none,false,some l⟩ ⟨Bh,[]⟩ Fn.ntmps:=by
  refine⟨λu=>?_,?_,aC⟩
  ·have:=ba u;rw[<-an]at this;exact this
  ·show Bh.size=_;rw[<-b',<-a7,<-an]
 have ah:∀aR:be bv,aR=none->∀aG,iX b aR aG (λ_=>c::cs):=by
  rintro _ rfl aG F aq aW;have a5:=aW;simp[tryRecover,a5]
 have aK:=EA M ar (aI b Fn.ntmps _) ⟨Fn,R,j⟩ n dV L.assign ab ⟨oo a8 args t,[],none,false,some l⟩ ⟨Bh,[]⟩ st w [.beginRound,.code L.body] aX aP az (.inr ⟨l,bp,j,j,aD⟩)<|ah _ j ab;have aj:=aK;generalize cZ call n L.fn dV ⟨oo a8 args t,[],none,false,some l⟩ st=ew at aj D⊢;cases ew with
 |no=>exact absurd j D
 |out e z g=>
  obtain⟨aG,au,eE,bu,aw,av,bq,bc,aO⟩:=aj;cases e with
  |exit _=>exact absurd j D
  |ret=>exact absurd j D
  |aR _=>exact absurd j D
  |norm=>
   have A:yd call n l L.fn body z g≠.no:=D;show Ep X ab w _ c cs (yd call n l L.fn body z g);unfold yd at A⊢;obtain⟨br,B,I,S,J,G,H,K,ai,aS⟩:=EB j λe=>A e.symm;rw[<-aS]at A⊢;cases br with
   |busy=>exact absurd j A
   |done=>exact absurd j A
   |exhausted=>exact absurd j A
   |ready=>
    have O:=av.le _ _ aD;obtain⟨af,aF,bj,bl,bA,_⟩:=aw.loop ai O;have a6:(Instr.beginRound bp).run X.P eE= .ok () (eE.putObj bp<|.loop {af with state:=.busy}):=run_beginRound aF bj;have a4:=acm (b:=b) (a:=au) (k:=[.code L.body]) (cs:=c::cs) j a6;obtain⟨aL,bk⟩:=aw.Js ai O aF .busy B af.pending bl;have aY:=EA M ar (aI b Fn.ntmps _) ⟨Fn,R,j⟩ n body L.body aG z au ⟨g.h.set l<|.loop .busy B I S J G H K,g.ae⟩ (eE.putObj bp<|.loop {af with state:=.busy}) [] bt bu aL (by rw[bc];exact .inr ⟨l,bp,j,j,O⟩)<|ah _ bq aG;have aE:=Steps.trans aO<|.one a4;have ax:=av.trans bk;have ad:=acq R j j O aY;rw[iH];have bE:cZ call n b.fn body z ⟨g.h.set l<|.loop .busy B I S J G H K,g.ae⟩=cZ call n L.fn body z ⟨g.h.set l<|.loop .busy B I S J G H K,g.ae⟩:=rfl;generalize qh l (cZ call n L.fn body z ⟨g.h.set l<|.loop .busy B I S J G H K,g.ae⟩)=aU at ad⊢;cases aU with
    |no=>trivial
    |ret v ak aq=>obtain⟨cY,aa,w',Y,W,a2,cD⟩:=ad;exact⟨cY,aa,w',Y,W,ax.trans a2,aE.trans cD⟩
    |aR v ak aq=>obtain⟨cY,aa,w',Y,W,a2,cD⟩:=ad;exact⟨cY,aa,w',Y,W,ax.trans a2,aE.trans cD⟩
end
section
variable{P:f8}{b:dK}{a:Act}{k:ac Item}{cs:ac Frame}{w eE:f5}{f:ce}{a8:bi Tmp}{dV body:Code}{l:Nat}{mark:ac Deferred}
def PL(j:b.b1=none):(Frame.eval {fn:=b.fn,tmps:=a.tmps,todo:=.inRangeFunc l::k,defers:=mark++a.defers,mode:=.run,kind:=b.kind,roundOf:=none}) f=a.eval f:=by cases f<;>rfl
def PM{v:bv}:a.eval (.const v)=v:=rfl
def acs(aA:b.b1=none)(h:(Instr.enterLoop b.fn a.tmps a8 dV body none).run P w= .ok (l,mark) eE){g:d7}{as:bi bv}
 (j:((do let d<-Deferred.ofValue (a.eval f) #[.func (.yield l) #[] #[]];invoke d.target d.args):Sem Next).run P eE= .ok (.enter g as) eE):
 step P (lone (b.at a<|.code (.rangeFunc f a8 dV body)::k) cs w)= .next (lone (Frame.enter P g as .normal) (b.at {a with defers:=mark++a.defers} (.inRangeFunc l::k)::cs) eE):=by
 refine step_lone_go ?_;have s:=j;simp[stepG,stepG.exec,stepG.apply,dK.at,aA,h,resolve,PL aA,PM,s]
def acu(aA:b.b1=none)(h:(Instr.enterLoop b.fn a.tmps a8 dV body none).run P w= .ok (l,mark) eE){D:Nat}{g:d7}{ay:bi bv}{u j:Code}
 (G:((do let d<-Deferred.ofValue (a.eval f) #[.func (.yield l) #[] #[]];invoke d.target d.args):Sem Next).run P eE= .ok (.round D g ay u j) eE):
 step P (lone (b.at a<|.code (.rangeFunc f a8 dV body)::k) cs w)= .next (lone (Frame.round D g ay u j .normal) (b.at {a with defers:=mark++a.defers} (.inRangeFunc l::k)::cs) eE):=by
 refine step_lone_go ?_;have s:=G;simp[stepG,stepG.exec,stepG.apply,dK.at,aA,h,resolve,PL aA,PM,s]
def acv{j:be Code}(h:(Instr.endLoop l).run P w= .ok j eE):step P (lone (b.at a<|.endRangeFunc l::k) cs w)= .next (lone (b.at a<|(j.map Item.code).toList++k) cs eE):=
 step_lone_go<|by simp[stepG,stepG.exec,dK.at,h]
end
def ug(bj:lk X call)(b:dK)(aM:Nat)(bd:Bool->ac Frame):yv X call b aM bd:=by
 intro f a8 dV body a' aa ab o a st w k b' aT an a4 aY z aF bq bF;unfold AJ;cases aP:o.b1 with
 |some _=>trivial
 |none=>
  have aU:b.b1=none:=by
   rcases bq with⟨_,h⟩|⟨l,bp,h,_⟩
   ·exact h
   ·rw[aP]at h;cases h
  obtain⟨Fn,an,a5⟩:=an;have aL:=run_enterLoop_outer (P:=X.P) (w:=w) b.fn a.tmps a8 a' aa;obtain⟨bK,bl,aB,aD,_⟩:=bN.alloc X aF (.jm<|some []) (.deferred<|some []) 0 (λaG w' _ _ D=>⟨j,j,.inl ⟨j,D⟩⟩) (w.alloc<|.deferred<|some []) j;have bf:(w.alloc<|.deferred<|some []).heap.size=w.heap.size+1:=World.size_alloc _ _
  let L:Loop:={state:=.ready,pending:=none,fn:=b.fn,tmps:=a.tmps,params:=a8,assign:=a',body:=aa,defers:=w.heap.size}
  obtain⟨aW,a1,aI,ag,_⟩:=bN.alloc X bl (.loop .ready none b.fn o.t a8.toList dV body st.ae) (.loop L) 0 (λaG w' hle _ D=>⟨j,j,L,D,j,aC,j,λn=>(z.tmp n).mono<|aB.le.trans hle,j,a4,aY,hle _ _ aD,⟨Fn,an,by rw[a5];exact z.size⟩,λt D=>by rw[z.size];exact aT t D⟩)
   ((w.alloc<|.deferred<|some []).alloc<|.loop L) j
  rw[gF,gF];have I:=aB.trans aI;rw[bf]at ag
  let e6:aj:=⟨(st.h.set st.ae<|.jm<|some []).set (st.ae+1)<|.loop .ready none b.fn o.t a8.toList dV body st.ae,st.ae+1+1⟩
  let bs:aJ:=⟨o.t,{target:=.collected st.ae,args:= #[]}::o.c4,o.aR,o.cL,none⟩
  let y:Act:={a with defers:=[{target:=.collected w.heap.size,args:= #[]}]++a.defers}
  have aA:eK aW bs y aM:=⟨λt=>(z.tmp t).mono I.le,z.size,⟨⟨bI.nil _,aI.le _ _ aD⟩,z.c4.mono I.le⟩⟩;have ba:=a1;have bB:=bc.AK (.inr ⟨_,_,j,j,ag⟩) (bI.nil _)<|bI.nil _;by_cases af:call (o.ar f) [.func (.yield<|st.ae+1) #[] #[]] none e6= .no
  ·rw[af];trivial
  obtain⟨dT,bk,bt⟩:=bj aW (o.ar f) [.func (.yield<|st.ae+1) #[] #[]] e6 (a.eval f) [.func (.yield<|w.heap.size+1) #[] #[]] _ ((z.ar aF b').mono I.le) (bI.cons bB<|bI.nil _) ba af;have aK:step X.P (lone (b.at a<|.code (.rangeFunc f a8 a' aa)::k) (bd o.cL) w)= .next (lone dT (b.at y (.inRangeFunc (w.heap.size+1)::k)::bd o.cL)<|(w.alloc<|.deferred<|some []).alloc<|.loop L):=by
   cases bk with
   |enter g as A=>exact acs aU aL A
   |round bG g ay bE bD A=>exact acu aU aL A
  have O:=bt (b.at y<|.inRangeFunc (w.heap.size+1)::k)<|bd o.cL;have S:bs.aR=o.aR:=rfl;have W:=aP.symm;cases ai:call (o.ar f) [.func (.yield<|st.ae+1) #[] #[]] none e6 with
  |no=>exact absurd ai af
  |aR v J bh=>
   rw[ai]at O;obtain⟨aG,aq,w',az,R,B,A⟩:=O;exact⟨aG,y,w',aA.mono B.le,R,I.trans B,S,W,aq,_,az,Steps.head aK A⟩
  |ret v J bh=>
   rw[ai]at O;obtain⟨aG,aq,w',az,R,B,A⟩:=O;have bJ:(b.at y<|.inRangeFunc (w.heap.size+1)::k).finish aq=b.at y (.endRangeFunc (w.heap.size+1)::k):=rfl;have aE:=B.le _ _ ag;show fN X b aM bd _ k o ab w (mm (J.h.get<|st.ae+1) (λs fW aX t a8 a b d=>
    LoopState.rec
    (J.gO (st.ae+1) (.loop .exhausted fW aX t a8 a b d) λst=>bn fW (λe=>.out e bs st)<|.out .norm bs st)
    .no
    (J.gO (st.ae+1) (.loop .exhausted fW aX t a8 a b d) λst=>bn fW (λe=>.out e bs st)<|.out .norm bs st)
    .no s) .no)
   generalize bx:mm _ _ _=res;by_cases ah:res= .no
   ·rw[ah];trivial
   obtain⟨au,Y,a6,t0,a9,bw,br,bg,aN,M⟩:=EB bx λe=>ah e.symm;obtain⟨K,aS,bo,u,_⟩:=R.loop aN aE;have key:au≠.busy->(J.gO (st.ae+1) (.loop .exhausted Y a6 t0 a9 bw br bg) λst=>bn Y (λe=>cH.out e bs st)<|.out .norm bs st)=res->fN X b aM bd (lone (b.at a<|.code (.rangeFunc f a8 a' aa)::k) (bd o.cL) w) k o ab w res:=by
    intro a2 al;rw[iH]at al;have bu:(Instr.endLoop<|w.heap.size+1).run X.P w'= .ok K.pending (w'.putObj (w.heap.size+1)<|.loop {K with state:=.exhausted}):=run_endLoop aS (by rw[bo];exact a2);obtain⟨H,a7⟩:=R.Js aN aE aS .exhausted Y K.pending u;have bC:=acv (b:=b) (a:=y) (k:=k) (cs:=bd o.cL) bu;have G:=(Steps.head aK A).trans<|.one bC;have C:=(I.trans B).trans a7;have ad:=aA.mono B.le;cases Y with
    |none=>
     have ax:=al;cases hp:K.pending with
     |some _=>rw[hp]at u;exact u.elim
     |none=>
      rw[<-ax];rw[hp]at G H C;exact⟨aG,y,_,ad,H,C,S,W,G⟩
    |some e=>
     have ax:=al;rw[<-ax];cases hp:K.pending with
     |none=>rw[hp]at u;cases e<;>exact u.elim
     |some c8=>
      rw[hp]at u G H C;cases e with
      |norm=>cases c8<;>exact u.elim
      |aR v=>cases c8<;>exact u.elim
      |exit i=>
       cases c8 with
       |exit bH=>
        have e:=u;subst e;exact⟨aG,y,_,ad,H,C,S,W,k,j,G⟩
       |_=>exact u.elim
      |ret=>
       cases c8 with
       |ret=>exact⟨aG,y,_,ad,H,C,S,W,k,G⟩
       |_=>exact u.elim
   cases au with
   |ready=>exact key av M
   |busy=>exact absurd M.symm ah
   |done=>exact key av M
   |exhausted=>exact absurd M.symm ah
end Go.bA
namespace Go.bA
variable{X:Ctx}
def iZ(X:Ctx)(aI:ao cJ):Prop:=∀f aZ,aI.get f=some aZ->∃Fn c,uf X f aZ Fn c
def rK(X:Ctx)(fy:nC):Prop:=
 ∀(f:d7) (as:ac bv) (st:aj) (r:dQ),fy f as st=some r->∀(ab:bF) (d:ac bv) (w:f5),bI ab as d->bN X ab st w->r≠.no->
  (∀as w,(callFunc f as).run X.P w= .ok (.enter f as) w)/\
  ∀(K:CallKind) (bd:Bool->ac Frame),iX ⟨f,K,none⟩ none ab bd->gZ X ab w ⟨f,K,none⟩ bd (lone (Frame.enter X.P f d.toArray K) (bd false) w) r
variable{fy:nC}{n:Nat}
def ox(aI:ao cJ)(fy:nC)(n:Nat)(f:d7)(first j:bi bv)(args:ac bv)(aR:be bv)(st:aj):
 b7 aI fy (n+1) (.func (.func f) first j) args aR st=
  bn aR (λ_=>bn (aI.get f) (λaZ=>ie (b7 aI fy n) n f aZ (fe first.toList (fe args j.toList)) aR st) .no)
   (bn (fy f (fe first.toList (fe args j.toList)) st) (λr=>r)<|bn (aI.get f) (λaZ=>ie (b7 aI fy n) n f aZ (fe first.toList (fe args j.toList)) aR st) .no):=rfl
theorem acw{aI:ao cJ}(R:Good X)(D:iZ X aI)(a':rK X fy)(M:ue X (b7 aI fy n))(I:lk X (b7 aI fy n)):ue X (b7 aI fy<|n+1):=by
 intro ab f first G args aR st z y u w W Y O hw g
 rw[ox]at g⊢;simp only[qn]at g⊢;have C:=W.append<|Y.append O;have B:(z.toList++(u++y.toList)).toArray=z++u.toArray++y:=by grind
 have A:∀{K:CallKind} {bd:Bool->ac Frame} (aZ:cJ),aI.get f=some aZ->iX ⟨f,K,none⟩ aR ab bd->
  gZ X ab w ⟨f,K,none⟩ bd (lone (Frame.enter X.P f (z++u.toArray++y) K) (bd false) w) (ie (b7 aI fy n) n f aZ (first.toList++(args++G.toList)) aR st):=by
  intro K bd aZ d h;obtain⟨Fn,c,ok⟩:=D f aZ d;have:=Jr R I M (λb aM bd _=>ug I b aM bd) ok n C hw h;rw[B]at this;exact this
 have H:∀aZ,aI.get f=some aZ->∀as w,(callFunc f as).run X.P w= .ok (.enter f as) w:=by
  intro aZ d as w;obtain⟨Fn,c,ok⟩:=D f aZ d;exact ok.enters as w
 cases aR with
 |some aa=>
  cases d:aI.get f with
  |none=>rw[d]at g;exact absurd j g
  |some aZ=>exact⟨H aZ d,λK bd h=>A aZ d h⟩
 |none=>
  cases s:fy f (first.toList++(args++G.toList)) st with
  |some r=>
   rw[s]at g;obtain⟨S,J⟩:=a' f _ st r s ab _ w C hw g;refine⟨S,λK bd h=>?_⟩;have:=J K bd h;rw[B]at this;exact this
  |none=>
   cases d:aI.get f with
   |none=>rw[s,d]at g;exact absurd j g
   |some aZ=>exact⟨H aZ d,λK bd h=>A aZ d h⟩
def gZ.out{ab:bF}{w:f5}{f:d7}{c:Frame}{cs:ac Frame}{dT:Frame}{r:dQ}(h:gZ X ab w ⟨f,.normal,none⟩ (λ_=>c::cs) (lone dT (c::cs) w) r):Ep X ab w dT c cs r:=by
 cases r with
 |no=>trivial
 |ret v st C=>
  obtain⟨aG,y,w',F,s,u,d,z,B,g,j⟩:=h;obtain⟨D,A,fn,a2,cD⟩:=g;exact⟨aG,y,w',s,u,d,Steps.trans j<|.one<|step_leave_returned ⟨D,A,z,fn,a2,cD⟩⟩
 |aR v st C=>
  obtain⟨aG,y,w',F,s,u,d,z,B,g,j⟩:=h;exact⟨aG,y,w',s,u,d,Steps.trans j<|.one<|step_leave_panicked g⟩
theorem acx{aI:ao cJ}(R:Good X)(G:ue X (b7 aI fy<|n+1))(D:lk X (b7 aI fy n)):lk X (b7 aI fy<|n+1):=by
 intro ab af args st aq z w H s y d;have M:=d;obtain⟨fn,first,g,rfl,_⟩:=IL (r:=b7 aI fy (n+1) af args none st) j λe=>d e.symm;cases H with
 |func _ ar _ aQ _ A u Y S aj an=>
  cases fn with
  |func f=>
   rcases u with⟨rfl,_⟩|⟨l,b,h,_⟩
   ·obtain⟨ai,ag⟩:=G ab f first g args none st aQ A z w (bI.tU Y S) s (bI.tU aj an) y d
    refine⟨Frame.enter X.P f (aQ++z.toArray++A) .normal,.enter f _ ?_,λc cs=>gZ.out<|ag .normal (λ_=>c::cs) λF au K=>?_⟩
    ·simp only[Sem.run_bind];exact ai _ _
    ·have O:=K;simp[tryRecover,O]
   ·cases h
  |yield l=>
   have C:first.toList=[]:=by
    cases aa:first.toList with
    |nil=>rfl
    |cons x xs=>
     simp_all
   have al:g.toList=[]:=by
    cases aa:g.toList with
    |nil=>rfl
    |cons x xs=>
     simp_all
   have ad:b7 aI fy (n+1) (.func (.yield l) first g) args none st=vU (b7 aI fy n) n l args st:=by
    show List.rec (motive:=λ_=>dQ) (List.rec _ _ g.toList) _ first.toList=_
    rw[C,al];rfl
   rcases u with⟨_,W⟩|⟨av,b,h,a',J⟩
   ·exact absurd j<|W l
   ·cases h;subst a';rw[ad]at d⊢;obtain⟨fn,ay,dV,body,I,ah⟩:=acr R D (λb aM bd=>ug D b aM bd) J s y d;refine⟨_,.round b fn ay dV body ?_,ah⟩;have B:aQ= #[]:=by
     grind
    simp[Deferred.ofValue,invoke,B];simpa using I
  |_=>exact absurd j M
theorem uh{aI:ao cJ}{fy:nC}(u:Good X)(D:iZ X aI)(G:rK X fy):∀n,ue X (b7 aI fy n)/\lk X (b7 aI fy n)
 |0=>⟨λab f first y args aR st B A h w _ _ _ _ d=>absurd j d,λab z args st s h w _ _ _ d=>absurd j d⟩
 |n+1=>by
  obtain⟨aF,aL⟩:=uh u D G n;have g:=acw u D G aF aL;exact⟨g,acx u g aL⟩
end Go.bA
namespace Go.bA
variable{α:Type}
def ao.sub(eq:α->α->Bool):ao α->ao α->Bool
 |.nil,_=>true
 |.node l v r,.nil=>v.isNone&&ao.sub eq l .nil&&ao.sub eq r .nil
 |.node l v r,.node bp bD d=>(match v,bD with|none,_=>true|some x,some y=>eq x y|some _,none=>false)&&ao.sub eq l bp&&ao.sub eq r d
theorem ao.Bi{eq:α->α->Bool}(he:∀x y,eq x y=true->x=y):∀(a b:ao α),ao.sub eq a b=true->∀n x,a.get n=some x->b.get n=some x
 |.nil,_,_,n,x,h=>by simp at h
 |.node l v r,.nil,d,n,x,h=>by
  simp[ao.sub,cO]at d;exfalso;cases n with
  |zero=>rw[ao.DU]at h;rw[h]at d;simp at d
  |succ m=>
   rw[ao.oq]at h;split at h
   ·have:=ao.Bi he l .nil d.1.2 _ x h;simp at this
   ·have:=ao.Bi he r .nil d.2 _ x h;simp at this
 |.node l v r,.node bp j g,d,n,x,h=>by
  simp[ao.sub,cO]at d;cases n with
  |zero=>
   rw[ao.DU]at h⊢
   grind
  |succ m=>
   rw[ao.oq]at h⊢;split at h
   ·rw[aE lh];exact ao.Bi he l bp d.1.2 _ x h
   ·rw[aw lh];exact ao.Bi he r g d.2 _ x h
def yy:ac f7->ac f7->Bool
 |[],[]=>true
 |e::es,f::bO=>dm e.key f.key&&dm e.val f.val&&Nat.beq e.born f.born&&yy es bO
 |_,_=>false
theorem PN:∀(es bO:ac f7),yy es bO=true->es=bO
 |[],[],_=>rfl
 |e::es,f::bO,h=>by
  simp only[yy,cO]at h;obtain⟨⟨⟨aF,aL⟩,d⟩,g⟩:=h;cases e;rw[PN es bO g];simp only at aF aL d;rw[jH _ _ aF,jH _ _ aL,dM d]
 |[],_::_,h=>by simp[yy]at h
 |_::_,[],h=>by simp[yy]at h
def EC:bz->bz->Bool
 |.map es c,.map ey cM=>Nat.beq c cM&&yy es ey
 |.cells cs e d aU,.cells j h g s=>Nat.beq e h&&Nat.beq d.1 g.1&&Nat.beq d.2 g.2&&(aU==s)&&oi cs j
 |.jm none,.jm none=>true
 |.jm (some []),.jm (some [])=>true
 |.dead,.dead=>true
 |_,_=>false
def acy(x y:bz)(h:EC x y=true):x=y:=by
 unfold EC at h;split at h
 ·rw[cO]at h;rw[dM h.1,PN _ _ h.2]
 ·simp only[cO]at h;obtain⟨⟨⟨⟨u,z⟩,j⟩,d⟩,s⟩:=h;rename_i A _ _ _ B _;have g:=Prod.ext (dM z)<|dM j;rw[dM u,g,As _ _ s,z7 d]
 ·rfl
 ·rfl
 ·rfl
 ·cases h
def aj.le(s t:aj):Prop:=s.ae=t.ae/\∀n U,s.h.get n=some U->t.h.get n=some U
variable{t:aj}
def aj.ED(s t:aj):Bool:=Nat.beq s.ae t.ae&&ao.sub EC s.h t.h
def aj.acz{s:aj}(h:aj.ED s t=true):aj.le s t:=by
 unfold aj.ED at h;rw[cO]at h;exact⟨dM h.1,ao.Bi acy _ _ h.2⟩
def bN.less{X:Ctx}{ab:bF}{s:aj}{w:f5}(aD:aj.le s t)(h:bN X ab t w):bN X ab s w:=by
 refine⟨λid U g d=>h.er id U (aD.2 _ _ g) d,λi A U p l m af z y B=>h.inj i A U p l m (aD.2 _ _ af) z (aD.2 _ _ y) B,λid C=>?_,h.fw,h.kh,?_,λi l U u j g d=>h.j0 i l U u j (aD.2 _ _ g) d⟩
 ·have:=h.fresh id (by rw[<-aD.1];exact C);refine⟨this.1,?_⟩;cases e:s.h.get id with
  |none=>rfl
  |some U=>rw[aD.2 _ _ e]at this;cases this.2
 ·rw[aD.1];exact h.mu
structure Row where
 as:ac bv
 st:aj
 v:bv
 ak:aj
def Row.oy(r:Row)(as:ac bv)(st:aj):Bool:=Nat.beq r.st.ae st.ae&&oi r.as as&&ao.sub EC r.st.h st.h
variable{X:Ctx}
def ef(X:Ctx)(f:d7)(r:Row):Prop:=
 ∀(ab:bF) (d:ac bv) (w:f5),bI ab r.as d->bN X ab r.st w->
  (∀as w,(callFunc f as).run X.P w= .ok (.enter f as) w)/\
  ∀(K:CallKind) (bd:Bool->ac Frame),iX ⟨f,K,none⟩ none ab bd->gZ X ab w ⟨f,K,none⟩ bd (lone (Frame.enter X.P f d.toArray K) (bd false) w) (.ret r.v r.ak false)
variable{v:bv}{ak:aj}
def ez(r:dQ)(v:bv)(ak:aj):Bool:=
 dQ.rec (motive:=λ_=>Bool) (λv1 d g=>cond g false<|cond (dm v v1) (aj.ED ak d) false) (λ_ _ _=>false) false r
def gZ.less{ab:bF}{w:f5}{b:dK}{bd:Bool->ac Frame}{s:Machine}{st:aj}{j:Bool}(aD:aj.le ak st)(h:gZ X ab w b bd s (.ret v st j)):gZ X ab w b bd s (.ret v ak j):=by
 obtain⟨aG,C,w',F,A,B,g,d,u,y,z⟩:=h;exact⟨aG,C,w',F,A,bN.less aD B,g,d,u,y,z⟩
def acA{r:dQ}(h:ez r v ak=true):∃b4,r= .ret v b4 false/\aj.le ak b4:=by
 cases r with
 |no=>cases h
 |aR a b c=>cases h
 |ret v1 b4 j=>
  cases j with
  |true=>cases h
  |false=>
   have d:cond (dm v v1) (aj.ED ak b4) false=true:=h;cases g:dm v v1 with
   |false=>rw[g]at d;cases d
   |true=>
    rw[g]at d;exact⟨b4,by rw[jH _ _ g],aj.acz d⟩
theorem PO{aI:ao cJ}{fy:nC}(u:Good X)(D:iZ X aI)(G:rK X fy){n:Nat}{f:d7}{r:Row}
 (h:ez (b7 aI fy n (.func (.func f) #[] #[]) r.as none r.st) r.v r.ak=true):ef X f r:=by
 obtain⟨b4,he,aD⟩:=acA h;intro ab gG w j y;have g:=(uh u D G n).1 ab f #[] #[] r.as none r.st #[] #[] gG w (bI.nil ab) j (bI.nil ab) y (by grind);refine⟨g.1,λK bd s=>?_⟩;have d:=g.2 K bd s;rw[he]at d;have e:(#[]++gG.toArray++ #[]:bi bv)=gG.toArray:=av
 rw[e]at d;exact gZ.less aD d
end Go.bA
namespace Go.bA
variable{X:Ctx}
def we(o:aJ)(st:aj)(u id j:Nat)(seen:ac Nat)(left:ac f7):ac a1:=
 match left with
 |[]=>[.ok (.tuple #[.bool false]) o st]
 |left=>left.map λe=>.ok (.tuple #[.bool true,e.key,e.val]) o ⟨st.h.set u<|.mj (some id) j (seen++[e.born]) j,st.ae⟩
def nJ(o:aJ)(st:aj)(u:ce):ac a1:=
 hi (o.ar u) (λp=>bn p (λa=>bn a.spot (λ_=>[.no]) (dz a.off 0 (AE (st.h.get a.block) (λm j g y=>
  bn m (λid=>jo (st.h.get id) (λes d=>dz j d (dz y d (cond (g.all λs=>Nat.ble (Nat.succ s) d)
   (we o st a.block id j g<|es.filter λe=> !g.any (Nat.beq e.born)) [.no]) [.no]) [.no]) [.no]) [.ok (.tuple #[.bool false]) o st]) [.no]) [.no])) [.no]) [.no]
section
variable{ab:bF}{o bs:aJ}{a:Act}{aM:Nat}{st ak:aj}{w:f5}{U:Oper}{v:bv}{call:bM}
def choose_lt(P:f8)(w:f5)(n:Nat)(ah:0<n):∃c w',(choose<|.mapNext n).run P w= .ok c w'/\c<n/\w'.heap=w.heap/\qo w w':=by
 rw[run_choose];by_cases h:(Question.mapNext n).forced=true
 ·rw[aE h];exact⟨0,w,j,ah,j,eT⟩
 ·rw[aw h];exact⟨_,_,j,eG _ ah,j,eT⟩
def EE(left:bi f7):bi (be f7):=(if left.isEmpty then#[none]else#[])++(left++ #[]).map some
theorem acB(left:bi f7):0<(EE left).size/\∀q∈EE left,(q=none/\left= #[])\/∃e∈left,q=some e:=by
 unfold EE
 grind
theorem acC{u:ce}(af:fX X.a3 u=true)(aC:U.op= .next u false)(Y:eK ab o a aM)(D:bN X ab st w)(h:∀r∈nJ o st u,r≠.no):
 ∃v ak bD w',a1.ok v o ak∈nJ o st u/\(execOp a.eval U).run X.P w= .ok (.value bD) w'/\bc ab v bD/\bN X ab ak w'/\dS ab ab w w':=by
 have g:[a1.no]≠nJ o st u:=λe=>h .no (by rw[<-e];simp) j;obtain⟨p,hp,bt⟩:=AL (r:=nJ o st u) j g;obtain⟨ca,aP,aX⟩:=hS bt g;obtain⟨z,a2⟩:=yg aX λ_=>g;obtain⟨bx,cD⟩:=kg a2 g;obtain⟨m,b5,A,B,ay,cX⟩:=O1 cD g;have an:=Y.ar D af;rw[hp,aP]at an;generalize ax:a.eval u=rL at an;obtain⟨l,aK,aJ,bo,b0,aU,y,aS,a',aq⟩:=D.er _ _ ay av;cases an with
 |ptr _ bp aD b1=>
  rw[aK]at aD;cases aD;have aL:l.c5+ca.off=0:=by rw[aJ,bx]
  cases m with
  |none=>
   rcases aq with⟨_,rfl⟩|⟨r,b,bu,W,_⟩
   ·have et:[a1.ok (.tuple #[.bool false]) o st]=nJ o st u:=cX;refine⟨.tuple #[.bool false],st,.tuple #[.bool false],w,by rw[<-et];simp,?_,bc.qm<|bI.cons (.bool _)<|bI.nil ab,D,.refl ab w⟩;unfold execOp;rw[aC];simp only[ax,aL,Instr.next,Sem.run_bind,Jg a',Result.andThen,Sem.run_pure]
   ·cases W
  |some id=>
   have et:=cX;obtain⟨es,bZ,bO,fs⟩:=Jf et g;obtain⟨W,my⟩:=kg fs g;obtain⟨bq,ow⟩:=kg my g;obtain⟨bh,pj⟩:=iT ow g;rcases aq with⟨bF,_⟩|⟨r,b,bu,bk,bl,aE,aF,aa,bn⟩
   ·cases bF
   cases bk;subst bl W bq;obtain⟨b4,au,bX,b2,C,cM,bA,d⟩:=D.er _ _ bO av;rw[au]at aE;cases aE;have d:iI ab bu es B C.toList cM:=d;have bK:cM=aU:=by rw[d.iu,aF]
   have bQ:cM=aS:=R
   subst bK bQ;obtain⟨L,aj,b3,aI⟩:=d.same;have a4:∀x∈C.toList,x.born<cM:=by
    intro x aw;obtain⟨i,O,rfl⟩:=k8 aw;have G:i<L.length:=R
    rw[(aI i G O).2.2,d.iu];exact d.mr.lt _<|d.born _<|aj.mem_iff.1<|dx G
   have bU:∀s∈A,s<B:=by
    intro s z;have:=il.1 bh s z;exact lf.1 this
   have bb:∀e∈es,y.contains (bu e.born)=A.any (Nat.beq e.born):=by
    intro e ah;rw[oX,List.any_eq_true];constructor
    ·intro bC;have:bu e.born∈y.toList:=by simpa using bC
     rw[aa]at this;obtain⟨s,z,aR⟩:=cW.1 this;exact⟨s,z,by rw[d.mr.inj _ _ (bU s z) (d.born e ah) aR];exact kO _⟩
    ·rintro⟨s,z,bB⟩;have bj:=dM bB;have:bu e.born∈y.toList:=by rw[aa,bj];exact cW.2 ⟨s,z,j⟩
     simpa using this
   obtain⟨left,az⟩:∃left,left=C.filter (λe=> !y.contains e.born):=dC;have hold:left.filter (λe=>decide (e.born<cM))=left:=by
    rw[Array.filter_eq_self]
    grind
   have bJ:left.filter (λe=>decide (e.born>=cM))= #[]:=by
    rw[Array.filter_eq_empty_iff]
    grind
   have b':(!y.isEmpty&& !C.isEmpty&&C.all λe=>decide (e.born>=cM))=false:=by
    cases M:C.toList with
    |nil=>have:C= #[]:=by simpa using M
          subst this;simp
    |cons x xs=>
     have aw:=a4 x<|by rw[M];simp
     grind
   obtain⟨aO,aH⟩:=acB left;generalize a5:EE left=H at aO aH;obtain⟨eW,eE,bM,aT,I,aB⟩:=choose_lt X.P w H.size aO;have bf:eE.heap[l.ct]? =some (.mapIter (some b) cM y cM):=by rw[I];exact a'
   have J:(execOp a.eval U).run X.P w=(match H[eW]? with
    |some (some e)=>.ok (.value<|.tuple #[.bool true,e.key,e.val]) {eE with heap:=eE.heap.setIfInBounds l.ct<|.mapIter (some b) cM (y.push e.born) cM}
    |some none=>.ok (.value<|.tuple #[.bool false]) eE
    |none=>.halt (.stuck "Next: no such candidate") eE):=by
    unfold execOp;rw[aC];simp only[ax,aL,Instr.next,Sem.run_bind,Jg a',Result.andThen,MapKept.run_getObj_map bA,b',pY,if_false];rw[<-az,hold,bJ];have a6:(if left.isEmpty then#[none]else#[])++(left++ #[]).map some=H:=a5;simp only[a6,bM];cases ai:H[eW]? with
    |none=>simp
    |some q=>
     cases q with
     |none=>simp
     |some e=>simp[abF _ bf]
   have bT:=vp aT;rw[bT]at J;have S:=Array.getElem_mem aT;cases ai:H[eW]with
   |none=>
    rw[ai]at J S;have M:left= #[]:=by
     rcases aH none S with⟨_,h⟩|⟨e,_,h⟩
     ·exact h
     ·cases h
    have aW:es.filter (λe=> !A.any (Nat.beq e.born))=[]:=by
     rw[List.filter_eq_nil_iff];intro e ah;obtain⟨i,O,aN⟩:=k8<|aj.mem_iff.2 ah;have G:i<C.toList.length:=R
     have bY:C.toList[i]∉left.toList:=by
      rw[M];simp
     grind
    rw[aW]at pj;have tZ:[a1.ok (.tuple #[.bool false]) o st]=nJ o st u:=pj;exact⟨.tuple #[.bool false],st,.tuple #[.bool false],eE,by rw[<-tZ];simp,J,bc.qm<|bI.cons (.bool _)<|bI.nil ab,D.tV X I,.tV ab I aB⟩
   |some e=>
    rw[ai]at J S;have bW:e∈left:=by
     grind
    obtain⟨br,bR⟩:=Array.mem_filter.1<|az▸bW;obtain⟨i,O,aN⟩:=k8 (show e∈C.toList by simpa using br);have G:i<L.length:=R
    have K:=aI i G O;rw[aN]at K;have aA:=aj.mem_iff.1<|dx G;have bG:L[i]∈es.filter (λe=> !A.any (Nat.beq e.born)):=by
     rw[q9];refine⟨aA,?_⟩;rw[<-bb _ aA,<-K.2.2];exact bR
    have tZ:(es.filter λe=> !A.any (Nat.beq e.born)).map (λe=>a1.ok (.tuple #[.bool true,e.key,e.val]) o ⟨st.h.set ca.block<|.mj (some id) B (A++[e.born]) B,st.ae⟩)=nJ o st u:=by
     rw[<-pj];unfold we
     grind
    have bw:=D.tV X I;obtain⟨bH,bg⟩:=bN.yl X bw ay av (λY=>Y) aK (.mj (some id) B (A++[L[i].born]) B) (.mapIter (some b) cM (y.push e.born) cM)
     {eE with heap:=eE.heap.setIfInBounds l.ct<|.mapIter (some b) cM (y.push e.born) cM} rfl
     (λ_ aY=>⟨aJ,bo,_,_,_,_,aY,.inr ⟨id,b,bu,j,j,au,aF,by simp[aa,K.2.2],bn⟩⟩)
    refine⟨.tuple #[.bool true,L[i].key,L[i].val],_,.tuple #[.bool true,e.key,e.val],_,?_,J,bc.qm<|bI.cons (.bool _)<|bI.cons K.1<|bI.cons K.2.1<|bI.nil ab,bH,(dS.tV ab I aB).trans bg⟩;rw[<-tZ];exact cW.2 ⟨L[i],bG,j⟩
end
def oz(k:aJ->aj->ac cH)(r:cH):ac cH:=
 cH.rec (motive:=λ_=>ac cH) (λe o st=>c1.rec (motive:=λ_=>ac cH) (k o st) (λi=>[.out (.exit i) o st]) [.out .ret o st] (λv=>[.out (.aR v) o st]) e) [.no] r
def sG(e:aJ->aj->ac cH):Nat->aJ->aj->ac cH
 |0,_,_=>[.no]
 |n+1,o,st=>(e o st).flatMap<|oz<|sG e n
def EF(call:bM)(d:be Tmp)(ops:ac bm)(r:a1):cH:=
 a1.rec (motive:=λ_=>cH) (λv o st=>fV call ops (o.put d v) st) (λ_ _=>.no) .no r
def gH(call:bM)(bb:Nat)(fn:d7):dk->aJ->aj->ac cH
 |.fU (⟨d,.ext<|.nx j,none⟩::ops),o,st=>(nJ o st j).map (EF call d ops)
 |.seq a b,o,st=>(gH call bb fn a o st).flatMap (oz<|gH call bb fn b)
 |.cond c a b,o,st=>jX (o.ar c) (λt=>cond t (gH call bb fn a o st)<|gH call bb fn b o st) [.no]
 |.block i a,o,st=>(gH call bb fn a o st).map (pc i)
 |.loop a,o,st=>sG (gH call bb fn a) bb o st
 |.scope a,o,st=>gH call bb fn a o st
 |c,o,st=>[cZ call bb fn c o st]
section
variable{aM:Nat}{ab:bF}{o bs:aJ}{a:Act}{st ak:aj}{w:f5}{v:bv}{call:bM}{b:dK}{bd:Bool->ac Frame}
def iv(X:Ctx)(b:dK)(aM:Nat)(bd:Bool->ac Frame)(s:Machine)(k:ac Item)(o:aJ)(ab:bF)(w:f5)(L:ac cH):Prop:=
 (∀r∈L,r≠.no)->∃r∈L,fN X b aM bd s k o ab w r
variable{k:ac Item}
def iv.head{s d:Machine}{aG:bF}{w':f5}{L:ac cH}(h:Steps X.P s d)(ax:dS ab aG w w')(hp:bs.aR=o.aR)(u:bs.b1=o.b1)(j:iv X b aM bd d k bs aG w' L):iv X b aM bd s k o ab w L:=by
 intro ah;obtain⟨r,g,y⟩:=j ah;exact⟨r,g,fN.head h ax hp u y⟩
def iv.one{s:Machine}{r:cH}(h:fN X b aM bd s k o ab w r):iv X b aM bd s k o ab w [r]:=λ_=>⟨r,av,h⟩
def iv.then{s:Machine}{I:ac Item}{L:ac cH}{g:aJ->aj->ac cH}(O:∀id,exitTo id k=exitTo id I)(h:iv X b aM bd s k o ab w L)
 (M:∀aG d w' bs ak,eK aG bs d aM->bN X aG ak w'->dS ab aG w w'->bs.aR=o.aR->bs.b1=o.b1->iv X b aM bd (lone (b.at d k) (bd bs.cL) w') I bs aG w' (g bs ak)):iv X b aM bd s I o ab w (L.flatMap<|oz g):=by
 intro ah;have H:∀r∈L,r≠.no:=by
  intro r G e;subst e;exact ah .no (sl.2 ⟨.no,G,by simp[oz]⟩) j
 obtain⟨r,u,S⟩:=h H;cases r with
 |no=>exact absurd j (H _ u)
 |out e bs ak=>
  obtain⟨aG,d,w',C,D,z,y,A,B⟩:=S;cases e with
  |norm=>
   obtain⟨q,W,Y⟩:=M aG d w' bs ak C D z y A λr G=>ah r<|sl.2 ⟨_,u,G⟩;exact⟨q,sl.2 ⟨_,u,W⟩,fN.head B z y A Y⟩
  |exit id=>
   obtain⟨R,J,K⟩:=B;exact⟨.out (.exit id) bs ak,sl.2 ⟨_,u,by simp[oz]⟩,aG,d,w',C,D,z,y,A,R,J.trans<|O id,K⟩
  |ret=>exact⟨.out .ret bs ak,sl.2 ⟨_,u,by simp[oz]⟩,aG,d,w',C,D,z,y,A,B⟩
  |aR v=>exact⟨.out (.aR v) bs ak,sl.2 ⟨_,u,by simp[oz]⟩,aG,d,w',C,D,z,y,A,B⟩
def acD(L:ac cH):L.flatMap (oz λo st=>[.out .norm o st])=L:=by
 induction L with
 |nil=>rfl
 |cons r L d=>
  rw[tx,d];cases r with
  |no=>rfl
  |out e o st=>cases e<;>rfl
theorem acE(Y:lk X call){ops:bi Oper}{d:be Tmp}{u:ce}{xs:ac bm}(ai:xs.length+1=ops.size)(I:∀(J:Nat) (x:bm) (U:Oper),(⟨d,.ext<|.nx u,none⟩::xs:ac bm)[J]? =some x->ops[J]? =some U->ll X aM ops x U=true)
 (G:eK ab o a aM) (aj:bN X ab st w) (aA:nG ab o.b1 b.b1) (D:iX b o.aR ab bd):
 iv X b aM bd (lone (b.at a<|.inRegion ops (List.range ops.size)::k) (bd o.cL) w) k o ab w ((nJ o st u).map<|EF call d xs):=by
 intro ah;have aT:0<ops.size:=R
 have B:=vp aT;have h:=I 0 _ ops[0] j B;have W:=A9 h;have K:ops[0].guard=none:=by
  unfold ll at h
  grind
 have aa:Region.wanted ops[0] (yielded ops a.tmps)=true:=by
  unfold Region.wanted;rw[K]
 have aw:∃g,ops[0].op= .next g false/\c0 X.a3 u g=true:=by
  have s:A5 X.P X.a3 X.keys X.pg X.eqs X.ph X.lj ops[0].op (.nx u)=true:=W;unfold A5 at s
  grind
 obtain⟨g,A,oy⟩:=aw;obtain⟨rfl,af⟩:=rE oy;obtain⟨v,ak,ax,w',aq,ar,O,S,s⟩:=acC af A G aj (λr D e=>by
  subst e;exact ah (EF call d xs .no) (cW.2 ⟨_,D,j⟩) j)
 obtain⟨au,an⟩:=Er h;have M:List.range ops.size=0::(List.range xs.length).map (· +1):=by
  rw[<-ai,C5]
 have ad:b.b1=none\/∀c,ops[0].op≠.defer c:=.inr (by rw[A];simp);have a':=En (k:=k) (cs:=bd o.cL) (rest:=(List.range xs.length).map (· +1)) B aa ad ar;refine⟨_,cW.2 ⟨_,aq,j⟩,?_⟩;rw[M];obtain⟨C,cw,dg,fY⟩:=rH o d v;have H:=Et (k:=k) Y xs ((List.range xs.length).map (· +1)) ab (o.put d v) (a.put ops[0].dst ax) ak w' av (λJ x i z af=>by
  have ay:=(dN.1 z).1;have e:i=J+1:=by
   grind
  subst e;have y:J+1<ops.size:=R
  exact⟨ops[J+1],vp y,I (J+1) x _ (by simpa using z)<|vp y⟩)
  (by have:=G.put an O;rw[<-au];exact this) S (by rw[cw];exact aA)<|by rw[C];exact D
 rw[dg]at H;exact fN.head (.one a') s C cw H
def acF(an:Good X)(a':lk X call)(ay:yv X call b aM bd)(aw:∃F,X.P.funcs[b.fn]? =some F/\F.ntmps=aM)(bb:Nat):∀(D:dk) (c:Code) (ab:bF) (o:aJ) (a:Act) (st:aj) (w:f5) (k:ac Item),codeOk X aM D c=true->
 eK ab o a aM->bN X ab st w->nG ab o.b1 b.b1->iX b o.aR ab bd->
 iv X b aM bd (lone (b.at a<|.code c::k) (bd o.cL) w) k o ab w (gH call bb b.fn D o st):=by
 intro D;have B:=
  λc ab o a st w k D g u y s h=>iv.one (EA an a' ay aw bb D c ab o a st w k g u y s h)
 induction D with
 |skip=>intro c ab o a st w k g u y s h;exact B c ab o a st w k .skip g u y s h
 |fU xs=>
  intro c ab o a st w k g u y s h;unfold gH;split
  ·rename_i d aA az W;cases W;cases c with
   |region id ops aq=>
    cases aq with
    |true=>cases g
    |false=>
     obtain⟨A,ax⟩:=Jp g;refine iv.head (.one Pd) lR j j (acE a' R (λY x U af O=>ax Y x U af<|by simpa using O) u y s h)
   |_=>cases g
  all_goals first
   |exact B c ab _ a _ w k _ g u y s h
   |(rename_i W;cases W)
 |qc L cu e3 ms=>intro c ab o a st w k g u y s h;exact B c ab o a st w k (.qc L cu e3 ms) g u y s h
 |seq x K ag M=>
  intro c ab o a st w k g u y s h;cases c with
  |seq c d=>
   have g:(codeOk X aM x c&&codeOk X aM K d)=true:=g;rw[cO]at g;have A:=ag c ab o a st w (.code d::k) g.1 u y s h;refine iv.head (.one O8) lR j j<|iv.then (k:=.code d::k) (λid=>j) A λaG G w' bs ak H I J hp ah=>?_;exact M d aG bs G ak w' k g.2 H I (by rw[ah];exact s.mono J.le) (by rw[hp];exact h.mono J.le)
  |_=>cases g
 |cond x K z M ai=>
  intro c ab o a st w k g u y s h;cases c with
  |cond U c d=>
   have g:(c0 X.a3 x U&&codeOk X aM K c&&codeOk X aM z d)=true:=g;simp at g;obtain⟨rfl,O⟩:=rE g.1.1;show iv X b aM bd _ k o ab w (jX (o.ar x) (λt=>_root_.cond t (gH call bb b.fn K o st)<|gH call bb b.fn z o st) [.no]);have S:=u.ar y O;generalize aa:a.eval x=j1 at S;generalize o.ar x=v at S;cases v with
   |bool t=>
    cases S;cases t with
    |true=>exact iv.head (.one<|El aa) lR j j (M c ab o a st w k g.1.2 u y s h)
    |false=>exact iv.head (.one<|El aa) lR j j (ai d ab o a st w k g.2 u y s h)
   |_=>exactλah=>absurd j (ah .no<|by simp[jX])
  |_=>cases g
 |block i x C=>
  intro c ab o a st w k g u y s h;cases c with
  |block Y c=>
   have g:(Nat.beq i Y&&codeOk X aM x c)=true:=g;rw[cO]at g;have e:=pn g.1;subst e;have A:=C c ab o a st w (.inBlock i::k) g.2 u y s h;refine iv.head (.one O9) lR j j ?_;intro ah;obtain⟨r,au,A⟩:=A (λr h e=>by subst e;exact ah (pc i .no) (cW.2 ⟨_,h,j⟩) j);exact⟨pc i r,cW.2 ⟨_,au,j⟩,A.ct⟩
  |_=>cases g
 |loop x C=>
  intro c ab o a st w k g u y s h;cases c with
  |loop c=>
   have key:∀(n:Nat) (ab:bF) o a st w,eK ab o a aM->bN X ab st w->nG ab o.b1 b.b1->iX b o.aR ab bd->
    iv X b aM bd (lone (b.at a<|.code c:: .inLoop c::k) (bd o.cL) w) k o ab w (sG (gH call bb b.fn x) n o st):=by
    intro n
    induction n with
    |zero=>intros;exactλah=>absurd j (ah .no<|by simp[sG])
    |succ n ad=>
     intro ab o a st w u y s h;refine iv.then (k:=.inLoop c::k) (λid=>j) (C c ab o a st w (.inLoop c::k) g u y s h) λaG G w' bs ak H I J hp ah=>?_;exact iv.head (.one Pb) lR j j (ad aG bs G ak w' H I (by rw[ah];exact s.mono J.le)<|by rw[hp];exact h.mono J.le)
   exact iv.head (.one Pa) lR j j (key bb ab o a st w u y s h)
  |_=>cases g
 |tO f a8 dV body _ _=>intro c ab o a st w k g u y s h;exact B c ab o a st w k (.tO f a8 dV body) g u y s h
 |exit i=>intro c ab o a st w k g u y s h;exact B c ab o a st w k (.exit i) g u y s h
 |scope x C=>
  intro c ab o a st w k g u y s h;cases c with
  |scope c=>
   have A:=C c ab o a st w (.inScope c::k) g u y s h;refine iv.head (.one Pc) lR j j ?_;show iv X b aM bd _ k o ab w (gH call bb b.fn x o st);rw[<-acD (gH call bb b.fn x o st)];exact iv.then (k:=.inScope c::k) (λid=>j) A λaG G w' bs ak H I _ _ _=>iv.one ⟨aG,G,w',H,I,.refl _ _,j,j,.one O7⟩
  |_=>cases g
 |ret=>intro c ab o a st w k g u y s h;exact B c ab o a st w k .ret g u y s h
 |refuse=>intro c ab o a st w k g u y s h;exact B c ab o a st w k .refuse g u y s h
end
section
variable(cx:Nat->be Nat)
def EG(a b:Addr):Bool:=(cx a.block==some b.block)&&Nat.beq a.off b.off&&a.spot.isNone&&b.spot.isNone
mutual
def fF:bv->bv->Bool
 |.bool a,.bool b=>a==b
 |.int k a,.int h b=>decide (k=h)&&a==b
 |.float k a,.float h b=>decide (k=h)&&a==b
 |.string a,.string b=>a.data.toList==b.data.toList
 |.pointer none,.pointer none=>true
 |.pointer (some a),.pointer (some b)=>EG cx a b
 |.slice none l c,.slice none bp cM=>l==bp&&c==cM
 |.slice (some a) l c,.slice (some b) bp cM=>EG cx a b&&l==bp&&c==cM
 |.map none,.map none=>true
 |.map (some a),.map (some b)=>cx a==some b
 |.chan (some<|c+1),.chan (some<|d+1)=>Nat.beq c d
 |.func (.func f) x y,.func (.func g) u v=>f==g&&Bj x u&&Bj y v
 |.nilFunc,.nilFunc=>true
 |.iface t v,.iface u w=>t==u&&fF v w
 |.nilIface,.nilIface=>true
 |.agg a,.agg b=>Bj a b
 |.tuple a,.tuple b=>Bj a b
 |_,_=>false
def Bj:bi bv->bi bv->Bool
 |⟨a⟩,⟨b⟩=>wg a b
def wg:ac bv->ac bv->Bool
 |[],[]=>true
 |a::as,b::bZ=>fF a b&&wg as bZ
 |_,_=>false
end
theorem Jt:∀(xs aQ:ac bv),wg cx xs aQ=true->xs.length=aQ.length/\∀(i:Nat) (h:i<xs.length) (u:i<aQ.length),fF cx xs[i] aQ[i]=true
 |[],[],_=>⟨j,λi h=>by simp at h⟩
 |x::xs,y::aQ,h=>by
  simp[wg,cO]at h;obtain⟨aF,aL⟩:=Jt xs aQ h.2
  grind
 |[],_::_,h=>by simp[wg]at h
 |_::_,[],h=>by simp[wg]at h
theorem EH(xs aQ:bi bv)(h:Bj cx xs aQ=true):xs.size=aQ.size/\∀(i:Nat) (h:i<xs.size) (j:i<aQ.size),fF cx xs[i] aQ[i]=true:=by
 obtain⟨xs⟩:=xs;obtain⟨aQ⟩:=aQ;obtain⟨d,g⟩:=Jt cx xs aQ h
 grind
end
def EI(cx:Nat->be Nat)(aG cY:bF):Prop:=∀i d l,cx i=some d->cY d=some l->∃bu,aG i=some {l with bu:=bu}
variable{es:ac f7}{cx:Nat->be Nat}{aG cY:bF}{ey:ac f7}{c iu cM:Nat}{α:Type}
theorem PQ{a b:Addr}(h:EG cx a b=true):cx a.block=some b.block/\a.off=b.off/\a.spot=none/\b.spot=none:=by
 unfold EG at h
 simp_all
theorem yz(I:EI cx aG cY){u c:bv}(h:bc cY u c):∀v,fF cx v u=true->bc aG v c:=by
 induction h with
 |bool b=>intro v y;cases v<;>simp[fF]at y;rw[y];exact .bool _
 |int k n=>intro v y;cases v<;>simp[fF]at y;rw[y.1,y.2];exact .int _ _
 |float k n=>intro v y;cases v<;>simp[fF]at y;rw[y.1,y.2];exact .float _ _
 |string s=>
  intro v y;cases v<;>simp[fF]at y;rename_i K;have:K=s:=by cases K;simp_all
  rw[this];exact .string _
 |kV=>
  intro v y;cases v<;>first|(simp[fF]at y)|skip
  rename_i p;cases p<;>simp[fF]at y;exact .kV
 |ptr a l h a'=>
  intro v y;cases v<;>first|(simp[fF]at y)|skip
  rename_i p;cases p<;>simp[fF]at y;rename_i H;obtain⟨z,J,B,O⟩:=PQ y;obtain⟨bu,G⟩:=I _ _ _ z h;have:=bc.ptr H _ G B;rw[J]at this;exact this
 |jZ n c=>
  intro v y;cases v<;>first|(simp[fF]at y)|skip
  rename_i p _ _;cases p<;>simp[fF]at y;rw[y.1,y.2];exact .jZ _ _
 |fg a l U n c h a' ad=>
  intro v y;cases v<;>first|(simp[fF]at y)|skip
  rename_i p _ _;cases p<;>simp[fF]at y;rename_i H;obtain⟨⟨ai,S⟩,ag⟩:=y;obtain⟨z,J,B,O⟩:=PQ ai;obtain⟨bu,G⟩:=I _ _ _ z h;subst S ag;exact bc.fg H {l with bu:=bu} U _ _ G B (by rw[J];exact ad)
 |mo=>
  intro v y;cases v<;>first|(simp[fF]at y)|skip
  rename_i p;cases p<;>simp[fF]at y;exact .mo
 |map r b bu h=>
  intro v y;cases v<;>first|(simp[fF]at y)|skip
  rename_i p;cases p<;>simp[fF]at y;obtain⟨aa,G⟩:=I _ _ _ y h;exact .map _ b aa G
 |func f g xs aQ aw ay Y z _ B _ aj an=>
  intro v y;cases v<;>first|(simp[fF]at y)|skip
  rename_i al au ar;cases al<;>cases f<;>simp[fF]at y;obtain⟨⟨e,M⟩,W⟩:=y;subst e;obtain⟨D,C⟩:=EH cx _ _ M;obtain⟨af,ah⟩:=EH cx _ _ W;refine .func _ _ _ _ _ _ ?_ (D.trans z) (λi p q=>aj i R q _<|C i p R) (af.trans B) λi p q=>an i R q _<|ah i p R;rcases Y with⟨rfl,h⟩|⟨l,b,h,_⟩
  ·exact .inl ⟨j,λl e=>by cases e⟩
  ·cases h
 |nilFunc=>intro v y;cases v<;>simp[fF]at y;exact .nilFunc
 |iface t v w _ A=>
  intro aq y;cases aq<;>simp[fF]at y;rw[y.1];exact .iface _ _ _ (A _ y.2)
 |nilIface=>intro v y;cases v<;>simp[fF]at y;exact .nilIface
 |agg xs aQ z _ A=>
  intro v y;cases v<;>simp[fF]at y;obtain⟨D,C⟩:=EH cx _ _ y;exact .agg _ _ (D.trans z) (λi p q=>A i R q _<|C i p R)
 |tuple xs aQ z _ A=>
  intro v y;cases v<;>simp[fF]at y;obtain⟨D,C⟩:=EH cx _ _ y;exact .tuple _ _ (D.trans z) (λi p q=>A i R q _<|C i p R)
 |hF c m h=>
  intro v y;have av:c≠0:=by intro e;rcases h with h|⟨k,h,_⟩|⟨k,h,_⟩<;>omega
  obtain⟨c,rfl⟩:∃d,c=d+1:=⟨c-1,R⟩;cases v<;>first|(simp[fF]at y)|skip
  rename_i x;cases x with
  |none=>simp[fF]at y
  |some x=>
   cases x with
   |zero=>simp[fF]at y
   |succ d=>
    rw[dM y];exact .hF _ _ h
 |emp p c=>intro v y;cases v<;>simp[fF]at y
 |top c=>intro v y;cases v<;>simp[fF,iR]at y
def Ju(cx:Nat->be Nat)(es:ac f7)(c:Nat)(ey:ac f7):Bool:=
 Nat.beq c es.length&&(es.zipIdx.all λp=>Nat.beq p.1.born p.2)&&(ey.all λe=>(hR e.key es).isSome)&&
 (es.all λe=>(match hR e.key ey with|some d=>fF cx e.key d.key&&fF cx e.val d.val|none=>false))&&
 (es.zipIdx.all λp=>es.zipIdx.all λq=>Nat.beq p.2 q.2|| !dm p.1.key q.1.key)
def Bk(es ey:ac f7)(s:Nat):Nat:=((es[s]?).bind λe=>(hR e.key ey).map (·.born)).getD 0
def rM(bu:Nat->Nat)(es:ac f7)(c:Nat)(ey:ac f7)(cM:Nat):Nat->Nat:=λs=>if s<c then bu (Bk es ey s)else bu cM+(s-c)
theorem Jv(h:es.Pairwise λa b=>a.born≠b.born){a b:f7}(j:a∈es)(aA:b∈es)(e:a.born=b.born):a=b:=by
 induction es with
 |nil=>cases j
 |cons x xs d=>
  rw[ns]at h
  grind
def EJ{k:bv}(h:es.Pairwise λa b=>a.key≠b.key){e:f7}(he:e∈es)(ax:e.key=k):hR k es=some e:=by
 cases d:hR k es with
 |none=>exact absurd ax (A7 d e he)
 |some s=>
  obtain⟨g,j⟩:=yp d;rw[uniq h g he<|j.trans ax.symm]
def nodup_keys(h:es.Pairwise λa b=>a.key≠b.key):es.Nodup:=
 h.imp λ{a b} d e=>d<|by rw[e]
theorem PR{bu:Nat->Nat}{C:ac f7}(aS:c=es.length)(a':∀(i:Nat) (af:i<es.length),es[i].born=i)(I:es.Pairwise λa b=>a.key≠b.key)
 (M:∀e∈es,∃d,d∈ey/\d.key=e.key/\hR e.key ey=some d/\(∀u,bc cY d.key u->bc aG e.key u)/\∀u,bc cY d.val u->bc aG e.val u) (aq:∀d∈ey,(hR d.key es).isSome=true) (h:iI cY bu ey cM C iu):
 iI aG (rM bu es c ey cM) es c C iu:=by
 have B:∀(s:Nat) j,∃d,d∈ey/\d.key=es[s].key/\Bk es ey s=d.born:=by
  intro s j;obtain⟨d,y,z,G,_⟩:=M es[s]<|dx j;refine⟨d,y,z,?_⟩;unfold Bk;rw[a0 j];simp[G]
 have aT:∀s,s<c->Bk es ey s<cM:=by
  intro s j;obtain⟨d,y,_,G⟩:=B s R;rw[G];exact h.born d y
 have H:∀s,s<c->rM bu es c ey cM s=bu (Bk es ey s):=λs j=>aE j;have W:∀s,c<=s->rM bu es c ey cM s=bu cM+(s-c):=λs j=>aw R;obtain⟨L,hp,aC,aA⟩:=h.same;have aU:∀d∈ey,∃e,e∈es/\e.key=d.key/\hR d.key es=some e:=by
  intro d aN;have:=aq d aN;obtain⟨e,D⟩:=zZ.1 this;obtain⟨y,z⟩:=yp D;exact⟨e,y,z,D⟩
 let g:f7->f7:=λd=>(hR d.key es).getD d
 have A:∀d∈ey,g d∈es/\(g d).key=d.key:=by
  grind
 refine⟨?_,⟨λs t j ad e=>?_,λs j=>?_,λal=>?_⟩,λe D=>?_,I,?_,L.map g,?_,by simp[aC],?_⟩
 ·rw[W c<|cn _,Nat.sub_self];exact h.iu
 ·rw[H s j,H t ad]at e;have ah:=h.mr.inj _ _ (aT s j) (aT t ad) e;obtain⟨K,az,ax,aK⟩:=B s R;obtain⟨aP,ar,ay,aI⟩:=B t R;rw[aK,aI]at ah;have av:=Jv h.js az ar ah;subst av;have aR:es[s]=es[t]:=uniq I (dx _) (dx _)<|by rw[<-ax,<-ay]
  grind
 ·rw[H s j,W c<|cn _];have:=h.mr.lt _<|aT s j;omega
 ·grind
 ·obtain⟨i,af,rfl⟩:=k8 D;rw[a' i af];omega
 ·rw[kP]
  grind
 ·have aF:=hp.map g;refine aF.trans ?_;have aB:(ey.map g).Nodup:=by
   have:(ey.map g).Pairwise (λa b=>a.key≠b.key):=by
    rw[n9];rw[kP];intro i al af aj aD e;rw[(A _<|dx af).2,(A _<|dx aj).2]at e;exact kP.1 h.keys i al af aj aD e
   exact nodup_keys this
  rw[C9 aB<|nodup_keys I];intro x;constructor
  ·grind
  ·intro Y;obtain⟨d,y,z,_⟩:=M x Y;refine cW.2 ⟨d,y,?_⟩;exact uniq I (A d y).1 Y<|by rw[(A d y).2,z]
 ·intro i a b;have K:i<L.length:=by omega
  rw[tw];have O:=aA i K b;have J:=hp.mem_iff.1<|dx K;obtain⟨ai,aa⟩:=A L[i] J;obtain⟨d,y,z,G,aJ,aL⟩:=M (g L[i]) ai;have an:=uniq h.keys y J (by rw[z,aa]);subst an;refine⟨aJ _ O.1,aL _ O.2.1,?_⟩;obtain⟨s,j,S⟩:=k8 ai;rw[O.2.2,<-S,a' s j,H s R];obtain⟨aO,au,cw,dg⟩:=B s j;rw[dg];have:=uniq h.keys au J (by rw[cw,S,aa]);rw[this]
theorem PS(D:EI cx aG cY){bu:Nat->Nat}{C:ac f7}(aA:Ju cx es c ey=true)(h:iI cY bu ey cM C iu):
 iI aG (rM bu es c ey cM) es c C iu:=by
 unfold Ju at aA;simp only[cO,il]at aA;obtain⟨⟨⟨⟨J,K⟩,A⟩,z⟩,B⟩:=aA;have M:=dM J;have y:∀(i:Nat) af,es[i].born=i:=by
  intro i af;have:=K (es[i],i) (by grind);exact dM this
 have R:es.Pairwise (λa b=>a.key≠b.key):=by
  rw[kP];intro i s af S W e;have:=B (es[i],i) (by grind) (es[s],s) (by grind);rw[z6]at this;rcases this with d|d
  ·have:=dM d;omega
  ·simp only[e,oj]at d;cases d
 refine PR M y R (λe O=>?_) A h;have:=z e O;split at this
 ·rename_i G j;rw[cO]at this;obtain⟨I,H⟩:=yp j;exact⟨G,I,H,j,λu g=>yz D g _ this.1,λu g=>yz D g _ this.2⟩
 ·cases this
def wh(cx:Nat->be Nat):ac f7->ac f7->Bool
 |[],[]=>true
 |e::es,f::bO=>dm e.key f.key&&fF cx e.key f.key&&fF cx e.val f.val&&Nat.beq e.born f.born&&wh cx es bO
 |_,_=>false
theorem PT{cx:Nat->be Nat}:∀(es bO:ac f7),wh cx es bO=true->es.length=bO.length/\∀(i:Nat) (h:i<es.length) (D:i<bO.length),es[i].key=bO[i].key/\fF cx es[i].key bO[i].key=true/\fF cx es[i].val bO[i].val=true/\es[i].born=bO[i].born
 |[],[],_=>⟨j,λi h=>by simp at h⟩
 |e::es,f::bO,h=>by
  simp only[wh,cO]at h;obtain⟨⟨⟨⟨aF,aL⟩,g⟩,d⟩,u⟩:=h;obtain⟨bH,s⟩:=PT es bO u;refine⟨by simp[bH],λi a b=>?_⟩;cases i with
  |zero=>exact⟨jH _ _ aF,aL,g,dM d⟩
  |succ i=>exact s i (by simpa using a) (by simpa using b)
 |[],_::_,h=>by simp[wh]at h
 |_::_,[],h=>by simp[wh]at h
theorem acG(D:EI cx aG cY){bu:Nat->Nat}{C:ac f7}(aA:wh cx es ey=true)(h:iI cY bu ey c C iu):iI aG bu es c C iu:=by
 obtain⟨bH,d⟩:=PT es ey aA;obtain⟨L,hp,a',W⟩:=h.same
 let g:f7->f7:=λG=>(hR G.key es).getD G
 have H:es.Pairwise (λa b=>a.key≠b.key):=by
  rw[kP];intro i j af y z;rw[(d i af R).1,(d j y R).1];exact kP.1 h.keys i j R R z
 have aa:∀(i:Nat) af (u:i<es.length),g ey[i]=es[i]:=by
  intro i af u;show(hR ey[i].key es).getD ey[i]=es[i];rw[EJ H (dx u) (d i u af).1];rfl
 have J:ey.map g=es:=by
  apply z5
  ·simp[bH]
  ·grind
 refine⟨h.iu,h.mr,λe Y=>?_,H,?_,L.map g,by rw[<-J];exact hp.map g,by simp[a'],?_⟩
 ·obtain⟨i,af,rfl⟩:=k8 Y;rw[(d i af R).2.2.2];exact h.born _<|dx _
 ·rw[kP];intro i j af y z;rw[(d i af R).2.2.2,(d j y R).2.2.2];exact kP.1 h.js i j R R z
 ·intro i a b;have B:i<L.length:=by omega
  rw[tw];have A:=W i B b;obtain⟨s,M,I⟩:=k8<|hp.mem_iff.1<|dx B;have S:s<es.length:=R
  have K:g L[i]=es[s]:=by grind
  obtain⟨O,cw,dg,fY⟩:=d s S M;rw[I]at O cw dg fY;rw[K];exact⟨yz D A.1 _ cw,yz D A.2.1 _ dg,by rw[A.2.2,fY]⟩
def nK(ae:Nat)(l:ac (Nat×Nat))(i:Nat):be Nat:=if i<ae then some i else(l.find? λp=>Nat.beq p.1 i).map (·.2)
def nL(hj:Bool)(cx:Nat->be Nat):bz->bz->Bool
 |.cells cs e d aU,.cells j h g s=>Nat.beq e h&&Nat.beq d.1 g.1&&Nat.beq d.2 g.2&&(aU==s)&&wg cx cs j
 |.map es c,.map ey cM=>if hj then Nat.beq c cM&&wh cx es ey else Ju cx es c ey
 |_,_=>false
def ao.Bl(q:Nat->α->Bool):ao α->(Nat->Nat)->Bool
 |.nil,_=>true
 |.node l v r,g=>(match v with|some x=>q (g 0) x|none=>true)&&ao.Bl q l (λn=>g<|2*n+1)&&ao.Bl q r λn=>g<|2*n+2
theorem ao.Jw{q:Nat->α->Bool}:∀(t:ao α) (g:Nat->Nat),ao.Bl q t g=true->∀n x,t.get n=some x->q (g n) x=true
 |.nil,_,_,n,x,h=>by simp at h
 |.node l v r,g,d,n,x,h=>by
  simp[ao.Bl,cO]at d;obtain⟨⟨aF,aL⟩,j⟩:=d;cases n with
  |zero=>subst h;exact aF
  |succ m=>
   rw[ao.oq]at h;split at h
   ·have:=ao.Jw l _ aL _ x h
    grind
   ·have:=ao.Jw r _ j _ x h
    grind
def wi(ae:Nat)(l:ac (Nat×Nat))(v:bv)(st:aj)(v2:bv)(e6:aj):Bool:=
 fF (nK ae l) v v2&&Nat.ble ae st.ae&&(l.all λp=>Nat.ble ae p.1&&Nat.ble (Nat.succ p.1) st.ae&&Nat.ble ae p.2)&&(l.all λp=>l.all λq=> !Nat.beq p.2 q.2||Nat.beq p.1 q.1)&&
 ao.Bl (λi U=>match nK ae l i with
  |some d=>(match e6.h.get d with|some eV=>nL (decide (i<ae)) (nK ae l) U eV|none=>false)
  |none=>false) st.h id
section
variable(ae:Nat)(l:ac (Nat×Nat))(st e6:aj)(cY:bF)
def rN(i J:Nat)(u:Loc):Nat->Nat:=
 match st.h.get i,e6.h.get J with
 |some (.map es c),some (.map ey cM)=>rM u.bu es c ey cM
 |_,_=>u.bu
def pq:bF:=λi=>
 if i<ae then cY i else((l.find? λp=>Nat.beq p.1 i).map (·.2)).bind λd=>(cY d).map λg=>{g with bu:=rN st e6 i d g}
end
variable{w:f5}{l:ac (Nat×Nat)}{e6:aj}{ab:bF}{ae:Nat}{v v2:bv}
def PU(ae:Nat)(l:ac (Nat×Nat))(st e6:aj)(cY:bF):EI (nK ae l) (pq ae l st e6 cY) cY:=by
 intro i j g d hm;unfold nK at d;unfold pq;split at d
 ·rename_i h;cases d;rw[aE h];exact⟨g.bu,hm⟩
 ·rename_i h;rw[aw h,d];simp[hm]
theorem bN.can{st:aj}(aS:wi ae l v st v2 e6=true)(bq:X.a3<=ae)(h:bN X cY e6 w):bN X (pq ae l st e6 cY) st w:=by
 have a':=PU ae l st e6 cY;unfold wi at aS;simp only[cO]at aS;obtain⟨⟨⟨⟨_,aW⟩,bg⟩,bl⟩,bk⟩:=aS;have aW:=lf.1 aW;have aV:∀p∈l,ae<=p.1/\p.1<st.ae/\ae<=p.2:=by
  intro p hp;have:=il.1 bg p hp;simp only[cO]at this;exact⟨lf.1 this.1.1,lf.1 this.1.2,lf.1 this.2⟩
 have bo:∀p∈l,∀q∈l,p.2=q.2->p.1=q.1:=by
  intro p hp q bc e;have:=il.1 (il.1 bl p hp) q bc
  simp_all
 have aN:∀i d,¬i<ae->(l.find? λp=>Nat.beq p.1 i).map (·.2)=some d->(i,d)∈l:=by
  intro i d _ O;obtain⟨p,hp,rfl⟩:=nt.1 O;have I:=z2 hp;have W:=z3 hp;have S:=dM W;subst S;exact I
 have K:∀i U,st.h.get i=some U->∃d eV,nK ae l i=some d/\e6.h.get d=some eV/\nL (decide (i<ae)) (nK ae l) U eV=true:=by
  intro i U z;have:=ao.Jw st.h id bk i U z
  grind
 have G:∀{hj:Bool} {U eV:bz},nL hj (nK ae l) U eV=true->eV≠.dead:=by
  intro hj U eV h e;subst e;cases U<;>simp[nL]at h
 have al:∀i d j,nK ae l i=some d->cY d=some j->pq ae l st e6 cY i=some {j with bu:=if i<ae then j.bu else rN st e6 i d j}:=by
  intro i d j y hm;unfold nK at y;unfold pq;split at y
  ·rename_i af;cases y;rw[aE af,aE af];exact hm
  ·grind
 have aP:∀i d U eV j,st.h.get i=some U->e6.h.get d=some eV->nL (decide (i<ae)) (nK ae l) U eV=true->cY d=some j->(if i<ae then j.bu else rN st e6 i d j)≠eH->j.bu≠eH:=by
  intro i d U eV j z u s D aa e;have O:=h.j0 d j eV D e u<|G s;apply aa;split
  ·exact e
  ·unfold rN;rw[z,u];cases eV<;>first|exact O.elim|(cases U<;>exact e)
 refine⟨λi U z a0=>?_,λi k U p a b af br aT bn aL aK M e=>?_,λi af=>?_,λi a B=>?_,λg M=>?_,R,λi a U B A z a0=>?_⟩
 ·obtain⟨d,eV,y,u,s⟩:=K i U z;obtain⟨j,D,hm⟩:=h.er d eV u<|G s;refine⟨_,al i d j y D,?_⟩;cases U with
  |cells cs e ax aU=>
   cases eV with
   |cells a7 a5 ay bh=>
    simp only[nL,cO]at s;obtain⟨⟨⟨⟨I,W⟩,S⟩,aO⟩,a2⟩:=s;have au:=dM I;have az:=Prod.ext (dM W)<|dM S;have a4:=z7 aO;subst au az a4;obtain⟨bH,H⟩:=Jt _ _ _ a2;obtain⟨C,ay,J⟩:=hm;exact⟨C,ay,J.there,by rw[bH];exact J.iU,by rw[bH];exact J.room,λi af=>by
     obtain⟨c,a6,a9⟩:=J.cell i R;exact⟨c,a6,yz a' a9 _<|H i af R⟩,by rw[bH];exact J.sy,by rw[bH];exact J.plain⟩
   |_=>simp[nL]at s
  |map es c=>
   cases eV with
   |map ey cM=>
    obtain⟨aB,aA,C,iu,aF,Y⟩:=hm;simp only[nL]at s;by_cases af:i<ae
    ·simp only[af,decide_true,if_true,cO]at s;have au:=dM s.1;subst au;refine⟨aB,aA,C,iu,aF,?_⟩;simp[af];exact acG a' s.2 Y
    ·simp[af]at s;refine⟨aB,aA,C,iu,aF,?_⟩;simp[af];have:rN st e6 i d j=rM j.bu es c ey cM:=by unfold rN;rw[z,u]
     rw[this];exact PS a' s Y
   |_=>simp[nL]at s
  |_=>cases eV<;>simp[nL]at s
 ·obtain⟨ah,eV,ad,u,aq⟩:=K i U af;obtain⟨H,aC,ai,aD,ar⟩:=K k p aT;obtain⟨aH,aJ,_⟩:=h.er ah eV u<|G aq;obtain⟨aI,an,_⟩:=h.er H aC aD<|G ar;rw[al i ah aH ad aJ]at aL;rw[al k H aI ai an]at aK;cases aL;cases aK;have az:=h.inj ah H eV aC aH aI u (G aq) aD (G ar) aJ an (M.imp (aP i ah U eV aH af u aq aJ)<|aP k H p aC aI aT aD ar an) e;subst az;unfold nK at ad ai;split at ad<;>split at ai
  ·cases ad;cases ai;rfl
  ·grind
  ·grind
  ·grind
 ·constructor
  ·unfold pq;rw[aw R];cases O:(l.find? λp=>Nat.beq p.1 i).map (·.2)with
   |none=>rfl
   |some d=>
    have:=aV _<|aN i d R O;omega
  ·cases M:st.h.get i with
   |none=>rfl
   |some U=>
    obtain⟨d,_,y,_⟩:=K i U M;unfold nK at y;rw[aw R]at y;have:=aV _<|aN i d R y;omega
 ·unfold pq at B;split at B
  ·exact h.fw i a B
  ·obtain⟨d,_,B⟩:=q8.1 B;obtain⟨j,D,rfl⟩:=nt.1 B;exact h.fw d j D
 ·unfold pq;rw[aE R];exact h.kh g M
 ·obtain⟨d,eV,y,u,s⟩:=K i U z;obtain⟨j,D,hm⟩:=h.er d eV u<|G s;have aY:=al i d j y D;rw[B]at aY;cases aY;cases U with
  |cells cs e ax aU=>
   cases eV with
   |cells a7 a5 ay bh=>
    have bb:j.bu=eH:=by
     by_cases af:i<ae
     ·rw[aE af]at A;exact A
     ·rw[aw af]at A;have:rN st e6 i d j=j.bu:=by unfold rN;rw[z]
      rw[<-this];exact A
    have bf:=h.j0 d j _ D bb u av;simp only[nL,cO]at s;obtain⟨⟨⟨⟨_,W⟩,S⟩,aO⟩,_⟩:=s;have b':=dM W;have bj:=dM S;show ax.1<ax.2;rw[b',bj];exact bf
   |_=>simp[nL]at s
  |map es c=>
   cases eV with
   |map ey cM=>
    exfalso;obtain⟨aB,aA,C,iu,aF,Y⟩:=hm;have aa:∀{bu:Nat->Nat} {aR:Nat},IP bu aR->bu≠eH:=by
     intro bu aR a1 e;have I:=a1.up 1;rw[e]at I;simp[eH]at I
    by_cases af:i<ae
    ·rw[aE af]at A;exact aa Y.mr A
    ·rw[aw af]at A;simp[af]at s;have:rN st e6 i d j=rM j.bu es c ey cM:=by unfold rN;rw[z,u]
     rw[this]at A;exact aa (PS a' s Y).mr A
   |_=>simp[nL]at s
  |_=>cases eV<;>simp[nL]at s
theorem dS.can{st:aj}{w':f5}(D:∀i,ae<=i->ab i=none)(h:dS ab cY w w')(aD:∀p∈l,ae<=p.2):dS ab (pq ae l st e6 cY) w w':=by
 refine⟨λi a d=>?_,h.size,h.kept,λi a d=>?_,h.fE⟩
 ·have af:i<ae:=by
   grind
  unfold pq;rw[aE af];exact h.le i a d
 ·unfold pq at d;split at d
  ·exact h.new i a d
  ·obtain⟨s,j,d⟩:=q8.1 d;obtain⟨u,y,rfl⟩:=nt.1 d;rcases h.new s u y with q|q|⟨k,m,g,g8,cw⟩
   ·obtain⟨p,hp,rfl⟩:=nt.1 j
    grind
   ·exact .inr<|.inl q
   ·exact .inr<|.inr ⟨k,m,g,g8,cw⟩
theorem gZ.can{b:dK}{bd:Bool->ac Frame}{s:Machine}{j:aj}{st:aj}{u:Bool}(D:bN X ab j w)(aS:wi j.ae l v st v2 e6=true)
 (h:gZ X ab w b bd s (.ret v2 e6 u)):gZ X ab w b bd s (.ret v st u):=by
 obtain⟨aG,I,w',F,C,G,g,d,z,A,B⟩:=h;have y:fF (nK j.ae l) v v2=true:=by
  unfold wi at aS;simp at aS;exact aS.1.1.1.1
 have H:∀p∈l,j.ae<=p.2:=by
  unfold wi at aS;simp only[cO]at aS;intro p hp;have:=il.1 aS.1.1.2 p hp
  simp_all
 exact⟨pq j.ae l st e6 aG,I,w',F,yz (PU _ _ _ _ _) C _ y,bN.can aS D.mu G,dS.can (λi af=>(D.fresh i af).1) g H,d,z,A,B⟩
def wj(call:bM)(res:ac gU)(r:cH):dQ:=
 cH.rec (motive:=λ_=>dQ)
  (λe o st=>c1.rec (motive:=λ_=>dQ) (fv call res none o st) (λ_=>.no) (fv call res none o st) (λv=>fv call res (some v) o st) e) .no r
def lS(call:bM)(n:Nat)(f:d7)(aZ:cJ)(as:ac bv)(st:aj):ac dQ:=
 ek (du as) aZ.aM ((gH call n f aZ.body ⟨ld as 0 .nil,[],none,false,none⟩ st).map<|wj call aZ.res) [.no]
theorem EK{call:bM}{st:aj}{bd:Bool->ac Frame}(I:Good X)(M:lk X call)(G:ue X call)(Y:∀b aM bd,b.b1=none->yv X call b aM bd){f:d7}{aZ:cJ}{Fn:Func}{body:Code}(ok:uf X f aZ Fn body)(n:Nat){K:CallKind}{as gG:ac bv}
 (O:bI ab as gG) (R:bN X ab st w) (D:iX ⟨f,K,none⟩ none ab bd) (u:∀r∈lS call n f aZ as st,r≠.no):
 ∃r∈lS call n f aZ as st,gZ X ab w ⟨f,K,none⟩ bd (lone (Frame.enter X.P f gG.toArray K) (bd false) w) r:=by
 unfold lS at u⊢;rw[lg]at u⊢;split
 ·rename_i z;rw[aE z]at u;rw[eP]at z
  let b:dK:=⟨f,K,none⟩
  have J:Frame.enter X.P f gG.toArray K=b.at ⟨gG.toArray++Array.replicate (aZ.aM-gG.toArray.size) undef,[]⟩ [.code body]:=by
   simp[Frame.enter,dK.at,ok.fn,ok.body,ok.aM,b]
  rw[J];have A:=acF I M (Y b aZ.aM bd j) ⟨Fn,ok.fn,ok.aM⟩ n aZ.body body ab ⟨ld as 0 .nil,[],none,false,none⟩ ⟨gG.toArray++Array.replicate (aZ.aM-gG.toArray.size) undef,[]⟩ st w [] ok.code (PJ O z) R (.inl eT) D;obtain⟨r,C,S⟩:=A (λr D e=>by subst e;exact u (wj call aZ.res .no) (cW.2 ⟨_,D,j⟩) j);refine⟨wj call aZ.res r,cW.2 ⟨r,C,j⟩,?_⟩;cases r with
  |no=>trivial
  |out e bs ak=>
   obtain⟨aG,a',w',s,y,d,_,_,g⟩:=S;cases e with
   |norm=>
    refine gZ.head (Steps.trans g<|.one<|PG j) d ?_;exact yx G ok.fn ok.res s y j j j j (rfl)
   |exit id=>trivial
   |ret=>
    obtain⟨H,h⟩:=g;refine gZ.head (Steps.trans h<|.one<|PH j) d ?_;exact yx G ok.fn ok.res s y j j j j (rfl)
   |aR v=>
    obtain⟨W,H,B,h⟩:=g;refine gZ.head h d ?_;exact yx G ok.fn ok.res s y j j j j ⟨W,B,j⟩
 ·grind
mutual
def yA:bv->ac Nat
 |.pointer (some a)=>[a.block]
 |.slice (some a) _ _=>[a.block]
 |.map (some r)=>[r]
 |.func _ x y=>EL x++EL y
 |.iface _ v=>yA v
 |.agg a=>EL a
 |.tuple a=>EL a
 |_=>[]
def EL:bi bv->ac Nat
 |⟨a⟩=>EM a
def EM:ac bv->ac Nat
 |[]=>[]
 |a::as=>yA a++EM as
end
variable{lT:ac Nat}
def PV:be bz->be bz->ac (Nat×Nat)
 |some (.cells cs _ _ _),some (.cells u _ _ _)=>(EM cs).zip (EM u)
 |some (.map es _),some (.map ey _)=>es.flatMap λe=>match hR e.key ey with|some j=>(yA e.val).zip (yA j.val)|none=>[]
 |_,_=>[]
def Jx(ae:Nat)(h u:ao bz):Nat->ac (Nat×Nat)->ac (Nat×Nat)->ac (Nat×Nat)
 |0,_,j=>j
 |_,[],j=>j
 |n+1,(a,b)::todo,j=>
  cond (Nat.ble (Nat.succ a) ae||j.any λp=>Nat.beq p.1 a) (Jx ae h u n todo j) (Jx ae h u n (PV (h.get a) (u.get b)++todo)<|(a,b)::j)
def acH(j:Nat)(h d:ao bz)(lT:ac Nat):ac (Nat×Nat):=lT.flatMap λi=>PV (h.get i)<|d.get i
def Jy(ae:Nat)(lT:ac Nat)(v:bv)(st:aj)(r:dQ):Bool:=
 dQ.rec (motive:=λ_=>Bool) (λv2 e6 d=>cond d false<|wi ae (Jx ae st.h e6.h 1000 ((yA v).zip (yA v2)++acH ae st.h e6.h lT) []) v st v2 e6) (λ_ _ _=>false) false r
def pr(lT:ac Nat)(ae:Nat)(v:bv)(st:aj)(L:ac dQ):Bool:=
 List.rec (motive:=λ_=>Bool) true (λr _ d=>cond (Jy ae lT v st r) d false) L
theorem PW{lT:ac Nat}{ae:Nat}{v:bv}{st:aj}:∀{L:ac dQ},pr lT ae v st L=true->∀r∈L,Jy ae lT v st r=true
 |[],_,r,d=>by cases d
 |x::xs,h,r,d=>by
  have g:=h;obtain⟨j,s⟩:=iT g av;rcases e1.1 d with rfl|d
  ·exact j
  ·exact PW s r d
def acI{st:aj}{r:dQ}(h:Jy ae lT v st r=true):∃v2 e6 l,r= .ret v2 e6 false/\wi ae l v st v2 e6=true:=by
 cases r with
 |no=>cases h
 |aR a b c=>cases h
 |ret v2 e6 d=>
  cases d with
  |true=>cases h
  |false=>exact⟨v2,e6,_,j,h⟩
def acJ{aI:ao cJ}{fy:nC}(j:Good X)(u:iZ X aI)(I:rK X fy){n:Nat}{f:d7}{aZ:cJ}{r:Row}(D:aI.get f=some aZ)
 (h:pr lT r.st.ae r.v r.ak (lS (b7 aI fy n) n f aZ r.as r.st)=true):ef X f r:=by
 obtain⟨Fn,c,ok⟩:=u f aZ D;obtain⟨A,s⟩:=uh j u I n;have g:=PW h;intro ab H w z y;refine⟨ok.enters,λK bd d=>?_⟩;obtain⟨q,C,G⟩:=EK j s A (λb aM bd _=>ug s b aM bd) ok n z y d (λr d e=>by
  have:=g r d;subst e;cases this)
 obtain⟨v2,e6,l,rfl,B⟩:=acI<|g q C;exact gZ.can y B G
end Go.bA
namespace Go.bA
variable{X:Ctx}{α:Type}
def Jz(X:Ctx)(aZ:cJ)(Fn:Func):Bool:=
 match Fn.body with
 |some c=>Nat.beq Fn.ntmps aZ.aM&&codeOk X aZ.aM aZ.body c&&sF X aZ.res Fn.results.toList&& !(Fn.name== "runtime.NumGoroutine")
 |none=>false
def acK{f:d7}{aZ:cJ}{Fn:Func}(j:X.P.funcs[f]? =some Fn)(h:Jz X aZ Fn=true):∃Fn c,uf X f aZ Fn c:=by
 unfold Jz at h;split at h
 ·rename_i c y;simp only[cO]at h;obtain⟨⟨⟨s,u⟩,g⟩,d⟩:=h;exact⟨Fn,c,j,y,dM s,u,g,by simpa using d⟩
 ·cases h
def ao.Bm(Q:Nat->α->Prop):ao α->(Nat->Nat)->Prop
 |.nil,_=>True
 |.node l v r,g=>(match v with|some x=>Q (g 0) x|none=>True)/\ao.Bm Q l (λn=>g<|2*n+1)/\ao.Bm Q r λn=>g<|2*n+2
theorem ao.JA{Q:Nat->α->Prop}:∀(t:ao α) (g:Nat->Nat),ao.Bm Q t g->∀n x,t.get n=some x->Q (g n) x
 |.nil,_,_,n,x,h=>by simp at h
 |.node l v r,g,d,n,x,h=>by
  obtain⟨aF,aL,j⟩:=d;cases n with
  |zero=>subst h;exact aF
  |succ m=>
   rw[ao.oq]at h;split at h
   ·rename_i hm;have:=ao.JA l _ aL _ x h
    grind
   ·rename_i hm;have:=ao.JA r _ j _ x h
    grind
def acL{aI:ao cJ}(h:ao.Bm (λf aZ=>∃Fn c,uf X f aZ Fn c) aI id):iZ X aI:=
 λf aZ d=>ao.JA aI id h f aZ d
def fZ:nC:=λ_ _ _=>none
def gv(X:Ctx):rK X fZ:=λ_ _ _ _ h=>by cases h
structure yB where
 P:f8
 a3:Nat
 kR:d7->Bool
 lb:d7->Bool
 AP:∀f,kR f=true->∀x w,(callFunc f #[x]).run P w= .ok (.value x) w
 AQ:∀f,lb f=true->∀s c w,(callFunc f #[.string s,.int .u8 c]).run P w= .ok (.value (goInt (match(List.range s.size).find? (fun i=>s[i]! ==c.toNat.toUInt8)with|some i=>(i:Int)|none=> -1))) w
 keys:co->be fr
 rB:∀k cp,keys k=some cp->Maps.Keyed P k∧∀v,cp.ok v=true->∃l,keyOf P k v=some l
 pg:d7->Bool
 AR:∀f,pg f=true->∀s c w,(callFunc f #[.string s,.int .u8 c]).run P w= .ok (.value (goInt (s.data.toList.countP (fun b=>b==c.toNat.toUInt8):Nat))) w
 ph:d7->Bool
 lj:Nat
 AS:lj<a3
 AT:∀f,ph f=true->∀(s b:f9) (m:Int) w,(load ⟨lj,0,none⟩).run P w= .ok (.int .i64 m) w->2<=b.size->(b.size:Int)<=m->s.size<=1000000->
  (callFunc f #[.string s,.string b]).run P w= .ok (.value (goInt (match pa b.data.toList s.data.toList with|some i=>(i:Int)|none=> -1))) w
 eqs:co->be Nat
 vY:∀t n,eqs t=some n->P.eqGuardType P.depth t=false∧∀xs aQ b w,xs.size=n%100+n/100->aQ.size=n%100+n/100->qg (n%100) xs.toList aQ.toList=some b->(Op.equalIn 10000 t (.agg xs) (.agg aQ)).run P w= .ok b w
def yB.with(B:yB)(ok:d7->Code->dk->Prop):Ctx:=
 {P:=B.P,ok:=ok,a3:=B.a3,kR:=B.kR,lb:=B.lb,AP:=B.AP,AQ:=B.AQ,keys:=B.keys,rB:=B.rB,pg:=B.pg,AR:=B.AR,ph:=B.ph,lj:=B.lj,AS:=B.AS,AT:=B.AT,eqs:=B.eqs,vY:=B.vY}
def mkCtx(B:yB):Ctx:=B.with λfn c d=>∃F,B.P.funcs[fn]? =some F/\codeOk (B.with λ_ _ _=>False) F.ntmps d c=true
def acM(B:yB)(ok d:d7->Code->dk->Prop):codeOk (B.with ok)=codeOk (B.with d):=br
def acN(B:yB)(j:B.P.follows .mixedOrders=true):Good (mkCtx B):=by
 refine⟨j,λfn c d=>?_⟩;have e:codeOk (mkCtx B)=codeOk (B.with λ_ _ _=>False):=acM B _ _;rw[e];exact Iff.rfl
section
variable{X:Ctx}
theorem bN.PX{ab:bF}{st:aj}{w:f5}(h:bN X ab st w){g:Nat}{u:bv}{el:co}{D:Nat×Nat}{aU:Bool}(G:st.h.get g=some (.cells [u] el D aU)):
 ∃c,bc ab u c/\∀y,bc ab y c->bN X ab ⟨st.h.set g<|.cells [y] el D aU,st.ae⟩ w:=by
 obtain⟨l,ad,C,R,j⟩:=h.er _ _ G av;obtain⟨c,au,al⟩:=j.cell 0 av;refine⟨c,by simpa using al,λy aq=>⟨λi U d z=>?_,λi A U p a b af ah I ai s a' K e=>?_,λi af=>?_,h.fw,h.kh,h.mu,λi a U s B d z=>?_⟩⟩
 ·rw[ao.ee]at d;by_cases e:i=g
  ·rw[aE e]at d;cases d;subst e;refine⟨l,ad,C,R,j.there,j.iU,j.room,λA I=>?_,j.sy,j.plain⟩
   grind
  ·rw[aw e]at d;exact h.er i U d z
 ·have H:∀k q,(st.h.set g<|.cells [y] el D aU).get k=some q->q≠.dead->∃J,st.h.get k=some J/\J≠.dead:=by
   intro k q aa ar;rw[ao.ee]at aa
   grind
  obtain⟨an,W,Y⟩:=H i U af ah;obtain⟨S,O,M⟩:=H A p I ai;exact h.inj i A an S a b W Y O M s a' K e
 ·have:=h.fresh i af;refine⟨this.1,?_⟩;rw[ao.ee,aw]
  ·exact this.2
  ·grind
 ·rw[ao.ee]at d;by_cases e:i=g
  ·rw[aE e]at d;cases d;subst e;show D.1<D.2;exact h.j0 i a _ s B G av
  ·rw[aw e]at d;exact h.j0 i a U s B d z
def Row.oA(r:Row)(g:Nat)(el:co)(c:Nat):Row:=
 ⟨r.as,⟨r.st.h.set g<|.cells [.chan<|some c] el (0,1) false,r.st.ae⟩,r.v,⟨r.ak.h.set g<|.cells [.chan<|some c] el (0,1) false,r.ak.ae⟩⟩
theorem acO{st:aj}{g:Nat}{U cy:bz}(h:st.h.get g=some U):aj.le st ⟨(st.h.set g cy).set g U,st.ae⟩:=by
 refine⟨j,λn x d=>?_⟩;rw[ao.ee];by_cases e:n=g
 ·grind
 ·rw[aw e,ao.ee,aw e];exact d
def sH{f:d7}{r:Row}{g n:Nat}{el:co}(bX:r.st.h.get g=some (.cells [.chan<|some 1] el (0,1) false))(M:r.ak.h.get g=some (.cells [.chan<|some 1] el (0,1) false))
 (aF:ef X f (r.oA g el<|2*n+2)) (aL:ef X f (r.oA g el<|2*n+3)):ef X f r:=by
 intro ab d w u H;obtain⟨c,G,S⟩:=H.PX bX;obtain⟨m,rfl,_⟩:=G.A8 al;have key:∀k,IK k m->ef X f (r.oA g el k)->(∀as w,(callFunc f as).run X.P w= .ok (.enter f as) w)/\
  ∀(K:CallKind) bd,iX ⟨f,K,none⟩ none ab bd->gZ X ab w ⟨f,K,none⟩ bd (lone (Frame.enter X.P f d.toArray K) (bd false) w) (.ret r.v r.ak false):=by
  intro k s J;obtain⟨B,cw⟩:=J ab d w u<|S _<|.hF k m s;refine⟨B,λK bd z=>?_⟩;obtain⟨aG,O,w',F,D,y,a2,cD⟩:=cw K bd z;obtain⟨W,I,A⟩:=bN.PX y (by show(r.ak.h.set g _).get g=_;rw[ao.mn]);obtain⟨C,rfl,_⟩:=I.A8 (by intro e;rcases s with h|⟨_,h,_⟩|⟨_,h,_⟩<;>omega);have cX:=A (.chan<|some 1)<|.hF 1 C mw;exact⟨aG,O,w',F,D,bN.less (acO M) cX,a2,cD⟩
 by_cases hm:n<=m
 ·exact key _ (.inr<|.inl ⟨n,j,hm⟩) aF
 ·exact key _ (.inr<|.inr ⟨n,j,R⟩) aL
end
end Go.bA
namespace Go.bA
variable{P:f8}
def PY(i:Nat)(d:be TypeDesc):Bool:=match i,d with
 |0,some .string=>true
 |_+1,some (.int _)=>true
 |_,_=>false
def EN(P:f8):ac Field->Nat->Nat->Bool
 |[],_,_=>true
 |f::bO,i,U=>Nat.beq f.offset U&&f.name != "_"&&PY i (P.underlying f.type)&&EN P bO (i-1) (U+1)
def JB(P:f8)(t n:Nat):Bool:=match P.underlying t with
 |some (.struct bO)=> !P.stoodInHeld t&&Nat.beq bO.size (n%100+n/100)&&EN P bO.toList (n%100) 0&& !P.eqGuardType P.depth t
 |_=>false
theorem PZ(w:f5)(d:Nat)(xs aQ:bi bv):∀(bO:ac Field) (i U:Nat) (b:Bool),EN P bO i U=true->qg i (xs.toList.drop U) (aQ.toList.drop U)=some b->xs.size=U+bO.length->aQ.size=U+bO.length->
 (Op.eqFields (d+1) xs aQ bO).run P w= .ok b w
 |[],i,U,b,_,he,C,D=>by
  rw[xN<|by grind,xN<|by grind]at he;cases he;simp[Op.eqFields]
 |f::bO,i,U,b,A,he,C,D=>by
  unfold EN at A;simp only[cO]at A;obtain⟨⟨⟨aF,aL⟩,W⟩,M⟩:=A;have aF:=dM aF;have ah:f.name≠ "_":=by grind
  rw[hN]at C D;have K:U<xs.toList.length:=by simp;omega
  have ad:U<aQ.toList.length:=by simp;omega
  rw[vn K,vn ad]at he;obtain⟨y,g,he⟩:=hS he av;have aa:∃u,qg (i-1) (xs.toList.drop<|U+1) (aQ.toList.drop<|U+1)=some u/\b=(y&&u):=by
   cases y
   ·obtain⟨u,B,al⟩:=hS he av;cases al;exact⟨u,B,j⟩
   ·exact⟨b,he,av⟩
  obtain⟨u,B,aj⟩:=aa;have S:=PZ w d xs aQ bO (i-1) (U+1) u M B R R;have Y:xs[f.offset]? =some xs.toList[U]:=by grind
  have a':aQ[f.offset]? =some aQ.toList[U]:=by grind
  generalize xs.toList[U]=x at *;generalize aQ.toList[U]=z at *;have I:(i=0/\P.underlying f.type=some .string)\/(i≠0/\∃k,P.underlying f.type=some (.int k)):=by
   unfold PY at W
   grind
  have hp:∀(cs:bi bv) v,cs[f.offset]? =some v->(part f.type cs f.offset).run P w= .ok v w:=by
   intro cs v h;rcases I with⟨_,s⟩|⟨_,k,s⟩
   ·simp[part,isAgg,run_underlying s,h]
   ·simp[part,isAgg,run_underlying s,h]
  have an:(Op.equalIn (d+1) f.type x z).run P w= .ok y w:=by
   rcases I with⟨af,s⟩|⟨af,k,s⟩
   ·subst af;have g:DR x z=some y:=g;unfold DR at g;split at g
    ·cases g;rw[run_equalIn_string w d f.type _ _ s,toList_eq]
    ·cases g
   ·obtain⟨J,rfl⟩:∃J,i=J+1:=⟨i-1,R⟩;have H:=g;cases x<;>cases z<;>try (cases H)
    rename_i bH m G n;have g:=H;have g:(if bH=G then some (m==n)else none)=some y:=g;by_cases e:bH=G
    ·subst e;rw[aE j]at g;cases g;exact run_equalIn_int w d f.type _ k _ _ s
    ·rw[aw e]at g;cases g
  have O:=hp xs x Y;have ai:=hp aQ z a';simp[Op.eqFields,ah,ne_eq,not_false_eq_true,if_true,Sem.run_bind,O,ai,an,Result.andThen_ok];rw[aj];cases y
  ·simp
  ·simpa using S
def acP{t n:Nat}(h:JB P t n=true):P.eqGuardType P.depth t=false/\∀xs aQ b w,xs.size=n%100+n/100->aQ.size=n%100+n/100->qg (n%100) xs.toList aQ.toList=some b->(Op.equalIn 10000 t (.agg xs)<|.agg aQ).run P w= .ok b w:=by
 unfold JB at h;split at h
 ·rename_i bO j;simp only[cO]at h;obtain⟨⟨⟨y,g⟩,u⟩,s⟩:=h;have g:=dM g;have d:P.fieldsOf t=bO:=by simp[Program.fieldsOf,j]
  refine⟨by simpa using s,λxs aQ b w A B z=>?_⟩;rw[run_equalIn_struct w (9998+1) t xs aQ (by rw[d];exact j)<|by simpa using y,d];exact PZ w 9998 xs aQ bO.toList _ 0 b u (by simpa using z) dA dA
 ·cases h
end Go.bA
namespace Go.bA
inductive fG(ai:Nat->Nat->Prop):Value->Value->Prop
 |bool (b:Bool):fG ai (.bool b) (.bool b)
 |int (k:IntKind) (n:Int):fG ai (.int k n) (.int k n)
 |string (s:ByteArray):fG ai (.string s) (.string s)
 |kV:fG ai (.pointer none) (.pointer none)
 |ptr (a b:Addr) (h:ai a.block b.block) (OA:a.off=b.off) (acQ:a.spot=none) (aA:b.spot=none):fG ai (.pointer (some a)) (.pointer (some b))
 |jZ (n c:Nat):fG ai (.slice none n c) (.slice none n c)
 |fg (a b:Addr) (n c:Nat) (h:ai a.block b.block) (OA:a.off=b.off) (acQ:a.spot=none) (aA:b.spot=none):fG ai (.slice (some a) n c) (.slice (some b) n c)
 |mo:fG ai (.map none) (.map none)
 |map (i J:Nat) (h:ai i J):fG ai (.map (some i)) (.map (some J))
 |func (f:FuncId) (xs aQ us ad:Array Value) (aF:xs.size=aQ.size) (aL:∀i (h:i<xs.size) (tT:i<aQ.size),fG ai xs[i] aQ[i])
  (aa3:us.size=ad.size) (aa4:∀i (h:i<us.size) (tT:i<ad.size),fG ai us[i] ad[i]):fG ai (.func (.func f) xs us) (.func (.func f) aQ ad)
 |nilFunc:fG ai .nilFunc .nilFunc
 |iface (t:TypeId) (v w:Value) (h:fG ai v w):fG ai (.iface t v) (.iface t w)
 |nilIface:fG ai .nilIface .nilIface
 |agg (xs aQ:Array Value) (aF:xs.size=aQ.size) (aL:∀i (h:i<xs.size) (tT:i<aQ.size),fG ai xs[i] aQ[i]):fG ai (.agg xs) (.agg aQ)
 |tuple (xs aQ:Array Value) (aF:xs.size=aQ.size) (aL:∀i (h:i<xs.size) (tT:i<aQ.size),fG ai xs[i] aQ[i]):fG ai (.tuple xs) (.tuple aQ)
 |chan (c:Nat):fG ai (.chan (some c)) (.chan (some c))
variable{v w:bv}
def fG.mono{ai S:Nat->Nat->Prop}(hle:∀i J,ai i J->S i J)(h:fG ai v w):fG S v w:=by
 induction h with
 |bool b=>exact .bool b
 |int k n=>exact .int k n
 |string s=>exact .string s
 |kV=>exact .kV
 |ptr a b h y u z=>exact .ptr a b (hle _ _ h) y u z
 |jZ n c=>exact .jZ n c
 |fg a b n c h y u z=>exact .fg a b n c (hle _ _ h) y u z
 |mo=>exact .mo
 |map i J h=>exact .map i J (hle _ _ h)
 |func f xs aQ D G g _ A _ B C=>exact .func f xs aQ D G g B A C
 |nilFunc=>exact .nilFunc
 |iface t v w _ d=>exact .iface t v w d
 |nilIface=>exact .nilIface
 |agg xs aQ g _ d=>exact .agg xs aQ g d
 |tuple xs aQ g _ d=>exact .tuple xs aQ g d
 |chan c=>exact .chan c
def fG.symm{ai:Nat->Nat->Prop}(h:fG ai v w):fG (λJ i=>ai i J) w v:=by
 induction h with
 |bool b=>exact .bool b
 |int k n=>exact .int k n
 |string s=>exact .string s
 |kV=>exact .kV
 |ptr a b h y u z=>exact .ptr b a h y.symm z u
 |jZ n c=>exact .jZ n c
 |fg a b n c h y u z=>exact .fg b a n c h y.symm z u
 |mo=>exact .mo
 |map i J h=>exact .map J i h
 |func f xs aQ D G g _ A _ B C=>exact .func f aQ xs G D g.symm (λi a b=>B i b a) A.symm (λi a b=>C i b a)
 |nilFunc=>exact .nilFunc
 |iface t v w _ d=>exact .iface t w v d
 |nilIface=>exact .nilIface
 |agg xs aQ g _ d=>exact .agg aQ xs g.symm (λi a b=>d i b a)
 |tuple xs aQ g _ d=>exact .tuple aQ xs g.symm (λi a b=>d i b a)
 |chan c=>exact .chan c
def fG.Bn{ai:Nat->Nat->Prop}{M aG:bF}(D:∀i J l,ai i J->M i=some l->aG J=some l){c:bv}(h:fG ai v c):∀{x:bv},bc M v x->bc aG c x:=by
 induction h with
 |bool b=>intro x d;cases d;exact .bool b
 |int k n=>intro x d;cases d;exact .int k n
 |string s=>intro x d;cases d;exact .string s
 |kV=>intro x d;cases d;exact .kV
 |ptr a b h K S G=>
  intro x d;cases d with
  |ptr a l B a'=>rw[K];exact .ptr b l (D _ _ _ h B) G
 |jZ n c=>intro x d;cases d;exact .jZ n c
 |fg a b n c h K S G=>
  intro x d;cases d with
  |fg a l U n c B a' I=>exact .fg b l U n c (D _ _ _ h B) G R
 |mo=>intro x d;cases d;exact .mo
 |map i J h=>intro x d;cases d with|map r b bu B=>exact .map J b bu (D _ _ _ h B)
 |func f xs aQ ar aj A _ I _ ag ah=>
  intro x d;cases d with
  |func aq g H C an ad Y z u a2 cD=>
   refine .func _ _ aQ C aj ad ?_ (A.symm.trans z) (λi a b=>ag i R a<|u i R b) (I.symm.trans a2) λi a b=>ah i R a<|cD i R b;rcases Y with⟨e,W⟩|⟨l,b,e,_⟩
   ·exact .inl ⟨e,W⟩
   ·cases e
 |nilFunc=>intro x d;cases d;exact .nilFunc
 |iface t v w _ y=>intro x d;cases d with|iface t v al aa=>exact .iface t w al (y aa)
 |nilIface=>intro x d;cases d;exact .nilIface
 |agg xs aQ A _ y=>intro x d;cases d with|agg H C z u=>exact .agg aQ C (A.symm.trans z) (λi a b=>y i R a<|u i R b)
 |tuple xs aQ A _ y=>intro x d;cases d with|tuple H C z u=>exact .tuple aQ C (A.symm.trans z) (λi a b=>y i R a<|u i R b)
 |chan c=>
  intro x d;by_cases O:c=0
  ·subst O;exact .top x
  ·obtain⟨m,rfl,af⟩:=d.A8 O;exact .hF c m af
def j4(ai:Nat->Nat->Prop)(xs aQ:ac bv):Prop:=xs.length=aQ.length/\∀(i:Nat) (h:i<xs.length) (d:i<aQ.length),fG ai xs[i] aQ[i]
variable{xs:ac bv}{aQ:bi bv}
def j4.mono{ai S:Nat->Nat->Prop}(hle:∀i J,ai i J->S i J){aQ:ac bv}(h:j4 ai xs aQ):j4 S xs aQ:=⟨h.1,λi a b=>(h.2 i a b).mono hle⟩
def j4.symm{ai:Nat->Nat->Prop}{aQ:ac bv}(h:j4 ai xs aQ):j4 (λJ i=>ai i J) aQ xs:=⟨h.1.symm,λi a b=>(h.2 i b a).symm⟩
def j4.nil(ai:Nat->Nat->Prop):j4 ai [] []:=⟨j,λi h=>by simp at h⟩
def j4.cons{ai:Nat->Nat->Prop}{x y:bv}{xs aQ:ac bv}(h:fG ai x y)(j:j4 ai xs aQ):j4 ai (x::xs) (y::aQ):=by
 refine⟨by simp[j.1],λi a b=>?_⟩;cases i with
 |zero=>exact h
 |succ i=>exact j.2 i (by simpa using a)<|by simpa using b
def j4.acR{ai:Nat->Nat->Prop}{D aG:bF}(G:∀i J l,ai i J->D i=some l->aG J=some l){ad cs:ac bv}(h:j4 ai ad cs)(u:bI D ad xs):bI aG cs xs:=
 ⟨h.1.symm.trans u.1,λi a b=>(h.2 i (by have:=h.1;omega) a).Bn G<|u.2 i (by have:=h.1;omega) b⟩
def fG.P0{ai:Nat->Nat->Prop}{xs:bi bv}(h:j4 ai xs.toList aQ.toList):fG ai (.agg xs) (.agg aQ):=
 .agg xs aQ (by simpa using h.1) λi a b=>by have:=h.2 i R R;rwa [ky,ky]at this
def fG.tuple'{ai:Nat->Nat->Prop}{xs:bi bv}(h:j4 ai xs.toList aQ.toList):fG ai (.tuple xs) (.tuple aQ):=
 .tuple xs aQ (by simpa using h.1) λi a b=>by have:=h.2 i R R;rwa [ky,ky]at this
def fG.P1{ai:Nat->Nat->Prop}{f:d7}{xs us ad:bi bv}(h:j4 ai xs.toList aQ.toList)(j:j4 ai us.toList ad.toList):fG ai (.func (.func f) xs us) (.func (.func f) aQ ad):=
 .func f xs aQ us ad (by simpa using h.1) (λi a b=>by have:=h.2 i R R;rwa [ky,ky]at this) (by simpa using j.1) λi a b=>by have:=j.2 i R R;rwa [ky,ky]at this
inductive iY{α β:Type}(ai:α->β->Prop):List α->List β->Prop
 |nil:iY ai [] []
 |cons {a:α} {b:β} {as:List α} {bZ:List β} (h:ai a b) (cv:iY ai as bZ):iY ai (a::as) (b::bZ)
variable{α β:Type}{as:ac α}
def iY.mono{ai S:α->β->Prop}(hle:∀a b,ai a b->S a b){bZ:ac β}(h:iY ai as bZ):iY S as bZ:=by
 induction h with
 |nil=>exact .nil
 |cons h _ d=>exact .cons (hle _ _ h) d
def iY.flip{ai:α->β->Prop}{bZ:ac β}(h:iY ai as bZ):iY (λb a=>ai a b) bZ as:=by
 induction h with
 |nil=>exact .nil
 |cons h _ d=>exact .cons h d
def iY.perm{ai:α->β->Prop}{l es:ac α}(hp:l.Perm es):∀{bO:ac β},iY ai es bO->∃m:ac β,m.Perm bO/\iY ai l m:=by
 induction hp with
 |nil=>intro bO h;cases h;exact⟨[],.refl _,.nil⟩
 |cons x _ z=>
  intro bO h;cases h with
  |cons h d=>obtain⟨m,g,j⟩:=z d;exact⟨_::m,.cons _ g,.cons h j⟩
 |swap x C l=>
  intro bO h;cases h with
  |cons h d=>cases d with|cons y d=>exact⟨_::_::_,.swap _ _ _,.cons y<|.cons h d⟩
 |trans _ _ s B=>
  intro bO h;obtain⟨m,g,j⟩:=B h;obtain⟨n,A,u⟩:=s j;exact⟨n,A.trans g,u⟩
def iY.len{ai:α->β->Prop}{bZ:ac β}(h:iY ai as bZ):as.length=bZ.length:=by
 induction h with
 |nil=>rfl
 |cons _ _ d=>simp[d]
theorem iY.at{α β:Type}{ai:α->β->Prop}{as:ac α}{bZ:ac β}(h:iY ai as bZ):∀(i:Nat) (a:i<as.length) (b:i<bZ.length),ai as[i] bZ[i]:=by
 induction h with
 |nil=>intro i a;simp at a
 |cons h _ d=>
  grind
structure oB(ai:Nat->Nat->Prop)(e f:f7):Prop where
 key:e.key=f.key
 JC:fG ai e.key f.key
 val:fG ai e.val f.val
 born:e.born=f.born
variable{e f:f7}
def oB.mono{ai S:Nat->Nat->Prop}(hle:∀i J,ai i J->S i J)(h:oB ai e f):oB S e f:=⟨h.key,h.JC.mono hle,h.val.mono hle,h.born⟩
def oB.symm{ai:Nat->Nat->Prop}(h:oB ai e f):oB (λJ i=>ai i J) f e:=⟨h.key.symm,h.JC.symm,h.val.symm,h.born.symm⟩
inductive kj(ai:Nat->Nat->Prop):bz->bz->Prop
 |cells (cs aN:List Value) (e:TypeId) (bT:Nat×Nat) (aU:Bool) (h:j4 ai cs aN):kj ai (.cells cs e bT aU) (.cells aN e bT aU)
 |map (es bO:List MapEntry) (c:Nat) (h:iY (oB ai) es bO):kj ai (.map es c) (.map bO c)
variable{U p:bz}
def kj.mono{ai S:Nat->Nat->Prop}(hle:∀i J,ai i J->S i J)(h:kj ai U p):kj S U p:=by
 cases h with
 |cells cs g e d aU h=>exact .cells cs g e d aU (h.mono hle)
 |map es bO c h=>exact .map es bO c<|h.mono λ_ _ h=>h.mono hle
def kj.symm{ai:Nat->Nat->Prop}(h:kj ai U p):kj (λJ i=>ai i J) p U:=by
 cases h with
 |cells cs g e d aU h=>exact .cells g cs e d aU h.symm
 |map es bO c h=>exact .map bO es c<|h.flip.mono λ_ _ h=>h.symm
def kj.live{ai:Nat->Nat->Prop}(h:kj ai U p):U≠.dead/\p≠.dead:=by cases h<;>simp
def kj.sz{ai:Nat->Nat->Prop}(h:kj ai U p):U.sz↔p.sz:=by cases h<;>exact Iff.rfl
variable{X:Ctx}
theorem kj.P2{ai:Nat->Nat->Prop}{M aG:bF}(D:∀i J l,ai i J->M i=some l->aG J=some l)(h:kj ai U p){w:f5}{l:Loc}(hm:g6 X M w U l):g6 X aG w p l:=by
 cases h with
 |cells cs aw e au aU h=>
  obtain⟨C,ad,u⟩:=hm;refine⟨C,ad,u.there,by rw[<-h.1];exact u.iU,by rw[<-h.1];exact u.room,λi af=>?_,by rw[<-h.1];exact u.sy,by rw[<-h.1];exact u.plain⟩;have O:i<cs.length:=by rw[h.1];exact af
  obtain⟨c,s,g⟩:=u.cell i O;exact⟨c,s,(h.2 i O af).Bn D g⟩
 |map es bO c h=>
  obtain⟨al,aq,C,cM,s,g⟩:=hm;have K:∀f∈bO,∃e∈es,oB ai e f:=by
   clear s g;intro f y
   induction h with
   |nil=>cases y
   |cons h _ G=>
    grind
  have B:∀(Q:f7->f7->Prop),(∀a b c d,oB ai a c->oB ai b d->Q a b->Q c d)->es.Pairwise Q->bO.Pairwise Q:=by
   intro Q ax hp;clear s g K
   induction h with
   |nil=>exact .nil
   | @cons a b as bZ h a' G=>
    rw[ns]at hp⊢;refine⟨λd z=>?_,G hp.2⟩;have:∃e∈as,oB ai e d:=by
     induction a' with
     |nil=>cases z
     |cons W _ ar=>
      rcases e1.1 z with rfl|z
      ·exact⟨_,av,W⟩
      ·simp_all
    grind
  refine⟨al,aq,C,cM,s,g.iu,g.mr,λf y=>?_,B _ (λa b c d s g A=>by rw[<-s.key,<-g.key];exact A) g.keys,B _ (λa b c d s g A=>by rw[<-s.born,<-g.born];exact A) g.js,?_⟩
  ·obtain⟨e,an,S⟩:=K f y;rw[<-S.born];exact g.born e an
  ·obtain⟨ah,aj,Y,a2⟩:=g.same;obtain⟨m,bH,I⟩:=h.perm aj;refine⟨m,bH,I.len.symm.trans Y,λi a b=>?_⟩;have H:i<ah.length:=by omega
   obtain⟨aa,cw,dg⟩:=a2 i H b;have q:=I.at i H a;exact⟨q.JC.Bn D aa,q.val.Bn D cw,by rw[dg,q.born]⟩
end Go.bA
namespace Go.bA
structure dn where
 cx:ao Nat
 inv:ao Nat
 aX:Nat
def dn.ai(s:dn)(i J:Nat):Prop:=s.cx.get i=some J
structure dn.Ok(s:dn):Prop where
 iff:∀i J,s.cx.get i=some J↔s.inv.get J=some i
 lp:∀i J,s.cx.get i=some J->i<s.aX
def dn.le(s t:dn):Prop:=∀i d,s.cx.get i=some d->t.cx.get i=some d
def dn.le.refl(s:dn):s.le s:=λ_ _ h=>h
def dn.le.trans{s t u:dn}(h:s.le t)(j:t.le u):s.le u:=λi d e=>j i d<|h i d e
def wk(i J:Nat)(s:dn):be dn:=
 bn (s.inv.get J) (λd=>cond (Nat.beq i d) (some s) none)
  (cond (Nat.beq i s.aX) (ao.fin (ao.ke (Nat.succ i) s.cx i J) λcx=>ao.fin (ao.ke (Nat.succ J) s.inv J i) λinv=>fK (Nat.succ i) λc=>some ⟨cx,inv,c⟩) none)
theorem JD{i J:Nat}{s y:dn}(D:s.Ok)(h:wk i J s=some y):y.Ok/\s.le y/\y.ai i J:=by
 unfold wk at h;cases z:s.inv.get J with
 |some C=>
  rw[z]at h;have h:cond (Nat.beq i C) (some s) none=some y:=h;cases g:Nat.beq i C with
  |false=>rw[g]at h;cases h
  |true=>
   rw[g]at h;cases h;have:=dM g;subst this;exact⟨D,.refl s,(D.iff i J).2 z⟩
 |none=>
  rw[z]at h;have h:cond (Nat.beq i s.aX) (ao.fin (ao.ke (Nat.succ i) s.cx i J) λcx=>ao.fin (ao.ke (Nat.succ J) s.inv J i) λinv=>fK (Nat.succ i) λc=>some ⟨cx,inv,c⟩) none=some y:=h;cases g:Nat.beq i s.aX with
  |false=>rw[g]at h;cases h
  |true=>
   rw[g]at h;have e:=dM g;simp[ao.ot,ao.tS]at h;unfold fK at h;simp at h;subst h;have B:∀b,s.cx.get i≠some b:=λb g=>by have:=D.lp _ _ g;omega
   refine⟨⟨λa b=>?_,λa b u=>?_⟩,λa b u=>?_,?_⟩
   ·show(s.cx.set i J).get a=some b↔(s.inv.set J i).get b=some a;rw[ao.ee,ao.ee];by_cases d:a=i<;>by_cases A:b=J
    ·rw[aE d,d,A];simp
    ·rw[aw A];subst d;constructor
     ·grind
     ·intro e;exact absurd ((D.iff _ _).2 e)<|B b
    ·rw[aw d];subst A;constructor
     ·intro e;rw[(D.iff _ _).1 e]at z;cases z
     ·grind
    ·rw[aw d,aw A];exact D.iff a b
   ·have u:=u;show a<Nat.succ i;rw[ao.ee]at u;by_cases d:a=i
    ·omega
    ·rw[aw d]at u;have:=D.lp _ _ u;omega
   ·show(s.cx.set i J).get a=some b;rw[ao.ee,aw]
    ·exact u
    ·intro d;subst d;exact B b u
   ·show(s.cx.set i J).get i=some J;rw[ao.mn]
def JE(a b:be Addr)(s:dn):be dn:=
 Option.rec (motive:=λ_=>be dn) (Option.rec (motive:=λ_=>be dn) (some s) (λ_=>none) b)
  (λa=>Option.rec (motive:=λ_=>be dn) none
   (λb=>cond (Nat.beq a.off b.off) (Option.rec (motive:=λ_=>be dn) (Option.rec (motive:=λ_=>be dn) (wk a.block b.block s) (λ_=>none) b.spot) (λ_=>none) a.spot) none) b) a
theorem P3{a b:be Addr}{s d:dn}(h:JE a b s=some d):
 (a=none/\b=none/\d=s)\/∃p q,a=some p/\b=some q/\p.off=q.off/\p.spot=none/\q.spot=none/\wk p.block q.block s=some d:=by
 cases a with
 |none=>
  cases b with
  |none=>left;exact⟨j,j,(Option.some.inj h).symm⟩
  |some q=>cases h
 |some p=>
  cases b with
  |none=>cases h
  |some q=>
   right;obtain⟨z,g,a8⟩:=p;obtain⟨A,u,B⟩:=q;cases y:Nat.beq g u with
   |false=>
    have h:cond (Nat.beq g u) _ none=some d:=h;rw[y]at h;cases h
   |true=>
    cases a8 with
    |some x=>
     have h:cond (Nat.beq g u) none none=some d:=h;rw[y]at h;cases h
    |none=>
     cases B with
     |some x=>
      have h:cond (Nat.beq g u) none none=some d:=h;rw[y]at h;cases h
     |none=>
      have h:cond (Nat.beq g u) (wk z A s) none=some d:=h
      simp_all
def JF(f g:Fn)(k:be dn):be dn:=
 match f,g with
 |.func a,.func b=>cond (Nat.beq a b) k none
 |_,_=>none
def acS{f g:Fn}{k:be dn}{s:dn}(h:JF f g k=some s):∃a,f= .func a/\g= .func a/\k=some s:=by
 unfold JF at h;split at h
 ·rename_i a b;cases d:Nat.beq a b with
  |false=>rw[d]at h;cases h
  |true=>rw[d]at h;exact⟨a,j,by rw[dM d],h⟩
 ·cases h
def acT(a b:ac ci):Bool:=a==b
def JG(a b:Bool):Bool:=cond a b<|cond b false true
def P4{a b:Bool}(h:JG a b=true):a=b:=by cases a<;>cases b<;>first|rfl|cases h
def P5(w:bv)(s:dn):be dn:=match w with|.nilFunc=>some s|_=>none
def P6(w:bv)(s:dn):be dn:=match w with|.nilIface=>some s|_=>none
def P7(c:be Nat)(w:bv)(s:dn):be dn:=match c,w with|some a,.chan (some b)=>cond (Nat.beq a b) (some s) none|_,_=>none
def P8(f:Fn)(k:d7->be bv):be bv:=match f with|.func g=>k g|_=>none
def P9(c:be Nat):be bv:=match c with|some c=>some (.chan<|some c)|none=>none
mutual
def rO:bv->bv->dn->be dn
 |.bool a,w,s=>jX w (λb=>cond (JG a b) (some s) none) none
 |.int k a,w,s=>fL w (λD b=>cond (jI k D) (cond (rp a b) (some s) none) none) none
 |.string a,w,s=>hD w (λb=>cond (acT a.data.toList b.data.toList) (some s) none) none
 |.pointer a,w,s=>hi w (λb=>JE a b s) none
 |.slice a n c,w,s=>hE w (λb G cM=>cond (Nat.beq n G) (cond (Nat.beq c cM) (JE a b s) none) none) none
 |.map a,w,s=>om w (λb=>Option.rec (motive:=λ_=>be dn) (Option.rec (motive:=λ_=>be dn) (some s) (λ_=>none) b) (λi=>Option.rec (motive:=λ_=>be dn) none (λJ=>wk i J s) b) a) none
 |.func f xs us,w,s=>x7 w (λg aQ ad=>JF f g<|bn (yC xs aQ s) (λs=>yC us ad s) none) none
 |.nilFunc,w,s=>P5 w s
 |.nilIface,w,s=>P6 w s
 |.iface t v,w,s=>x8 w (λu y=>cond (Nat.beq t u) (rO v y s) none) none
 |.agg xs,w,s=>rq w (λaQ=>yC xs aQ s) none
 |.tuple xs,w,s=>qd w (λaQ=>yC xs aQ s) none
 |.chan c,w,s=>P7 c w s
 |_,_,_=>none
def yC:bi bv->bi bv->dn->be dn
 |⟨xs⟩,aQ,s=>Bo xs aQ.toList s
def Bo:ac bv->ac bv->dn->be dn
 |[],aQ,s=>List.rec (motive:=λ_=>be dn) (some s) (λ_ _ _=>none) aQ
 |x::xs,aQ,s=>List.rec (motive:=λ_=>be dn) none (λy j _=>bn (rO x y s) (λd=>Bo xs j d) none) aQ
end
def mZ{b:Bool}{U:be dn}{s:dn}(h:cond b U none=some s):b=true/\U=some s:=by
 cases b
 ·cases h
 ·exact⟨j,h⟩
def rP{α:Type}{U:be α}{k:α->be dn}{s:dn}(h:bn U k none=some s):∃a,U=some a/\k a=some s:=hS h av
mutual
theorem EO:∀(v w:bv) (s y:dn),s.Ok->rO v w s=some y->y.Ok/\s.le y/\fG y.ai v w
 |.bool a,w,s,y,d,h=>by
  obtain⟨b,rfl,h⟩:=OB h av;obtain⟨A,z⟩:=mZ h;cases z;rw[P4 A];exact⟨d,.refl s,.bool _⟩
 |.int k a,w,s,y,d,h=>by
  obtain⟨ad,b,rfl,h⟩:=nD h av;obtain⟨A,h⟩:=mZ h;obtain⟨z,h⟩:=mZ h;cases h;rw[Av]at z;rw[v5 A,z7 z];exact⟨d,.refl s,.int _ _⟩
 |.float k n,w,s,y,d,h=>by rw[rO]at h<;>first|cases h|simp
 |.complex k n m,w,s,y,d,h=>by rw[rO]at h<;>first|cases h|simp
 |.string a,w,s,y,d,h=>by
  obtain⟨b,rfl,h⟩:=ye h av;obtain⟨A,z⟩:=mZ h;cases z;have e:=z7 A;have:a=b:=by cases a;simp only at e;rw[Array.toList_inj.1 e]
  rw[this];exact⟨d,.refl s,.string _⟩
 |.pointer a,w,s,y,d,h=>by
  obtain⟨b,rfl,h⟩:=AL h av;rcases P3 h with⟨rfl,rfl,rfl⟩|⟨p,q,rfl,rfl,A,z,I,M⟩
  ·exact⟨d,.refl _,.kV⟩
  ·obtain⟨J,H,a2⟩:=JD d M;exact⟨J,H,.ptr p q a2 A z I⟩
 |.slice a n c,w,s,y,d,h=>by
  obtain⟨b,af,cM,rfl,h⟩:=yf h av;obtain⟨G,h⟩:=mZ h;obtain⟨W,h⟩:=mZ h;rw[dM G,dM W];rcases P3 h with⟨rfl,rfl,rfl⟩|⟨p,q,rfl,rfl,A,z,I,M⟩
  ·exact⟨d,.refl _,.jZ _ _⟩
  ·obtain⟨J,H,a2⟩:=JD d M;exact⟨J,H,.fg p q _ _ a2 A z I⟩
 |.map a,w,s,y,d,h=>by
  have:∃b,w= .map b/\Option.rec (Option.rec (some s) (λ_=>none) b) (λi=>Option.rec none (λK=>wk i K s) b) a=some y:=by
   cases w<;>first|cases h|exact⟨_,j,h⟩
  obtain⟨b,rfl,h⟩:=this;cases a with
  |none=>
   cases b with
   |none=>cases h;exact⟨d,.refl _,.mo⟩
   |some K=>cases h
  |some i=>
   cases b with
   |none=>cases h
   |some K=>
    obtain⟨J,H,a2⟩:=JD d h;exact⟨J,H,.map i K a2⟩
 |.func f xs Y,w,s,y,d,h=>by
  obtain⟨g,aQ,a',rfl,h⟩:=IL h av;obtain⟨a,rfl,rfl,I⟩:=acS h;obtain⟨O,A,z⟩:=rP I;obtain⟨C,B,D⟩:=EP xs aQ s O d A;obtain⟨S,cw,dg⟩:=EP Y a' O y C z;exact⟨S,B.trans cw,.P1 (D.mono cw) dg⟩
 |.nilFunc,w,s,y,d,h=>by
  rw[rO]at h;unfold P5 at h;split at h
  ·cases h;exact⟨d,.refl _,.nilFunc⟩
  ·cases h
 |.nilIface,w,s,y,d,h=>by
  rw[rO]at h;unfold P6 at h;split at h
  ·cases h;exact⟨d,.refl _,.nilIface⟩
  ·cases h
 |.iface t v,w,s,y,d,h=>by
  obtain⟨u,aa,rfl,h⟩:=IM h av;obtain⟨G,h⟩:=mZ h;obtain⟨C,B,D⟩:=EO v aa s y d h;rw[dM G];exact⟨C,B,.iface _ _ _ D⟩
 |.agg xs,w,s,y,d,h=>by
  obtain⟨aQ,rfl,h⟩:=AM h av;obtain⟨C,B,D⟩:=EP xs aQ s y d h;exact⟨C,B,.P0 D⟩
 |.tuple xs,w,s,y,d,h=>by
  obtain⟨aQ,rfl,h⟩:=OC h av;obtain⟨C,B,D⟩:=EP xs aQ s y d h;exact⟨C,B,.tuple' D⟩
 |.chan c,w,s,y,d,h=>by
  rw[rO]at h;unfold P7 at h;split at h
  ·obtain⟨G,h⟩:=mZ h;cases h;rw[dM G];exact⟨d,.refl _,.chan _⟩
  ·cases h
theorem EP:∀(xs aQ:bi bv) (s d:dn),s.Ok->yC xs aQ s=some d->d.Ok/\s.le d/\j4 d.ai xs.toList aQ.toList
 |⟨xs⟩,aQ,s,d,g,h=>by rw[yC]at h;exact ER xs aQ.toList s d g h
theorem ER:∀(xs aQ:ac bv) (s d:dn),s.Ok->Bo xs aQ s=some d->d.Ok/\s.le d/\j4 d.ai xs aQ
 |[],aQ,s,d,g,h=>by
  cases aQ with
  |nil=>cases h;exact⟨g,.refl _,.nil _⟩
  |cons y aQ=>cases h
 |x::xs,aQ,s,d,g,h=>by
  cases aQ with
  |nil=>cases h
  |cons y aQ=>
   obtain⟨j,aF,aL⟩:=rP h;obtain⟨A,z,B⟩:=EO x y s j g aF;obtain⟨u,cw,dg⟩:=ER xs aQ j d A aL;exact⟨u,z.trans cw,.cons (B.mono cw) dg⟩
end
def Qa(es:ac f7):ac f7->dn->be dn:=
 List.rec (motive:=λ_=>ac f7->dn->be dn) (λbO s=>List.rec (motive:=λ_=>be dn) (some s) (λ_ _ _=>none) bO)
  (λe _ d bO s=>List.rec (motive:=λ_=>be dn) none
   (λf g _=>cond (Nat.beq e.born f.born) (cond (dm e.key f.key) (bn (rO e.key f.key s) (λs=>bn (rO e.val f.val s) (λs=>d g s) none) none) none) none) bO) es
theorem Qb:∀(es bO:ac f7) (s j:dn),s.Ok->Qa es bO s=some j->j.Ok/\s.le j/\iY (oB j.ai) es bO
 |[],[],s,j,d,h=>by cases h;exact⟨d,.refl _,.nil⟩
 |[],_::_,s,j,d,h=>by cases h
 |_::_,[],s,j,d,h=>by cases h
 |e::es,f::bO,s,j,d,h=>by
  obtain⟨g,h⟩:=mZ h;obtain⟨y,h⟩:=mZ h;obtain⟨H,B,h⟩:=rP h;obtain⟨G,C,h⟩:=rP h;obtain⟨A,z,D⟩:=EO _ _ _ _ d B;obtain⟨u,cw,dg⟩:=EO _ _ _ _ A C;obtain⟨ew,ft,mA⟩:=Qb es bO G j u h;exact⟨ew,(z.trans cw).trans ft,.cons ⟨jH _ _ y,D.mono<|cw.trans ft,dg.mono ft,dM g⟩ mA⟩
def wm(U p:bz)(s:dn):be dn:=
 match U,p with
 |.cells cs e d aU,.cells j h g u=>cond (Nat.beq e h) (cond (Nat.beq d.1 g.1) (cond (Nat.beq d.2 g.2) (cond (JG aU u) (Bo cs j s) none) none) none) none
 |.map es c,.map bO cM=>cond (Nat.beq c cM) (Qa es bO s) none
 |_,_=>none
def Qc{U p:bz}{s d:dn}(D:s.Ok)(h:wm U p s=some d):d.Ok/\s.le d/\kj d.ai U p:=by
 unfold wm at h;split at h
 ·rename_i cs e C aU I G H J;obtain⟨g,h⟩:=mZ h;obtain⟨A,h⟩:=mZ h;obtain⟨z,h⟩:=mZ h;obtain⟨B,h⟩:=mZ h;obtain⟨u,j,y⟩:=ER _ _ _ _ D h;have:=Prod.ext (dM A)<|dM z;subst this;rw[dM g,P4 B];exact⟨u,j,.cells _ _ _ _ _ y⟩
 ·obtain⟨g,h⟩:=mZ h;obtain⟨u,j,y⟩:=Qb _ _ _ _ D h;rw[dM g];exact⟨u,j,.map _ _ _ y⟩
 ·cases h
def Qd(h:ao bz)(os:ac bz):Nat->dn->be dn:=
 List.rec (motive:=λ_=>Nat->dn->be dn) (λ_ s=>some s)
  (λU _ d i s=>bn (s.cx.get i) (λg=>bn (h.get g) (λp=>bn (wm U p s) (λs=>fK (Nat.succ i) λj=>d j s) none) none) none) os
theorem Qe{H:ao bz}:∀(os:ac bz) (i:Nat) (s d:dn),s.Ok->Qd H os i s=some d->
 d.Ok/\s.le d/\∀k (ax:k<os.length),∃J p,d.ai (i+k) J/\H.get J=some p/\kj d.ai os[k] p
 |[],i,s,d,g,h=>by cases h;exact⟨g,.refl _,λk ax=>by simp at ax⟩
 |U::os,i,s,d,g,h=>by
  obtain⟨J,aF,h⟩:=rP h;obtain⟨p,B,h⟩:=rP h;obtain⟨D,y,h⟩:=rP h;unfold fK at h;rw[kO]at h;obtain⟨A,u,C⟩:=Qc g y;obtain⟨z,cw,dg⟩:=Qe os (i+1) D d A h;refine⟨z,u.trans cw,λk ax=>?_⟩;cases k with
  |zero=>exact⟨J,p,(u.trans cw) _ _ aF,B,C.mono cw⟩
  |succ k=>
   obtain⟨I,K,M,G,a2⟩:=dg k<|by simpa using ax
   grind
def lU(cx:ao Nat)(gI gJ i:Nat):Nat:=bn (cx.get i) (λd=>d)<|Nat.add gJ<|Nat.sub i gI
section
variable(cx:ao Nat)(gI gJ:Nat)
def JH{β:Type}(a:be Addr)(k:be Addr->be β):be β:=
 Option.rec (motive:=λ_=>be β) (k none) (λa=>Option.rec (motive:=λ_=>be β) (fK (lU cx gI gJ a.block) λb=>k<|some ⟨b,a.off,none⟩) (λ_=>none) a.spot) a
mutual
def rQ:bv->be bv
 |.pointer a=>JH cx gI gJ a λb=>some (.pointer b)
 |.slice a n c=>JH cx gI gJ a λb=>some (.slice b n c)
 |.map a=>Option.rec (motive:=λ_=>be bv) (some<|.map none) (λi=>fK (lU cx gI gJ i) λJ=>some<|.map<|some J) a
 |.func f xs us=>P8 f λg=>bn (yD xs) (λaQ=>bn (yD us) (λad=>some<|.func (.func g) ⟨aQ⟩ ⟨ad⟩) none) none
 |.iface t v=>bn (rQ v) (λw=>some<|.iface t w) none
 |.agg xs=>bn (yD xs) (λaQ=>some<|.agg ⟨aQ⟩) none
 |.tuple xs=>bn (yD xs) (λaQ=>some<|.tuple ⟨aQ⟩) none
 |.bool b=>some (.bool b)
 |.int k n=>some (.int k n)
 |.string s=>some (.string s)
 |.nilFunc=>some .nilFunc
 |.nilIface=>some .nilIface
 |.chan c=>P9 c
 |_=>none
def yD:bi bv->be (ac bv)
 |⟨xs⟩=>ES xs
def ES:ac bv->be (ac bv)
 |[]=>some []
 |x::xs=>bn (rQ x) (λy=>bn (ES xs) (λaQ=>some<|y::aQ) none) none
end
variable{β:Type}
def eg{α:Type}{U:be α}{k:α->be β}{b:β}(h:bn U k none=some b):∃a,U=some a/\k a=some b:=hS h av
theorem Qf{a:be Addr}{k:be Addr->be β}{b:β}(h:JH cx gI gJ a k=some b):
 (a=none/\k none=some b)\/∃p,a=some p/\p.spot=none/\k (some ⟨lU cx gI gJ p.block,p.off,none⟩)=some b:=by
 cases a with
 |none=>exact .inl ⟨j,h⟩
 |some p=>
  obtain⟨g,d,a8⟩:=p;cases a8 with
  |some x=>cases h
  |none=>
   have h:fK (lU cx gI gJ g) (λb=>k<|some ⟨b,d,none⟩)=some b:=h;unfold fK at h
   grind
mutual
theorem Bp:∀(v w:bv),rQ cx gI gJ v=some w->fG (λi J=>J=lU cx gI gJ i) v w
 |.bool b,w,h=>by cases h;exact .bool b
 |.int k n,w,h=>by cases h;exact .int k n
 |.float k n,w,h=>by rw[rQ]at h<;>first|cases h|simp
 |.complex k n m,w,h=>by rw[rQ]at h<;>first|cases h|simp
 |.string s,w,h=>by cases h;exact .string s
 |.pointer a,w,h=>by
  rcases Qf cx gI gJ h with⟨rfl,h⟩|⟨p,rfl,g,h⟩
  ·cases h;exact .kV
  ·cases h;exact .ptr _ _ j j g j
 |.slice a n c,w,h=>by
  rcases Qf cx gI gJ h with⟨rfl,h⟩|⟨p,rfl,g,h⟩
  ·cases h;exact .jZ _ _
  ·cases h;exact .fg _ _ _ _ j j g j
 |.map a,w,h=>by
  cases a with
  |none=>cases h;exact .mo
  |some i=>
   have h:fK (lU cx gI gJ i) (λJ=>some<|Value.map<|some J)=some w:=h;unfold fK at h;rw[kO]at h;cases h;exact .map _ _ j
 |.func f xs y,w,h=>by
  rw[rQ]at h;unfold P8 at h;split at h
  ·obtain⟨aQ,d,h⟩:=eg h;obtain⟨z,u,h⟩:=eg h;cases h;exact .P1 (ET xs aQ d)<|ET y z u
  ·cases h
 |.nilFunc,w,h=>by cases h;exact .nilFunc
 |.nilIface,w,h=>by cases h;exact .nilIface
 |.iface t v,w,h=>by
  obtain⟨A,d,h⟩:=eg h;cases h;exact .iface _ _ _ (Bp v A d)
 |.agg xs,w,h=>by
  obtain⟨aQ,d,h⟩:=eg h;cases h;exact .P0 (ET xs aQ d)
 |.tuple xs,w,h=>by
  obtain⟨aQ,d,h⟩:=eg h;cases h;exact .tuple' (ET xs aQ d)
 |.chan c,w,h=>by
  rw[rQ]at h;unfold P9 at h;split at h
  ·cases h;exact .chan _
  ·cases h
theorem ET:∀(xs:bi bv) (aQ:ac bv),yD cx gI gJ xs=some aQ->j4 (λi J=>J=lU cx gI gJ i) xs.toList aQ
 |⟨xs⟩,aQ,h=>by rw[yD]at h;exact JI xs aQ h
theorem JI:∀(xs aQ:ac bv),ES cx gI gJ xs=some aQ->j4 (λi J=>J=lU cx gI gJ i) xs aQ
 |[],aQ,h=>by cases h;exact .nil _
 |x::xs,aQ,h=>by
  obtain⟨y,aF,h⟩:=eg h;obtain⟨g,d,h⟩:=eg h;cases h;exact .cons (Bp x y aF)<|JI xs g d
end
def Qg(es:ac f7):be (ac f7):=
 List.rec (motive:=λ_=>be<|ac f7) (some [])
  (λe _ r=>bn (rQ cx gI gJ e.key) (λk=>cond (dm e.key k) (bn (rQ cx gI gJ e.val) (λv=>bn r (λes=>some<|⟨k,v,e.born⟩::es) none) none) none) none) es
theorem Qh:∀(es bO:ac f7),Qg cx gI gJ es=some bO->iY (oB λi J=>J=lU cx gI gJ i) es bO
 |[],bO,h=>by cases h;exact .nil
 |e::es,bO,h=>by
  obtain⟨k,aF,h⟩:=eg h;cases d:dm e.key k with
  |false=>rw[d]at h;cases h
  |true=>
   rw[d]at h;obtain⟨v,s,h⟩:=eg h;obtain⟨gs,g,h⟩:=eg h;cases h;exact .cons ⟨jH _ _ d,Bp _ _ _ _ _ aF,Bp _ _ _ _ _ s,j⟩<|Qh es gs g
def EU(U:bz):be bz:=
 match U with
 |.cells cs e d aU=>bn (ES cx gI gJ cs) (λg=>some<|.cells g e d aU) none
 |.map es c=>bn (Qg cx gI gJ es) (λbO=>some<|.map bO c) none
 |.dead=>some .dead
 |_=>none
def acU{U p:bz}(h:EU cx gI gJ U=some p):(U= .dead/\p= .dead)\/kj (λi J=>J=lU cx gI gJ i) U p:=by
 unfold EU at h;split at h
 ·obtain⟨g,d,h⟩:=eg h;cases h;exact .inr<|.cells _ _ _ _ _<|JI _ _ _ _ _ d
 ·obtain⟨bO,d,h⟩:=eg h;cases h;exact .inr<|.map _ _ _<|Qh _ _ _ _ _ d
 ·cases h;exact .inl eT
 ·cases h
def JJ(a3:Nat)(us:ac (Nat×bz)):ao bz->be (ao bz):=
 List.rec (motive:=λ_=>ao bz->be (ao bz)) (λh=>some h)
  (λu _ g h=>cond (Nat.ble a3 u.1) (fK (lU cx gI gJ u.1) λd=>bn (EU cx gI gJ u.2) (λp=>ao.fin (ao.ke (Nat.succ d) h d p) g) none) none) us
end
def j5(us:ac (Nat×bz)):ao bz->ao bz:=
 List.rec (motive:=λ_=>ao bz->ao bz) (λh=>h) (λu _ d h=>ao.fin (ao.ke (Nat.succ u.1) h u.1 u.2) d) us
def yE(os:ac bz):Nat->ao bz->ao bz:=
 List.rec (motive:=λ_=>Nat->ao bz->ao bz) (λ_ h=>h) (λU _ j i h=>fK (Nat.succ i) λd=>ao.fin (ao.ke d h i U) λg=>j d g) os
def yF(h:ao bz)(os:ac (Nat×bz)):dn->be dn:=
 List.rec (motive:=λ_=>dn->be dn) (λs=>some s)
  (λU _ d s=>bn (s.cx.get U.1) (λg=>bn (h.get g) (λp=>bn (wm U.2 p s) d none) none) none) os
theorem Qi{H:ao bz}:∀(os:ac (Nat×bz)) (s d:dn),s.Ok->yF H os s=some d->
 d.Ok/\s.le d/\∀U∈os,∃J p,d.ai U.1 J/\H.get J=some p/\kj d.ai U.2 p
 |[],s,d,g,h=>by cases h;exact⟨g,.refl _,λU A=>by cases A⟩
 |U::os,s,d,g,h=>by
  obtain⟨J,aF,h⟩:=rP h;obtain⟨p,D,h⟩:=rP h;obtain⟨K,z,h⟩:=rP h;obtain⟨C,y,G⟩:=Qc g z;obtain⟨B,cw,dg⟩:=Qi os K d C h;refine⟨B,y.trans cw,λI u=>?_⟩;rcases e1.1 u with rfl|u
  ·exact⟨J,p,(y.trans cw) _ _ aF,D,G.mono cw⟩
  ·exact dg I u
theorem JK:∀(os:ac bz) (i:Nat) (h:ao bz) (k:Nat),(yE os i h).get k=if i<=k/\k<i+os.length then os[k-i]? else h.get k
 |[],i,h,k=>by rw[aw av];rfl
 |U::os,i,h,k=>by
  have e:yE (U::os) i h=yE os (i+1) (h.set i U):=by
   show fK (Nat.succ i) (λg=>ao.fin (ao.ke g h i U) λd=>yE os g d)=_;unfold fK;rw[kO];show ao.fin (ao.ke (Nat.succ i) h i U) (λd=>yE os (i+1) d)=_;rw[ao.ot,ao.tS]
  rw[e,JK os (i+1) _ k,ao.ee]
  grind
def EV(u:Nat×bz)(us:ac (Nat×bz))(h:ao bz):j5 (u::us) h=j5 us (h.set u.1 u.2):=by
 show ao.fin (ao.ke (Nat.succ u.1) h u.1 u.2) (j5 us)=_;rw[ao.ot,ao.tS]
theorem yG:∀(us:ac (Nat×bz)) (h:ao bz) (k:Nat) (U:bz),(j5 us h).get k=some U->(k,U)∈us\/h.get k=some U
 |[],_,_,_,e=>.inr e
 |u::us,h,k,U,e=>by
  rw[EV]at e;rcases yG us _ k U e with hm|hm
  ·exact .inl<|e5 _ hm
  ·rw[ao.ee]at hm
   grind
structure dh where
 as:ac bv
 gs:ac (Nat×bz)
 oC:ac bz
 v:bv
 eO:ac (Nat×bz)
 aB:Nat
def dh.dc(r:dh)(a3:Nat):ao bz:=yE r.oC a3<|j5 r.gs .nil
def dh.row(r:dh)(a3:Nat):Row:=⟨r.as,⟨r.dc a3,Nat.add a3<|du r.oC⟩,r.v,⟨j5 r.eO<|r.dc a3,r.aB⟩⟩
def dh.app(au:dn)(r:dh)(as:ac bv)(st:aj):be dQ:=
 bn (Bo r.as as au) (λs=>bn (yF st.h r.gs s) (λs=>bn (Qd st.h r.oC au.aX s) (λs=>cond (Nat.beq s.aX<|Nat.add au.aX<|du r.oC) (cond (Nat.ble s.aX r.aB)
  (bn (rQ s.cx s.aX st.ae r.v) (λv=>bn (JJ s.cx s.aX st.ae au.aX r.eO st.h) (λh=>fK (Nat.add st.ae<|Nat.sub r.aB s.aX) λn=>some<|.ret v ⟨h,n⟩ false) none) none) none) none) none) none) none
structure JL(EW:Nat->Nat)(H:ao bz)(ae a3:Nat)(bX Bq aS:ao bz):Prop where
 obj:∀J U,aS.get J=some U->U≠.dead->(∃i p,J=EW i∧Bq.get i=some p∧kj (fun i J=>J=EW i) p U)∨((∀i,Bq.get i≠none->EW i≠J)∧H.get J=some U)
 lp:∀J,aS.get J≠none->J<ae∨∃i,J=EW i∧Bq.get i≠none
 oC:∀i,bX.get i≠none->Bq.get i≠none
 Qj:∀i,i<a3->Bq.get i≠none->bX.get i≠none
theorem Qk{cx:ao Nat}{gI gJ:Nat}{H:ao bz}{ae a3:Nat}{bX:ao bz}:∀(us:ac (Nat×bz)) (G aS D:ao bz),JL (lU cx gI gJ) H ae a3 bX G aS->
 JJ cx gI gJ a3 us aS=some D->JL (lU cx gI gJ) H ae a3 bX (j5 us G) D
 |[],G,aS,D,s,h=>by cases h;exact s
 |u::us,G,aS,D,s,h=>by
  have h:cond (Nat.ble a3 u.1) (fK (lU cx gI gJ u.1) λJ=>bn (EU cx gI gJ u.2) (λp=>ao.fin (ao.ke (Nat.succ J) aS J p)<|JJ cx gI gJ a3 us) none) none=some D:=h;cases A:Nat.ble a3 u.1 with
  |false=>rw[A]at h;cases h
  |true=>
  rw[A]at h;have A:=hP A;unfold fK at h;rw[kO]at h;obtain⟨p,O,h⟩:=eg h;rw[ao.ot,ao.tS]at h;rw[EV];refine Qk us _ _ _ ⟨λJ U d B=>?_,λJ d=>?_,λi af=>?_,λi af C=>?_⟩ h
  ·rw[ao.ee]at d;by_cases g:J=lU cx gI gJ u.1
   ·rw[aE g]at d;cases d;rcases acU _ _ _ O with⟨_,M⟩|I
    ·exact absurd M B
    ·exact .inl ⟨u.1,u.2,g,by rw[ao.mn],I⟩
   ·rw[aw g]at d;rcases s.obj J U d B with⟨i,q,y,z,K⟩|⟨y,z⟩
    ·refine .inl ⟨i,q,y,?_,K⟩;rw[ao.ee,aw]
     ·exact z
     ·intro e;subst e;exact g y
    ·refine .inr ⟨λi af S=>?_,z⟩;rw[ao.ee]at af
     grind
  ·rw[ao.ee]at d;by_cases g:J=lU cx gI gJ u.1
   ·exact .inr ⟨u.1,g,av⟩
   ·rw[aw g]at d;rcases s.lp J d with aT|⟨i,y,z⟩
    ·exact .inl aT
    ·refine .inr ⟨i,y,?_⟩;rw[ao.ee];split
     ·simp
     ·exact z
  ·rw[ao.ee];split
   ·simp
   ·exact s.oC i af
  ·rw[ao.ee,aw R]at C;exact s.Qj i af C
variable{X:Ctx}
theorem Ql{f:d7}{r:dh}(bU:ef X f (r.row X.a3)){au:dn}(cq:au.Ok)(cm:au.aX=X.a3)(S:∀g,g<X.a3->au.cx.get g=some g){as:ac bv}{st:aj}{o:dQ}(h:r.app au as st=some o)
 (ab:bF) (gG:ac bv) (w:f5) (bL:bI ab as gG) (D:bN X ab st w):
 (∀as w,(callFunc f as).run X.P w= .ok (.enter f as) w)/\
 ∀(K:CallKind) (bd:Bool->ac Frame),iX ⟨f,K,none⟩ none ab bd->gZ X ab w ⟨f,K,none⟩ bd (lone (Frame.enter X.P f gG.toArray K) (bd false) w) o:=by
 obtain⟨cy,cc,h⟩:=eg h;obtain⟨cz,bQ,h⟩:=eg h;obtain⟨s,cd,h⟩:=eg h;obtain⟨c',b3,cj⟩:=ER _ _ _ _ cq cc;obtain⟨b0,bl,b1⟩:=Qi _ _ _ c' bQ;obtain⟨ar,aU,bw⟩:=Qe _ _ _ _ b0 cd;rw[cm]at h bw;cases aW:Nat.beq s.aX (Nat.add X.a3<|du r.oC)with
 |false=>rw[aW]at h;cases h
 |true=>
 cases bx:Nat.ble s.aX r.aB with
 |false=>rw[aW,bx]at h;cases h
 |true=>
 rw[aW,bx]at h;have cr:s.aX=X.a3+r.oC.length:=by rw[<-eP];exact dM aW
 obtain⟨v,bO,h⟩:=eg h;obtain⟨hp,bK,h⟩:=eg h;unfold fK at h;rw[kO]at h;cases h;have aY:∀g,g<X.a3->s.cx.get g=some g:=λg rR=>aU _ _<|bl _ _<|b3 _ _<|S g rR;have aT:∀d l,ab d=some l->d<st.ae:=by
  intro d l e;rcases fS d st.ae with aT|bf
  ·exact aT
  ·rw[(D.fresh d bf).1]at e;cases e
 have ay:∀i U,(r.dc X.a3).get i=some U->∃d p,s.cx.get i=some d/\st.h.get d=some p/\kj s.ai U p:=by
  intro i U H;unfold dh.dc at H;rw[JK]at H;split at H
  ·rename_i af;obtain⟨aR,rfl⟩:=dN.1 H;obtain⟨d,p,u,y,A⟩:=bw (i-X.a3) aR;rw[show X.a3+(i-X.a3)=i by omega]at u;exact⟨d,p,u,y,A⟩
  ·rcases yG _ _ _ _ H with hm|hm
   ·obtain⟨d,p,u,y,A⟩:=b1 _ hm;exact⟨d,p,aU _ _ u,y,A.mono aU⟩
   ·simp at hm
 have a1:∀i,X.a3<=i->i<s.aX->∃U,(r.dc X.a3).get i=some U:=by
  intro i af cA;unfold dh.dc;rw[JK,aE R,a0 R];exact dC
 have bW:∀i,i<s.aX->∃d l,s.cx.get i=some d/\ab d=some l:=by
  intro i af;rcases fS i X.a3 with ah|ah
  ·exact⟨i,_,aY i ah,D.kh i ah⟩
  ·obtain⟨U,H⟩:=a1 i ah af;obtain⟨d,p,u,y,A⟩:=ay i U H;obtain⟨l,aD,_⟩:=D.er d p y A.live.2;exact⟨d,l,u,aD⟩
 let ax:bF:=λi=>match s.cx.get i with|some d=>ab d|none=>none
 have az:∀i d,s.cx.get i=some d->ax i=ab d:=by
  grind
 have aA:∀i l,ax i=some l->∃d,s.cx.get i=some d/\ab d=some l:=by
  grind
 have bB:∀d i l,(λd i=>s.ai i d) d i->ab d=some l->ax i=some l:=λd i l bZ B=>by rw[az i d bZ];exact B
 have bT:bN X ax (r.row X.a3).st w:=by
  refine⟨λi U H M=>?_,λi d U p l m af aF z Y al an S e=>?_,λi af=>?_,λi l B=>?_,λg rR=>?_,?_,λi l U B a' H M=>?_⟩
  ·obtain⟨d,p,u,y,A⟩:=ay i U H;obtain⟨l,aD,ck⟩:=D.er d p y A.live.2;exact⟨l,by rw[az i d u];exact aD,A.symm.P2 bB ck⟩
  ·obtain⟨bq,cb,u,y,A⟩:=ay i U af;obtain⟨G,bc,C,I,a2⟩:=ay d p z;rw[az i bq u]at al;rw[az d G C]at an;have:=D.inj bq G cb bc l m y A.live.2 I a2.live.2 al an S e;subst this;have b':=(ar.iff _ _).1 u;have cw:=(ar.iff _ _).1 C;rw[b']at cw;exact Option.some.inj cw
  ·have af:X.a3+du r.oC<=i:=af;rw[eP]at af;refine⟨?_,?_⟩
   ·cases e:ax i with
    |none=>rfl
    |some l=>
     obtain⟨d,z,_⟩:=aA i l e;have:=ar.lp _ _ z;omega
   ·cases e:(r.row X.a3).st.h.get i with
    |none=>rfl
    |some U=>
     obtain⟨d,_,u,_⟩:=ay i U e;have:=ar.lp _ _ u;omega
  ·obtain⟨d,_,aN⟩:=aA i l B;exact D.fw d l aN
  ·rw[az g g<|aY g rR];exact D.kh g rR
  ·exact HW _ _
  ·obtain⟨d,p,u,y,A⟩:=ay i U H;rw[az i d u]at B;exact A.sz.2<|D.j0 d l p B a' y A.live.2
 have bG:=((cj.mono bl).mono aU).symm.acR bB bL;obtain⟨b',cw⟩:=bU ax gG w bG bT;refine⟨b',λK bd cl=>?_⟩;obtain⟨aV,cp,w',F,bH,aa,av,bC,bJ,bX,bY⟩:=cw K bd cl
 let aq:Nat->Nat:=lU s.cx s.aX st.ae
 have aS:∀i d,s.cx.get i=some d->aq i=d:=by
  intro i d e;show bn (s.cx.get i) (λd=>d) _=d;rw[e];rfl
 have cv:∀i,s.aX<=i->aq i=st.ae+(i-s.aX):=by
  intro i af;show bn (s.cx.get i) (λd=>d) _=_;cases e:s.cx.get i with
  |none=>rfl
  |some d=>have:=ar.lp _ _ e;omega
 let aG:bF:=λd=>if d<st.ae then ab d else aV (s.aX+(d-st.ae))
 have a6:∀d,d<st.ae->aG d=ab d:=λd z=>aE z;have a7:∀d,st.ae<=d->aG d=aV (s.aX+(d-st.ae)):=λd z=>aw R;have hle:ab.le aG:=λd l e=>by rw[a6 d<|aT d l e];exact e
 have aJ:∀i d l,(λi d=>d=aq i) i d->aV i=some l->aG d=some l:=by
  intro i d l e B;rcases fS i s.aX with af|af
  ·obtain⟨d,cf,u,aD⟩:=bW i af;have:=av.le i cf<|by rw[az i d u];exact aD
   grind
  ·grind
 have bR:JL aq st.h st.ae X.a3 (r.dc X.a3) (r.dc X.a3) st.h:=by
  refine⟨λd U z M=>?_,λd z=>?_,λi af=>af,λi _ af=>af⟩
  ·by_cases ch:∃i,(r.dc X.a3).get i≠none/\aq i=d
   ·obtain⟨i,af,e⟩:=ch;cases kW:(r.dc X.a3).get i with
    |none=>exact absurd kW af
    |some bj=>
     obtain⟨G,p,u,y,A⟩:=ay i bj kW;have:G=d:=by rw[<-e];exact(aS i G u).symm
     subst this;rw[z]at y;cases y;exact .inl ⟨i,bj,e.symm,kW,A.mono λa b b4=>(aS a b b4).symm⟩
   ·grind
  ·left;rcases fS d st.ae with aR|bf
   ·exact aR
   ·exact absurd (D.fresh d bf).2 z
 have aI:=Qk r.eO _ _ _ bR bK;have hold:∀a l,(j5 r.eO<|r.dc X.a3).get a≠none->ax a=some l->∃d p,s.cx.get a=some d/\st.h.get d=some p/\p≠.dead/\ab d=some l:=by
  intro a l bD B;obtain⟨d,u,y⟩:=aA a l B;have a4:=ar.lp _ _ u;have:∃U,(r.dc X.a3).get a=some U:=by
   rcases fS a X.a3 with ah|ah
   ·cases kW:(r.dc X.a3).get a with
    |none=>exact absurd kW (aI.Qj a ah bD)
    |some U=>exact⟨U,j⟩
   ·exact a1 a ah a4
  obtain⟨U,H⟩:=this;obtain⟨G,p,C,I,a2⟩:=ay a U H;rw[u]at C;cases C;exact⟨d,p,u,I,a2.live.2,y⟩
 have bk:∀d U l,st.h.get d=some U->U≠.dead->ab d=some l->(∀i,(j5 r.eO<|r.dc X.a3).get i≠none->aq i≠d)->∀i bp,ax i=some bp->bp.bu≠eH->bp.ct≠l.ct:=by
  intro d U l H M B bM i bp aN a' e;have br:(j5 r.eO<|r.dc X.a3).get i≠none:=by
   obtain⟨G,u,y⟩:=aA i bp aN;have a4:=ar.lp _ _ u;rcases fS i X.a3 with ah|ah
   ·exfalso;rw[aY i ah]at u;cases u;rw[D.kh i ah]at y;cases y;exact a' j
   ·obtain⟨bj,ca⟩:=a1 i ah a4;exact aI.oC i<|by rw[ca];simp
  obtain⟨G,p,u,y,A,aD⟩:=hold i bp br aN;have:=D.inj G d p U bp l y A H M aD B (.inl a') e;subst this;exact bM i br<|aS i G u
 refine⟨aG,cp,w',F,(Bp _ _ _ _ _ bO).Bn aJ bH,⟨λd U z M=>?_,λi d U p l m af aF z Y al an S e=>?_,λd z=>?_,λd l B=>?_,λg rR=>?_,?_,λd l U B a' z M=>?_⟩,⟨hle,av.size,λb cg b5=>?_,λd l B=>?_,av.fE⟩,bC,bJ,bX,bY⟩
 ·rcases aI.obj d U z M with⟨i,p,u,y,A⟩|⟨u,y⟩
  ·obtain⟨l,C,I⟩:=aa.er i p y A.live.1;exact⟨l,aJ i d l u C,A.P2 aJ I⟩
  ·obtain⟨l,C,I⟩:=D.er d U y M;refine⟨l,hle d l C,g6.mono X I hle ?_⟩;exact av.kept l.ct (D.fw d l C)<|bk d U l y M C u
 ·have key:∀i d U p l m,hp.get i=some U->U≠.dead->hp.get d=some p->p≠.dead->aG i=some l->aG d=some m->(l.bu≠eH\/m.bu≠eH)->l.ct=m.ct->
   (∃a q,i=aq a/\(j5 r.eO<|r.dc X.a3).get a=some q/\kj (λi d=>d=aq i) q U)->((∀a,(j5 r.eO<|r.dc X.a3).get a≠none->aq a≠d)/\st.h.get d=some p)->False:=by
   intro i d U p l m af aF z Y al an S e ⟨a,q,u,y,A⟩ ⟨C,I⟩;obtain⟨ad,J,_⟩:=aa.er a q y A.live.1;have:=aJ a i ad u J;rw[al]at this;cases this;obtain⟨aO,W,_⟩:=D.er d p I Y;have:=hle d aO W;rw[an]at this;cases this;rcases av.new a l J with ah|ah|⟨b,b2,bb,bg,bo⟩
   ·obtain⟨G,bc,b6,b7,b8,b9⟩:=hold a l (by rw[y];simp) ah;have:=D.inj G d bc p l m b7 b8 I Y b9 W S e;subst this;exact C a (by rw[y];simp)<|aS a G b6
   ·have:=D.fw d m W;omega
   ·exact bk d p m I Y W C b b2 bb bg R
  rcases aI.obj i U af aF with aK|aK<;>rcases aI.obj d p z Y with aL|aL
  ·obtain⟨a,q,u,y,A⟩:=aK;obtain⟨b,bt,C,I,a2⟩:=aL;obtain⟨ad,J,_⟩:=aa.er a q y A.live.1;obtain⟨aO,W,_⟩:=aa.er b bt I a2.live.1;have O:=aJ a i ad u J;rw[al]at O;cases O;have aP:=aJ b d aO C W;rw[an]at aP;cases aP;have:=aa.inj a b q bt l m y A.live.1 I a2.live.1 J W S e;rw[u,C,this]
  ·exact(key i d U p l m af aF z Y al an S e aK aL).elim
  ·exact(key d i p U m l z Y af aF an al S.symm e.symm aL aK).elim
  ·obtain⟨ad,J,_⟩:=D.er i U aK.2 aF;obtain⟨aO,W,_⟩:=D.er d p aL.2 Y;have O:=hle i ad J;rw[al]at O;cases O;have aP:=hle d aO W;rw[an]at aP;cases aP;exact D.inj i d U p l m aK.2 aF aL.2 Y J W S e
 ·have z:st.ae+(r.aB-s.aX)<=d:=z;have cn:∀i,r.aB<=i->aV i=none/\(j5 r.eO<|r.dc X.a3).get i=none:=λi af=>aa.fresh i af;refine⟨by rw[a7 d R];exact(cn _ R).1,?_⟩;cases e:hp.get d with
  |none=>rfl
  |some U=>
   exfalso;rcases aI.lp d (by rw[e];simp)with aR|⟨i,u,y⟩
   ·omega
   ·rcases fS i s.aX with af|af
    ·grind
    ·grind
 ·rcases fS d st.ae with z|z
  ·rw[a6 d z]at B;exact eR (D.fw d l B) av.size
  ·rw[a7 d z]at B;exact aa.fw _ l B
 ·exact hle _ _<|D.kh g rR
 ·exact cC D.mu<|HW _ _
 ·rcases aI.obj d U z M with⟨a,q,u,y,A⟩|⟨u,y⟩
  ·obtain⟨ad,J,_⟩:=aa.er a q y A.live.1;have O:=aJ a d ad u J;rw[B]at O;cases O;exact A.sz.1<|aa.j0 a l q J a' y A.live.1
  ·obtain⟨ad,J,_⟩:=D.er d U y M;have O:=hle d ad J;rw[B]at O;cases O;exact D.j0 d l U J a' y M
 ·refine av.kept b cg λi l B a'=>?_;obtain⟨d,_,aN⟩:=aA i l B;exact b5 d l aN a'
 ·rcases fS d st.ae with z|z
  ·rw[a6 d z]at B;exact .inl B
  ·rw[a7 d z]at B;rcases av.new _ l B with ah|ah|⟨b,m,bb,bg,bo⟩
   ·obtain⟨G,u,_⟩:=aA _ l ah;have:=ar.lp _ _ u;omega
   ·exact .inr<|.inl ah
   ·obtain⟨G,_,y⟩:=aA b m bb;exact .inr<|.inr ⟨G,m,y,bg,bo⟩
def wo(au:dn)(as:ac bv)(st:aj)(j:ac (Nat×dh)):be dQ:=
 List.rec (motive:=λ_=>be dQ) none (λr _ d=>cond (Nat.beq r.1 st.ae) (bn (r.2.app au as st) some d)<|cond (Nat.beq r.1 0) (bn (r.2.app au as st) some d) d) j
theorem Qm{au:dn}{as:ac bv}{st:aj}:∀{j:ac (Nat×dh)} {o:dQ},wo au as st j=some o->∃r∈j,r.2.app au as st=some o
 |[],o,h=>by cases h
 |r::j,o,h=>by
  have h:cond (Nat.beq r.1 st.ae) (bn (r.2.app au as st) some<|wo au as st j) (cond (Nat.beq r.1 0) (bn (r.2.app au as st) some<|wo au as st j)<|wo au as st j)=some o:=h;have EX:wo au as st j=some o->∃d∈r::j,d.2.app au as st=some o:=λh=>by
   obtain⟨d,s,u⟩:=Qm h;exact⟨d,e5 _ s,u⟩
  have y:bn (r.2.app au as st) some (wo au as st j)=some o->∃d∈r::j,d.2.app au as st=some o:=λh=>by
   cases g:r.2.app au as st with
   |none=>rw[g]at h;exact EX h
   |some x=>rw[g]at h;cases h;exact⟨r,av,g⟩
  grind
end Go.bA
namespace Go.bA
variable{X:Ctx}
variable{n:Nat}{fy:nC}{a3:Nat}{f:d7}{r:dh}
def yH(n:Nat):ao Nat:=Nat.rec (motive:=λ_=>ao Nat) .nil (λm t=>ao.fin t λt=>ao.ke (Nat.succ m) t m m) n
theorem Br:∀(n i:Nat),(yH n).get i=if i<n then some i else none
 |0,i=>by rfl
 |n+1,i=>by
  have e:yH (n+1)=(yH n).set n n:=by
   show ao.fin (yH n) (λt=>ao.ke (Nat.succ n) t n n)=_;rw[ao.ot,ao.tS]
  rw[e,ao.ee,Br n i]
  grind
theorem acV{s:dn}(aF:s.cx=yH n)(aL:s.inv=yH n)(j:s.aX=n):s.Ok/\s.aX=n/\∀g,g<n->s.cx.get g=some g:=by
 refine⟨⟨λi u=>?_,λi u h=>?_⟩,j,λg d=>?_⟩
 ·rw[aF,aL,Br,Br]
  grind
 ·rw[aF,Br]at h
  grind
 ·rw[aF,Br,aE d]
def dh.ez(r:dh)(a3:Nat)(aI:ao cJ)(fy:nC)(n f:Nat):Bool:=
 ao.fin (r.dc a3) λh=>ao.fin (j5 r.eO h) λd=>fK (Nat.add a3<|du r.oC) λm=>bA.ez (b7 aI fy n (.func (.func f) #[] #[]) r.as none ⟨h,m⟩) r.v ⟨d,r.aB⟩
def jw{aI:ao cJ}(j:Good X)(u:iZ X aI)(D:rK X fy)(h:r.ez a3 aI fy n f=true):ef X f (r.row a3):=by
 refine PO j u D (n:=n) ?_;unfold dh.ez fK at h;rw[ao.ot,ao.ot,kO]at h;exact h
def dh.kC(r:dh)(a3 g:Nat)(el:co)(c:Nat)(aI:ao cJ)(fy:nC)(n f:Nat):Bool:=
 ao.fin ((r.dc a3).set g<|.cells [.chan<|some c] el (0,1) false) λh=>ao.fin ((j5 r.eO<|r.dc a3).set g<|.cells [.chan<|some c] el (0,1) false) λd=>fK (Nat.add a3<|du r.oC) λm=>
  bA.ez (b7 aI fy n (.func (.func f) #[] #[]) r.as none ⟨h,m⟩) r.v ⟨d,r.aB⟩
def lu{aI:ao cJ}(j:Good X)(u:iZ X aI)(D:rK X fy){g:Nat}{el:co}{c:Nat}(h:r.kC a3 g el c aI fy n f=true):ef X f ((r.row a3).oA g el c):=by
 refine PO j u D (n:=n) ?_;unfold dh.kC fK at h;rw[ao.ot,ao.ot,kO]at h;exact h
def dh.pr(r:dh)(a3:Nat)(lT:ac Nat)(aI:ao cJ)(fy:nC)(n f:Nat)(aZ:cJ):Bool:=
 ao.fin (r.dc a3) λh=>ao.fin (j5 r.eO h) λd=>fK (Nat.add a3<|du r.oC) λm=>bA.pr lT m r.v ⟨d,r.aB⟩<|lS (b7 aI fy n) n f aZ r.as ⟨h,m⟩
def yI{aI:ao cJ}(u:Good X)(D:iZ X aI)(G:rK X fy){aZ:cJ}{lT:ac Nat}(j:aI.get f=some aZ)(h:r.pr a3 lT aI fy n f aZ=true):ef X f (r.row a3):=by
 refine acJ u D G (n:=n) (lT:=lT) j ?_;unfold dh.pr fK at h;rw[ao.ot,ao.ot,kO]at h;exact h
def assoc(t:ac (Nat×ac (Nat×dh)))(f:Nat):ac (Nat×dh):=
 List.rec (motive:=λ_=>ac<|Nat×dh) [] (λp _ d=>cond (Nat.beq p.1 f) p.2 d) t
def qw(au:dn)(t:ac (Nat×ac (Nat×dh))):nC:=λf as st=>wo au as st<|assoc t f
def nM(X:Ctx)(f:Nat)(l:ac (Nat×dh)):Prop:=∀r∈l,ef X f<|r.2.row X.a3
def Bs(X:Ctx)(t:ac (Nat×ac (Nat×dh))):Prop:=∀p∈t,nM X p.1 p.2
variable{l:ac (Nat×dh)}{t:ac (Nat×ac (Nat×dh))}
def hI{f:Nat}:nM X f []:=λ_ h=>by cases h
def c8{f:Nat}(h:ef X f (r.row X.a3))(j:nM X f l):nM X f ((n,r)::l):=List.forall_mem_cons.2 ⟨h,j⟩
def a9:Bs X []:=λ_ h=>by cases h
def hT{f:Nat}(h:nM X f l)(j:Bs X t):Bs X ((f,l)::t):=List.forall_mem_cons.2 ⟨h,j⟩
theorem Qn:∀{t:ac (Nat×ac (Nat×dh))},Bs X t->∀f,nM X f (assoc t f)
 |[],_,f=>hI
 |p::t,h,f=>by
  show nM X f (cond (Nat.beq p.1 f) p.2<|assoc t f);cases aA:Nat.beq p.1 f with
  |true=>rw[<-dM aA];exact h p av
  |false=>exact Qn (λq cz=>h q<|e5 _ cz) f
def rS{au:dn}(j:au.Ok/\au.aX=X.a3/\∀g,g<X.a3->au.cx.get g=some g)(u:Bs X t):rK X (qw au t):=by
 intro f as st r s ab h w d z _;obtain⟨row,hm,y⟩:=Qm s;exact Ql (Qn u f row hm) j.1 j.2.1 j.2.2 y ab h w d z
def acW{r:Row}(D:ef X f r){ab:bF}{gG:ac bv}{w:f5}(u:bI ab r.as gG)(I:bN X ab r.st w):
 Calls X.P f gG.toArray w (λe w'=>∃aG bD,e= .returned bD/\bc aG r.v bD/\bN X aG r.ak w'/\dS ab aG w w'):=by
 intro cs;obtain⟨_,d⟩:=D ab gG w u I;obtain⟨aG,bD,w',F,H,d,s,g,z,B,C⟩:=d .normal (λ_=>cs) (λF J y=>by
  have A:=y;simp[tryRecover,A])
 obtain⟨G,h,fn,a2,cD⟩:=B;exact⟨.returned bD,w',F,⟨aG,bD,j,H,d,s⟩,C,z,G,h,g,fn,a2,cD⟩
def EY(n:Nat):bF:=λi=>if i<n then some ⟨i,0,0,eH⟩else none
def ui(n:Nat)(W:f5)(p:Nat×bz):Prop:=
 p.1<n/\∃cs el m C d,p.2= .cells cs el (0,m) false/\0<m/\W.heap[p.1]? =some (.cells C el d)/\bI (EY n) cs C.toList
def EZ{α β j:Type}(f:α->β->be j):ac α->ac β->be (ac j)
 |[],[]=>some []
 |a::as,b::bZ=>(f a b).bind λc=>(EZ f as bZ).map λcs=>c::cs
 |_,_=>none
def yJ:Nat->ac (Nat×Nat)->Nat->Bool
 |U,[],n=>Nat.beq U n
 |U,p::r,n=>Nat.beq p.1 U&&yJ (U+p.2) r n
def yK(P:f8):Nat->co->DataW Unit->be (ac bv)
 |0,_,_=>none
 |n+1,t,d=>
  match P.underlying t,d with
  |some .bool,.lit (.bool b)=>some [.bool b]
  |some (.int _),.lit (.int k m)=>some [.int k m]
  |some .string,.lit (.string s)=>some [.string ⟨⟨s⟩⟩]
  |some (.struct bO),.agg aN=>if yJ 0 (bO.toList.map λf=>(f.offset,P.cellsOf f.type)) (P.cellsOf t)then(EZ (λ(f:Field) d=>yK P n f.type d) bO.toList aN).map List.flatten else none
  |some (.array m e),.agg aN=>if yJ 0 ((List.range m).map λi=>(i*P.cellsOf e,P.cellsOf e)) (P.cellsOf t)then(EZ (λ(_:Nat) d=>yK P n e d) (List.range m) aN).map List.flatten else none
  |_,_=>none
theorem E0(cs:ac bv):∀(l:ac (Nat×Nat)) (U:Nat),yJ U l cs.length=true->cs.drop U=(l.map λp=>(cs.drop p.1).take p.2).flatten
 |[],U,h=>by
  have:=dM h;rw[this];simp
 |p::r,U,h=>by
  unfold yJ at h;rw[cO]at h;have e:=dM h.1;rw[jj,List.flatten_cons,<-E0 cs r (U+p.2) h.2,e,<-p3,ob]
theorem JM{α:Type}{g:α->be (DataW Unit×ac MemPlace)}{k:α->DataW Unit->be (ac bv)}{yL:α->ac bv}
 (ax:∀a d p ad,g a=some (d,p)->k a d=some ad->yL a=ad):∀(as:ac α) (xs:ac (DataW Unit×ac MemPlace)) (u:ac (ac bv)),as.mapM g=some xs->EZ k as (xs.map (·.1))=some u->as.map yL=u
 |[],xs,u,h,j=>by
  simp at h;subst h;cases j;rfl
 |a::as,xs,u,h,j=>by
  rw[List.mapM_cons]at h;obtain⟨x,s,h⟩:=q8.1 h;obtain⟨aQ,A,h⟩:=q8.1 h;cases h;obtain⟨ad,y,j⟩:=q8.1 j;obtain⟨z,B,rfl⟩:=nt.1 j;rw[jj,ax a x.1 x.2 ad s y,JM ax as aQ z A B]
theorem Bt{P:f8}{w:f5}{base:Nat}{sp:Nat->Bool}{M:Bool}:∀(D n:Nat) (t:co) (cs:ac bv) (d:DataW Unit) (p:ac MemPlace) (ad:ac bv),
 DataW.trod (λ_=>()) P w base sp M D t cs=some (d,p)->yK P n t d=some ad->cs=ad
 |0,_,_,_,_,_,_,h,_=>by simp[DataW.trod]at h
 |_+1,0,_,_,_,_,_,_,h=>by simp[yK]at h
 |D+1,n+1,t,cs,d,p,ad,h,g=>by
  unfold yK at g;split at g
  ·rename_i b j;cases g;simp[DataW.trod,j]at h
   grind
  ·rename_i k J m j;cases g;simp[DataW.trod,j]at h
   grind
  ·rename_i s j;cases g;simp[DataW.trod,j]at h;split at h<;>first|(rename_i cz;cases cz)|skip
   all_goals first
    |(split at h
      ·cases h;rfl
      ·cases h)
    |(simp at h)
  ·rename_i bO aN j;split at g
   ·rename_i aS;obtain⟨I,y,rfl⟩:=nt.1 g;simp only[DataW.trod,j]at h;split at h
    ·rename_i G;obtain⟨xs,A,z⟩:=nt.1 h;cases z;rw[<-G]at aS;have u:=E0 cs _ 0 aS;rw[pZ]at u;have H:=JM (λf d p ad B C=>Bt D n f.type _ d p ad B C) _ _ _ A y;rw[<-H];exact u
    ·cases h
   ·cases g
  ·rename_i m e aN j;split at g
   ·rename_i aS;obtain⟨I,y,rfl⟩:=nt.1 g;simp only[DataW.trod,j]at h;split at h
    ·rename_i G;obtain⟨xs,A,z⟩:=nt.1 h;cases z;rw[<-G]at aS;have u:=E0 cs _ 0 aS;rw[pZ]at u;have H:=JM (λi d p ad B C=>Bt D n e _ d p ad B C) _ _ _ A y;rw[<-H];exact u
    ·cases h
   ·cases g
  ·cases g
theorem Qo{P:f8}{w:f5}:∀{l:ac (String×DataW Unit)} {a8:ac MemPlace},DataW.LaidVars P w l a8->∀x∈l,∃g t cs s p,P.globalNamed x.1=some g/\(P.globals[g]?).map (·.type)=some t/\w.var? P x.1=some cs/\
 DataW.trod (λ_=>()) P w 0 (λ_=>true) false s t cs.toList=some (x.2,p)
 |[],_,_,x,j=>by cases j
 |(n,d)::r,a8,h,x,j=>by
  obtain⟨g,t,cs,s,p,q,aF,aL,y,u,z,_⟩:=h;rcases e1.1 j with rfl|j
  ·exact⟨g,t,cs,s,p,aF,aL,y,u⟩
  ·exact Qo z x j
def E1:bv->Bool
 |.bool _|.int _ _|.string _=>true
 |_=>false
def acX{ab:bF}{v:bv}(h:E1 v=true):bc ab v v:=by
 cases v<;>first|(simp[E1]at h;done)|constructor
theorem Qp{ab:bF}:∀{ad:ac bv},ad.all E1=true->bI ab ad ad
 |[],_=>.nil ab
 |v::ad,h=>by
  rw[xO,cO]at h;exact .cons (acX h.1)<|Qp h.2
def E2{P:f8}{W:f5}{l:ac (String×DataW Unit)}{a8:ac MemPlace}(aD:DataW.LaidVars P W l a8){g N:Nat}{name:String}{d:DataW Unit}{t el:co}{ad:ac bv}{m:Nat}
 (G:(name,d)∈l) (u:P.globalNamed name=some g) (I:(P.globals[g]?).map (·.type)=some t) (M:yK P n t d=some ad) (rR:g<N) (hm:0<m) (hp:ad.all E1=true)
 (D:∃cs,W.heap[g]? =some (.cells cs el)):ui N W (g,.cells ad el (0,m) false):=by
 obtain⟨K,J,cs,H,p,s,y,h,A⟩:=Qo aD _ G;rw[u]at s;cases s;rw[I]at y;cases y;obtain⟨C,z⟩:=D;have B:C=cs:=by
  simp only[World.var?,u,Option.bind_some,z]at h;exact Option.some.inj h
 subst B;refine⟨rR,ad,el,m,C,_,j,hm,z,?_⟩;rw[Bt H n t _ d p ad A M];exact Qp hp
end Go.bA
namespace Go.bA
variable{Q:Nat->cJ->Prop}
variable{i:Nat}
def Qq(t:ao {p:Nat×cJ //Q p.1 p.2}):ao cJ:=
 ao.rec (motive:=λ_=>ao cJ) .nil (λ_ v _ l r=>.node l (Option.rec (motive:=λ_=>be cJ) none (λp=>some p.1.2) v) r) t
def keyed:ao {p:Nat×cJ //Q p.1 p.2}->(Nat->Nat)->Bool
 |.nil,_=>true
 |.node l v r,g=>(match v with|some p=>Nat.beq p.1.1 (g 0)|none=>true)&&(keyed l (λn=>g<|2*n+1)&&keyed r λn=>g<|2*n+2)
theorem JN:∀(t:ao {p:Nat×cJ //Q p.1 p.2}) (g:Nat->Nat),keyed t g=true->ao.Bm Q (Qq t) g
 |.nil,_,_=>trivial
 |.node l v r,g,h=>by
  unfold keyed at h;rw[cO,cO]at h;refine⟨?_,JN l _ h.2.1,JN r _ h.2.2⟩;cases v with
  |none=>trivial
  |some p=>
   have e:=dM h.1;show Q (g 0) p.1.2;rw[<-e];exact p.2
def bY(g:{b:cJ //Q i b}):ao {p:Nat×cJ //Q p.1 p.2}:=.node .nil (some ⟨(i,g.1),g.2⟩) .nil
def bj(a:ao {p:Nat×cJ //Q p.1 p.2})(g:{b:cJ //Q i b})(b:ao {p:Nat×cJ //Q p.1 p.2}):ao {p:Nat×cJ //Q p.1 p.2}:=.node a (some ⟨(i,g.1),g.2⟩) b
def kk(a b:ao {p:Nat×cJ //Q p.1 p.2}):ao {p:Nat×cJ //Q p.1 p.2}:=.node a none b
end Go.bA
namespace Go.bA.JO
inductive JP where
 |bool|int (k:IntKind)|str|aK (e:Nat)|bP (n e:Nat)|st (l:List (Nat×Nat))|lV (e:Nat)|mp (k v:Nat)|fn|JQ|up
inductive Bu where
 |l
 |n (a:Bu) (k:Nat) (d:JP) (s b:Nat) (c:Bu)
def Bu.get:Bu->Nat->JP×Nat×Nat
 |.l,_=>(.up,0,0)
 |.n a k d s b c,t=>match Nat.blt t k with
  |true=>a.get t
  |false=>match Nat.beq t k with
   |true=>(d,s,b)
   |false=>c.get t
structure Env where
 kR:Nat
 lb:Nat
 aX:Nat
 idx:Nat
 lj:Nat
 ty:Bu
 mt:ac (String×ac (Nat×d7)):=[]
 acY:be (Nat×Nat):=none
namespace Env
def Qr(C:Env)(n:String):ac (Nat×d7):=match C.mt.find? (λp=>p.1==n)with
 |some p=>p.2
 |none=>[]
def d(C:Env)(t:Nat):JP:=(C.ty.get t).1
def s(C:Env)(t:Nat):Nat:=(C.ty.get t).2.1
def b(C:Env)(t:Nat):Nat:=(C.ty.get t).2.2
def g(C:Env)(t:Nat):Bool:=match C.d t with
 |.st _=>true
 |.bP _ _=>true
 |_=>false
def ch(C:Env)(t:Nat):Nat:=match C.d t with
 |.st l=>l.foldl (λn p=>match C.d p.2 with
  |.str=>n+100
  |_=>n+1) 0
 |_=>C.s t
def JR(C:Env):Nat->Nat->ac bv
 |0,_=>[]
 |f+1,t=>match C.d t with
  |.bool=>[.bool false]
  |.int k=>[.int k 0]
  |.str=>[.string ⟨#[]⟩]
  |.aK _=>[.slice none 0 0]
  |.bP n e=>(List.replicate n<|C.JR f e).flatten
  |.st l=>l.flatMap λp=>C.JR f p.2
  |.lV _=>[.pointer none]
  |.mp _ _=>[.map none]
  |.fn=>[.nilFunc]
  |.JQ=>[.nilIface]
  |.up=>[]
def z(C:Env)(t:Nat):ac bv:=C.JR 20 t
def tX(C:Env)(t:Nat):bv:=match C.g t with
 |true=>.agg ⟨C.z t⟩
 |false=>(C.z t).headD .nilIface
def cp(C:Env)(t:Nat):fr:=match C.d t with
 |.int k=>.int k
 |.bP n e=>match C.d e with
  |.int k=>.arr k n
  |_=>.str
 |_=>.str
def Qs(C:Env)(t:Nat):p9:=match C.d t with
 |.aK _=>.lL
 |.mp _ _=>.Ip
 |.fn=>.DB
 |.JQ=>.DC
 |.lV _=>.ptr
 |_=>.xZ
def bin(C:Env)(hF:ac Nat)(U:BinOp)(t:Nat)(a b:ce):c7:=
 let u:=match b with
  |.tmp g=>hF.any (Nat.beq g)
  |_=>false
 match C.d t,U,u with
 |.int _,.leq,true=>.ext (.x0 false a b)
 |.int _,.gtr,true=>.ext (.x0 true a b)
 |.int _,U,_=>.bin U a b
 |.str,U,_=>.bin U a b
 |.st _,.neq,_=>.ext (.tI true (C.ch t) a b)
 |.bP _ _,.neq,_=>.ext (.tI true (C.s t) a b)
 |.st _,_,_=>.ext (.tI false (C.ch t) a b)
 |.bP _ _,_,_=>.ext (.tI false (C.s t) a b)
 |_,.neq,_=>.eqv true (C.Qs t) a b
 |_,_,_=>.eqv false (C.Qs t) a b
def conv(C:Env)(s t:Nat)(a:ce):c7:=match C.d s,C.d t with
 |.int _,.int k=>.tK k a
 |.str,.str=>.x2 a
 |.aK _,.str=>.Ap a
 |.str,.aK e=>.vI e a
 |.lV _,.up=>.DI a
 |.up,.lV e=>.DJ e (C.s e) a
 |_,_=>.refuse
def parts(C:Env)(e:Nat)(a8:ac (Nat×ce)):ac (Nat×Nat×ce):=a8.map λp=>(p.1*C.s e,C.s e,p.2)
def acZ(C:Env)(f:Nat)(as:ac ce):c7:=
 match as,Nat.beq f C.kR,Nat.beq f C.lb,Nat.beq f C.aX,Nat.beq f C.idx with
 |[a],true,_,_,_=>.kR a
 |[a,b],_,true,_,_=>.lb a b
 |[a,b],_,_,true,_=>.ext (.aX a b)
 |[a,b],_,_,_,true=>.ext (.idxs C.lj a b)
 |as,_,_,_,_=>match as,C.acY with
  |[a],some (g,e)=>match Nat.beq f g with
   |true=>.ext (.DF e a)
   |false=>.call (.func f) [a]
  |as,_=>.call (.func f) as
def len(C:Env)(t:Nat)(a:ce):c7:=match C.d t with
 |.aK _=>.o6 a
 |.str=>.vK a
 |.bP n _=>.Aq n
 |.mp _ _=>.ext (.vG a)
 |.lV e=>match C.d e with
  |.bP n _=>.Aq n
  |_=>.refuse
 |_=>.refuse
def el(C:Env)(t:Nat):Nat:=match C.d t with
 |.aK e=>e
 |.bP _ e=>e
 |.lV e=>e
 |_=>0
def ac0(C:Env)(f:Builtin)(as:ac ce)(ay:ac Nat):c7:=
 match f,as,ay with
 |.len,[a],t::_=>C.len t a
 |.cap,[a],t::_=>match C.d t with
  |.aK _=>.ext (.Iq a)
  |_=>.refuse
 |.delete,[a,b],t::_=>match C.d t with
  |.mp k _=>.ext (.del (C.cp k) a b)
  |_=>.refuse
 |.append,[a,b],t::_=>.app (C.el t) (C.s<|C.el t) (C.b<|C.el t) a b
 |.max,a::as,_=>.gN a as
 |.min,a::as,_=>.Ar a as
 |.copy,[a,b],t::_=>.ss (C.s<|C.el t) a b
 |.recover,_,_=>.tM
 |.unsafeSliceData,[a],_=>.DK a
 |.unsafeString,[a,b],t::_=>.tN (C.el t) a b
 |_,_,_=>.refuse
def o5(C:Env)(t f:Nat):Nat×Nat:=match C.d t with
 |.st l=>l.getD f (0,0)
 |_=>(0,0)
def ac1(C:Env)(hF:ac Nat):Op->c7
 |.move a=>.jl a
 |.assign a=>.jl a
 |.pick a b c=>.pick a b c
 |.alloc t=>.alloc (C.z t) t
 |.box t a=>.box t a
 |.build t a8=>.build (C.z t) (match C.d t with
  |.st l=>a8.toList.map λp=>((l.getD p.1 (0,0)).1,C.s (l.getD p.1 (0,0)).2,p.2)
  |.bP _ e=>C.parts e a8.toList
  |_=>[])
 |.buildSlice t n a8=>.qa (C.el t) n ((List.replicate n<|C.z<|C.el t).flatten) (C.parts (C.el t) a8.toList)
 |.load t a=>match C.g t with
  |true=>.mi (C.s t) a
  |false=>.h2 a
 |.store t a x=>.store (C.s t) a x
 |.nilCheck a=>.tJ a
 |.binOp U t a b _=>C.bin hF U t a b
 |.unOp U _ a=>.un U a
 |.convert s t a=>C.conv s t a
 |.makeInterface t a=>.DG t a
 |.makeFunc f a b=>.rj f a.toList b.toList
 |.makeMap _ _=>.o4
 |.makeSlice t l c=>.rk (C.el t) (C.b<|C.el t) (C.z<|C.el t) l c
 |.slice t a bg af gN=>match C.d t with
  |.str=>.sr a bg af
  |.bP n e=>.vJ n (C.s e) a bg af gN
  |.aK e=>.ny (C.s e) a bg af gN
  |_=>.refuse
 |.fieldAddr t a f=>.qb (C.o5 t f).1 a
 |.field t a f=>.o5 (C.o5 t f).1 (C.s (C.o5 t f).2) (C.g (C.o5 t f).2) a
 |.indexAddr t a i=>match C.d t with
  |.bP n e=>.rl n (C.s e) a i
  |.aK e=>.h3 (C.s e) a i
  |_=>.refuse
 |.index t a i=>match C.d t with
  |.str=>.tL a i
  |.bP n e=>.Ir n (C.s e) (C.g e) a i
  |_=>.refuse
 |.typeAssert a _ t ok=>.DH t (C.tX t) ok a
 |.extract a i=>.rm a i
 |.call c=>match c.callee with
  |.value f=>match f with
   |.func f=>C.acZ f c.args.toList
   |f=>.call f c.args.toList
  |.builtin b=>C.ac0 b c.args.toList c.argTypes.toList
  |.invoke r n=>.inv (C.Qr n) r c.args.toList
 |.defer c=>match c.callee with
  |.value f=>.o7 f c.args.toList
  |_=>.refuse
 |.panic a=>.nz a
 |.lookup t m k ok=>match C.d t with
  |.mp a v=>.ext (.look (C.cp a) (C.tX v) ok m k)
  |_=>.refuse
 |.mapUpdate t m k v=>match C.d t with
  |.mp a _=>.ext (.eO (C.cp a) m k v)
  |_=>.refuse
 |.insert t m k v=>match C.d t with
  |.mp a _=>.ext (.eO (C.cp a) m k v)
  |_=>.refuse
 |.range t m=>match C.d t with
  |.str=>.ext (.DD m)
  |_=>.ext (.tH m)
 |.next i s=>match s with
  |true=>.ext (.DE i)
  |false=>.ext (.nx i)
 |.entry i=>.ext (.vH i)
 |_=>.refuse
end Env
def ol:be ce->ac ce
 |none=>[]
 |some a=>[a]
def ac2:tG->ac ce
 |.look _ _ _ a b=>[a,b]
 |.eO _ a b c=>[a,b,c]
 |.del _ a b=>[a,b]
 |.vG a=>[a]
 |.tH a=>[a]
 |.vH a=>[a]
 |.aX a b=>[a,b]
 |.tI _ _ a b=>[a,b]
 |.nx a=>[a]
 |.x0 _ a b=>[a,b]
 |.idxs _ a b=>[a,b]
 |.DD a=>[a]
 |.DE a=>[a]
 |.DF _ a=>[a]
 |.Iq a=>[a]
def EX:c7->ac ce
 |.jl a=>[a]
 |.pick a b c=>[a,b,c]
 |.alloc _ _=>[]
 |.box _ a=>[a]
 |.build _ l=>l.map λp=>p.2.2
 |.qa _ _ _ l=>l.map λp=>p.2.2
 |.h2 a=>[a]
 |.mi _ a=>[a]
 |.store _ a b=>[a,b]
 |.tJ a=>[a]
 |.bin _ a b=>[a,b]
 |.eqv _ _ a b=>[a,b]
 |.un _ a=>[a]
 |.tK _ a=>[a]
 |.x2 a=>[a]
 |.Ap a=>[a]
 |.vI _ a=>[a]
 |.DG _ a=>[a]
 |.rj _ a b=>a++b
 |.o4=>[]
 |.rk _ _ _ a b=>[a,b]
 |.sr a b c=>a::(ol b++ol c)
 |.vJ _ _ a b c e=>a::(ol b++(ol c++ol e))
 |.ny _ a b c e=>a::(ol b++(ol c++ol e))
 |.qb _ a=>[a]
 |.o5 _ _ _ a=>[a]
 |.rl _ _ a b=>[a,b]
 |.h3 _ a b=>[a,b]
 |.tL a b=>[a,b]
 |.Ir _ _ _ a b=>[a,b]
 |.DH _ _ _ a=>[a]
 |.rm a _=>[a]
 |.call f l=>f::l
 |.inv _ f l=>f::l
 |.N4 _ _ a=>[a]
 |.o6 a=>[a]
 |.vK a=>[a]
 |.x3 a=>[a]
 |.app _ _ _ a b=>[a,b]
 |.gN a l=>a::l
 |.Ar a l=>a::l
 |.ss _ a b=>[a,b]
 |.o7 f l=>f::l
 |.nz a=>[a]
 |.DI a=>[a]
 |.DJ _ _ a=>[a]
 |.DK a=>[a]
 |.tN _ a b=>[a,b]
 |.lb a b=>[a,b]
 |.kR a=>[a]
 |.ext y=>ac2 y
 |_=>[]
def Bh(l:ac ce):ac Nat:=l.filterMap λ
 |.tmp d=>some d
 |_=>none
def fx:c7->Nat
 |.ext y=>match y with
  |.eO _ _ _ _=>0
  |.del _ _ _=>0
  |.tH _=>0
  |.nx _=>0
  |.DD _=>0
  |.DE _=>0
  |.DF _ _=>0
  |_=>2
 |.call _ _=>0
 |.inv _ _ _=>0
 |.app _ _ _ _ _=>0
 |.ss _ _ _=>0
 |.tM=>0
 |.o7 _ _=>0
 |.nz _=>0
 |.store _ _ _=>0
 |.refuse=>0
 |.tN _ _ _=>0
 |.x3 _=>0
 |.alloc _ _=>1
 |.box _ _=>1
 |.qa _ _ _ _=>1
 |.vI _ _=>1
 |.o4=>1
 |.rk _ _ _ _ _=>1
 |_=>2
def mem(l:ac Nat)(t:Nat):Bool:=l.any<|Nat.beq t
def add(l:ac Nat)(t:Nat):ac Nat:=match mem l t with
 |true=>l
 |false=>l++[t]
def wq(ops:ac Oper)(U:Oper):be (Nat×Bool):=match U.guard with
 |none=>none
 |some (d,w)=>match(ops[d]?).bind (·.dst)with
  |some t=>some (t,w)
  |none=>none
def JS(t:Nat):ac Oper->be String
 |[]=>none
 |U::os=>match U.op,U.dst with
  |.makeFunc (.method n) _ _,some d=>(match Nat.beq d t with
   |true=>some n
   |false=>JS t os)
  |_,_=>JS t os
def Qt(C:Env)(hF:ac Nat)(ops:ac Oper)(U:Oper):bm:=⟨U.dst,(match U.op with
 |.nilCheck (.tmp t)=>(match JS t ops with
  |some n=>.N4 n (C.Qr n) (.tmp t)
  |none=>.tJ<|.tmp t)
 |_=>C.ac1 hF U.op),wq ops U⟩
def binds(e:Edge):Bool:=match e.ground with
 |.textOnly _=>false
 |.gcOnly _=>false
 |_=>true
def Qu:ac Nat->ac Oper->ac Nat
 |B,[]=>B
 |B,U::os=>Qu (B++[(U.after.toList.filter binds).foldl (λm e=>m|||(2^e.on|||B.getD e.on 0)) 0]) os
def ord(n:Nat)(B K:ac Nat):ac Nat:=
 let es:=(List.range n).filter λi=>Nat.beq (K.getD i 2) 0
 let l:=es.foldl (λl e=>add (((List.range n).filter λi=>(B.getD e 0).testBit i).foldl add l) e) []
 (List.range n).foldl add l
def maskAt(m:Nat):Nat->ac Nat->Nat
 |_,[]=>0
 |p,i::l=>(match m.testBit i with
  |true=>2^p
  |false=>0)+maskAt m (p+1) l
def qc(C:Env)(hF:ac Nat)(ops:ac Oper):dk:=
 let xs:=ops.map<|Qt C hF ops
 let K:=xs.map λx=>fx x.U
 let L:=xs.map λx=>Bh (EX x.U)++(match x.g with
  |some (t,_)=>[t]
  |none=>[])
 let B:=Qu [] ops
 let h:=ord ops.length B K
 let row (p:Nat) (i:Nat):bm×cr:=(xs.getD i ⟨none,.refuse,none⟩,match K.getD i 0 with
  |0=>.dF
  |1=>.gq (L.getD i [])
  |_=>.read (((h.take p).filter λj=>Nat.beq (K.getD j 2) 0&& !(B.getD i 0).testBit j).length)<|L.getD i [])
 let e3:=(List.range h.length).foldl (λl p=>match(xs.getD (h.getD p 0) ⟨none,.refuse,none⟩).d with
  |none=>l
  |some t=>match(h.take p).any λj=>(Nat.beq (K.getD j 2) 0||mem (L.getD j []) t)&& !(B.getD (h.getD p 0) 0).testBit j with
   |true=>add l t
   |false=>l) []
 .qc ((List.range h.length).map λp=>row p<|h.getD p 0) h e3<|h.map λi=>maskAt (B.getD i 0) 0 h
def code(C:Env)(hF:ac Nat):Code->dk
 |.skip=>.skip
 |.label _=>.skip
 |.region _ ops d=>match d with
  |true=>qc C hF ops.toList
  |false=>.fU (ops.toList.map<|Qt C hF ops.toList)
 |.seq a b=>.seq (code C hF a) (code C hF b)
 |.cond x a b=>.cond x (code C hF a) (code C hF b)
 |.block n a=>.block n (code C hF a)
 |.loop a=>.loop (code C hF a)
 |.rangeFunc x a8 a b=>.tO x a8.toList (code C hF a) (code C hF b)
 |.scope a=>.scope (code C hF a)
 |.exit n=>.exit n
 |.ret=>.ret
 |_=>.refuse
def ac3(g:Nat)(U:Oper):ac Nat:=match U.op,U.dst with
 |.load _ (.global h),some t=>match Nat.beq g h with
  |true=>[t]
  |false=>[]
 |_,_=>[]
def rT(g:Nat):Code->ac Nat
 |.region _ ops _=>ops.toList.flatMap (ac3 g)
 |.seq a b=>rT g a++rT g b
 |.cond _ a b=>rT g a++rT g b
 |.block _ a=>rT g a
 |.loop a=>rT g a
 |.rangeFunc _ _ a b=>rT g a++rT g b
 |.scope a=>rT g a
 |_=>[]
def res(C:Env):ResultVar->gU
 |.tmp t=>.tmp t
 |.cell t k=>.cell t (C.g k)<|C.s k
def fn(C:Env)(f:Func):cJ:=match f.body with
 |none=>⟨0,[],.refuse⟩
 |some c=>⟨f.ntmps,f.results.toList.map<|res C,code C (rT C.lj c) c⟩
end Go.bA.JO
