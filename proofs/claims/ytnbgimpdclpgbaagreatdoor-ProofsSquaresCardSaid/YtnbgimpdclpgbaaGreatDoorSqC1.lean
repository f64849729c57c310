/- What the functions of the program and of the document compute, for every input, and the plain laws of it (part 1); conditions as in the statements. -/
import Derived.Test.YtnbgimpdclpgbaaGreatDoorSqS3
import Derived.Test.YtnbgimpdclpgbaaGreatDoorSqT
set_option linter.all false
namespace Go.bC.dg
structure aE where
 a:Nat
 b:Nat
 c:Nat
 d:Nat
 e:Nat
 f:Nat
deriving DecidableEq
def aE.lt(x y:aE):Prop:=x.a<y.a\/x.a=y.a/\(x.b<y.b\/x.b=y.b/\(x.c<y.c\/x.c=y.c/\(x.d<y.d\/x.d=y.d/\(x.e<y.e\/x.e=y.e/\x.f<y.f))))
variable{x y:aE}
instance(x y:aE):Decidable (aE.lt x y):=by unfold aE.lt;infer_instance
theorem aE.nK(x:aE):¬aE.lt x x:=by rw[aE.lt];omega
theorem aE.xt{z:aE}(h:aE.lt x y)(D:aE.lt y z):aE.lt x z:=by unfold aE.lt at *;omega
def aE.CD(h:¬aE.lt x y)(aj:x≠y):aE.lt y x:=by
 by_cases g:aE.lt y x
 .exact g
 .exfalso;apply aj;cases x;cases y;unfold aE.lt at h g;simp only at h g;simp;omega
abbrev Poly:=ac<|aE×Rat
def Poly.dU(P:Poly):Prop:=P.Pairwise λp q=>aE.lt p.1 q.1
variable{P:Poly}{k:aE}
def b3:Poly->aE->Rat
 |[],_=>0
 |p::P,k=>if p.1=k then p.2 else b3 P k
def dc:Poly->aE->Rat->Poly
 |[],k,x=>if x+0=0 then[]else[(k,x+0)]
 |p::P,k,x=>if p.1=k then(if x+p.2=0 then P else(k,x+p.2)::P)else if aE.lt k p.1 then(if x+0=0 then p::P else(k,x+0)::p::P)else p::dc P k x
theorem tu(h:∀p∈P,p.1≠k):b3 P k=0:=by
 induction P with
 |nil=>rfl
 |cons p P I=>
  grind [b3]
theorem k8(M:P.dU){x:Rat}(h:(k,x)∈P):b3 P k=x:=by
 induction P with
 |nil=>cases h
 |cons p P I=>
  have K:=n0.1 M;rw[b3];obtain rfl|h:=fh.1 h
  .rw[aD j]
  .rw[av λe=>aE.nK k apt];exact I K.2 h
theorem lG(M:P.dU)(k:aE)(x:Rat)(q:aE×Rat):q∈dc P k x↔(q.1=k/\q.2=x+b3 P k/\x+b3 P k≠0)\/q∈P/\q.1≠k:=by
 have one:∀s:Rat,q=(k,s)↔q.1=k/\q.2=s:=λs=>⟨λe=>by rw[e];exact fe,λ⟨Y,G⟩=>by cases q;simp only at Y G;rw[Y,G]⟩
 induction P with
 |nil=>
  grind [dc,b3]
 |cons p P I=>
  have K:=n0.1 M;unfold dc b3;by_cases hp:p.1=k
  .grind [aE.nK]
  .rw[av hp];split
   .grind [aE.nK,aE.xt,tu]
   .have l:=I K.2;constructor
    .intro h;rcases fh.1 h with rfl|h
     .exact .inr ⟨hT,hp⟩
     .rcases l.1 h with h|h
      .exact .inl h
      .exact .inr ⟨fq _ h.1,h.2⟩
    .rintro(h|⟨h,aj⟩)
     .exact fq _<|l.2<|.inl h
     .rcases fh.1 h with rfl|h
      .exact hT
      .exact fq _<|l.2<|.inr ⟨h,aj⟩
def lH(M:P.dU)(k:aE)(x:Rat):(dc P k x).dU:=by
 induction P with
 |nil=>rw[dc];split<;>simp[Poly.dU]
 |cons p P I=>
  have K:=n0.1 M;rw[dc];split
  .rename_i hp;split
   .exact K.2
   .exact n0.2 ⟨λq E=>by have:=K.1 q E;rw[hp]at this;exact this,K.2⟩
  .rename_i hp;split
   .rename_i aW;split
    .exact M
    .refine n0.2 ⟨λq E=>?_,M⟩;obtain rfl|E:=fh.1 E
     .exact aW
     .exact aE.xt aW<|K.1 q E
   .rename_i aW;refine n0.2 ⟨λq E=>?_,I K.2⟩;obtain⟨Y,_⟩|⟨Y,_⟩:=(lG K.2 k x q).1 E
    .rw[Y];exact aE.CD aW λe=>hp e.symm
    .exact K.1 q Y
def GC(M:P.dU)(k:aE)(x:Rat)(J:aE):b3 (dc P k x) J=if J=k then x+b3 P k else b3 P J:=by
 by_cases l:∃y,(J,y)∈dc P k x
 .have⟨y,T⟩:=l;rw[k8 atH T];obtain⟨Y,G,_⟩|⟨Y,G⟩:=(lG M k x _).1 T
  .rw[aD Y];exact G
  .rw[av G];exact(k8 M Y).symm
 .have z:∀p∈dc P k x,p.1≠J:=λp hp e=>l ⟨p.2,by rwa [<-e]⟩;rw[tu z];split
  .rename_i h;subst h;by_cases F:x+b3 P J=0
   .exact F.symm
   .exact absurd j (z (J,x+b3 P J)<|(lG M J x _).2<|.inl ⟨j,j,F⟩)
  .rename_i h;exact(tu λp hp e=>(z p ((lG M k x _).2<|.inr ⟨hp,by rw[e];exact h⟩) e)).symm
def Poly.iS(P:Poly):Prop:=∀p∈P,p.2≠0
def zI(M:P.dU)(aj:P.iS)(k:aE)(x:Rat):(dc P k x).iS:=λq E=>by
 obtain⟨_,G,A⟩|⟨Y,_⟩:=(lG M k x q).1 E
 .rw[G];exact A
 .exact aj q Y
theorem GD:∀{P Q:Poly},P.dU->Q.dU->P.iS->Q.iS->(∀k,b3 P k=b3 Q k)->P=Q:=by
 have mem:∀{P Q:Poly},P.dU->P.iS->(∀k,b3 P k=b3 Q k)->∀p∈P,p∈Q:=λ{P Q} M aj h p hp=>by
  have Y:=k8 M hp;rw[h]at Y;have key:∀Q:Poly,b3 Q p.1=p.2->p∈Q:=by
   intro Q
   induction Q with
   |nil=>intro e;exact absurd e.symm (aj p hp)
   |cons q Q j=>
    grind [b3]
  exact key Q Y
 intro P
 induction P with
 |nil=>
  intro Q _ E _ aj h;cases Q with
  |nil=>rfl
  |cons q Q=>exact absurd (mem E aj (λk=>(h k).symm) q hT) au
 |cons p P j=>
  intro Q M t aj l h;cases Q with
  |nil=>exact absurd (mem M aj h p hT) au
  |cons q Q=>
   have o:=n0.1 M;have C:=n0.1 t;have e:p=q:=by
    have Z:=mem M aj h p hT;have F:=mem t l (λk=>(h k).symm) q hT;obtain e|Z:=fh.1 Z
    .exact e
    .obtain e|F:=fh.1 F
     .exact e.symm
     .exact absurd (aE.xt (o.1 q F)<|C.1 p Z)<|aE.nK _
   subst e;rw[j o.2 C.2 (λr I=>aj r<|fq _ I) (λr I=>l r<|fq _ I) λk=>?_];have N:=h k
   grind [b3,tu,aE.nK]
def fg:ac Nat->ac Nat
 |[]=>[]
 |d::aM=>match fg aM with
  |[]=>if d=0 then[]else[d]
  |r=>d::r
def val(b:Nat):ac Nat->Nat
 |[]=>0
 |d::aM=>d+b*val b aM
def Ok(b:Nat)(aM:ac Nat):Prop:=∀d∈aM,d<b
variable{b i:Nat}
theorem ri(dw:ac Nat)(d:Nat):fg (dw++[d])=if d=0 then fg dw else dw++[d]:=by
 induction dw with
 |nil=>simp[fg]
 |cons x xs I=>
  simp;rw[fg,I];by_cases h:d=0
  .rw[aD h,aD h,fg]
  .rw[av h,av h];cases xs<;>rfl
theorem l6(b:Nat)(xs Z:ac Nat):val b (xs++Z)=val b xs+b^xs.length*val b Z:=by
 induction xs with
 |nil=>simp[val]
 |cons x xs I=>
  grind [val]
theorem akj(b:Nat)(aM:ac Nat):val b (fg aM)=val b aM:=by
 suffices h:∀n (aM:ac Nat),aM.length=n->val b (fg aM)=val b aM from h _ aM j
 intro n
 induction n with
 |zero=>intro aM h;rw[nZ h];rfl
 |succ n I=>
  intro aM h;obtain rfl|⟨dw,d,rfl⟩:=pE aM
  .rfl
  .grind [ri,l6,val]
def WG(aM:ac Nat):(fg aM).length<=aM.length:=by
 induction aM with
 |nil=>exact c5 _
 |cons d aM I=>
  rw[fg];split
  .split<;>simp
  .simp;exact I
def ku{aM:ac Nat}(h:Ok b aM):val b aM<b^aM.length:=by
 induction aM with
 |nil=>simp[val]
 |cons d aM I=>
  have Y:=h d au;simp[val,hQ,g6];have:b*(val b aM+1)<=b*b^aM.length:=rK _<|I λx O=>h x<|fq _ O;rw[gP<|b^aM.length];rw[iM]at this;omega
def CE{dw:ac Nat}{d:Nat}(h:fg (dw++[d])=dw++[d]):b^dw.length<=val b (dw++[d])/\d≠0:=by
 rw[ri]at h;by_cases T:d=0
 .rw[aD T]at h;have:=WG dw;rw[h]at this;simp at this;omega
 .refine⟨?_,T⟩;rw[l6];simp only[val];have:b^dw.length*1<=b^dw.length*(d+b*0):=rK _ R;omega
def GF(ay:0<b){x y:ac Nat}(O:Ok b x)(T:fg y=y)(h:x.length<y.length):val b x<val b y:=by
 obtain rfl|⟨dw,d,rfl⟩:=pE y
 .simp at h
 .rw[rQ]at *;have Y:=ku O;have G:=(CE (b:=b) T).1;have A:b^x.length<=b^dw.length:=j0 ay (by simp at h;omega);omega
def GG{p D s:ac Nat}{x y:Nat}(hp:Ok b p)(aB:p.length=D.length)(h:x<y):val b (p++x::s)<val b (D++y::s):=by
 rw[l6,l6,<-aB];simp[val];have Y:=ku hp;have G:b^p.length*(x+b*val b s+1)<=b^p.length*(y+b*val b s):=rK _ R;rw[iM _ (x+b*val b s) 1]at G;omega
theorem iu{l:ac Nat}(h:i<l.length):val b (l.take<|i+1)=val b (l.take i)+b^i*l[i]:=by
 rw[hR h,l6]
 grind [val]
def ka{l:ac Nat}(h:l.length<=i):val b (l.take i)=val b l:=by rw[gB h]
def aU(b n:Nat):ac Nat:=if h:b<2\/n=0 then[]else n%b::aU b (n/b)
termination_by n
decreasing_by
 exact AB R R
variable{n U c u w d:Nat}
theorem g1(b:Nat):aU b 0=[]:=by rw[aU];simp
theorem nL(ay:2<=b)(aj:n≠0):aU b n=n%b::aU b (n/b):=by rw[aU,dif_neg R]
theorem gx(ay:2<=b)(n:Nat):val b (aU b n)=n:=by
 induction n using Nat.strongRecOn with
 |ind n I=>
  by_cases aj:n=0
  .subst aj;rw[g1];rfl
  .rw[nL ay aj,val,I _<|AB R R];exact AD n b
def hb(ay:2<=b)(n:Nat):Ok b (aU b n):=by
 induction n using Nat.strongRecOn with
 |ind n I=>
  by_cases aj:n=0
  .subst aj;rw[g1];exactλx O=>by simp at O
  .rw[nL ay aj];intro x O;obtain rfl|O:=fh.1 O
   .exact eY _ R
   .exact I _ (AB R R) x O
theorem oC(ay:2<=b):aU b n=[]↔n=0:=by
 grind [gx,val,g1]
def va(ay:2<=b)(n:Nat):fg (aU b n)=aU b n:=by
 induction n using Nat.strongRecOn with
 |ind n I=>
  by_cases aj:n=0
  .subst aj;rw[g1];rfl
  .rw[nL ay aj,fg,I _<|AB R R];by_cases T:n/b=0
   .rw[T,g1];have:=oP<|(Nat.div_eq_zero_iff_lt R).1 T;rw[this];simp[aj]
   .cases D:aU b (n/b)with
    |nil=>exact absurd ((oC ay).1 D) T
    |cons x xs=>rfl
theorem zJ{b:Nat}(ay:2<=b):∀{aM:ac Nat},Ok b aM->fg aM=aM->aU b (val b aM)=aM
 |[],_,_=>g1 b
 |d::aM,h,N=>by
  have aC:=h d au;have G:Ok b aM:=λx O=>h x<|fq _ O;have A:fg aM=aM/\(aM=[]->d≠0):=by
   rw[fg]at N;cases I:fg aM with
   |nil=>
    rw[I]at N;simp only at N;split at N
    .cases N
    .cases N;exact⟨j,λ_=>pT⟩
   |cons x xs=>
    rw[I]at N;cases N;exact⟨j,λh=>by cases h⟩
  have o:val b (d::aM)≠0:=by
   simp only[val];cases l:aM with
   |nil=>have:=A.2 l;exact this
   |cons x xs=>
    intro F;have T:=zJ ay G A.1;have:b*val b (x::xs)=0:=R
    have:val b (x::xs)=0:=by
     obtain h|h:=Nat.mul_eq_zero.1 this
     .omega
     .exact h
    rw[l,this,g1]at T;cases T
  rw[nL ay o];have S:val b (d::aM)%b=d:=by simp only[val];rw[DI,oP aC]
  have z:val b (d::aM)/b=val b aM:=by simp[val];rw[yd _ _ R,rR aC];omega
  rw[S,z,zJ ay G A.1]
def xu(ay:2<=b){aM:ac Nat}(h:Ok b aM):fg aM=aU b (val b aM):=by
 rw[<-akj,zJ ay (by
    induction aM with
    |nil=>exact h
    |cons d aM I=>
     have G:=h d au;unfold fg;split
     .split
      .exactλx O=>by simp at O
      .intro x O;simp at O;omega
     .rename_i r l;intro x O;rcases fh.1 O with rfl|O
      .exact G
      .exact(I λx O=>h x<|fq _ O) x O) (by
    suffices h:∀n (aM:ac Nat),aM.length=n->fg (fg aM)=fg aM from h _ aM j
    intro n
    induction n with
    |zero=>intro aM h;rw[nZ h];rfl
    |succ n I=>
     intro aM h;obtain rfl|⟨dw,d,rfl⟩:=pE aM
     .rfl
     .rw[rQ]at *;rw[ri];split
      .exact I dw apH
      .rename_i F;rw[ri,av F])]
def je{k:Nat}(ay:2<=b)(h:n<b^k):(aU b n).length<=k:=by
 have N:=va ay n;have S:=gx ay n;obtain D|⟨dw,d,D⟩:=pE<|aU b n
 .rw[D];simp
 .rw[rQ]at D;rw[D]at N S;have Y:=(CE (b:=b) N).1;rw[S]at Y;have A:=(vW R).1<|mT Y h;rw[D];simp;omega
def CF{k:Nat}(ay:2<=b)(h:b^k<=n):k<(aU b n).length:=by
 have Y:=ku<|hb ay n;rw[gx ay]at Y;exact(vW (by omega:1<b)).1 R
def WH{P x y:Nat}(ay:0<b)(h:U+P*c=u+w):U+P*((c+x+y)%b)+P*b*((c+x+y)/b)=u+P*x+(w+P*y):=by
 have Y:P*(c+x+y)=P*((c+x+y)%b)+P*b*((c+x+y)/b):=by
  rw[iZ,<-iM,AD]
 rw[iM,iM]at Y;omega
theorem WI{P x y E:Nat}(h:u+P*c=U+w)(T:x+b*E=d+y+c):u+P*x+P*b*E=U+P*d+(w+P*y):=by grind
def mD{l:ac Nat}(h:Ok b l)(i:Nat)(T:d<b):Ok b (l.set i d):=λx O=>by
 obtain Y|Y:=List.mem_or_eq_of_mem_set O
 .exact h x Y
 .omega
def sB(ay:0<b)(n:Nat):Ok b (List.replicate n 0):=λx O=>by
 have:=List.eq_of_mem_replicate O;omega
def val_zero(b n:Nat):val b (List.replicate n 0)=0:=by
 induction n with
 |zero=>rfl
 |succ n I=>simp[List.replicate_succ,val,I]
def jf(a b:Nat):Int:=if a<b then -1 else if a=b then 0 else 1
open Go.bC
set_option maxRecDepth 100000
set_option maxHeartbeats 4000000
abbrev bl(f:d7)(s:Spec):Prop:=et b5.ctx f s
variable{f:d7}
instance{f:d7}{s:Spec}(h:bl f s):CoeDep (bl f s) h (Nat×dV):=⟨(f,s.K)⟩
def bL(K:ac (Nat×dV))(a4:cX){S:df}(h:∀l,S.pre l->∀H aq,bM.ok ⟨cg aL (cw b5.ctx<|bD K)<|bs+1,bs+1,f,H,[],aq,Fin S l a4.res⟩ ⟨[],.c a4.body,⟨[],0,iT 0<|S.args l⟩⟩)
 (O:aL.get f=some a4:=by kernel_rfl) (aB:∀l,(S.args l).length<=a4.aN:=by exactλ_=>ib j):bl f S:=Lb b5.eh ez (bD K) O aB λl hp H aq _=>h l hp H aq
def WJ(K:ac (Nat×dV))(a4:cX){S:df}(h:∀l,S.pre l->∀H aq,bM.ok ⟨cg aL (cw b5.ctx<|bD K)<|bs+1,bs+1,f,H,[],aq,Sz S l aq.ae a4.res⟩ ⟨[],.c a4.body,⟨[],0,iT 0<|S.args l⟩⟩)
 (O:aL.get f=some a4:=by kernel_rfl) (aB:∀l,(S.args l).length<=a4.aN:=by exactλ_=>ib j):et b5.ctx f S.jR:=by
  refine Kq b5.eh ez (bD K) O (λl z st ⟨_,_,_,d⟩=>by rw[gq d];exact aB l.1) ?_;rintro⟨l,H⟩ z st ⟨hp,E,Z,d⟩;apply(h l hp H st H [] st (eg z) aqd Z<|cS.zero d).mono;rintro x o al ⟨C,G,s,F,t,D,O,r,Y,hle⟩;obtain⟨v,A,T⟩:=sv t D Y;exact⟨O,v,T,C,t.less,F.less,hle _ _ _ A⟩
def sC(K:ac (Nat×dV))(a4:cX){S:df}(h:∀l,S.pre l->∀H aq,S.hp H->bM.ok ⟨cg aL (cw b5.ctx<|bD K)<|bs+1,bs+1,f,H,[],aq,Fin S l a4.res⟩ ⟨[],.c a4.body,⟨[],0,iT 0<|S.args l⟩⟩)
 (O:aL.get f=some a4:=by kernel_rfl) (aB:∀l,(S.args l).length<=a4.aN:=by exactλ_=>ib j):bl f S:=Lb b5.eh ez (bD K) O aB h
def k9(K:ac (Nat×dV))(a4:cX){S:gv}(h:∀l,S.pre l->∀H i0 aq,i0.length=(S.own l).length->bM.ok ⟨cg aL (cw b5.ctx<|bD K)<|bs+1,bs+1,f,H,i0,aq,Ci S l a4.res⟩ ⟨[],.c a4.body,⟨S.own l,(S.own l).length,iT 0<|S.args l⟩⟩)
 (O:aL.get f=some a4:=by kernel_rfl) (aB:∀l,(S.args l).length<=a4.aN:=by exactλ_=>ib j):bl f S:=aeR b5.eh ez (bD K) O aB λl hp H i0 aq _ aB=>h l hp H i0 aq aB
def fV(d:Nat):ac ag:=[.i .u32 d]
def ds(aM:ac Nat):ag:=.b6 1 Nat fV aM
def dt(n:Nat):ag:=ds<|aU 4294967296 n
def tv{n m:Int}(h:n=m)(aC: -9223372036854775808<=n)(aI:n<9223372036854775808):IntKind.i64.wrap n=m:=by rw[gn aC aI,h]
def WK(n:Int):IntKind.u64.wrap n=n%18446744073709551616:=by
 rw[<-ln];exact rX _ _ ai
def Mh:df:=bV λ(z:ac Nat)=>([ds z],z.length<=1099511627776,ds<|fg z)
theorem WL:bl 222 Mh:=by
 refine bL [] U3.1 ?_;intro z (hp:z.length<=1099511627776) H aq;refine I 7<|ea (λes:ac Nat=>fg es=fg z/\es.length<=z.length) (λes=>⟨[],0,[(0,ds es)]⟩) List.length [] z ⟨j,cf _⟩ (by show z.length<bs+1;unfold bs;omega) bk ?_;rintro es ⟨Y,G⟩;rcases pE es with rfl|⟨dw,d,rfl⟩
 .exact I 30<|bn (ep j j (.of<|by rw[show Mh.res z=ds (fg z)from rfl,<-Y];rfl))
 .rw[rQ]at *;have l:(dw++[d]).length=dw.length+1:=by simp
  refine I 7<|cM 6<|I 9<|aJ 10 (.aa dw.length) j aq8<|e0 (K3 j j (show(dw++[d])[dw.length]? =some d by simp)) ?_;refine I 7<|w6 j (λT=>?_) λT=>?_
  .have T:d=0:=by grind
   refine I 8<|aJ 18 (.aa dw.length) j aq8<|e0 (K8 j j dN (c8 _) au) ?_;refine I 3<|bB [] dw ⟨au,by rw[<-Y,ri,aD T],R⟩ (k3 ⟨?_,az⟩);simp[dn,j7,ds]
  .have T:d≠0:=by grind
   exact I 12<|cC (by rw[show Mh.res z=ds (fg z)from rfl,<-Y,ri,av T])
def mE:bl 128 (bV λ(aM:ac Nat)=>([ds aM],Ok 4294967296 aM/\aM.length<=1099511627776,dt<|val 4294967296 aM)):=by
 apply bL [WL] VH.1;intro aM ⟨Y,G⟩ H aq;exact I 8<|aS WL aM G<|I 4<|cC (by show ds (fg aM)=ds _;rw[xu ai Y])
def oD:bl 56 (bV λ(n:Nat)=>([.i .u64 n],n<18446744073709551616,dt n)):=by
 apply bL [mE] TW.1;intro(n:Nat) (hp:n<18446744073709551616) H aq;refine I 13<|RJ 0 (ah:=fV) [n%4294967296,n/4294967296] j (by show[ag.i _ _,ag.i _ _]=[ag.i _ _,ag.i _ _];rw[show n/2^32%4294967296=n/4294967296 by omega]) fL ?_;refine RH 8 [n%4294967296,n/4294967296] j j j j ai fL ?_;refine aS mE [n%4294967296,n/4294967296] ⟨λx O=>?_,au⟩ ?_
 .simp at O;rcases O with rfl|rfl<;>omega
 exact I 4<|bn (ep j j (.of<|by show dt _=dt _;simp[val];congr 1;omega))
def ei(k n:Nat):Prop:=(aU 4294967296 n).length<=k
variable{a s B r h v J:Nat}
def GH:bl 63 (bV λ((a,b):Nat×Nat)=>([dt a,dt b],ei 1073741824 a/\ei 1073741824 b,dt<|a+b)):=by
 refine bL [mE] TY.1 ?_;intro⟨a,b⟩ ⟨(A:(aU _ a).length<=_),(C:(aU _ b).length<=_)⟩ H aq;show bM.ok _ ⟨_,_,⟨_,_,[(0,ds<|aU 4294967296 a),(1,ds<|aU 4294967296 b)]⟩⟩;refine I 15<|gZ (λ((xs:ac Nat),(Z:ac Nat))=>Z.length<=xs.length/\xs.length<=1073741824/\Ok 4294967296 xs/\Ok 4294967296 Z/\val 4294967296 xs+val 4294967296 Z=a+b) (λ(xs,Z)=>⟨[],0,[(0,ds xs),(1,ds Z)]⟩) ?_ ?_
 .refine cT (λh=>?_) λh=>?_
  .have h:(aU 4294967296 a).length<(aU 4294967296 b).length:=by omega
   exact I 6<|bB [] (aU _ b,aU _ a) ⟨R,C,hb ai _,hb ai _,by rw[gx ai,gx ai,ua]⟩ bk
  .have h:(aU 4294967296 b).length<=(aU 4294967296 a).length:=by omega
   exact I 1<|dD [] (aU _ a,aU _ b) ⟨h,A,hb ai _,hb ai _,by rw[gx ai,gx ai]⟩
 rintro⟨xs,Z⟩ ⟨z,O,Y,G,M⟩;refine I 5<|cj 18 ((xs.length+1:Nat):Int)<|nF fV 0 ?_;refine I 17 ?_;refine ea (L:=Nat×ac Nat×Nat) (λ(i,o,c)=>i<=xs.length/\o.length=xs.length+1/\Ok 4294967296 o/\c<=1/\val 4294967296 (o.take i)+4294967296^i*c=val 4294967296 (xs.take i)+val 4294967296 (Z.take i))
  (λ((i:Nat),(o:ac Nat),(c:Nat))=>⟨[.a 229 false 1 Nat fV o],1,[(0,ds xs),(1,ds Z),(5,.aH 0 1 0 (xs.length+1)<|xs.length+1),(6,.i .u64 c),(20,ds xs),(21,.aa xs.length),(22,.aa i)]⟩)
  (λl=>xs.length-l.1) [0] (0,List.replicate (xs.length+1) 0,0) ⟨R,au,sB ai _,R,by simp[val]⟩ apI bk ?_
 rintro⟨i,o,c⟩ ⟨af,Q,K,E,S⟩;refine I 6<|cT (λh=>?_) λh=>?_
 .have h:i<xs.length:=by omega
  have aW:=Y _<|dH h;refine I 7<|eW xs[i] (aO h) j<|I 23<|gZ (λy=>y<4294967296/\val 4294967296 (Z.take<|i+1)=val 4294967296 (Z.take i)+4294967296^i*y) (λ(y:Nat)=>⟨[.a 229 false 1 Nat fV o],1,[(0,ds xs),(1,ds Z),(5,.aH 0 1 0 (xs.length+1)<|xs.length+1),(6,.i .u64 ((c+xs[i]+y:Nat):Int)),(7,.aa i),(20,ds xs),(21,.aa xs.length),(22,.aa i)]⟩) ?_ ?_
  .refine cT (λD=>?_) λD=>?_
   .have D:i<Z.length:=by simpa using D
    have t:=G _<|dH D;refine I 4<|eW Z[i] (aO D) j<|I 5<|bB [0] Z[i] ⟨t,iu D⟩ (bk (aI:=⟨j,j,j,?_,j,j,j,j,az⟩));exact p0
   .have D:Z.length<=i:=by simpa using D
    refine I 1<|bB [0] 0 asG (bk (aI:=⟨j,j,j,?_,j,j,j,j,az⟩));exact p0
  rintro y ⟨T,N⟩;refine I 6<|lF j j<|kI ((c+xs[i]+y)%4294967296) ?_;refine I 13<|bB [0] (i+1,o.set i<|(c+xs[i]+y)%4294967296,(c+xs[i]+y)/4294967296) ⟨by show xs.length-(i+1)<xs.length-i;omega,R,by simp[Q],mD K _<|eY _ ai,R,?_⟩ (bk (aI:=⟨j,j,j,j,j,j,?_,az⟩))
  .rw[iu (l:=o.set i _) dM,iu h,N,mQ<|cf _,mg,g6];exact WH ai S
  .exact kt
 .have h:i=xs.length:=by have:xs.length<=i:=by omega
                         omega
  subst h;refine I 12<|lF j j<|kI (c%4294967296) ?_;refine I 5<|h5 56 ?_;refine aS mE (o.set xs.length<|c%4294967296) ⟨mD K _<|eY _ ai,by simp[Q];omega⟩<|I 4<|cC ?_;show dt _=dt _;congr 1;rw[<-ka (i:=xs.length+1) (by simp[Q]),iu dM,mQ<|cf _,mg,gR R,S,ka<|cf _,ka z,M]
def Mi(h:b<=a):(aU 4294967296 b).length<=(aU 4294967296 a).length:=by
 have Y:=ku<|hb (b:=4294967296) ai a;rw[gx ai]at Y;exact je ai R
def Mj:bl 65 (bV λ((a,b):Nat×Nat)=>([dt a,dt b],ei 1073741824 a/\b<=a,dt<|a-b)):=by
 refine bL [mE] T0.1 ?_;intro⟨a,b⟩ ⟨(ad:(aU _ a).length<=_),(C:b<=a)⟩ H aq;have a':=Mi C;have Y:=hb (b:=4294967296) ai a;have G:=hb (b:=4294967296) ai b;have M:=gx (b:=4294967296) ai a;have nH:=gx (b:=4294967296) ai b;show bM.ok _ ⟨_,_,⟨_,_,[(0,ds<|aU 4294967296 a),(1,ds<|aU 4294967296 b)]⟩⟩;generalize aU 4294967296 a=xs at *;generalize aU 4294967296 b=Z at *;refine I 9<|nF fV 0 ?_;refine I 17 ?_;refine ea (L:=Nat×ac Nat×Nat) (λ(i,o,c)=>i<=xs.length/\o.length=xs.length/\Ok 4294967296 o/\c<=1/\val 4294967296 (xs.take i)+4294967296^i*c=val 4294967296 (o.take i)+val 4294967296 (Z.take i))
  (λ((i:Nat),(o:ac Nat),(c:Nat))=>⟨[.a 229 false 1 Nat fV o],1,[(0,ds xs),(1,ds Z),(5,.aH 0 1 0 xs.length xs.length),(6,.i .u64 c),(13,ds xs),(14,.aa xs.length),(15,.aa i)]⟩)
  (λl=>xs.length-l.1) [0] (0,List.replicate xs.length 0,0) ⟨R,au,sB ai _,R,by simp[val]⟩ apI bk ?_
 rintro⟨i,o,c⟩ ⟨af,Q,K,ae,S⟩;refine I 6<|cT (λh=>?_) λh=>?_
 .have h:i<xs.length:=by omega
  have z:xs[i]? =some xs[i]:=aO h;have aW:=Y _<|dH h;refine I 7<|eW xs[i] z j<|I 23<|gZ (λy=>y<4294967296/\val 4294967296 (Z.take<|i+1)=val 4294967296 (Z.take i)+4294967296^i*y) (λ(y:Nat)=>⟨[.a 229 false 1 Nat fV o],1,[(0,ds xs),(1,ds Z),(5,.aH 0 1 0 xs.length xs.length),(9,.i .u64 (((xs[i]+18446744073709551616-c-y)%18446744073709551616:Nat):Int)),(7,.aa i),(13,ds xs),(14,.aa xs.length),(15,.aa i)]⟩) ?_ ?_
  .refine cT (λD=>?_) λD=>?_
   .have D:i<Z.length:=by simpa using D
    have E:Z[i]? =some Z[i]:=aO D;have O:=G _<|dH D;exact I 4<|eW Z[i] E j<|I 5<|bB [0] Z[i] ⟨O,iu D⟩ bk
   .have D:Z.length<=i:=by simpa using D
    exact I 1<|bB [0] 0 asG bk
  rintro y ⟨T,N⟩;generalize ab:(xs[i]+18446744073709551616-c-y)%18446744073709551616=t;refine I 6<|lF j j<|kI (t%4294967296) ?_;refine I 13<|bB [0] (i+1,o.set i<|t%4294967296,t/9223372036854775808) ⟨by show xs.length-(i+1)<xs.length-i;omega,R,by simp[Q],mD K _<|eY _ ai,R,?_⟩ bk;rw[iu (l:=o.set i _) dM,iu h,N,mQ<|cf _,mg,g6];exact WI S R
 .have h:i=xs.length:=by have:xs.length<=i:=by omega
                         omega
  subst h;refine I 8<|h5 43 ?_;refine aS mE o ⟨K,R⟩<|I 4<|cC ?_;show dt _=dt _;congr 1;rw[ka<|cf _,ka (l:=o) R,ka a']at S;have A:=ku K;rw[Q]at A;have F:c=0:=by
   rcases gf 0 c with h|h
   .have:c=1:=by omega
    rw[this]at S;omega
   .omega
  rw[F]at S;show _=a-b;omega
def WM:df:=bV λ((a,b):Nat×Nat)=>([dt a,dt b],ei 1073741824 a/\ei 1073741824 b,.aa<|jf a b)
def zK(h:a<b):jf a b= -1:=by unfold jf;rw[aD h]
def GI(h:b<a):jf a b=1:=by unfold jf;rw[av R,av R]
def WN(a:Nat):jf a a=0:=by unfold jf;simp
def GJ{l:ac Nat}{m:Nat}(h:m<l.length):l=l.take m++l[m]::l.drop (m+1):=by
 rw[<-fj h,np]
def vb:bl 64 WM:=by
 refine bL [] TZ.1 ?_;intro⟨a,b⟩ ⟨(A:(aU _ a).length<=_),(C:(aU _ b).length<=_)⟩ H aq;have Y:=hb (b:=4294967296) ai a;have G:=hb (b:=4294967296) ai b;have Q:=va (b:=4294967296) ai a;have K:=va (b:=4294967296) ai b;have M:=gx (b:=4294967296) ai a;have nH:=gx (b:=4294967296) ai b;show bM.ok _ ⟨_,_,⟨_,_,[(0,ds<|aU 4294967296 a),(1,ds<|aU 4294967296 b)]⟩⟩;generalize aU 4294967296 a=xs at *;generalize aU 4294967296 b=Z at *;have fin:∀{r:Int},jf a b=r->bz (.aa r) (WM.res (a,b)):=λh=>by rw[<-h];exact .refl _
 refine I 15<|cT (λh=>?_) λh=>?_
 .have h:xs.length≠Z.length:=by omega
  refine I 10<|cT (λh=>?_) λh=>?_
  .have h:xs.length<Z.length:=by omega
   refine I 8 ?_;have:=GF (b:=4294967296) ai Y K h;exact bp<|fin<|zK R
  .have h:Z.length<xs.length:=by have:Z.length<=xs.length:=by omega
                                 omega
   refine I 9 ?_;have:=GF (b:=4294967296) ai G Q h;exact bp<|fin<|GI R
 have h:xs.length=Z.length:=R
 refine I 12<|ea (L:=Nat) (λk=>k<=xs.length/\xs.drop k=Z.drop k) (λ(k:Nat)=>⟨[],0,[(0,ds xs),(1,ds Z),(5,.aa<|(k:Int)-1)]⟩) id [] xs.length ⟨cf _,by rw[sU,h,sU]⟩ apM bk ?_;rintro(k:Nat) ⟨N,T⟩;cases k with
 |zero=>
  exact arS
 |succ m=>
  have O:m<xs.length:=R
  have l:m<Z.length:=R
  have e:((m+1:Nat):Int)-1=(m:Nat):=R
  refine aJ 5 (.aa (m:Nat)) j (fG e)<|I 16<|aJ 20 (.b true) j au<|fy xs[m] (aO O) j<|I 3<|fy Z[m] (aO l) j<|I 4 ?_;have z:=GJ O;have S:=GJ l;refine cT (λh=>?_) λh=>?_
  .have o:xs[m]≠Z[m]:=by omega
   refine I 5<|fy xs[m] (aO O) j<|I 3<|fy Z[m] (aO l) j<|I 4<|cT (λh=>?_) λh=>?_
   .have aW:xs[m]<Z[m]:=by omega
    refine I 12<|bp (fin<|zK ?_);exact ar5
   .have aW:Z[m]<xs[m]:=by have:Z[m]<=xs[m]:=by omega
                           omega
    refine I 13<|bp (fin<|GI ?_);exact ar6
  .have D:xs[m]=Z[m]:=by omega
   refine I 8<|bB [] m ⟨au,R,?_⟩ bk;rw[fj O,fj l,D,T]
def Mk{x y:Nat}(aQ:c<4294967296)(O:x<4294967296)(T:y<4294967296)(E:U<4294967296):x*y<18446744073709551616/\x*y+U<18446744073709551616/\c+(x*y+U)<18446744073709551616:=by
 have Y:x*y<=4294967295*4294967295:=ye R R;omega
theorem WO{P Q ah x y:Nat}(Z:P=Q*ah)(h:U+P*c=a+Q*(x*b)):U+P*((c+(x*y+d))%B)+P*B*((c+(x*y+d))/B)=a+P*d+Q*(x*(b+ah*y)):=by
 have Y:P*(c+(x*y+d))=P*((c+(x*y+d))%B)+P*B*((c+(x*y+d))/B):=by
  rw[iZ,<-iM,AD]
 have G:Q*(x*(b+ah*y))=Q*(x*b)+P*(x*y):=by grind
 rw[iM,iM]at Y;omega
def Ml:df:=bV λ((a,b):Nat×Nat)=>([dt a,dt b],ei 1073741824 a/\ei 1073741824 b,dt<|a*b)
def GK:et b5.ctx 61 Ml.jR:=by
 refine WJ [mE] TX.1 ?_;intro⟨a,b⟩ ⟨(av:(aU _ a).length<=_),(C:(aU _ b).length<=_)⟩ H aq;have Y:=hb (b:=4294967296) ai a;have G:=hb (b:=4294967296) ai b;have M:=gx (b:=4294967296) ai a;have nH:=gx (b:=4294967296) ai b;show bM.ok _ ⟨_,_,⟨_,_,[(0,ds<|aU 4294967296 a),(1,ds<|aU 4294967296 b)]⟩⟩;generalize aU 4294967296 a=xs at *;generalize aU 4294967296 b=Z at *;refine I 12<|cj 15 ((xs.length+Z.length:Nat):Int)<|nF fV 0 ?_;refine I 12 ?_;refine ea (L:=Nat×ac Nat) (λ(i,o)=>i<=xs.length/\o.length=xs.length+Z.length/\Ok 4294967296 o/\val 4294967296 (o.take<|i+Z.length)=val 4294967296 (xs.take i)*val 4294967296 Z)
  (λ((i:Nat),(o:ac Nat))=>⟨[.a 229 false 1 Nat fV o],1,[(1,ds Z),(5,.aH 0 1 0 (xs.length+Z.length)<|xs.length+Z.length),(17,ds xs),(18,.aa xs.length),(19,.aa i)]⟩)
  (λl=>xs.length-l.1) [0] (0,List.replicate (xs.length+Z.length) 0) ⟨R,au,sB ai _,by simp[val,val_zero]⟩ apI bk ?_
 rintro⟨i,o⟩ ⟨af,Q,K,S⟩;refine I 6<|cT (λh=>?_) λh=>?_
 .have h:i<xs.length:=by omega
  have t:=Y _<|dH h;refine I 7<|eW xs[i] (aO h) j<|I 19 ?_;refine ea (L:=Nat×ac Nat×Nat) (λ(J,os,c)=>J<=Z.length/\os.length=xs.length+Z.length/\Ok 4294967296 os/\c<4294967296/\(∀k,i+J<=k->os[k]? =o[k]?)/\val 4294967296 (os.take<|i+J)+4294967296^(i+J)*c=val 4294967296 (o.take<|i+J)+4294967296^i*(xs[i]*val 4294967296 (Z.take J)))
   (λ((J:Nat),(os:ac Nat),(c:Nat))=>⟨[.a 229 false 1 Nat fV os],1,[(1,ds Z),(5,.aH 0 1 0 (xs.length+Z.length)<|xs.length+Z.length),(17,ds xs),(18,.aa xs.length),(19,.aa i),(6,.aa i),(7,.i .u32 (xs[i]:Nat)),(8,.i .u64 c),(24,ds Z),(25,.aa Z.length),(26,.aa J)]⟩)
   (λl=>Z.length-l.1) [0] (0,o,0) ⟨R,Q,K,R,λ_ _=>j,by simp[val]⟩ ath bk ?_
  rintro⟨J,os,c⟩ ⟨ab,z,E,a',D,ad⟩;refine I 6<|cT (λF=>?_) λF=>?_
  .have F:J<Z.length:=by omega
   have ae:=G _<|dH F;have O:i+J<os.length:=R
   have aj:os[i+J]=o[i+J]:=by
    exact aru
   have ah:=E _<|dH O;obtain⟨ar,ak,a0⟩:=Mk a' t ae ah;refine I 7<|eW Z[J] (aO F) j<|I 17<|cj 40 ((i+J:Nat):Int)<|lF j j<|oy os[i+J] (aO O) ?_
   iterate 3 refine fE j ?_
   refine aJ 45 (.i .u64 ((c+(xs[i]*Z[J]+os[i+J]):Nat):Int)) j (fG ?_) ?_
   .have al:xs[i]%18446744073709551616=xs[i]:=by omega
    have ao:Z[J]%18446744073709551616=Z[J]:=R
    have an:os[i+J]%18446744073709551616=os[i+J]:=R
    rw[al,ao,an,gR ar,gR ak,gR a0]
   refine I 11<|cj 49 ((i+J:Nat):Int) ?_;generalize A:c+(xs[i]*Z[J]+os[i+J])=T at *;refine lF j j<|kI (T%4294967296) ?_;refine I 13 ?_;refine bB [0] (J+1,os.set (i+J)<|T%4294967296,T/4294967296) ⟨by show Z.length-(J+1)<Z.length-J;omega,R,by simp[z],mD E _<|eY _ ai,R,λk N=>by rw[nq R];exact D k R,?_⟩
    bk
   rw[<-rM,iu (l:=os.set (i+J) _) dM,iu (l:=o) R,iu F,mQ<|cf _,mg,g6,<-aj,<-A];exact WO (by rw[iA]) ad
  .have ab:J=Z.length:=by omega
   subst ab;refine I 13<|cj 60 ((i+Z.length:Nat):Int)<|lF j j<|kI (c%4294967296) ?_;refine I 7<|bB [0] (i+1,os.set (i+Z.length)<|c%4294967296) ⟨by show xs.length-(i+1)<xs.length-i;omega,R,by simp[z],mD E _<|eY _ ai,?_⟩ bk;rw[show i+1+Z.length=i+Z.length+1 by omega,iu (l:=os.set _ _) dM,mQ<|cf _,mg,gR a',ad,S,iu h,ka<|cf _,fb,iZ]
 .have af:i=xs.length:=by omega
  subst af;refine I 8<|af2 65 ?_;refine af1 mE o ⟨K,R⟩ ?_;refine I 4<|bn (Gb j<|.of ?_);show g0 _ (dt _)=g0 _ (dt _);congr 2;rw[ka (l:=xs)<|cf _,ka (l:=o) R]at S;rw[S,M,nH]
def vc:bl 61 Ml:=GK.Sy
def WQ{X O x:Nat}(h:X=O*d+r):x+B*X=((r*B+x)/d+B*O)*d+(r*B+x)%d:=by
 have Y:=qx (r*B+x) d;rw[fb,h,iZ,gP (_/d) d,iM,gP r B]at *;omega
def WR{x:Nat}(I:r<d)(O:x<B):(r*B+x)/d<B:=by
 rw[yf R];have:(r+1)*B<=d*B:=hV _ I;rw[gP B d];rw[fb]at this;omega
def WS{x k:Nat}(O:x<2^k):h*2^k|||x=h*2^k+x:=by
 rw[gP,<-On O]
def Mm{x:Nat}(I:r<4294967296)(O:x<4294967296):(r*2^32%18446744073709551616%18446744073709551616|||x%18446744073709551616%18446744073709551616)=r*4294967296+x:=by
 have S:r*2^32%18446744073709551616%18446744073709551616=r*2^32:=R
 have z:x%18446744073709551616%18446744073709551616=x:=R
 rw[S,z,WS O]
def GL:bl 172 (bV λ((a,b):Nat×Nat)=>([dt a,.i .u32 b],ei 1073741824 a/\0<b/\b<4294967296,.bc [dt<|a/b,.i .u32 ((a%b:Nat):Int)])):=by
 refine bL [mE] UQ.1 ?_;intro⟨a,d⟩ ⟨(Z:(aU _ a).length<=_),(z:0<d),(G:d<_)⟩ H aq;have Y:=hb (b:=4294967296) ai a;have M:=gx (b:=4294967296) ai a;show bM.ok _ ⟨_,_,⟨_,_,[(0,ds<|aU 4294967296 a),(1,.i .u32 d)]⟩⟩;generalize aU 4294967296 a=xs at *;refine st ?_;refine nF fV 0<|st ?_;refine ea (L:=Nat×ac Nat×Nat) (λ(k,o,r)=>k<=xs.length/\o.length=xs.length/\Ok 4294967296 o/\r<d/\val 4294967296 (xs.drop k)=val 4294967296 (o.drop k)*d+r)
  (λ((k:Nat),(o:ac Nat),(r:Nat))=>⟨[.a 229 false 1 Nat fV o],1,[(0,ds xs),(1,.i .u32 d),(4,.aH 0 1 0 xs.length xs.length),(6,.i .u64 r),(7,.aa<|(k:Int)-1)]⟩)
  (λl=>l.1) [0] (xs.length,List.replicate xs.length 0,0) ⟨R,au,sB ai _,z,by simp[val]⟩ apM bk ?_
 rintro⟨k,o,r⟩ ⟨N,Q,K,I,S⟩;cases k with
 |zero=>
  refine st ?_;refine h5 38 ?_;refine aS mE o ⟨K,R⟩<|st ?_;rw[iB,iB]at S;have E:a/d=val 4294967296 o:=by rw[<-M,S,gP];rw[Nat.mul_add_div z,rR I];omega
  have hm:a%d=r:=by rw[<-M,S,gP,Nat.mul_add_mod,gR I]
  exact bn (ep j j<|.bc ⟨.of<|by show dt _=dt (a/d);rw[E],.of (fG<|by show((r%4294967296:Nat):Int)=((a%d:Nat):Int);omega),az⟩)
 |succ m=>
  have O:m<xs.length:=R
  have t:=Y _<|dH O;have F:=WR I t;have A:r*4294967296+xs[m]<18446744073709551616:=by
   have:(r+1)*4294967296<=4294967296*4294967296:=hV _ R;omega
  refine aJ 7 (.aa (m:Nat)) j fG<|st ?_;refine aJ 15 (.b true) j au<|st ?_;refine l3 xs[m] (aO O) ?_
  iterate 3 refine fE j ?_
  refine aJ 25 (.i .u64 ((r*4294967296+xs[m]:Nat):Int)) j (fG<|congrArg _<|Mm R t) ?_;generalize C:r*4294967296+xs[m]=T at *;refine st ?_;refine aJ 30 (.i .u64 (d:Nat)) j fG ?_;refine aeK<|st ?_;refine zp ?_;refine kI (T/d%4294967296)<|st ?_;refine aJ 36 (.i .u64 (d:Nat)) j fG ?_;refine aeL<|st ?_;have D:xs.drop m=xs[m]::xs.drop (m+1):=fj O;refine bB [0] (m,o.set m<|T/d%4294967296,T%d) ⟨au,R,by simp[Q],mD K _<|eY _ ai,eY _ z,?_⟩ bk;rw[D,fj (l:=o.set m _) dM,mg,An R,gR F,<-C];exact WQ S
def WT{x:Nat}(M:s<32)(cK:h<2^s):h|||(x*2^s)%4294967296=h+(x*2^s)%4294967296:=by
 have e:4294967296=2^s*2^(32-s):=by rw[<-iA,show s+(32-s)=32 by omega]
 have z:(x*2^s)%4294967296=2^s*(x%2^(32-s)):=by rw[e,gP x,Nat.mul_mod_mul_left]
 rw[z,Nat.or_comm,<-On cK,ua]
def GM(M:s<32):2^s<=2147483648:=by
 have:2^s<=2^31:=j0 ai R;exact this
def akk{x:Nat}(M:s<32)(O:x<4294967296):x*2^s<9223372036854775808:=by
 have Y:x*2^s<=4294967295*2147483648:=ye R<|GM M;omega
def akl{x:Nat}(O:x<4294967296):x*2^s/4294967296<2^s:=by
 rw[yf ai,gP];exact(Nat.mul_lt_mul_left<|n4 s).2 O
def akm{P:Nat}(S:U+P*h=a):U+P*(h+v%4294967296)+P*4294967296*(v/4294967296)=a+P*v:=by
 have Y:P*v=P*(v%4294967296)+P*4294967296*(v/4294967296):=by
  rw[iZ,<-iM];congr 1;omega
 rw[iM];omega
def Mn(n:Nat):2^n=2^(n%32)*4294967296^(n/32):=by
 rw[show 4294967296=2^32 from rfl,<-qy,<-iA];congr 1;omega
theorem WU{k:Nat}(h:k<9223372036854775808):ag.aa (IntKind.i64.wrap<|(k:Int).tdiv 32)=ag.aa ((k/32:Nat):Int):=eV j apt apt
def tw:bl 217 (bV λ((a,b):Nat×Nat)=>([dt a,.aa b],ei 1073741824 a/\b<34359738368,dt<|a*2^b)):=by
 refine bL [mE] U0.1 ?_;intro⟨a,n⟩ ⟨(A:(aU _ a).length<=_),(aj:n<_)⟩ H aq;have Y:=hb (b:=4294967296) ai a;have O:=gx (b:=4294967296) ai a;show bM.ok _ ⟨_,_,⟨_,_,[(0,ds<|aU 4294967296 a),(1,.aa n)]⟩⟩;generalize aU 4294967296 a=xs at *;refine I 13<|cT (λh=>?_) λh=>?_
 .have F:xs=[]:=nZ R;subst F;have:a=0:=O.symm;subst this;exact I 7<|bp (bz.nl.trans (.of<|by show ds []=dt (0*2^n);rw[hF];show _=ds (aU _ 0);rw[g1]))
 iterate 2 refine fE j ?_
 refine fE j ?_;refine fE j ?_;refine fE j ?_;refine fE j ?_;refine fE j ?_;refine aJ 15 _ j (WU R) ?_
 iterate 3 refine fE j ?_
 refine cl 17 (fG j) ?_;generalize ab:n/32=q;have M:n%32<32:=eY _ ai;have T:=Mn n;rw[ab]at T;generalize n%32=s at *;refine I 10<|aJ 23 (.aa ((xs.length+q+1:Nat):Int)) j (by rw[gn (n:=(xs.length:Int)+q) R R];exact eV)<|nF fV 0 ?_;refine I 12 ?_;refine ea (L:=Nat×ac Nat) (λ(i,o)=>i<=xs.length/\o.length=xs.length+q+1/\Ok 4294967296 o/\(∃h,o[i+q]? =some h/\h<2^s)/\val 4294967296 (o.take<|i+q+1)=val 4294967296 (xs.take i)*(2^s*4294967296^q))
  (λ((i:Nat),(o:ac Nat))=>⟨[.a 229 false 1 Nat fV o],1,[(5,.aa q),(6,.i .u64 s),(7,.aH 0 1 0 (xs.length+q+1)<|xs.length+q+1),(25,ds xs),(26,.aa xs.length),(27,.aa i)]⟩)
  (λl=>xs.length-l.1) [0] (0,List.replicate (xs.length+q+1) 0) ⟨R,au,sB ai _,⟨0,by rw[AE,aD R],n4 s⟩,by rw[List.take_replicate,val_zero];simp[val]⟩ apI bk ?_
 rintro⟨i,o⟩ ⟨af,Q,K,⟨h,G,z⟩,S⟩;refine I 6<|cT (λaW=>?_) λaW=>?_
 .have aW:i<xs.length:=by omega
  have t:=Y _<|dH aW;have ae:=akk M t;have Z:=akl (s:=s) t;have a0:=GM M;refine I 7<|eW xs[i] aqB j ?_
  iterate 3 refine fE j ?_
  iterate 3 refine fE j ?_
  iterate 3 refine fE j ?_
  iterate 2 refine fE j ?_
  refine aJ 35 (.i .u64 ((xs[i]*2^s:Nat):Int)) j (fG ?_) ?_
  .rw[gR (a:=xs[i]) R,gR R]
  generalize D:xs[i]*2^s=V at *;refine I 9<|cj 39 ((i+q:Nat):Int)<|lF j j<|oy h G ?_
  iterate 3 refine fE j ?_
  refine aJ 44 (.i .u32 ((h+V%4294967296:Nat):Int)) j (fG ?_) ?_
  .rw[gR (a:=h) R,Nat.mod_mod,<-D,WT M z]
  have ad:h+V%4294967296<4294967296:=by
   rw[<-D,<-WT M z];exact Nat.or_lt_two_pow (n:=32) R<|eY _ ai
  generalize C:h+V%4294967296=qV at *;refine lF j j<|kI qV ?_;refine I 11<|aJ 50 (.aa ((i+q+1:Nat):Int)) j (by rw[gn (n:=(i:Int)+q) R R];exact eV)<|lF j j<|kI (V/2^32%4294967296) ?_;refine I 7 ?_;have N:V/2^32%4294967296=V/4294967296:=R
  rw[N];refine bB [0] (i+1,(o.set (i+q) qV).set (i+q+1)<|V/4294967296) ⟨by show xs.length-(i+1)<xs.length-i;omega,R,by simp[Q],mD (mD K _ ad) _ R,⟨V/4294967296,by rw[show i+1+q=i+q+1 by omega,AA dM],Z⟩,?_⟩
   bk
  have E:val 4294967296 (o.take<|i+q)+4294967296^(i+q)*h=val 4294967296 (xs.take i)*(2^s*4294967296^q):=by
   rw[<-S,iu R];congr 2;exact(Option.some.inj<|(aO R).symm.trans G).symm
  have a':=akm (v:=V) E;rw[show i+1+q+1=i+q+1+1 by omega,iu dM,mg,mQ<|cf _,iu dM,mg,mQ<|cf _,iu aW,<-C,g6,a',<-D,fb,iA];congr 1
  ac_rfl
 .have af:i=xs.length:=by omega
  subst af;refine I 8<|h5 56 ?_;refine aS mE o ⟨K,R⟩<|I 4<|cC ?_;show dt _=dt _;congr 1;rw[ka (l:=xs)<|cf _,ka (l:=o) R]at S;rw[S,O,<-T]
def qc{l:ac Nat}(h:Ok b l)(k:Nat):Ok b (l.take k):=λx O=>h x<|mR O
def vd{l:ac Nat}(h:Ok b l)(k:Nat):Ok b (l.drop k):=λx O=>h x<|yg O
def GN{l:ac Nat}{k:Nat}(aw:k<=l.length):val b l=val b (l.take k)+b^k*val b (l.drop k):=by
 have:=l6 b (l.take k)<|l.drop k
 rwa [np,gQ,kh aw]at this
def WV(ay:0<b){l:ac Nat}(h:Ok b l){k:Nat}(aw:k<=l.length):val b l/b^k=val b (l.drop k):=by
 have G:=ku<|qc h k;rw[gQ,kh aw]at G;rw[GN aw,yd _ _ R,rR G,hU]
def akn{W ah:Nat}(M:s<32)(E:W=v+18446744073709551616*ah):(W/2^s)%4294967296=(v/2^s)%4294967296:=by
 have e:18446744073709551616*ah=2^s*(4294967296*(2^(32-s)*ah)):=by
  rw[show 18446744073709551616=4294967296*2^32 from rfl,show 2^32=2^s*2^(32-s) by rw[<-iA,show s+(32-s)=32 by omega]]
  ac_rfl
 rw[E,e,yd _ _<|n4 s,DI]
def WW:bl 220 (bV λ((a,b):Nat×Nat)=>([dt a,.aa b],ei 1073741824 a/\b<9223372036854775808,dt<|a/2^b)):=by
 refine bL [mE] U2.1 ?_;intro⟨a,n⟩ ⟨(ao:(aU _ a).length<=_),(aj:n<_)⟩ H aq;have Y:=hb (b:=4294967296) ai a;have ak:=gx (b:=4294967296) ai a;show bM.ok _ ⟨_,_,⟨_,_,[(0,ds<|aU 4294967296 a),(1,.aa n)]⟩⟩;generalize aU 4294967296 a=xs at *
 iterate 3 refine fE j ?_
 iterate 3 refine fE j ?_
 iterate 3 refine fE j ?_
 refine aJ 11 _ j (WU R) ?_
 iterate 2 refine fE j ?_
 refine aJ 13 (.aa ((n%32:Nat):Int)) j (fG j) ?_;generalize E:n/32=q;have M:n%32<32:=eY _ ai;have ab:=Mn n;rw[E]at ab;generalize n%32=s at *;refine st ?_;have I:a/2^n=a/4294967296^q/2^s:=by rw[ab,gP,qz]
 refine cT (λh=>?_) λh=>?_
 .refine st ?_;have G:=ku Y;have A:4294967296^xs.length<=4294967296^q:=j0 ai R;exact bp<|bz.nl.trans (.of<|by show ds []=dt (a/2^n);rw[I,rR (show a<4294967296^q by omega),Nat.zero_div];show _=ds (aU _ 0);rw[g1])
 have al:q<xs.length:=R
 refine st ?_;refine cj 22 ((xs.length-q:Nat):Int) ?_;refine nF fV 0<|st ?_;have ae:a/4294967296^q=val 4294967296 (xs.drop q):=by rw[<-ak,WV ai Y R]
 have T:=ku<|vd Y q;rw[iX]at T;generalize an:xs.length-q=N at *;refine ea (L:=Nat×ac Nat) (λ(i,o)=>i<=N/\o.length=N/\Ok 4294967296 o/\val 4294967296 (o.take i)=(val 4294967296 (xs.drop q)/2^s)%4294967296^i)
  (λ((i:Nat),(o:ac Nat))=>⟨[.a 229 false 1 Nat fV o],1,[(0,ds xs),(5,.aa q),(6,.i .u64 s),(7,.aH 0 1 0 N N),(25,.aa N),(26,.aa i)]⟩)
  (λl=>N-l.1) [0] (0,List.replicate N 0) ⟨R,au,sB ai _,by simp[val,DJ]⟩ (by show N-0<bs+1;unfold bs;omega) bk ?_
 rintro⟨i,o⟩ ⟨af,Q,K,S⟩;refine st ?_;refine cT (λaW=>?_) λaW=>?_
 .have a':i+q<xs.length:=by omega
  have t:=Y _<|dH a';refine st ?_;refine cj 32 ((i+q:Nat):Int) ?_;refine l3 xs[i+q] (aO a') ?_
  iterate 2 refine fE j ?_
  refine aJ 35 (.i .u64 (xs[i+q]:Nat)) j fG<|st ?_;refine gZ (λ(v:Nat)=>∃ah,val 4294967296 (xs.drop<|i+q)=v+18446744073709551616*ah) (λ(v:Nat)=>⟨[.a 229 false 1 Nat fV o],1,[(9,.i .u64 v),(8,.aa i),(0,ds xs),(5,.aa q),(6,.i .u64 s),(7,.aH 0 1 0 N N),(25,.aa N),(26,.aa i)]⟩) ?_ ?_
  .have Z:IntKind.i64.wrap (IntKind.i64.wrap ((i:Int)+q)+1)=((i+q+1:Nat):Int):=by rw[gn (n:=(i:Int)+q) R R,gn]<;>omega
   rw[Z];refine cT (λC=>?_) λC=>?_
   .have C:i+q+1<xs.length:=by omega
    have F:=Y _<|dH C;refine st ?_;refine aJ 48 (.aa ((i+q+1:Nat):Int)) j (fG Z) ?_;refine l3 xs[i+q+1] (aO C) ?_;refine st ?_;refine bB [0] (xs[i+q]+4294967296*xs[i+q+1]) ⟨val 4294967296<|xs.drop<|i+q+1+1,?_⟩<|bk (aI:=⟨p0<|congrArg _ ?_,j,j,j,j,j,j,j,az⟩)
    .rw[fj a',fj C,val,val];omega
    .have ad:xs[i+q+1]%18446744073709551616*2^32%18446744073709551616%18446744073709551616=xs[i+q+1]*2^32:=by omega
     have z:xs[i+q]%18446744073709551616=xs[i+q]:=R
     rw[ad,z,Nat.or_comm,WS (k:=32) t];omega
   .refine st ?_;refine bB [0] xs[i+q] ⟨0,?_⟩ bk;rw[fj a',x7 R,val,val]
  rintro(v:Nat) ⟨ah,D⟩;refine st ?_;refine aeM<|st ?_;refine zp ?_;refine kI (v/2^s%4294967296)<|st ?_;refine bB [0] (i+1,o.set i<|v/2^s%4294967296) ⟨by show N-(i+1)<N-i;omega,R,by simp[Q],mD K _<|eY _ ai,?_⟩ bk;rw[iu dM,mQ<|cf _,mg,S,g6,Nat.mod_mul,<-akn M D,qz,gP<|2^s,<-qz,WV ai (vd Y q) dM,qv,ua q i]
 .have O:i=N:=by omega
  subst O;refine st ?_;refine h5 62 ?_;refine aS mE o ⟨K,R⟩<|st ?_;refine cC ?_;show dt _=dt _;congr 1;rw[ka (l:=o) R,gR<|mT (ki _ _) T]at S;show _=a/2^n;rw[S,I,ae]
def bG(n:Nat):Nat:=if n=0 then 0 else Nat.log2 n+1
def ve(h:1<=n):bG n=bG (n/2)+1:=by
 unfold bG;rw[av R];by_cases G:n/2=0
 .rw[aD G];have:n=1:=by omega
  subst this;rfl
 .rw[av G,Nat.log2_def,aD R]
theorem CG:∀(k n:Nat),2^k<=n->bG n=bG (n/2^k)+k
 |0,n,_=>by simp
 |k+1,n,h=>by
  have bX:2^(k+1)=2*2^k:=R
  have hp:=n4 k;rw[ve R,CG k (n/2) R,qz,bX];omega
def rj(h:n≠0):2^(bG n-1)<=n/\n<2^bG n:=by
 rw[bG,av h];exact⟨Nat.log2_self_le h,Nat.lt_log2_self⟩
def ako{n k:Nat}(aC:2^k<=n)(aI:n<2^(k+1)):bG n=k+1:=by
 have F:n≠0:=R
 have⟨a,b⟩:=rj F;have:=(vW R).1<|mT aC b;have:=(vW R).1<|mT a aI;omega
def GO:bl 304 (bV λ(n:Nat)=>([.i .u32 n],n<4294967296,.aa (bG n:Nat))):=by
 refine bL [] Ul.1 ?_;intro(n:Nat) (aj:n<4294967296) H aq;refine I 12<|gZ (λ((m:Nat),(k:Nat))=>m<65536/\k<=16/\bG n=bG m+k) (λ(m,k)=>⟨[],0,[(0,.i .u32 m),(2,.aa k)]⟩) ?_ ?_
 .refine cT (λh=>?_) λh=>?_
  .exact I 10<|bB [] (n/65536,16) ⟨R,ai,CG 16 n R⟩ bk
  .exact I 1<|bB [] (n,0) ⟨R,ai,j⟩ bk
 rintro⟨m,k⟩ ⟨hm,N,C⟩;refine I 7<|gZ (λ((m:Nat),(k:Nat))=>m<256/\k<=24/\bG n=bG m+k) (λ(m,k)=>⟨[],0,[(0,.i .u32 m),(2,.aa k)]⟩) ?_ ?_
 .refine cT (λh=>?_) λh=>?_
  .exact I 12<|bB [] (m/256,k+8) ⟨R,R,by rw[C,CG 8 m R,show(2:Nat)^8=256 from rfl];omega⟩ bk
  .exact I 1<|iV [] (m,k) ⟨R,C⟩
 rintro⟨m,k⟩ ⟨hm,N,C⟩;refine I 5<|aJ 15 (.i .u8 (m:Nat)) j fG ?_;have yp:∀m,m<256->([0,1,2,2,3,3,3,3,4,4,4,4,4,4,4,4,5,5,5,5,5,5,5,5,5,5,5,5,5,5,5,5,6,6,6,6,6,6,6,6,6,6,6,6,6,6,6,6,6,6,6,6,6,6,6,6,6,6,6,6,6,6,6,6,7,7,7,7,7,7,7,7,7,7,7,7,7,7,7,7,7,7,7,7,7,7,7,7,7,7,7,7,7,7,7,7,7,7,7,7,7,7,7,7,7,7,7,7,7,7,7,7,7,7,7,7,7,7,7,7,7,7,7,7,7,7,7,7,8,8,8,8,8,8,8,8,8,8,8,8,8,8,8,8,8,8,8,8,8,8,8,8,8,8,8,8,8,8,8,8,8,8,8,8,8,8,8,8,8,8,8,8,8,8,8,8,8,8,8,8,8,8,8,8,8,8,8,8,8,8,8,8,8,8,8,8,8,8,8,8,8,8,8,8,8,8,8,8,8,8,8,8,8,8,8,8,8,8,8,8,8,8,8,8,8,8,8,8,8,8,8,8,8,8,8,8,8,8,8,8,8,8,8,8,8,8,8,8,8,8,8,8,8,8,8,8]:ac ci)[m]? =some (UInt8.ofNat<|bG m)/\bG m<=8:=by decide +kernel
 obtain⟨Q,K⟩:=yp m hm;refine na _ Q<|I 6 ?_;have e:(UInt8.ofNat<|bG m).toNat=bG m:=by simp;omega
 rw[e];refine cC ?_;show ag.i _ _=ag.aa (bG n:Nat);rw[C,gn (n:=((bG m:Nat):Int)) R R];exact eV
def Mo(h:n<4294967296):bG n<=32:=by
 by_cases F:n=0
 .subst F;decide
 .have:=(rj F).1;have:=(vW R).1<|mT this (show n<2^32 from h);omega
def WX:bl 216 (bV λ(n:Nat)=>([.i .u32 n],n<4294967296,.aa ((32-bG n:Nat):Int))):=by
 apply bL [GO] VR.1;intro n aj H aq;refine I 8<|aS GO n aj<|I 5 ?_;have:=Mo aj;exact bn<|ep j j<|.of eV
def nd(b:Nat):Nat->Nat->ac Nat
 |0,_=>[]
 |k+1,n=>n%b::nd b k (n/b)
theorem CH(b:Nat):∀k n,(nd b k n).length=k
 |0,_=>rfl
 |k+1,n=>by simp[nd,CH b k]
theorem WY{b:Nat}(ay:0<b):∀k n,Ok b (nd b k n)
 |0,_=>λx O=>by simp[nd]at O
 |k+1,n=>λx O=>by
  rcases fh.1 O with rfl|O
  .exact eY _ ay
  .exact WY ay k _ x O
theorem Mp{b:Nat}:∀k n,val b (nd b k n)=n%b^k
 |0,n=>by simp[nd,val,DJ]
 |k+1,n=>by rw[nd,val,Mp k,g6,gP (b^k) b,Nat.mod_mul]
theorem xm{b:Nat}(ay:0<b):∀{l:ac Nat} {n k:Nat},Ok b l->l.length=k->val b l=n->l=nd b k n
 |[],_,_,_,rfl,_=>rfl
 |d::l,_,_,h,rfl,rfl=>by
  have aC:=h d au;rw[hQ,nd,val,DI,gR aC,yd _ _ ay,rR aC,hU,<-xm ay (λx O=>h x<|fq _ O) j j]
def WZ{us os:ac Nat}{k:Nat}(aB:os.length=us.length)(ba:J+k<=us.length)(M:∀p,p<J\/J+k<=p->os[p]? =us[p]?):os=us.take J++((os.drop J).take k++us.drop (J+k)):=by
 apply nY;intro p;by_cases Y:p<J
 .rw[oQ dM,nn,aD Y];exact M p as4
 .rw[qw dM,gQ,kh R];by_cases G:p<J+k
  .rw[oQ dM,nn,aD R,n2];congr 1;omega
  .rw[qw dM];have:((os.drop J).take k).length=k:=by simp;omega
   rw[this,n2,M p<|.inr R];congr 1;omega
def rk{l:ac Nat}(h:J+i<l.length):val b ((l.drop J).take<|i+1)=val b ((l.drop J).take i)+b^i*l[J+i]:=by
 rw[iu dM,List.getElem_drop]
def hA(us:ac Nat)(J k n:Nat):ac Nat:=us.take J++(nd 4294967296 k n++us.drop (J+k))
def eX(us:ac Nat)(J k:Nat):Nat:=val 4294967296<|(us.drop J).take k
def W0:bl 218 (kJ λ((us,J,ab,g):ac Nat×Nat×ac Nat×Nat)=>([.a 229 false 1 Nat fV us],[.aH 0 1 J (us.length-J)<|us.length-J,ds ab,.i .u64 g],J+ab.length<us.length/\Ok 4294967296 us/\Ok 4294967296 ab/\g<4294967296/\us.length<=1099511627776,[.a 229 false 1 Nat fV<|hA us J (ab.length+1)<|eX us J (ab.length+1)+(if eX us J (ab.length+1)<g*val 4294967296 ab then 4294967296^(ab.length+1)else 0)-g*val 4294967296 ab],.b<|decide (eX us J (ab.length+1)<g*val 4294967296 ab))):=by
 refine k9 [] VS.1 ?_;rintro⟨us,J,ab,g⟩ ⟨aF,Y,G,ao,aL⟩ H i0 aq af;obtain⟨aI,rfl⟩:∃b,i0=[b]:=mU.1 af;show bM.ok _ ⟨_,_,⟨[.a 229 false 1 Nat fV us],1,[(0,.aH 0 1 J (us.length-J)<|us.length-J),(1,ds ab),(2,.i .u64 g)]⟩⟩;refine I 20 ?_;refine ea (L:=Nat×ac Nat×Nat×Nat) (λ(i,os,c,w)=>i<=ab.length/\os.length=us.length/\Ok 4294967296 os/\c<4294967296/\w<=1/\(∀p,p<J\/J+i<=p->os[p]? =us[p]?)/\eX us J i+4294967296^i*(c+w)=eX os J i+g*val 4294967296 (ab.take i))
  (λ((i:Nat),(os:ac Nat),(c:Nat),(w:Nat))=>⟨[.a 229 false 1 Nat fV os],1,[(0,.aH 0 1 J (us.length-J)<|us.length-J),(1,ds ab),(2,.i .u64 g),(7,.i .u64 c),(8,.i .u64 w),(13,ds ab),(14,.aa ab.length),(15,.aa i)]⟩)
  (λl=>ab.length-l.1) [0] (0,us,0,0) ⟨R,j,Y,R,R,λ_ _=>j,by simp[eX,val]⟩ as9 bk ?_
 rintro⟨i,os,c,w⟩ ⟨aC,Q,K,aA,aG,D,S⟩;refine I 6<|cT (λh=>?_) λh=>?_
 .have h:i<ab.length:=by omega
  have al:=G _<|dH h;have z:J+i<os.length:=R
  have M:os[J+i]=us[J+i]:=by
   have:=D (J+i)<|.inr<|cf _;exact apV
  have aw:=K _<|dH z;obtain⟨Z,F,aK⟩:=Mk (U:=0) aA ao al ai;refine I 7<|eW ab[i] (aO h) j<|I 13<|aJ 25 (.i .u64 ((c+g*ab[i]:Nat):Int)) j (fG<|congrArg _ ?_) ?_
  .rw[gR (a:=ab[i]) R,gR Z,gR R]
  have aE:c+g*ab[i]<18446744073709551616:=R
  generalize ak:c+g*ab[i]=T at *;refine I 7<|nE ?_;refine oy os[J+i] (aO z) ?_;refine I 7<|aJ 36 (.i .u64 (((os[J+i]+18446744073709551616-T%4294967296-w)%18446744073709551616:Nat):Int)) j fG ?_;generalize N:(os[J+i]+18446744073709551616-T%4294967296-w)%18446744073709551616=t at *;refine I 9<|nE ?_;refine kI (t%4294967296) ?_;refine I 20 ?_;refine bB [0] (i+1,os.set (J+i)<|t%4294967296,T/4294967296,t/9223372036854775808) ⟨by show ab.length-(i+1)<ab.length-i;omega,R,by simp[Q],mD K _<|eY _ ai,R,R,λp hp=>?_,?_⟩
   bk
  .rw[nq R];exact D p R
  .unfold eX at S⊢;rw[rk R,rk (l:=os.set _ _) dM,mg,iu h,<-M,g6];have a':((os.set (J+i)<|t%4294967296).drop J).take i=(os.drop J).take i:=by
    rw[DK];rw[av R,show J+i-J=i by omega,mQ<|cf _]
   rw[a'];have ad:os[J+i]+4294967296*(t/9223372036854775808)=t%4294967296+T%4294967296+w:=R
   have au:T=T%4294967296+4294967296*(T/4294967296):=R
   generalize t/9223372036854775808=w' at *;generalize T/4294967296=ax at *;generalize T%4294967296=fM at *;generalize t%4294967296=ae at *;generalize 4294967296^i=P at *;have bJ:P*(os[J+i]+4294967296*w')=P*(ae+fM+w):=by rw[ad]
   have ay:P*(c+g*ab[i])=P*(fM+4294967296*ax):=by rw[ak,au]
   rw[iM g,Nat.mul_left_comm g P];simp only[iM,iZ]at bJ ay S⊢;omega
 .have af:i=ab.length:=by omega
  subst af;have z:J+ab.length<os.length:=R
  have M:os[J+ab.length]=us[J+ab.length]:=by
   have:=D (J+ab.length)<|.inr<|cf _;exact apV
  have aw:=K _<|dH z;refine I 10<|nE ?_;refine oy os[J+ab.length] (aO z) ?_;refine I 5<|aJ 56 (.i .u64 (((os[J+ab.length]+18446744073709551616-c-w)%18446744073709551616:Nat):Int)) j fG ?_;generalize N:(os[J+ab.length]+18446744073709551616-c-w)%18446744073709551616=t at *;refine I 10<|nE ?_;refine kI (t%4294967296) ?_;refine I 11 ?_;have ah:Ok 4294967296 (os.set (J+ab.length)<|t%4294967296):=mD K _<|eY _ ai;have E:(((os.set (J+ab.length)<|t%4294967296).drop J).take<|ab.length+1).length=ab.length+1:=by simp;omega
  have aB:=ku<|qc (vd ah J)<|ab.length+1;rw[E]at aB;have A:=WZ (us:=us) (os:=os.set (J+ab.length)<|t%4294967296) (J:=J) (k:=ab.length+1) (by simp[Q]) R (λp hp=>by rw[nq R];exact D p R);have an:=xm (b:=4294967296) ai (qc (vd ah J)<|ab.length+1) E j;generalize ar:val 4294967296 (((os.set (J+ab.length)<|t%4294967296).drop J).take<|ab.length+1)=O at *;have key:eX us J (ab.length+1)+4294967296^(ab.length+1)*(t/9223372036854775808)=O+g*val 4294967296 ab:=by
   rw[<-ar];unfold eX at S⊢;rw[rk R,rk (l:=os.set _ _) dM,mg,<-M,g6];have a':((os.set (J+ab.length)<|t%4294967296).drop J).take ab.length=(os.drop J).take ab.length:=by
    exact arG
   rw[a'];rw[ka<|cf _]at S;have ad:os[J+ab.length]+4294967296*(t/9223372036854775808)=t%4294967296+c+w:=R
   generalize t/9223372036854775808=w' at *;generalize t%4294967296=ae at *;generalize 4294967296^ab.length=P at *;have bJ:P*(os[J+ab.length]+4294967296*w')=P*(ae+c+w):=by rw[ad]
   simp only[iM,iZ]at bJ S⊢;omega
  have aj:eX us J (ab.length+1)+(if eX us J (ab.length+1)<g*val 4294967296 ab then 4294967296^(ab.length+1)else 0)-g*val 4294967296 ab=O/\(t/2^63=1↔eX us J (ab.length+1)<g*val 4294967296 ab):=by
   rcases(show t/9223372036854775808=0\/t/9223372036854775808=1 by omega)with C|C
   .rw[C]at key;rw[av R];exact ary
   .rw[C]at key;rw[aD R];exact ary
  refine bn ⟨.inr j,⟨_,j,j,.of ?_⟩,[0],j,ik az ⟨_,j,?_,λ_=>j⟩⟩
  .show ag.b (decide (((t/2^63:Nat):Int)=1))=ag.b (decide (eX us J (ab.length+1)<g*val 4294967296 ab));congr 1;rw[decide_eq_decide,<-aj.2];exact as0 as0
  .show aZ.a _ _ _ _ _ _=aZ.a _ _ _ _ _ _;congr 1;rw[aj.1];unfold hA;rw[<-an];exact A
theorem Mq{b:Nat}:∀k n,nd b k (n%b^k)=nd b k n
 |0,n=>rfl
 |k+1,n=>by
  rw[nd,nd,g6,gP (b^k) b,Nat.mod_mul_right_mod,Nat.mod_mul_right_div_self,Mq]
def W1:bl 219 (kJ λ((us,J,ab):ac Nat×Nat×ac Nat)=>([.a 229 false 1 Nat fV us],[.aH 0 1 J (us.length-J)<|us.length-J,ds ab],J+ab.length<us.length/\Ok 4294967296 us/\Ok 4294967296 ab/\us.length<=1099511627776,[.a 229 false 1 Nat fV<|hA us J (ab.length+1)<|eX us J (ab.length+1)+val 4294967296 ab],.bc [])):=by
 refine k9 [] U1.1 ?_;rintro⟨us,J,ab⟩ ⟨F,Y,G,o⟩ H i0 aq af;obtain⟨al,rfl⟩:∃b,i0=[b]:=mU.1 af;show bM.ok _ ⟨_,_,⟨[.a 229 false 1 Nat fV us],1,[(0,.aH 0 1 J (us.length-J)<|us.length-J),(1,ds ab)]⟩⟩;refine I 14 ?_;refine ea (L:=Nat×ac Nat×Nat) (λ(i,os,c)=>i<=ab.length/\os.length=us.length/\Ok 4294967296 os/\c<=1/\(∀p,p<J\/J+i<=p->os[p]? =us[p]?)/\eX os J i+4294967296^i*c=eX us J i+val 4294967296 (ab.take i))
  (λ((i:Nat),(os:ac Nat),(c:Nat))=>⟨[.a 229 false 1 Nat fV os],1,[(0,.aH 0 1 J (us.length-J)<|us.length-J),(1,ds ab),(4,.i .u64 c),(7,ds ab),(8,.aa ab.length),(9,.aa i)]⟩)
  (λl=>ab.length-l.1) [0] (0,us,0) ⟨R,j,Y,R,λ_ _=>j,by simp[eX,val]⟩ as9 bk ?_
 rintro⟨i,os,c⟩ ⟨aj,Q,K,ak,D,S⟩;refine I 6<|cT (λh=>?_) λh=>?_
 .have h:i<ab.length:=by omega
  have O:=G _<|dH h;have z:J+i<os.length:=R
  have M:os[J+i]=us[J+i]:=by
   have:=D (J+i)<|.inr<|cf _;exact apV
  have ae:=K _<|dH z;refine I 7<|eW ab[i] (aO h) j<|I 10<|nE ?_;refine oy os[J+i] (aO z) ?_;refine I 5<|aJ 23 (.i .u64 ((c+os[J+i]+ab[i]:Nat):Int)) j fG<|I 9<|nE ?_;refine kI ((c+os[J+i]+ab[i])%4294967296) ?_;refine I 13 ?_;refine bB [0] (i+1,os.set (J+i)<|(c+os[J+i]+ab[i])%4294967296,(c+os[J+i]+ab[i])/4294967296) ⟨by show ab.length-(i+1)<ab.length-i;omega,R,by simp[Q],mD K _<|eY _ ai,R,λp hp=>?_,?_⟩
   bk
  .rw[nq R];exact D p R
  .unfold eX at S⊢;rw[rk (l:=us) R,rk (l:=os.set _ _) dM,mg,iu h,<-M,g6];have a':((os.set (J+i)<|(c+os[J+i]+ab[i])%4294967296).drop J).take i=(os.drop J).take i:=by
    rw[DK];rw[av R,show J+i-J=i by omega,mQ<|cf _]
   rw[a'];exact WH ai S
 .have af:i=ab.length:=by omega
  subst af;have z:J+ab.length<os.length:=R
  have M:os[J+ab.length]=us[J+ab.length]:=by
   have:=D (J+ab.length)<|.inr<|cf _;exact apV
  have ae:=K _<|dH z;refine I 9<|nE ?_;refine oy os[J+ab.length] (aO z) ?_;refine I 3<|aJ 39 (.i .u32 (((os[J+ab.length]+c)%4294967296:Nat):Int)) j fG ?_;generalize N:(os[J+ab.length]+c)%4294967296=t at *;refine nE ?_;refine kI t ?_;refine I 1 ?_;have C:Ok 4294967296 (os.set (J+ab.length) t):=mD K _ R;have E:(((os.set (J+ab.length) t).drop J).take<|ab.length+1).length=ab.length+1:=by simp;omega
  have Z:=ku<|qc (vd C J)<|ab.length+1;rw[E]at Z;have A:=WZ (us:=us) (os:=os.set (J+ab.length) t) (J:=J) (k:=ab.length+1) (by simp[Q]) R (λp hp=>by rw[nq R];exact D p R);have ad:=xm (b:=4294967296) ai (qc (vd C J)<|ab.length+1) E j;have key:(eX us J (ab.length+1)+val 4294967296 ab)%4294967296^(ab.length+1)=val 4294967296 (((os.set (J+ab.length) t).drop J).take<|ab.length+1):=by
   rw[<-gR Z];have:eX us J (ab.length+1)+val 4294967296 ab=val 4294967296 (((os.set (J+ab.length) t).drop J).take<|ab.length+1)+4294967296^(ab.length+1)*((os[J+ab.length]+c)/4294967296):=by
    unfold eX at S⊢;rw[rk (l:=us) R,rk (l:=os.set _ _) dM,mg,<-M,g6];have a':((os.set (J+ab.length) t).drop J).take ab.length=(os.drop J).take ab.length:=by
     exact arG
    rw[a'];rw[ka (l:=ab)<|cf _]at S;have T:os[J+ab.length]+c=t+4294967296*((os[J+ab.length]+c)/4294967296):=R
    generalize(os[J+ab.length]+c)/4294967296=ah at *;generalize 4294967296^ab.length=P at *;have bJ:P*(os[J+ab.length]+c)=P*(t+4294967296*ah):=by rw[T]
    simp only[iM,iZ]at bJ S⊢;omega
   rw[this,DI]
  refine bn ⟨.inl j,l7,[0],j,ik az ⟨_,j,?_,λ_=>j⟩⟩;show aZ.a _ _ _ _ _ _=aZ.a _ _ _ _ _ _;congr 1;unfold hA;rw[<-Mq,key,<-ad];exact A
end Go.bC.dg
namespace Go.bC.dg
section
variable{B P V W v1 v2 jg top nM qd q g over:Nat}
theorem akp(I:V=(v1*B+v2)*P+nM)(E:W=(top*B+jg)*P+qd)(F:qd<P)(j:jg<B)(h:q*V<=W):q*v1<=top:=by
 have Y:q*v1*(B*P)<=q*V:=by
  rw[iZ];apply rK q;rw[I,fb,<-iZ];omega
 have G:W<(top+1)*(B*P):=by
  have:(top*B+jg+1)*P<=(top*B+B)*P:=lN P R;have e:(top*B+B)*P=(top+1)*(B*P):=by grind
  have z:(top*B+jg+1)*P=(top*B+jg)*P+P:=by grind
  omega
 have:=AF<|mT (ch Y h) G;omega
theorem akq(I:V=(v1*B+v2)*P+nM)(E:W=(top*B+jg)*P+qd)(F:qd<P)(h:q*V<=W)(j:q<=g)(N:top=g*v1+over)(O:over*B+jg<g*v2):q<g:=by
 rcases gf q g with D|D
 .exact D
 .have e:q=g:=by omega
  subst e;have Y:q*(v1*B+v2)*P<=q*V:=by
   rw[iZ];apply rK q;omega
  have G:W<(top*B+jg+1)*P:=by grind
  have A:=AF<|mT (ch Y h) G;rw[N,iM,fb]at A;have S:q*(v1*B)=q*v1*B:=by grind
  omega
theorem akr(I:V=(v1*B+v2)*P+nM)(Z:nM<P)(j:0<v1)(E:W=(top*B+jg)*P+qd)(N:top=g*v1+over)(O:g*v2<=over*B+jg)(M:g<=B):g*V<=W+V:=by
 have Y:g*V<=(g*(v1*B+v2)+g)*P:=by
  have:V<=(v1*B+v2+1)*P:=by grind
  have:=rK g this
  rwa [<-iZ,iM g _ 1,oR]at this
 have G:g*(v1*B+v2)<=top*B+jg:=by
  rw[N,iM,fb];have S:g*(v1*B)=g*v1*B:=by grind
  omega
 have A:(g*(v1*B+v2)+g)*P<=(top*B+jg)*P+g*P:=by
  rw[fb];exact DL (lN P G) _
 have T:g*P<=V:=by
  have:g*P<=(v1*B+v2)*P:=lN P (by
   have:=rK B j;rw[gP v1 B];omega)
  omega
 omega
theorem aks(I:V=(v1*B+v2)*P+nM)(Z:nM<P)(j:v2<B)(D:W=(top*B+jg)*P+qd)(N:top=g*v1+over)(E:B<=over)(M:g<=B):g*V<=W:=by
 have Y:g*V<=g*((v1*B+B)*P):=by
  apply rK g;have:(v1*B+v2+1)*P<=(v1*B+B)*P:=lN P R;rw[fb _ 1 P]at this;omega
 have G:g*((v1*B+B)*P)=(g*v1+g)*B*P:=by grind
 have A:(g*v1+g)*B*P<=top*B*P:=lN P<|lN B R;have T:top*B*P<=(top*B+jg)*P:=lN P R;omega
end
variable{V B v2 P nM:Nat}
theorem akt{v1 h:Nat}(I:V=(v1*B+v2)*P+nM)(Z:nM<P)(j:v2<B)(F:0<B)(aj:h*(P*B)<=V):h<=v1:=by
 have Y:V<(v1+1)*(P*B):=by
  have G:(v1*B+v2+1)*P<=(v1*B+B)*P:=lN P R;have e:(v1*B+B)*P=(v1+1)*(P*B):=by grind
  rw[fb _ 1 P]at G;omega
 have:=AF<|mT aj Y;omega
theorem aku{W v1 qd top l M jg:Nat}(I:V=(v1*B+v2)*P+nM)(Z:nM<P)(j:v2<B)(F:0<B)(E:W=(top*B+jg)*P+qd)(N:top=M*B+l)(h:W<V*B):M<=v1:=by
 have Y:V<=(v1+1)*(P*B):=by
  have G:(v1*B+v2+1)*P<=(v1*B+B)*P:=lN P R;have e:(v1*B+B)*P=(v1+1)*(P*B):=by grind
  rw[fb _ 1 P]at G;omega
 have A:M*(P*B*B)<=W:=by
  have:(M*B*B)*P<=(top*B+jg)*P:=lN P (by
   rw[N,fb];omega)
  have e:M*B*B*P=M*(P*B*B):=by ac_rfl
  omega
 have T:V*B<=(v1+1)*(P*B*B):=by
  have:=lN B Y
  rwa [iZ]at this
 have:=AF<|mT A<|vM h T;omega
def akv{W g:Nat}(I:0<V)(aC:W/V<=g)(aI:g*V<=W+V):(W<g*V->g-1=W/V/\0<g)/\(¬W<g*V->g=W/V):=by
 constructor
 .intro h;have A:=(yf I).2 h;have T:(g-1)*V<=W:=by
   rw[Nat.sub_mul];omega
  have:=(vX I).2 T;omega
 .intro h;have:=(vX I).2 (show g*V<=W by omega);omega
open Go.bC
set_option maxRecDepth 100000
set_option maxHeartbeats 4000000
variable{k:Nat}{us:ac Nat}{J X n a b m d x:Nat}{neg:Bool}{p q:Nat}
def GP(h:J+k<=us.length):(hA us J k X).length=us.length:=by
 unfold hA;simp[CH];omega
def W2(h:Ok 4294967296 us):Ok 4294967296 (hA us J k X):=λx O=>by
 unfold hA at O;simp at O;rcases O with O|O|O
 .exact h x<|mR O
 .exact WY ai _ _ x O
 .exact h x<|yg O
def akw(h:J+k<=us.length):val 4294967296 (hA us J k X)=val 4294967296 (us.take J)+4294967296^J*(X%4294967296^k+4294967296^k*val 4294967296 (us.drop<|J+k)):=by
 unfold hA;rw[l6,l6,Mp,CH,gQ,kh R]
def akx{D:Nat}(h:J+k<=us.length):hA (hA us J k X) J k D=hA us J k D:=by
 unfold hA;rw[Iv dM];congr 2;rw[<-qv,DD dM,DD<|CH _ _ _]
def aky(h:J+k<=us.length):eX (hA us J k X) J k=X%4294967296^k:=by
 unfold eX hA;rw[DD dM,Iv<|CH _ _ _,Mp]
def akz:hA us J k (X%4294967296^k)=hA us J k X:=by
 unfold hA;rw[Mq]
def akA(h:J+k<=us.length)(D:Ok 4294967296 us):hA us J k (eX us J k)=us:=by
 unfold hA eX;rw[<-xm ai (qc (vd D J) k) dM j];rw[<-qv,np,np]
theorem W3(D:Ok 4294967296 us)(h:J+(n+1)<=us.length)(I:V<4294967296^n)(M:val 4294967296 us<V*4294967296^(J+1)):
 val 4294967296 us=val 4294967296 (us.take J)+4294967296^J*eX us J (n+1)/\val 4294967296 (us.drop<|J+(n+1))=0/\eX us J (n+1)<V*4294967296:=by
 have S:=GN (b:=4294967296) (l:=us) (k:=J) R;have z:=GN (b:=4294967296) (l:=us.drop J) (k:=n+1) dM;rw[qv]at z;have Z:val 4294967296 (us.drop<|J+(n+1))=0:=by
  rcases AG (val 4294967296<|us.drop<|J+(n+1))with F|F
  .exact F
  .exfalso;have Y:4294967296^(J+(n+1))*1<=4294967296^(J+(n+1))*val 4294967296 (us.drop<|J+(n+1)):=mh _ F;have G:V*4294967296^(J+1)<=4294967296^n*4294967296^(J+1):=hV _ R;rw[<-iA,show n+(J+1)=J+(n+1) by omega]at G;rw[z,iM,<-iZ,<-iA]at S;omega
 rw[Z,yh]at z;refine⟨by rw[S,z];rfl,Z,?_⟩;have A:4294967296^J*eX us J (n+1)<4294967296^J*(V*4294967296):=by
  have:V*4294967296^(J+1)=4294967296^J*(V*4294967296):=by grind
  have o:val 4294967296 (us.drop J)=eX us J (n+1):=z;rw[o]at S;omega
 exact Nat.lt_of_mul_lt_mul_left A
theorem akB{jN:ac Nat}{A:Nat}(D:Ok 4294967296 us)(h:J+(n+1)<=us.length)(ba:J<jN.length)(N:0<V)(I:V<4294967296^n)(M:val 4294967296 us<V*4294967296^(J+1))(E:A=val 4294967296 (jN.drop<|J+1)*4294967296^(J+1)*V+val 4294967296 us):
 val 4294967296 (hA us J (n+1)<|eX us J (n+1)%V)<V*4294967296^J/\A=val 4294967296 ((jN.set J<|eX us J (n+1)/V).drop J)*4294967296^J*V+val 4294967296 (hA us J (n+1)<|eX us J (n+1)%V):=by
 obtain⟨Y,G,l⟩:=W3 D h I M;have hm:=eY (eX us J<|n+1) N;have T:=qx (eX us J<|n+1) V;rw[akw h,G,yh,pD,gR R];have aW:=ku<|qc D J;rw[gQ,kh R]at aW;constructor
 .have:4294967296^J*(eX us J (n+1)%V+1)<=4294967296^J*V:=mh _ hm;rw[iM]at this;rw[gP V];omega
 .have S:val 4294967296 ((jN.set J<|eX us J (n+1)/V).drop J)=eX us J (n+1)/V+4294967296*val 4294967296 (jN.drop<|J+1):=by
   rw[fj dM,mg,An R];rfl
  have z:4294967296^J*eX us J (n+1)=4294967296^J*(V*(eX us J (n+1)/V))+4294967296^J*(eX us J (n+1)%V):=by grind
  rw[E,Y,S,z,fb,fb,g6];have o:eX us J (n+1)/V*4294967296^J*V=4294967296^J*(V*(eX us J (n+1)/V)):=by ac_rfl
  have t:4294967296*val 4294967296 (jN.drop<|J+1)*4294967296^J*V=val 4294967296 (jN.drop<|J+1)*(4294967296^J*4294967296)*V:=by ac_rfl
  omega
theorem akC{Z:ac Nat}(aB:Z.length=m+2)(j:Ok 4294967296 Z)(N:fg Z=Z)(S:val 4294967296 Z=b):
 bG Z[m+1]<=32/\0<bG Z[m+1]/\b*2^(32-bG Z[m+1])<4294967296^(m+2)/\2147483648*4294967296^(m+1)<=b*2^(32-bG Z[m+1]):=by
 have T:Z[m+1]≠0:=by
  have e:Z=Z.take (m+1)++[Z[m+1]]:=by
   have:=np (m+1) Z;rw[fj R,x7 R]at this;exact this.symm
  have:=N;rw[e]at this;exact(CE (b:=4294967296) this).2
 have aW:=j _<|dH (show m+1<Z.length by omega);have l:=Mo aW;obtain⟨t,I⟩:=rj T;have M:0<bG Z[m+1]:=by grind
 have C:b=val 4294967296 (Z.take<|m+1)+4294967296^(m+1)*Z[m+1]:=by
  rw[<-S,<-iu R,gB R]
 have Y:=ku<|qc j<|m+1;rw[gQ,kh R]at Y;generalize Z[m+1]=d at *;have hp:0<2^(32-bG d):=n4 _;have z:2^bG d*2^(32-bG d)=4294967296:=by rw[<-iA,show bG d+(32-bG d)=32 by omega]
 have o:2^(bG d-1)*2^(32-bG d)=2147483648:=by rw[<-iA,show bG d-1+(32-bG d)=31 by omega]
 refine⟨l,M,?_,?_⟩
 .have G:b<4294967296^(m+1)*2^bG d:=by
   have:4294967296^(m+1)*(d+1)<=4294967296^(m+1)*2^bG d:=mh _ I;rw[iM]at this;omega
  have A:=Oo G hp;rw[iZ,z]at A;exact A
 .have G:4294967296^(m+1)*2^(bG d-1)<=b:=by
   have:4294967296^(m+1)*2^(bG d-1)<=4294967296^(m+1)*d:=mh _ t;omega
  have A:=hV (2^(32-bG d)) G;rw[iZ,o]at A;rw[gP];exact A
def akD{r:Nat}(I:r<4294967296)(O:x<4294967296):(r%18446744073709551616*2^32%18446744073709551616%18446744073709551616|||x%18446744073709551616%18446744073709551616)=r*4294967296+x:=by
 rw[gR (a:=r) R];exact Mm I O
def akE(P A l M jg:Nat):A+P*jg+P*4294967296*l+P*4294967296*4294967296*M=((M*4294967296+l)*4294967296+jg)*P+A:=by
 rw[fb,fb,fb];have S:P*4294967296*4294967296*M=M*4294967296*4294967296*P:=by ac_rfl
 have z:P*4294967296*l=l*4294967296*P:=by ac_rfl
 have j:P*jg=jg*P:=by ac_rfl
 omega
def akF(P A l M:Nat):A+P*l+P*4294967296*M=(M*4294967296+l)*P+A:=by
 rw[fb];have S:P*4294967296*M=M*4294967296*P:=by ac_rfl
 have z:P*l=l*P:=by ac_rfl
 omega
def W4{g:Nat}(h:0<g)(aI:g<18446744073709551616):(g+(18446744073709551616*1-1))%18446744073709551616=g-1:=R
def CI{l:ac Nat}{i:Nat}(h:i<l.length):l[i]? =some l[i]:=aO h
def CJ:bl 126 (bV λ((a,b):Nat×Nat)=>([dt a,dt b],ei 1073741823 a/\ei 1073741823 b/\b≠0,.bc [dt<|a/b,dt<|a%b])):=by
 refine bL [vb,GL,oD,WX,tw,WW,W0,W1,mE] UO.1 ?_;intro⟨a,b⟩ ⟨(cE:(aU _ a).length<=_),(cF:(aU _ b).length<=_),(b4:b≠0)⟩ H aq;show bM.ok _ ⟨_,_,⟨_,_,[(0,ds<|aU 4294967296 a),(1,ds<|aU 4294967296 b)]⟩⟩;have cK:0<(aU 4294967296 b).length:=oV.2 λh=>b4<|(oC ai).1 h;refine st ?_;refine aS vb (a,b) ⟨by show(aU _ a).length<=_;omega,by show(aU _ b).length<=_;omega⟩<|st ?_;refine cT (λh=>?_) λh=>?_
 .have aW:a<b:=by
   rcases gf a b with D|D
   .exact D
   .have h:jf a b<0:=h;unfold jf at h;rw[av R]at h;split at h<;>omega
  refine st ?_;exact bn<|ep j j<|.bc ⟨bz.nl.trans (.of<|by show ds []=ds (aU _<|a/b);rw[rR aW,g1]),.of<|by show ds _=ds (aU _<|a%b);rw[gR aW],az⟩
 have b3:b<=a:=by
  rcases gf a b with D|D
  .exact absurd (show jf a b<0 by rw[zK D];decide) h
  .exact D
 refine st ?_;refine cT (λY=>?_) λY=>?_
 .have Y:(aU 4294967296 b).length=1:=by omega
  obtain⟨d,T⟩:=mU.1 Y;have S:=gx (b:=4294967296) ai b;have aR:=hb (b:=4294967296) ai b;rw[T]at S aR;have bf:b=d:=by simp[val]at S;exact S.symm
  have bj:=aR d au;rw[T];subst bf;refine st ?_;refine l3 (J:=0) b j ?_;refine st ?_;refine aS GL (a,b) ⟨by show(aU _ a).length<=_;omega,by show 0<b;omega,bj⟩<|st ?_;refine aJ 37 (.i .u64 ((a%b:Nat):Int)) j (fG (by have:=eY a (show 0<b by omega);omega)) ?_;refine aS oD (a%b) (by have:=eY a (show 0<b by omega);show a%b<_;omega)<|st ?_;exact bn<|ep j j<|.bc ⟨.refl _,.refl _,az⟩
 have c':=hb (b:=4294967296) ai a;have a7:=hb (b:=4294967296) ai b;have b5:=gx (b:=4294967296) ai a;have b7:=gx (b:=4294967296) ai b;have bQ:=va (b:=4294967296) ai b;have cM:=Mi b3;generalize a0:aU 4294967296 a=xs at *;generalize a9:aU 4294967296 b=Z at *;obtain⟨m,hm⟩:∃m,Z.length=m+2:=⟨Z.length-2,R⟩;obtain⟨cJ,iG,aL,ay⟩:=akC hm a7 bQ b7;have T:=a7 _<|dH (show m+1<Z.length by omega);refine st ?_;refine cj 41 ((m+1:Nat):Int) ?_;refine l3 Z[m+1] (aO R) ?_;refine st ?_;refine aS WX Z[m+1] T ?_;generalize cm:Z[m+1]=a8 at *;refine aJ 44 (.aa ((32-bG a8:Nat):Int)) j j ?_;generalize cG:32-bG a8=e at *;have cn:e<=31:=R
 refine st ?_;refine aS tw (b,e) ⟨by show(aU _ b).length<=_;rw[a9];omega,by show e<_;omega⟩ ?_ (he:=by exact⟨.of<|congrArg ds a9.symm,.refl _,az⟩);refine aJ 47 (ds<|aU 4294967296<|b*2^e) j j<|st ?_;refine cj 50 ((xs.length+1:Nat):Int) ?_;refine nF fV 0<|st ?_;refine aS tw (a,e) ⟨by show(aU _ a).length<=_;rw[a0];omega,by show e<_;omega⟩ ?_ (he:=by exact⟨.of<|congrArg ds a0.symm,.refl _,az⟩);have ct:a*2^e<2147483648*4294967296^xs.length:=by
  have Y:=ku c';rw[b5]at Y;have G:(a+1)*2^e<=4294967296^xs.length*2147483648:=ye R<|GM R;have A:0<2^e:=n4 e;rw[fb]at G;omega
 have bD:a*2^e<4294967296^(xs.length+1):=by
  rw[g6];have:0<4294967296^xs.length:=sV ai;omega
 have an:(aU 4294967296<|a*2^e).length<=xs.length+1:=je ai bD;refine st ?_;refine aeU (aU 4294967296<|a*2^e) atu<|st ?_;refine aJ 61 (.aa ((xs.length-Z.length+1:Nat):Int)) j (by rw[gn (n:=(xs.length:Int)-Z.length) R R];exact eV) ?_;refine nF fV 0<|st ?_;have I:=gx (b:=4294967296) ai<|b*2^e;have ak:=hb (b:=4294967296) ai<|b*2^e;have bd:(aU 4294967296<|b*2^e).length=m+2:=by
  have Y:=je (b:=4294967296) ai aL;have G:=CF (b:=4294967296) (n:=b*2^e) (k:=m+1) ai (by
   have:0<4294967296^(m+1):=sV ai;omega)
  omega
 generalize cd:aU 4294967296 (b*2^e)=a' at *;have bo:(aU 4294967296 (a*2^e)++(List.replicate (xs.length+1) 0).drop (aU 4294967296<|a*2^e).length).length=xs.length+1:=by simp;omega
 have ba:val 4294967296 (aU 4294967296 (a*2^e)++(List.replicate (xs.length+1) 0).drop (aU 4294967296<|a*2^e).length)=a*2^e:=by
  rw[List.drop_replicate,l6,val_zero,gx ai];omega
 have b9:Ok 4294967296 (aU 4294967296 (a*2^e)++(List.replicate (xs.length+1) 0).drop (aU 4294967296<|a*2^e).length):=λx O=>by
  rcases gA.1 O with O|O
  .exact hb ai _ x O
  .exact sB ai _ x<|yg O
 generalize aU 4294967296 (a*2^e)++(List.replicate (xs.length+1) 0).drop (aU 4294967296<|a*2^e).length=bu at *;refine ea (L:=Nat×ac Nat×ac Nat) (λ(k,us,t)=>k<=xs.length-Z.length+1/\us.length=xs.length+1/\Ok 4294967296 us/\t.length=xs.length-Z.length+1/\Ok 4294967296 t/\(∀p,p<k->t[p]? =some 0)/\val 4294967296 us<b*2^e*4294967296^k/\a*2^e=val 4294967296 (t.drop k)*4294967296^k*(b*2^e)+val 4294967296 us)
  (λ((k:Nat),(us:ac Nat),(t:ac Nat))=>⟨[.a 229 false 1 Nat fV us,.a 229 false 1 Nat fV t],2,[(4,.aH 1 1 0 (xs.length-Z.length+1)<|xs.length-Z.length+1),(6,.aa ((m+2:Nat):Int)),(9,.aa e),(10,ds a'),(11,.aH 0 1 0 (xs.length+1)<|xs.length+1),(12,.aa<|(k:Int)-1)]⟩)
  (λl=>l.1) [0,1] (xs.length-Z.length+1,bu,List.replicate (xs.length-Z.length+1) 0) ⟨R,bo,b9,au,sB ai _,λp hp=>by rw[AE,aD hp],?_,by rw[ba,x7 au];simp[val]⟩ (by show xs.length-Z.length+1<bs+1;unfold bs;omega) bk ?_
 .rw[ba];have Y:=hV (4294967296^(xs.length-Z.length+1)) ay;rw[iZ,<-iA,show m+1+(xs.length-Z.length+1)=xs.length by omega]at Y;omega
 rintro⟨k,us,t⟩ ⟨cH,an,ad,aM,aK,aI,M,ax⟩;cases k with
 |zero=>
  rw[DM,oR]at M;rw[DM,oR,iB]at ax;refine dW 67 ?_
  iterate 9 refine fE j ?_
  refine Lf 4 ?_;refine Lf 11<|st ?_;refine ca mE t ⟨aK,R⟩<|st ?_;refine aeX (us.take<|m+2)<|st ?_;refine ca mE (us.take<|m+2) ⟨qc ad _,by simp;omega⟩<|st ?_;refine ca WW (val 4294967296<|us.take<|m+2,e) ⟨?_,by show e<_;omega⟩ ?_
  .show(aU _ _).length<=_;have:=je (b:=4294967296) ai<|ku<|qc ad<|m+2;rw[gQ]at this;omega
  refine st ?_;have aE:0<2^e:=n4 e;have bX:0<b*2^e:=yi R aE;have cc:val 4294967296 (us.take<|m+2)=val 4294967296 us:=by
   have bw:=GN (b:=4294967296) (l:=us) (k:=m+2) R;rcases AG (val 4294967296<|us.drop<|m+2)with F|F
   .rw[F]at bw;omega
   .have:4294967296^(m+2)*1<=4294967296^(m+2)*val 4294967296 (us.drop<|m+2):=mh _ F;omega
  have b6:val 4294967296 t=a/b:=by
   have Y:a*2^e/(b*2^e)=a/b:=Nat.mul_div_mul_right _ _ aE;rw[<-Y,ax,ua,Nat.add_mul_div_right _ _ bX,rR M,hU]
  have b8:val 4294967296 us/2^e=a%b:=by
   have Y:a*2^e%(b*2^e)=a%b*2^e:=Nat.mul_mod_mul_right _ _ _;rw[ax,ua,Nat.add_mul_mod_self_right,gR M]at Y;rw[Y,Nat.mul_div_cancel _ aE]
  exact bn (ep j j<|.bc ⟨.of<|congrArg dt b6,.of (congrArg dt<|by rw[cc];exact b8),az⟩)
 |succ J=>
  refine aJ 12 (.aa (J:Nat)) j fG<|st ?_;refine aJ 67 (.b true) j au<|st ?_;refine ww 73 ((J+(m+2):Nat):Int) ?_;refine FZ ?_;refine F0 us[J+(m+2)] (CI R) ?_;refine dW 82 ?_;refine dF 82 (.aa ((J+(m+1):Nat):Int)) j j asS ?_;refine FZ ?_;refine F0 us[J+(m+1)] (CI R) ?_;refine dW 86 ?_;have bP:=ad _<|dH (show J+(m+2)<us.length by omega);have bO:=ad _<|dH (show J+(m+1)<us.length by omega);have b':=ad _<|dH (show J+m<us.length by omega);have cA:=ak _<|dH (show m+1<a'.length by omega);have aj:=ak _<|dH (show m<a'.length by omega);obtain⟨top,aA⟩:∃top,top=us[J+(m+2)]*4294967296+us[J+(m+1)]:=dN;refine dF 86 (.i .u64 (top:Nat)) j j (fG<|congrArg _<|(akD bP bO).trans aA.symm) ?_;obtain⟨eJ,Gm,Cy⟩:=W3 (n:=m+2) ad R aL M;have al:eX us J (m+2+1)=(top*4294967296+us[J+m])*4294967296^m+eX us J m:=by
   unfold eX;rw[aA];rw[rk R,rk R,rk R,g6,g6];exact akE _ _ _ _ _
  have ae:b*2^e=(a'[m+1]*4294967296+a'[m])*4294967296^m+val 4294967296 (a'.take m):=by
   rw[<-I];have:val 4294967296 a'=val 4294967296 (a'.take<|m+1+1):=by rw[gB R]
   rw[this,iu R,iu R,g6];exact akF _ _ _ _
  have bb:eX us J m<4294967296^m:=by
   have:=ku<|qc (vd ad J) m;unfold eX;rw[gQ,kh dM]at this;exact this
  have ao:val 4294967296 (a'.take m)<4294967296^m:=by
   have:=ku<|qc ak m;rw[gQ,kh R]at this;exact this
  have ah:0<a'[m+1]:=by
   rcases AG a'[m+1]with F|F
   .rw[F,hF,hU]at ae;have Y:a'[m]*4294967296^m+4294967296^m<=4294967296^(m+1):=by
     have:(a'[m]+1)*4294967296^m<=4294967296*4294967296^m:=hV _ aj;rw[fb,sS]at this;rw[g6,gP _ 4294967296];exact this
    have G:1*4294967296^(m+1)<=2147483648*4294967296^(m+1):=hV _ ai;omega
   .exact F
  have N:0<b*2^e:=yi R<|n4 e;have a5:eX us J (m+2+1)/(b*2^e)<4294967296:=(yf N).2 (by rw[gP];exact Cy);have a6:eX us J (m+2+1)/(b*2^e)*(b*2^e)<=eX us J (m+2+1):=IC _ _;have z:=akB (jN:=t) (n:=m+2) ad R R N aL M ax;generalize aG:eX us J (m+2+1)=W at *;generalize E:W/(b*2^e)=q at *;generalize cu:b*2^e=V at *;generalize cB:us[J+(m+2)]=b2 at *;generalize cw:us[J+(m+1)]=cL at *;generalize bq:us[J+m]=jg at *;generalize bY:a'[m+1]=v1 at *;generalize C:a'[m]=v2 at *;have aB:a'[m+1]? =some v1:=by rw[CI R,bY]
  have bA:a'[m]? =some v2:=by rw[CI R,C]
  have bx:us[J+m]? =some jg:=by rw[CI R,bq]
  have cx:top<18446744073709551616:=R
  have cz:2147483648<=v1:=akt ae ao aj ai (by rw[g6]at ay;exact ay);have cy:b2<=v1:=aku ae ao aj ai al aA Cy;refine st ?_;refine ww 90 ((m+1:Nat):Int) ?_;refine w9 v1 aB ?_;refine dW 93 ?_;refine dF 93 (.i .u64 (v1:Nat)) j j fG ?_;refine aeV<|st ?_;refine ww 98 ((m+1:Nat):Int) ?_;refine w9 v1 aB ?_;refine dW 101 ?_;refine dF 101 (.i .u64 (v1:Nat)) j j fG ?_;refine aeW<|dW 15 ?_
  iterate 3 refine fE j ?_
  refine gZ (λ(g:Nat)=>q<=g/\g<4294967296/\g*V<=W+V) (λ(g:Nat)=>⟨[.a 229 false 1 Nat fV us,.a 229 false 1 Nat fV t],2,[(4,.aH 1 1 0 (xs.length-Z.length+1)<|xs.length-Z.length+1),(6,.aa ((m+2:Nat):Int)),(9,.aa e),(10,ds a'),(11,.aH 0 1 0 (xs.length+1)<|xs.length+1),(12,.aa J),(14,.i .u64 g)]⟩) ?_ ?_
  .refine st ?_;refine ea (L:=Nat×Nat) (λ(g,U)=>top=g*v1+U/\q<=g/\g<=4294967297/\U<4294967296)
    (λ((g:Nat),(U:Nat))=>⟨[.a 229 false 1 Nat fV us,.a 229 false 1 Nat fV t],2,[(4,.aH 1 1 0 (xs.length-Z.length+1)<|xs.length-Z.length+1),(6,.aa ((m+2:Nat):Int)),(9,.aa e),(10,ds a'),(11,.aH 0 1 0 (xs.length+1)<|xs.length+1),(12,.aa J),(14,.i .u64 g),(15,.i .u64 U)]⟩)
    (λl=>l.1) [0,1] (top/v1,top%v1) ⟨by rw[gP];exact(qx top v1).symm,?_,?_,?_⟩ ?_ bk ?_
   .exact(vX ah).2<|akp ae al bb b' a6
   .have:top/v1<4294967298:=(yf ah).2 R;omega
   .have:=eY top ah;omega
   .have:top/v1<=top:=ki _ _;have G:top/v1<4294967298:=(yf ah).2 R;show top/v1<bs+1;unfold bs;omega
   rintro⟨g,U⟩ ⟨a2,aT,cC,bI⟩;refine dW 106 ?_;rcases gf g 4294967296 with aF|aF;refine dF 106 (.b false) j j asV<|dW 110 ?_;refine ww 110 (m:Nat)<|st ?_;refine w9 v2 bA ?_;obtain⟨bJ,K,Q⟩:=Mk (c:=0) (U:=0) ai aF aj ai;refine dW 114 ?_;refine dF 114 (.i .u64 ((g*v2:Nat):Int)) j j (fG<|congrArg _<|by rw[gR (a:=v2) R,gR bJ])<|dW 121 ?_;refine dF 121 (.aa ((J+m:Nat):Int)) j j asS<|st ?_;refine FZ<|st ?_;refine F0 jg bx ?_;refine dW 125 ?_;refine dF 125 (.i .u64 ((U*4294967296+jg:Nat):Int)) j j (fG<|congrArg _<|Mm bI b')<|st ?_;refine cT (λab=>?_) (λab=>?_)
   rotate_left
   .refine st ?_;exact bB [0,1] g ⟨aT,aF,akr ae ao ah al a2 R R⟩ bk
   refine dF 106 (.b true) j j asV<|st ?_
   rotate_left
   have aW:=akq ae al bb a6 aT a2 R;refine st ?_
   all_goals
    have cq:(g-1)*v1+v1=g*v1:=by
     rw[<-Dt,show(g-1).succ=g by omega]
    have aP:top=(g-1)*v1+(U+v1):=R
    refine aJ 14 (.i .u64 ((g-1:Nat):Int)) j (fG<|congrArg _<|W4 R R) ?_;refine cj 133 ((m+1:Nat):Int) ?_;refine l3 v1 aB ?_;refine dW 137 ?_;refine aJ 137 (.i .u64 ((U+v1:Nat):Int)) j fG<|st ?_;refine cT (λab=>?_) λab=>?_
    .have ab:(((U+v1)/4294967296:Nat):Int)≠0:=ab;refine st ?_;have bh:=aks ae ao aj al aP R R;have hle:=(vX N).2 bh;rw[E]at hle;exact bB [0,1] (g-1) aro bk
    .have ab:¬(((U+v1)/4294967296:Nat):Int)≠0:=ab;refine st ?_;exact bB [0,1] (g-1,U+v1) ⟨by show g-1<g;omega,aP,R,R,R⟩ bk
  rintro(g:Nat) ⟨bg,bZ,bE⟩;obtain⟨bS,bW⟩:=akv (W:=W) (V:=V) (g:=g) N (by rw[E];exact bg) bE;refine st ?_;refine cT (λF=>?_) λF=>?_
  .have a3:q=0:=by omega
   have bH:W<V:=by
    have:=qx W V;rw[E,a3,yh,hU]at this;have:=eY W N;omega
   refine st ?_;rw[gR bH,<-aG,akA R ad,a3]at z;have cb:t.set J 0=t:=by
    apply nY;intro p;rw[oT];split
    .rename_i hp;subst hp;rw[aD R,aI _ R]
    .rfl
   rw[cb]at z;exact bB [0,1] (J,us,t) ⟨by show J<J+1;omega,R,an,ad,aM,aK,λp hp=>aI p R,z.1,z.2⟩ bk
  refine st ?_;refine RM<|st ?_;refine lC W0 0 (us,J,a',g) ⟨R,ad,ak,bZ,R⟩ ?_ (he:=by show[ag.aH 0 1 J _ _,ds a',ag.i .u64 (g:Nat)]=[ag.aH 0 1 J _ _,ds a',ag.i .u64 (g:Nat)];rw[an]);have ar:a'.length=m+2:=bd;have cl:∀X,X<V->X%4294967296^(m+2+1)=X:=λX cf=>gR (by
   have:4294967296^(m+2)<=4294967296^(m+2+1):=j0 ai R;omega)
  have bF:=qx W V;rw[E]at bF;have cN:=eY W N;rw[show eX us J (a'.length+1)=W by rw[ar];exact aG,I,ar];refine aJ 148 (.b<|decide (W<g*V)) j (by show ag.b (decide (eX us J (a'.length+1)<g*val 4294967296 a'))=_;rw[ar,aG,I]) ?_;refine fE j ?_;refine fE j ?_;refine gZ (λ(g:Nat)=>g=q) (λ(g:Nat)=>⟨[.a 229 false 1 Nat fV<|hA us J (m+2+1)<|W%V,.a 229 false 1 Nat fV t],2,[(4,.aH 1 1 0 (xs.length-Z.length+1)<|xs.length-Z.length+1),(6,.aa ((m+2:Nat):Int)),(9,.aa e),(10,ds a'),(11,.aH 0 1 0 (xs.length+1)<|xs.length+1),(12,.aa J),(14,.i .u64 g)]⟩) ?_ ?_
  .refine cT (λab=>?_) λab=>?_
   .obtain⟨aw,cD⟩:=bS ab;rw[aD ab];refine dW 14 ?_;refine aJ 14 (.i .u64 ((g-1:Nat):Int)) j (fG<|congrArg _<|W4 R R)<|st ?_;refine RM<|st ?_;refine lC W1 0 (hA us J (m+2+1)<|W+4294967296^(m+2+1)-g*V,J,a') ⟨by rw[GP R];omega,W2 ad,ak,by rw[GP R];omega⟩ ?_ (he:=by show[ag.aH 0 1 J _ _,ds a']=[ag.aH 0 1 J _ _,ds a'];rw[GP R,an]);refine st ?_;refine bB [0,1] (g-1) (aw.trans E)<|bk (aC:=⟨⟨_,j,?_,λ_=>j⟩,jS,az⟩);show aZ.a _ _ _ _ _ _=aZ.a _ _ _ _ _ _;congr 1;rw[ar,akx R,aky R,I];have cp:(g-1)*V+V=g*V:=by rw[<-Dt,show(g-1).succ=g by omega]
    have cg:(g-1)*V=V*q:=by rw[aw,E,gP]
    have cI:0<4294967296^(m+2+1):=sV ai;have cv:V<4294967296^(m+2+1):=by
     have:4294967296^(m+2)<=4294967296^(m+2+1):=j0 ai R;omega
    have key:((W+4294967296^(m+2+1)-g*V)%4294967296^(m+2+1)+V)%4294967296^(m+2+1)=W%V:=by
     generalize 4294967296^(m+2+1)=PP at *;rw[gR (show W+PP-g*V<PP by omega),show W+PP-g*V+V=W%V+PP by omega,Nat.add_mod_right,gR R]
    rw[<-akz,key]
   .have aw:=bW ab;rw[av ab];refine st ?_;refine bB [0,1] g R<|bk (aC:=⟨⟨_,j,?_,λ_=>j⟩,jS,az⟩);show aZ.a _ _ _ _ _ _=aZ.a _ _ _ _ _ _;congr 2;rw[pD];have:g*V=V*q:=by rw[aw,E,gP]
    omega
  intro b1 bp;rw[show b1=q from bp];refine st ?_;refine zp ?_;refine kI (q%4294967296)<|st ?_;rw[gR a5];refine bB [0,1] (J,hA us J (m+2+1)<|W%V,t.set J q) ⟨by show J<J+1;omega,R,by rw[GP R];exact an,W2 ad,by simp[aM],mD aK _ a5,λp hp=>by rw[nq R];exact aI p R,z.1,z.2⟩ bk
def tx(h:ei k a)(ay:b<=a):ei k b:=ch (Mi ay) h
def tz(h:ei k a):a<4294967296^k:=by
 have Y:=ku<|hb (b:=4294967296) ai a;rw[gx ai]at Y;exact e2 Y<|j0 ai h
def rl(h:a<4294967296^k):ei k a:=je ai h
def Mr(h:m<=n):bG m<=bG n:=by
 by_cases F:m=0
 .subst F;exact c8 _
 .have Y:=(rj F).1;have:=(vW (by decide:1<2)).1<|mT (ch Y h)<|(rj (show n≠0 by omega)).2;omega
def akG(h:m<=n/2)(aj:1<=n):bG m<bG n:=by
 have:=Mr h;rw[ve aj];omega
def GQ(h:n<2^k):bG n<=k:=by
 by_cases F:n=0
 .subst F;exact c8 _
 .have:=(vW R).1<|mT (rj F).1 h;omega
def CK(h:ei k a):bG a<=32*k:=GQ<|by rw[qy];exact tz h
def akH(bR:ei k a)(ay:ei k b):bG (a*b)<=64*k:=GQ (by
 rw[show 64*k=32*k+32*k by omega,iA,qy];exact ID (tz bR)<|tz ay)
theorem akI{y:Nat}(T:0<y)(h:y<=x):y*(x%y)<=x*y/2:=by
 have Y:=eY x T;have G:2*(x%y)<=x:=by
  have:=qx x y;have A:=mh y<|AH h T;omega
 have:=mh y G
 grind
theorem GR:bl 58 (bV λ((a,b):Nat×Nat)=>([dt a,dt b],ei 1073741823 a/\ei 1073741823 b,dt<|Nat.gcd a b)):=by
 refine bL [CJ] Tf.1 ?_;intro⟨a,b⟩ ⟨A,C⟩ H aq;refine I 7<|ea (λ(x,y)=>ei 1073741823 x/\ei 1073741823 y/\Nat.gcd x y=Nat.gcd a b) (λ(x,y)=>⟨[],0,[(0,dt x),(1,dt y)]⟩) (λl=>2*bG (l.1*l.2)+if l.1<l.2 then 1 else 0) [] (a,b) ⟨A,C,j⟩ ?_ bk ?_
 .show 2*bG (a*b)+(if a<b then 1 else 0)<bs+1;have:=akH A C;unfold bs;split<;>omega
 rintro⟨x,y⟩ ⟨O,T,o⟩;refine I 8<|cT (λh=>?_) λh=>?_
 .have Q:y≠0:=λF=>by subst F;rw[g1]at h;simp at h
  refine I 7<|aS CJ (x,y) ⟨O,T,Q⟩<|I 14<|dD [] (y,x%y) ⟨?_,T,tx T<|pF<|eY x R,by rw[<-o,vY x y,Nat.gcd_rec y x,vY]⟩
  .show 2*bG (y*(x%y))+(if y<x%y then 1 else 0)<2*bG (x*y)+(if x<y then 1 else 0);have hm:=eY x (show 0<y by omega);rw[av R];by_cases t:x<y
   .rw[aD t,gR t,gP y x];omega
   .rw[av t];have hp:0<x*y:=yi R R;have:=akG (akI R R) hp;omega
 .have Q:y=0:=(oC (b:=4294967296) ai).1<|nZ R;refine I 12<|cC ?_
  grind
theorem akJ:aU 4294967296 1=[1]:=by grind [nL,g1]
theorem zL:bl 57 (bV λ(n:Nat)=>([dt n],True,.b<|decide (n=1))):=by
 apply bL [] Te.1;intro n _ H aq;show bM.ok _ ⟨_,_,⟨_,_,[(0,ds<|aU 4294967296 n)]⟩⟩;have S:=gx (b:=4294967296) ai n;generalize A:aU 4294967296 n=z at *;apply dW 6
 match z,S,A with
 |[],S,A=>
  apply I 9;have:n=0:=by exact S.symm
  subst this;exact eD
 |[d],S,A=>
  have:n=d:=by exact S.symm
  subst this;refine I 3<|eW n j j<|I 9<|cC ?_;congr 1
  grind
 |d::D::z,S,A=>
  refine I 9<|cC ?_;congr 1
  symm
  rw[decide_eq_false_iff_not];intro Y;subst Y;rw[akJ]at A;cases A
def rm(d:Nat):ag:=.hq 1 Nat fV (if d=1 then[]else aU 4294967296 d)
def jU(x:Rat):ac ag:=[.b<|decide (x.num<0),dt x.num.natAbs,rm x.den]
def cU(x:Rat):ag:=.agg<|jU x
def CL(h:d≠1):rm d= .hq 1 Nat fV (aU 4294967296 d):=by rw[rm];rw[av h]
def W5(h:d≠1)(bX:d≠0):bz (dt d) (rm d):=by
 rw[CL h];exact bz.hq λe=>bX<|(oC ai).1 e
def W6(h:d≠1):bz (rm d) (dt d):=by
 rw[CL h];exact bz.Fy
def xv(n:Int)(d:Nat)(h:d≠0):(mkRat n d).num=n/((n.natAbs.gcd d:Nat):Int)/\(mkRat n d).den=d/n.natAbs.gcd d:=by
 exact arW
def W7(hp:p≠0)(cD:q≠0):(mkRat (if neg then -(p:Int)else p) q).num=(if neg then -((p/p.gcd q:Nat):Int)else((p/p.gcd q:Nat):Int))/\(mkRat (if neg then -(p:Int)else p) q).den=q/p.gcd q:=by
 have O:0<p.gcd q:=IE _ R;have A:(if neg then -(p:Int)else p).natAbs=p:=R
 have⟨Y,G⟩:=xv (if neg then -p else p) q cD;rw[A]at Y G;refine⟨?_,G⟩;rw[Y];cases neg
 .simp
 .simp only[if_true];have⟨k,N⟩:=AI p q;generalize p.gcd q=g at *;subst N;rw[DN _ O,n1,<-Int.mul_neg,Int.mul_ediv_cancel_left _ R]
def Ms{x:Rat}{c:ag}(aC:x.num=if neg then -(p:Int)else(p:Int))(aI:x.den=q)(hp:p≠0)(aQ:bz c (rm q)):bz (.agg [.b neg,dt p,c]) (cU x):=by
 refine bz.agg ⟨.of ?_,.of ?_,?_,az⟩
 .congr 1;rw[aC];cases neg
  .simp
  .simp;omega
 .congr 1;rw[aC];cases neg<;>simp
 .rw[aI];exact aQ
def le_zero:bz (.agg [.b false,.nl,.nl]) (cU 0):=bz.agg ⟨.refl _,bz.nl.trans (.of<|by show ds []=ds (aU _ 0);rw[g1]),bz.iS,az⟩
def tA:(aU 4294967296 n).length=0↔n=0:=by rw[IF];exact oC ai
theorem oE:bl 54 (bV λ((n,p,q):Bool×Nat×Nat)=>([.b n,dt p,dt q],ei 1073741823 p/\ei 1073741823 q/\q≠0,cU<|mkRat (if n then -(p:Int)else p) q)):=by
 refine bL [zL,GR,CJ] Td.1 ?_;intro⟨n,p,q⟩ ⟨(hp:ei _ p),(E:ei _ q),o⟩ H aq;refine I 13<|cT (λh=>?_) λh=>?_
 .have t:p=0:=tA.1 R;refine I 8<|bp (le_zero.trans<|.of ?_)
  simp_all
 have t:p≠0:=λF=>h (by rw[F,g1];rfl);have O:0<p.gcd q:=IE _ R;refine I 6<|aS zL q az<|I 3<|gZ (λ((D:Nat),(K:Nat))=>D=p/p.gcd q/\K=q/p.gcd q) (λ(D,K)=>⟨[.c 45 [.b false,.nl,.nl]],1,[(0,.b n),(1,dt D),(2,dt K),(6,.p 0 0)]⟩) ?_ ?_
 .refine zq (λY=>?_) λY=>?_
  .refine I 4<|aS GR (p,q) ⟨hp,E⟩<|I 6<|aS zL (p.gcd q) az<|I 3<|zq (λG=>?_) λG=>?_
   .have Q:ei 1073741823 (p.gcd q):=tx hp<|Nat.gcd_le_left _ R;exact I 4<|aS CJ (p,p.gcd q) ⟨hp,Q,R⟩<|I 9<|aS CJ (q,p.gcd q) ⟨E,Q,R⟩<|I 5<|dD [0] (p/p.gcd q,q/p.gcd q) fe
   .exact I 1<|dD [0] (p,q) ⟨by rw[G,yj],by rw[G,yj]⟩
  .exact I 1<|dD [0] (p,q) ⟨by rw[Y,DO,yj],by rw[Y,DO]⟩
 rintro⟨D,K⟩ ⟨S,z⟩;obtain⟨N,iG⟩:=W7 (neg:=n) t o;rw[<-S]at N;rw[<-z]at iG;have C:D≠0:=by
  have:=AH (Nat.gcd_le_left q (show 0<p by omega)) O;omega
 have l:K≠0:=by
  have:=AH (IG p (show 0<q by omega)) O;omega
 exact I 4<|aS zL K az<|I 2<|cT (λA=>(I 14<|bp (Ms N iG C<|by rw[A];exact bz.iS))) λA=>(I 12<|bp (Ms N iG C<|W5 A l))
def cq(k:Nat)(x:Rat):Prop:=ei k x.num.natAbs/\ei k x.den
variable{y:Rat}
def nf:bl 62 (bV λ(x:Rat)=>([cU x],True,dt x.den)):=by
 apply bL [oD] Vu.1;intro x _ H aq;apply I 11;by_cases T:x.den=1
 .exact aJ 4 (.hq 1 Nat fV []) j asU<|I 6<|aS oD (1:Nat) ass<|I 5<|cC (by show dt 1=dt x.den;rw[T])
 .apply cl 4 (CL T);refine I 3<|aeq j (by rw[(IH.2 asY)];rfl) ?_;exact I 10<|bp (W6 T)
def rn:bl 17 (bV λ(x:Rat)=>([cU x],True,.aa x.num.sign)):=by
 apply bL [] TJ.1;intro x _ H aq;refine I 17<|cT (λh=>?_) λh=>?_
 .have F:x.num.natAbs=0:=tA.1 R;exact I 8<|cC (by show ag.aa 0=ag.aa x.num.sign;rw[Int.natAbs_eq_zero.1 F];rfl)
 have F:x.num≠0:=λe=>h (by rw[e];show((aU _ 0).length:Int)=0;rw[g1];rfl);exact I 7<|cT (λh=>(I 8<|cC (by show ag.aa (-1)=ag.aa x.num.sign;rw[yk h]))) λh=>(I 9<|cC (by show ag.aa 1=ag.aa x.num.sign;rw[sW R]))
theorem W8:bl 66 (bV λ(x:Rat)=>([cU x],True,cU<|-x)):=by
 refine bL [] Vv.1 ?_;intro(x:Rat) _ H aq;have hle:∀{t:Bool},t=decide (-x.num<0)->bz (.agg [.b t,dt x.num.natAbs,rm x.den]) (cU<|-x):=λh=>by
  refine bz.agg ⟨.of<|by rw[h,DP],.of au,.of au,az⟩
 refine I 12 ?_;by_cases aj:x.num<0
 .exact aJ 6 (.b false) j apt<|I 14<|bn (ep j j<|hle dM)
 .refine aJ 6 (.b true) j apt<|I 18<|bp (hle ?_);rw[decide_eq_decide];rcases(show 0<x.num\/x.num<=0 by omega)with F|F
  .have:x.num.natAbs≠0:=by omega
   have:(aU 4294967296 x.num.natAbs).length≠0:=λe=>this<|tA.1 e;exact⟨λ_=>R,λ_=>R⟩
  .have Y:x.num=0:=by omega
   have G:(aU 4294967296 x.num.natAbs).length=0:=tA.2 R;exact as0 as0
def jh(x:Rat):Rat:=if x.num<0 then -x else x
def rp(x:Rat):(jh x).num=(x.num.natAbs:Int)/\(jh x).den=x.den:=by
 rw[jh];split
 .rw[DP];exact⟨R,j⟩
 .exact⟨R,j⟩
def W9:bl 282 (bV λ(x:Rat)=>([cU x],True,cU<|jh x)):=by
 apply bL [] VU.1;intro x _ H aq;exact I 17<|bn (ep j j<|bz.agg ⟨.of<|by rw[(rp x).1];congr 1,.of<|by rw[(rp x).1];rfl,.of<|by rw[(rp x).2],az⟩)
def ji(x y:Rat):Int:=if x<y then -1 else if x=y then 0 else 1
def lI{l:Nat}(bR:ei k a)(ay:ei l b):ei (k+l) (a*b):=rl<|by rw[iA];exact ID (tz bR)<|tz ay
def bF(n:Bool)(p:Nat):Int:=if n then -(p:Int)else p
theorem GS(x:Rat):x.num=bF (decide (x.num<0)) x.num.natAbs:=by
 grind [bF]
def Xa(x y:Rat):(x.num.sign<y.num.sign->ji x y= -1)/\(y.num.sign<x.num.sign->ji x y=1)/\(x.num.sign=y.num.sign->ji x y=x.num.sign*jf (x.num.natAbs*y.den) (y.num.natAbs*x.den)):=by
 have O:=x.den_nz;have T:=y.den_nz;have lt:x<y↔x.num*y.den<y.num*x.den:=Rat.lt_iff x y;have eq:x=y↔x.num*y.den=y.num*x.den:=by
  constructor
  .rintro rfl;rfl
  .intro h;have Y:=(Rat.mkRat_eq_iff (n₁:=x.num) (n₂:=y.num) O T).2 h
   rwa [Rat.mkRat_self,Rat.mkRat_self]at Y
 have o:(0:Int)<x.den:=R
 have K:(0:Int)<y.den:=R
 have dk:∀n:Int,(n<0/\n.sign= -1)\/(n=0/\n.sign=0)\/(0<n/\n.sign=1):=λn=>by
  rcases(show n<0\/n=0\/0<n by omega)with h|h|h
  .exact .inl ⟨h,yk h⟩
  .exact .inr<|.inl ⟨h,by rw[h];rfl⟩
  .exact .inr<|.inr ⟨h,sW h⟩
 have Q:x.num*(y.den:Int)=x.num.sign*((x.num.natAbs*y.den:Nat):Int):=by
  rw[n1,<-rS,AJ]
 have l:y.num*(x.den:Int)=y.num.sign*((y.num.natAbs*x.den:Nat):Int):=by
  rw[n1,<-rS,AJ]
 have j:x.num≠0->0<x.num.natAbs*y.den:=λh=>yi R R;have uD:y.num≠0->0<y.num.natAbs*x.den:=λh=>yi R R;rw[Q,l]at lt eq;unfold ji jf;generalize x.num.natAbs*y.den=A at *;generalize y.num.natAbs*x.den=C at *;simp only[lt,eq];rcases dk x.num with⟨D,z⟩|⟨D,z⟩|⟨D,z⟩<;>rcases dk y.num with⟨S,t⟩|⟨S,t⟩|⟨S,t⟩<;>rw[z,t]<;>refine⟨λh=>?_,λh=>?_,λh=>?_⟩<;>first
  |(exfalso;omega)
  |(have Y:=j R;have G:=uD R;split<;>first|omega|(split<;>first|omega|(split<;>omega)))
  |(have Y:=j R;split<;>first|omega|(split<;>omega))
  |(have G:=uD R;split<;>first|omega|(split<;>omega))
  |(split<;>first|omega|(split<;>first|omega|(split<;>omega)))
def dq{l:Nat}(h:ei k a)(aB:k<=l:=by decide):ei l a:=ch h aB
def zM:bl 106 (bV λ((x,y):Rat×Rat)=>([cU x,cU y],cq 268435456 x/\cq 268435456 y,.aa<|ji x y)):=by
 refine bL [rn,nf,vc,vb] UM.1 ?_;intro⟨x,y⟩ ⟨(O:cq _ x),(T:cq _ y)⟩ H aq;obtain⟨o,l,oB⟩:=Xa x y;refine I 10<|ca rn x az<|I 1<|ca rn y az<|I 12 ?_;have dk:∀n:Int,-1<=n.sign/\n.sign<=1:=λn=>by
  rcases(show n<0\/n=0\/0<n by omega)with h|h|h
  .rw[yk h];decide
  .rw[h];decide
  .rw[sW h];decide
 refine cT (λh=>?_) λh=>?_
 .refine I 8<|cT (λY=>?_) λY=>?_
  .exact I 8<|cC (by show ag.aa (-1)=ag.aa (ji x y);rw[o Y])
  .exact I 9<|cC (by show ag.aa 1=ag.aa (ji x y);rw[l R])
 have D:x.num.sign=y.num.sign:=R
 refine I 5<|ca nf y az<|I 2<|ca vc (x.num.natAbs,y.den) ⟨dq O.1,dq T.2⟩<|I 1<|ca nf x az<|I 2<|ca vc (y.num.natAbs,x.den) ⟨dq T.1,dq O.2⟩<|ca vb (x.num.natAbs*y.den,y.num.natAbs*x.den) ⟨?_,?_⟩ ?_
 .exact dq<|lI O.1 T.2
 .exact dq<|lI T.1 O.2
 refine I 6<|cC ?_;show ag.aa (IntKind.i64.wrap<|x.num.sign*jf _ _)=ag.aa (ji x y);rw[<-oB D];have: -1<=ji x y/\ji x y<=1:=by
  unfold ji;split
  .decide
  .split<;>decide
 exact eV j R R
theorem zN(h:jf a b<0):a<b:=by grind [jf]
def zO(h:¬jf a b<0):b<=a:=by
 obtain D|D:=gf a b
 .exact absurd (by rw[zK D];decide) h
 .exact D
def Xb(bR:ei k a)(ay:ei k b):ei (k+1) (a+b):=rl (by
 have Y:=tz bR;have G:=tz ay;omega)
def add_same{x:Rat}{n:Bool}(O:x.num=bF n x.num.natAbs)(T:y.num=bF n y.num.natAbs):mkRat (bF n<|x.num.natAbs*y.den+y.num.natAbs*x.den) (x.den*y.den)=x+y:=by
 rw[AK];congr 1;have e:∀a b:Nat,bF n (a+b)=bF n a+bF n b:=λa b=>by unfold bF;cases n<;>simp<;>omega
 have z:∀a b:Nat,bF n (a*b)=bF n a*b:=λa b=>by unfold bF;cases n<;>simp[AL]
 rw[e,z,z,<-O,<-T]
def Xc{x:Rat}{n m:Bool}(j:n≠m)(O:x.num=bF n x.num.natAbs)(T:y.num=bF m y.num.natAbs)(h:y.num.natAbs*x.den<=x.num.natAbs*y.den):mkRat (bF n<|x.num.natAbs*y.den-y.num.natAbs*x.den) (x.den*y.den)=x+y:=by
 rw[AK];congr 1;have z:∀(k:Bool) (a b:Nat),bF k (a*b)=bF k a*b:=λk a b=>by unfold bF;cases k<;>simp[AL]
 have e:∀a b:Nat,b<=a->bF n (a-b)=bF n a+bF m b:=λa b Y=>by unfold bF;cases n<;>cases m<;>simp at j⊢<;>omega
 rw[e _ _ h,z,z,<-O,<-T]
def Mt:df:=bV λ((x,y):Rat×Rat)=>([cU x,cU y],cq 268435456 x/\cq 268435456 y,cU<|x+y)
def GU{x:Rat}:bz (.agg [g0 n<|.b<|decide (x.num<0),g0 n<|dt x.num.natAbs,g0 n<|rm x.den]) (g0 n<|cU x):= @bz.afZ n<|jU x
def GV{a:ag}{x:Rat}(h:a=cU x):bz (g0 n a) (.agg<|(jU x).map<|g0 n):=by
 subst h;exact .afY
def Xd:et b5.ctx 13 Mt.jR:=by
 refine WJ [nf,(61,Ml.jR),GH,Mj,vb,oE] TH.1 ?_;intro⟨x,y⟩ ⟨(O:cq _ x),(T:cq _ y)⟩ H aq;have z:=GS x;have S:=GS y;have Z:ei 536870912 (x.num.natAbs*y.den):=lI O.1 T.2;have R:ei 536870912 (y.num.natAbs*x.den):=lI T.1 O.2;have C:ei 536870912 (x.den*y.den):=lI O.2 T.2;have A:x.den*y.den≠0:=n6 x.den_nz y.den_nz;refine I 10<|ca nf y az<|I 2<|Gc GK (x.num.natAbs,y.den) ⟨dq O.1,dq T.2⟩ ?_;refine I 1<|ca nf x az<|I 2<|Gc GK (y.num.natAbs,x.den) ⟨dq T.1,dq O.2⟩ ?_;refine I 1<|ca nf x az<|I 1<|ca nf y az<|Gc GK (x.den,y.den) ⟨dq O.2,dq T.2⟩ ?_;refine I 17<|w6 j (λh=>?_) λh=>?_
 .have M:decide (x.num<0)=decide (y.num<0):=Aw h;refine I 4<|zw GH (x.num.natAbs*y.den,y.num.natAbs*x.den) ⟨dq Z,dq R⟩ ?_;refine I 3<|zw (he:=by exact asX) oE (decide (x.num<0),x.num.natAbs*y.den+y.num.natAbs*x.den,x.den*y.den) ⟨dq<|Xb Z R,dq C,A⟩ ?_;exact e5 35 (.agg<|(jU<|x+y).map<|g0 aq.ae) j (GV<|congrArg cU<|add_same z<|M▸S)<|I 6<|bn (Gb j GU)
 have M:decide (x.num<0)≠decide (y.num<0):=ne_of_beq_false h;refine I 4<|aS (he:=by exact⟨.u0,.u0,az⟩) vb (x.num.natAbs*y.den,y.num.natAbs*x.den) ⟨dq Z,dq R⟩<|I 4<|cT (λh=>?_) λh=>?_
 .have aW:x.num.natAbs*y.den<y.num.natAbs*x.den:=zN h;refine I 4<|zw Mj (y.num.natAbs*x.den,x.num.natAbs*y.den) ⟨dq R,pF aW⟩ ?_;refine I 3<|zw (he:=by exact asX) oE (decide (y.num<0),y.num.natAbs*x.den-x.num.natAbs*y.den,x.den*y.den) ⟨dq<|tx R<|ud _ _,dq C,A⟩ ?_;exact e5 47 (.agg<|(jU<|x+y).map<|g0 aq.ae) j (GV (congrArg cU<|(by have:=Xc M.symm S z<|pF aW;rw[Rat.add_comm,<-this,gP y.den x.den];rfl)))<|I 6<|bn (Gb j GU)
 .have l:y.num.natAbs*x.den<=x.num.natAbs*y.den:=zO h;refine I 7<|zw Mj (x.num.natAbs*y.den,y.num.natAbs*x.den) ⟨dq Z,l⟩ ?_;refine I 3<|zw (he:=by exact asX) oE (decide (x.num<0),x.num.natAbs*y.den-y.num.natAbs*x.den,x.den*y.den) ⟨dq<|tx Z<|ud _ _,dq C,A⟩ ?_;exact e5 54 (.agg<|(jU<|x+y).map<|g0 aq.ae) j (GV<|congrArg cU<|Xc M z S l)<|I 4<|bn (Gb j GU)
def Xe:bl 13 Mt:=Xd.Sy
def GW{x:Rat}(h:cq k x):cq k (-x):=by
 rw[cq,DP,II];exact h
def Xf:bl 14 (bV λ((x,y):Rat×Rat)=>([cU x,cU y],cq 268435456 x/\cq 268435456 y,cU<|x-y)):=by
 apply bL [W8,Xe] UC.1;intro⟨x,y⟩ ⟨O,T⟩ H aq;exact I 10<|ca W8 y az<|I 1<|ca Xe (x,-y) ⟨O,GW T⟩<|I 4<|cC (congrArg cU (DQ x y).symm)
def iW(h:n<18446744073709551616):ei 2 n:=rl h
def tB:bl 59 (bV λ(n:Int)=>([.aa n],-9223372036854775808<=n/\n<9223372036854775808,cU<|mkRat n 1)):=by
 refine bL [oD,oE] Tg.1 ?_;intro n ⟨Y,G⟩ H aq;cases n with
 |ofNat k=>
  have G:(k:Int)<9223372036854775808:=G;exact I 19<|aJ 12 (.i .u64 k) j fG<|aS oD k (by show k<_;omega)<|aS oD (1:Nat) ass<|aS oE (false,k,1) ⟨dq<|iW R,dq<|iW ai,ai⟩<|I 4<|eD
 |negSucc k=>
  refine I 12<|Rx j au ?_;refine I 5 ?_;have l:IntKind.u64.wrap (-(IntKind.u64.wrap<|Int.negSucc k))=↑(k+1):=by
   rw[WK,WK];omega
  exact cl 7 (fG l)<|aS oD (k+1) (by show k+1<_;omega)<|aS oD (1:Nat) ass<|aS oE (true,k+1,1) ⟨dq<|iW R,dq<|iW ai,ai⟩<|I 5<|eD
def Xg(K:ac (Nat×dV)){f:d7}(a4:cX){S:gv}{ae:S.L->Nat}(h:∀l,S.pre l->∀H i0 aq,i0.length=(S.own l).length->ae l<=aq.ae->fB ⟨cg aL (cw b5.ctx<|bD K)<|bs+1,bs+1,f,H,i0,aq,Ci S l a4.res⟩ [] (.c a4.body) (S.own l) ((S.own l).length) (iT 0<|S.args l))
 (O:aL.get f=some a4:=by kernel_rfl) (aB:∀l,(S.args l).length<=a4.aN:=by exactλ_=>ib j):et b5.ctx f (S.jR ae):=aeS b5.eh ez (bD K) O aB λl hp H i0 aq _=>h l hp H i0 aq
def aE.l(k:aE):ac Int:=[(k.a:Int),(k.b:Int),(k.c:Int),(k.d:Int),(k.e:Int),(k.f:Int)]
def eE(k:aE):bv:=.agg ⟨k.l.map<|Value.int .i64⟩
def mF(k:aE):ag:=.agg [.aa (k.a:Int),.aa (k.b:Int),.aa (k.c:Int),.aa (k.d:Int),.aa (k.e:Int),.aa (k.f:Int)]
def xw(k:aE):u2 (mF k) (eE k):=af4 .i64 k.l
theorem key_inj{k J:aE}(h:eE k=eE J):k=J:=by
 unfold eE aE.l at h;simp at h;obtain⟨Y,G,A,T,C,o⟩:=h;cases k;cases J;simp;simp only at Y G A T C o;omega
def aE.fP(k:aE):Prop:=k.a<4096/\k.b<4096/\k.c<4096/\k.d<4096/\k.e<4096/\k.f<4096
theorem qe{k:aE}(h:k.fP):(fH.arr .i64 6).ok (eE k)=true:=by
 obtain⟨Y,G,A,T,C,t⟩:=h;have one:∀n:Nat,n<4096->wq .i64 (n:Int)=true:=λn aj=>by
  unfold wq;rw[pL,pL];have S:IntKind.i64.min= -9223372036854775808:=ai
  have z:IntKind.i64.max=9223372036854775807:=ai
  rw[S,z,c1];exact⟨cm R,cm R⟩
 show(Nat.beq (dE<|k.l.map<|Value.int .i64) 6&&(k.l.map<|Value.int .i64).all λx=>fX x (λo m=>j3 .i64 o&&wq .i64 m) false)=true;rw[c1,ia];refine⟨j,λx O=>?_⟩;obtain⟨n,aj,rfl⟩:=da.1 O;unfold aE.l at aj;simp at aj;rcases aj with rfl|rfl|rfl|rfl|rfl|rfl<;>(apply one;assumption)
abbrev gE:=aE->be (bv×bv×bv)
def vf(ck:Nat):be (bv×bv×bv)->Rat->ac ag
 |none,x=>[g0 ck<|.b<|decide (x.num<0),g0 ck<|dt x.num.natAbs,g0 ck<|rm x.den]
 |some (u,v,w),x=>[xn (.v u)<|.b<|decide (x.num<0),xn (.v v)<|dt x.num.natAbs,xn (.v w)<|rm x.den]
def fz(ck:Nat)(L:gE)(P:Poly):ac (bv×ag):=P.map λp=>(eE p.1,.agg<|vf ck (L p.1) p.2)
def Xh{ck:Nat}{U:be (bv×bv×bv)}{x:Rat}:bz (.agg<|vf ck U x) (cU x):=by
 cases U with
 |none=>exact bz.agg ⟨.u0,.u0,.u0,az⟩
 |some t=>exact bz.agg ⟨.LN,.LN,.LN,az⟩
section
variable{ck:Nat}{L:gE}{P:Poly}{k:aE}
def akK{x:Rat}(M:P.dU)(h:(k,x)∈P):iU (fz ck L P) (eE k)=some (.agg<|vf ck (L k) x):=by
 induction P with
 |nil=>cases h
 |cons p P I=>
  have K:=n0.1 M;show cond (dC (eE k)<|eE p.1) _ _=_;rcases fh.1 h with rfl|h
  .rw[oX];rfl
  .have:dC (eE k) (eE p.1)=false:=by
    cases C:dC (eE k) (eE p.1)with
    |false=>rfl
    |true=>
     have e:=key_inj<|j2 _ _ C;have:=K.1 _ h;rw[<-e]at this;exact absurd this<|aE.nK _
   rw[this];exact I K.2 h
def Xi(h:∀p∈P,p.1≠k):iU (fz ck L P) (eE k)=none:=by
 cases e:iU (fz ck L P) (eE k)with
 |none=>rfl
 |some a=>
  obtain⟨p,hp,l⟩:=da.1<|xk e;exact absurd (key_inj<|congrArg Prod.fst l)<|h p hp
def pn(M:P.dU):((fz ck L P).map (·.1)).Nodup:=by
 unfold fz;rw[qq];refine oS.2<|M.imp λ{p q} h e=>?_;have:=key_inj e;rw[this]at h;exact aE.nK _ h
def gE.kM(L:gE)(k:aE):gE:=λJ=>if J=k then none else L J
def GX(M:P.dU)(x:Rat):∀p∈fz ck L P,p.1≠eE k->p∈fz ck (L.kM k) (dc P k x):=λp hp j=>by
 obtain⟨q,E,rfl⟩:=da.1 hp;have R:q.1≠k:=λe=>j<|congrArg eE e;refine da.2 ⟨q,(lG M k x q).2<|.inr ⟨E,R⟩,?_⟩;unfold gE.kM;rw[av R]
def Mu(M:P.dU)(x:Rat):∀p∈fz ck (L.kM k) (dc P k x),(p=(eE k,.agg<|vf ck none<|x+b3 P k)/\x+b3 P k≠0)\/p∈fz ck L P/\p.1≠eE k:=λp hp=>by
 obtain⟨q,E,rfl⟩:=da.1 hp;rcases(lG M k x q).1 E with⟨Y,G,A⟩|⟨Y,G⟩
 .refine .inl ⟨?_,A⟩;unfold gE.kM;rw[aD Y,Y,G]
 .refine .inr ⟨da.2 ⟨q,Y,?_⟩,λe=>G<|key_inj e⟩;unfold gE.kM;rw[av G]
def CM{l m:ac (bv×ag)}(aC:(l.map (·.1)).Nodup)(aI:(m.map (·.1)).Nodup)(h:∀a,a∈l.map (·.1)↔a∈m.map (·.1)):l.length=m.length:=by
 have:=((DA aC aI).2 h).length_eq;exact apE
end
def zP:gv:=kJ λ((ck,L,P,k,x):Nat×gE×Poly×aE×Rat)=>([.g<|h6<|fz ck L P],[.mp 0,mF k,cU x],P.dU/\(∀p∈P,p.1.fP/\cq 268435456 p.2)/\k.fP/\cq 268435456 x,[.g<|h6<|fz ck (L.kM k)<|dc P k x],.bc [])
abbrev CN:zP.L->Nat:=λl=>l.1
variable{f:Poly}{H:bb}{es:ac f7}{clock:Nat}
def CO:et b5.ctx 99 (zP.jR CN):=by
 refine Xg [(13,Mt.jR),rn] Ti.1 ?_;rintro⟨ck,L,P,k,x⟩ ⟨M,Z,N,O⟩ H i0 aq o aj;have R:∀p∈fz ck L P,(fH.arr .i64 6).ok p.1=true:=λp hp=>by
  obtain⟨q,E,rfl⟩:=da.1 hp;exact qe (Z q E).1
 obtain⟨c,r,S,Q,hle,K,t⟩:∃(c:Rat) (r:ag),cq 268435456 c/\b3 P k=c/\bz r (cU c)/\(match iU (fz ck L P) (eE k)with|some a=>r=a|none=>∀H G,den H r G<|.agg #[.bool false,.slice none 0 0,.slice none 0 0])/\h1 r=true:=by
  by_cases h:∃y,(k,y)∈P
  .obtain⟨y,T⟩:=h;refine⟨y,_,(Z _ T).2,k8 M T,Xh,by rw[akK M T],?_⟩;cases L k<;>rfl
  .have z:∀p∈P,p.1≠k:=λp hp e=>h ⟨p.2,by rw[<-e];exact hp⟩;refine⟨0,.agg [.b false,.nl,.nl],arF,tu z,le_zero,by rw[Xi z];exactλH G=>⟨_,j,_,_,j,j,_,_,j,j,_,_,j,j,j⟩,j⟩
 subst Q;refine I 11<|LO r (af3 j) (xw k) R K ?_ (fF:=t) (jz:=qe N);refine dF 9 r j j j<|Gc Xd (x,b3 P k) ⟨O,S⟩ ?_ (he:=by exact⟨.refl _,hle,az⟩) (fF:=by show(h1 _&&(h1 r&&true))=true;rw[t];rfl);refine e5 10 (.agg<|(jU<|x+b3 P k).map<|g0 aq.ae) j (GV j)<|I 7<|aS rn (x+b3 P k) az (zC (λh=>?_) λh=>?_) (he:=by exact⟨(bz.agg ⟨.u0,.u0,.u0,az⟩),az⟩)
 .have F:=IJ.1<|vZ.1 h;refine I 4<|ago (fz ck (L.kM k)<|dc P k x) (by
   have jy:∀p∈fz ck (L.kM k) (dc P k x),p∈fz ck L P/\p.1≠eE k:=λp hp=>(Mu M x p hp).elim (λh=>absurd F h.2) id;refine⟨pn atH,GX M x,jy,?_⟩;have key:∀a,a≠eE k->(a∈(fz ck (L.kM k)<|dc P k x).map (·.1)↔a∈(fz ck L P).map (·.1)):=λa A=>by
    constructor
    .intro h;obtain⟨p,hp,rfl⟩:=da.1 h;exact da.2 ⟨p,(jy p hp).1,j⟩
    .intro h;obtain⟨p,hp,rfl⟩:=da.1 h;exact da.2 ⟨p,GX M x p hp A,j⟩
   have z:eE k∉(fz ck (L.kM k)<|dc P k x).map (·.1):=λh=>by
    obtain⟨p,hp,l⟩:=da.1 h;exact(jy p hp).2 l
   cases C:iU (fz ck L P) (eE k)with
   |some a=>
    have:=CM (m:=(eE k,.nl)::fz ck (L.kM k) (dc P k x)) (pn M) (uc.2 ⟨z,pn atH⟩) λb=>by
     rw[jZ,fh];by_cases e:b=eE k
     .rw[e];exact⟨λ_=>.inl j,λ_=>da.2 ⟨_,xk C,j⟩⟩
     .rw[key b e];exact⟨.inr,λh=>h.elim (λh=>absurd h e) id⟩
    simp at this;show _=(fz ck L P).length-1;omega
   |none=>
    refine CM (pn atH) (pn M) λb=>?_;by_cases e:b=eE k
    .subst e;refine⟨λh=>absurd h z,λh=>?_⟩;obtain⟨p,hp,l⟩:=da.1 h;exact absurd l<|Cs C p hp
    .exact key b e) (xw k) R ?_ (jz:=qe N)
  exact I 4<|bn ⟨.inr j,l7,[0],j,ik az gJ⟩
 .have F:x+b3 P k≠0:=λe=>h asT;refine I 6<|e5 18 (.agg<|vf ck none<|x+b3 P k) j (bz.agg ⟨.LM aj,.LM aj,.LM aj,az⟩)<|SQ (fz ck (L.kM k)<|dc P k x) (by
   have D:(eE k,ag.agg<|vf ck none<|x+b3 P k)∈fz ck (L.kM k) (dc P k x):=by
    refine da.2 ⟨(k,x+b3 P k),(lG M k x _).2<|.inl ⟨j,j,F⟩,?_⟩;unfold gE.kM;rw[aD j]
   refine⟨pn atH,D,GX M x,λp hp=>(Mu M x p hp).imp (·.1) id,?_⟩;have key:∀a,a∈(fz ck (L.kM k)<|dc P k x).map (·.1)↔a=eE k\/a∈(fz ck L P).map (·.1):=λa=>by
    constructor
    .intro h;obtain⟨p,hp,rfl⟩:=da.1 h;rcases Mu M x p hp with⟨e,_⟩|⟨e,_⟩
     .exact .inl<|by rw[e]
     .exact .inr<|da.2 ⟨p,e,j⟩
    .rintro(rfl|h)
     .exact da.2 ⟨_,D,j⟩
     .obtain⟨p,hp,rfl⟩:=da.1 h;by_cases e:p.1=eE k
      .rw[e];exact da.2 ⟨_,D,j⟩
      .exact da.2 ⟨p,GX M x p hp e,j⟩
   cases C:iU (fz ck L P) (eE k)with
   |some a=>
    refine CM (pn atH) (pn M) λa=>(key a).trans ⟨?_,.inr⟩;rintro(rfl|h)
    .exact da.2 ⟨_,xk C,j⟩
    .exact h
   |none=>
    have z:=Cs C;have:=CM (m:=(eE k,.nl)::fz ck L P) (pn atH) (uc.2 ⟨λh=>by
     obtain⟨p,hp,l⟩:=da.1 h;exact z p hp l,pn M⟩) λa=>(key a).trans au
    simpa using this) (xw k) R ?_ (jz:=qe N)
  exact I 1<|bn ⟨.inl j,l7,[0],j,ik az gJ⟩
def dS(P:Poly)(x:Rat)(W:Poly):Poly:=W.foldl (λP p=>dc P p.1<|p.2*x) P
theorem nN{x:Rat}:∀{W P:Poly},P.dU->(dS P x W).dU
 |[],_,h=>h
 |p::W,P,h=>nN (W:=W)<|lH h _ _
theorem rq{x:Rat}:∀{W P:Poly},P.dU->P.iS->(dS P x W).iS
 |[],_,_,h=>h
 |p::W,P,M,h=>rq (W:=W) (lH M _ _)<|zI M h _ _
def Mv{P:Poly}{x:Rat}{W:Poly}{p:aE×Rat}:dS P x (W++[p])=dc (dS P x W) p.1 (p.2*x):=by
 rw[dS];rw[List.foldl_append];rfl
theorem sD{x:Rat}:∀{W P:Poly},P.dU->(W.map (·.1)).Nodup->∀k,b3 (dS P x W) k=b3 W k*x+b3 P k
 |[],P,_,_,k=>by show b3 P k=0*x+b3 P k;rw[Rat.zero_mul,Rat.zero_add]
 |p::W,P,M,aj,k=>by
  rw[jZ,uc]at aj;show b3 (dS (dc P p.1<|p.2*x) x W) k=_;rw[sD (lH M _ _) aj.2,GC M,show b3 (p::W) k=if p.1=k then p.2 else b3 W k from rfl]
  grind [tu]
theorem Xj:∀{W:Poly},(W.map (·.1)).Nodup->∀{k:aE} {y:Rat},(k,y)∈W->b3 W k=y
 |[],_,_,_,h=>by cases h
 |p::W,aj,k,y,h=>by
  rw[jZ,uc]at aj;rw[b3];obtain rfl|h:=fh.1 h
  .rw[aD j]
  .rw[av λe=>aj.1 apt];exact Xj aj.2 h
theorem akL{W V:Poly}(E:(W.map (·.1)).Nodup)(I:(V.map (·.1)).Nodup)(h:∀p,p∈W↔p∈V)(k:aE):b3 W k=b3 V k:=by
 grind [Xj,tu]
def vg{P:Poly}(h:P.dU):(P.map (·.1)).Nodup:=oS.2 (h.imp λ{p q} j e=>by rw[e]at j;exact aE.nK _ j)
def akM{P W V:Poly}{x:Rat}(Z:P.dU)(aj:P.iS)(E:(W.map (·.1)).Nodup)(I:(V.map (·.1)).Nodup)(h:∀p,p∈W↔p∈V):dS P x W=dS P x V:=
 GD (nN Z) (nN Z) (rq Z aj) (rq Z aj) λk=>by rw[sD Z E,sD Z I,akL E I h]
def e9(P:Poly):ac (bv×ag):=P.map λp=>(eE p.1,cU p.2)
def rr(es:ac f7):gE:=λk=>match ic (eE k) es with
 |some m=>match m.val with
  |.agg ⟨[u,v,w]⟩=>some (u,v,w)
  |_=>none
 |none=>none
def vh(h:hB H es clock (e9 f)){m:f7}(hm:m∈es):∃p∈f,∃u v w,m.key=eE p.1/\m.val= .agg ⟨[u,v,w]⟩/\rr es p.1=some (u,v,w)/\den H (cU p.2) [] m.val:=by
 have⟨a,t,T⟩:=h.jy m hm;have⟨p,hp,l⟩:=da.1 t;have N:=congrArg Prod.fst l;have j:cU p.2=a:=congrArg Prod.snd l;rw[<-j]at T;have Q:=T;have⟨ws,e,u,R,S,_,v,C,z,_,w,Z,o,_,A⟩:=Q;subst A o z S;refine⟨p,hp,u,v,w,N.symm,e,?_,T⟩;rw[rr,E8 h.keys hm N.symm];simp only;rw[e]
theorem vi(h:hB H es clock (e9 f)){p:aE×Rat}(hp:p∈f):∃m∈es,m.key=eE p.1:=h.to _<|da.2 ⟨p,hp,j⟩
def gE.po(L:gE)(W:Poly):gE:=λk=>if k∈W.map (·.1)then none else L k
def akN(L:gE):L.po []=L:=funext λk=>by rw[gE.po];rw[av au]
theorem akO(L:gE)(W:Poly)(p:aE×Rat):(L.po W).kM p.1=L.po (W++[p]):=funext λk=>by
 unfold gE.kM gE.po;rw[rL];by_cases h:k=p.1
 .rw[aD h,aD<|by rw[h];simp]
 .rw[av h];by_cases G:k∈W.map (·.1)
  .rw[aD G,aD<|n5 _ G]
  .rw[av G,av apt]
theorem akP(L:gE){W V:Poly}(h:∀p,p∈W↔p∈V):L.po W=L.po V:=funext λk=>by
 grind [gE.po]
theorem akQ{ck:Nat}{L:gE}(M:f.dU){D:ac aE}{p:aE×Rat}(hp:p∈f)(aw:p.1∉D):xl (fz ck L<|f.filter λq=>decide (q.1∈D)) (eE p.1) (.agg<|vf ck (L p.1) p.2) (fz ck L<|f.filter λq=>decide (q.1∈D++[p.1])):=by
 have T:∀K:ac aE,Poly.dU (f.filter λq=>decide (q.1∈K)):=λK=>M.sublist DG;have S:∀(K:ac aE) q,q∈(f.filter λq=>decide (q.1∈K))↔q∈f/\q.1∈K:=λK q=>by rw[rO,decide_eq_true_eq]
 have t:∀q∈f,q.1=p.1->q=p:=λq E e=>by
  have Y:=k8 M E;rw[e,(k8 M hp)]at Y;cases q;cases p;simp only at e Y;rw[e,Y]
 refine⟨pn<|T _,da.2 ⟨p,(S _ _).2 ⟨hp,au⟩,j⟩,λr I _=>?_,λr I=>?_,?_⟩
 .obtain⟨q,E,rfl⟩:=da.1 I;obtain⟨Y,G⟩:=(S _ _).1 E;exact da.2 ⟨q,(S _ _).2 ⟨Y,n5 _ G⟩,j⟩
 .obtain⟨q,E,rfl⟩:=da.1 I;obtain⟨Y,G⟩:=(S _ _).1 E;rcases gA.1 G with G|G
  .exact .inr ⟨da.2 ⟨q,(S _ _).2 ⟨Y,G⟩,j⟩,λe=>aw<|by rwa [<-key_inj e]⟩
  .rw[gC]at G;simpa[t q Y G]using .inl j
 .rw[Xi λq E e=>aw apt];have:=CM (m:=(eE p.1,.nl)::fz ck L (f.filter λq=>decide (q.1∈D))) (pn<|T _) (uc.2 ⟨λh=>by
   obtain⟨r,I,l⟩:=da.1 h;obtain⟨q,E,rfl⟩:=da.1 I;exact aw<|by rw[<-key_inj l];exact((S _ _).1 E).2,pn<|T _⟩) λa=>by
   rw[jZ,fh];constructor
   .intro h;obtain⟨r,I,rfl⟩:=da.1 h;obtain⟨q,E,rfl⟩:=da.1 I;obtain⟨Y,G⟩:=(S _ _).1 E;rcases gA.1 G with G|G
    .exact .inr<|da.2 ⟨_,da.2 ⟨q,(S _ _).2 ⟨Y,G⟩,j⟩,j⟩
    .rw[gC]at G;exact .inl<|congrArg eE G
   .rintro(rfl|h)
    .exact da.2 ⟨_,da.2 ⟨p,(S _ _).2 ⟨hp,au⟩,j⟩,j⟩
    .obtain⟨r,I,rfl⟩:=da.1 h;obtain⟨q,E,rfl⟩:=da.1 I;obtain⟨Y,G⟩:=(S _ _).1 E;exact da.2 ⟨_,da.2 ⟨q,(S _ _).2 ⟨Y,n5 _ G⟩,j⟩,j⟩
  exact apE
def ru(L:gE)(p:aE×Rat):fC:=match L p.1 with
 |none=>.num (eE p.1) (decide (p.2.num<0)) (aU 4294967296 p.2.num.natAbs) (if p.2.den=1 then[]else aU 4294967296 p.2.den)
 |some (u,v,w)=>.lit (eE p.1)<|.agg ⟨[u,v,w]⟩
theorem Mw{ck:Nat}{L:gE}:∀P:Poly,qb (fz ck L P) ((P.map<|ru L).map λe=>(e.key,e.kn ck))
 |[]=>trivial
 |p::P=>by
  refine⟨?_,?_,Mw P⟩
  .show eE p.1=(ru L p).key;rw[ru];cases L p.1<;>rfl
  .show bz (.agg<|vf ck (L p.1) p.2) ((ru L p).kn ck);rw[ru];cases L p.1 with
   |none=>exact GU
   |some t=>
    intro H l v ⟨ab,e,v1,R,S,O,v2,o,jt,N,z,Z,j,Q,A⟩;have O:=O.1;have N:=N.1;have Q:=Q.1;subst A j jt S O N Q;exact e
theorem Mx{H:bb}{L:gE}:∀{P:Poly},P.iS->(∀p∈P,∀u v w,L p.1=some (u,v,w)->den H (cU p.2) [] (.agg ⟨[u,v,w]⟩))->nc H (P.map<|ru L) (e9 P)
 |[],_,_=>trivial
 |p::P,aj,h=>by
  refine⟨?_,⟨decide (p.2.num<0),aU 4294967296 p.2.num.natAbs,if p.2.den=1 then[]else aU 4294967296 p.2.den,j,λe=>?_,?_⟩,Mx (λq cD=>aj q<|fq _ cD) λq cD=>h q<|fq _ cD⟩
  .show(ru L p).key=eE p.1;rw[ru];cases L p.1<;>rfl
  .have:=(oC ai).1 e;exact aj p hT<|IJ.1<|Int.natAbs_eq_zero.1 this
  .rw[ru];cases l:L p.1 with
   |none=>exact sa
   |some t=>exact h p hT t.1 t.2.1 t.2.2 l
def eQ(x:Rat)(k:Int):Rat:=if k<0 then mkRat x.num (x.den*2^(-k).toNat)else mkRat (x.num*2^k.toNat) x.den
def CP(k:Nat):ei (k/32+1) (2^k):=rl (by
 rw[Mn k,gP];exact Nat.mul_lt_mul_of_pos_left (by have:=GM<|eY k ai;omega)<|sV ai)
theorem Xk:bl 362 (bV λ((x,k):Rat×Int)=>([cU x,.aa k],cq 268435456 x/\-17179869184<k/\k<17179869184,cU<|eQ x k)):=by
 refine bL [nf,tw,oE] Ur.1 ?_;intro⟨x,k⟩ ⟨O,Y,G⟩ H aq;refine I 13<|cT (λh=>?_) λh=>?_
 .obtain⟨n,rfl⟩:∃n:Nat,k= -(n:Int):=⟨(-k).toNat,R⟩;refine I 3<|ca nf x az<|I 2 (ww 14 (n:Nat)<|ca tw (x.den,n) ⟨dq O.2,R⟩<|I 4<|ca oE (decide (x.num<0),x.num.natAbs,x.den*2^n) ⟨dq O.1,dq<|lI O.2<|dq (CP n) (show _<=536870913 by omega),n6 x.den_nz au⟩<|I 5<|cC (congrArg cU ?_))
  grind [eQ]
 .obtain⟨n,rfl⟩:∃n:Nat,k=(n:Int):=⟨k.toNat,R⟩;refine I 7<|ca tw (x.num.natAbs,n) ⟨dq O.1,R⟩<|I 1<|ca nf x az<|I 2<|ca oE (decide (x.num<0),x.num.natAbs*2^n,x.den) ⟨dq<|lI O.1<|dq (CP n) (show _<=536870913 by omega),dq O.2,x.den_nz⟩<|I 4<|cC (congrArg cU ?_)
  grind [eQ]
def Xl:df:=bV λ((x,k):Rat×Int)=>([cU x,.aa k],cq 268435456 x,if -20000<=k/\k<=20000 then .bc [cU<|eQ x k,.aa 0]else .bc [cU 0,.aa 7])
theorem GY:bl 277 Xl:=by
 refine bL [Xk] U4.1 ?_;intro⟨x,k⟩ O H aq;have N:∀{r:ag},(-20000<=k/\k<=20000->bz r (.bc [cU<|eQ x k,.aa 0]))->(¬(-20000<=k/\k<=20000)->bz r (.bc [cU 0,.aa 7]))->bz r (Xl.res (x,k)):=λY G=>by
  show bz _ (if _ then _ else _)
  grind
 refine I 13 ?_;by_cases Y:k< -20000
 .exact v1 8 Y<|I 15<|bn asP
 .refine v0 8 Y<|I 7<|cT (λG=>?_) λG=>?_
  .exact I 9<|bn asP
  .exact I 6<|aS Xk (x,k) ⟨O,R,R⟩<|I 5<|bp (N (λ_=>.refl _) λh=>R)
def Xm:bl 398 (bV λ(k:Int)=>([.aa k],True,if -20000<=k/\k<=20000 then .bc [cU<|eQ (mkRat 1 1) k,.aa 0]else .bc [cU 0,.aa 7])):=by
 refine bL [tB,GY] Vg.1 ?_;intro(k:Int) _ H aq;refine I 8<|aS tB (1:Int) aqq<|I 1<|aS GY (mkRat 1 1,k) arF ?_;by_cases h: -20000<=k/\k<=20000
 .exact cl 6 (aD h)<|I 7<|bn (ep j j<|.of (aD h).symm)
 .exact cl 6 (av h)<|I 7<|bn (ep j j<|.of (av h).symm)
def akR{A t:Nat}(I:A=V+4294967296^n*t)(aB:V<4294967296^n)(N:t≠0):bG A=32*n+bG t:=by
 have⟨a,b⟩:=rj N;have hp:bG t≠0:=λe=>by rw[e]at b;omega
 rw[((qy 2 32 n).symm)]at I aB;have:= @ako A (32*n+(bG t-1)) (by
  rw[iA];have:=mh (2^(32*n)) a;omega) (by
  rw[show 32*n+(bG t-1)+1=32*n+bG t by omega,iA];have:=mh (2^(32*n)) (show t+1<=2^bG t from b);rw[iM]at this;omega)
 omega
theorem My:bl 423 (bV λ(n:Nat)=>([dt n],ei 1073741824 n,.aa (bG n:Nat))):=by
 refine bL [GO] V7.1 ?_;intro(n:Nat) aj H aq;have aj:(aU 4294967296 n).length<=1073741824:=aj;refine I 19<|cT (λh=>?_) λh=>?_
 .have F:n=0:=tA.1 R;exact I 7<|bn (ep j j (.of<|by rw[F];rfl))
 have F:(aU 4294967296 n).length≠0:=λe=>h R;have K:=hb (b:=4294967296) ai n;have S:=gx (b:=4294967296) ai n;have N:=va (b:=4294967296) ai n;rcases pE (aU 4294967296 n)with l|⟨dw,t,z⟩
 .exact absurd (by rw[l];rfl) F
 rw[rQ]at z;rw[z]at K S N aj;have Q:=K t au;have G:(aU 4294967296 n).length=dw.length+1:=by grind
 rw[l6]at S;have C:=akR (A:=n) (n:=dw.length) (by rw[<-S];simp[val]) (ku λd T=>K d<|by simp[T])<|(CE (b:=4294967296) N).2;have af:dw.length<=1073741823:=by grind
 have o:(aU 4294967296 n)[dw.length]? =some t:=by grind
 refine dW 9 ?_;refine cj 9 dw.length<|I 1<|cj 10 ↑(32*dw.length)<|I 3<|cj 13 dw.length<|eW t o j<|I 1<|aS GO t Q<|I 5 ?_;have:=Mo Q;exact bn<|ep j j<|.of eV
def kb(p q:Nat):Int:=if p*2^((bG q:Int)-bG p).toNat<q*2^((bG p:Int)-bG q).toNat then(bG p:Int)-bG q-1 else(bG p:Int)-bG q
def Xn:bl 404 (bV λ(x:Rat)=>([cU x],cq 268435456 x,.aa<|kb x.num.natAbs x.den)):=by
 refine bL [nf,My,tw,vb] Vi.1 ?_;intro x O H aq;have S:=CK O.1;have t:=CK O.2;refine I 9<|aS nf x az<|I 7<|aS My x.num.natAbs (dq O.1)<|I 1<|aS My x.den (dq O.2)<|I 1<|cj 12 ((bG x.num.natAbs:Int)-bG x.den)<|I 11<|aJ 17 (.aa ((((bG x.den:Int)-bG x.num.natAbs).toNat:Nat):Int)) j (congrArg (ag.aa)<|by rw[gn R R];omega) ?_;refine aS tw (x.num.natAbs,((bG x.den:Int)-bG x.num.natAbs).toNat) ⟨dq O.1,R⟩<|I 3<|aJ 21 (.aa ((((bG x.num.natAbs:Int)-bG x.den).toNat:Nat):Int)) j (congrArg (ag.aa) R)<|aS tw (x.den,((bG x.num.natAbs:Int)-bG x.den).toNat) ⟨dq O.2,R⟩<|aS vb (x.num.natAbs*2^((bG x.den:Int)-bG x.num.natAbs).toNat,x.den*2^((bG x.num.natAbs:Int)-bG x.den).toNat) ⟨dq<|lI O.1<|dq (CP _) (show _<=268435457 by omega),dq<|lI O.2<|dq (CP _) (show _<=268435457 by omega)⟩<|I 3<|cT (λh=>?_) λh=>?_
 .refine I 13 ?_;exact bn (ep j j (.of (by
   show ag.i _ _=ag.aa (kb _ _);rw[kb,aD<|zN h];exact eV)))
 .refine I 9 ?_;exact bn (ep j j (.of (by
   show ag.i _ _=ag.aa (kb _ _);rw[kb,av<|DF.2<|zO h])))
def Xo:bl 375 (bV λ(x:Rat)=>([cU x],cq 268435456 x,if x.num=0 then .bc [.aa 0,.aa 8]else .bc [.aa<|kb x.num.natAbs x.den,.aa 0])):=by
 apply bL [rn,Xn] Uu.1;intro x O H aq;refine I 11<|aS rn x az<|I 3<|cT (λh=>?_) λh=>?_
 .have h:=vZ.1 h;exact I 8<|cC (aD h).symm
 .have h:x.num≠0:=λe=>h asT;exact I 5<|aS Xn x O<|I 5<|cC (av h).symm
def hD(e p:Int):Prop:=2<=e/\e<=11/\2<=p/\p<=113/\5<=e+p
variable{e:Int}
instance(e p:Int):Decidable (hD e p):=by unfold hD;infer_instance
def qf(e p:Int):ag:=.agg [.aa e,.aa p]
def Mz:df:=bV λ((e,p):Int×Int)=>([qf e p],True,.aa (if hD e p then 0 else 2))
def Xp{f:d7}(h:aL.get f=some L3.1):bl f Mz:=by
 refine bL [] L3.1 ?_ h;intro⟨e,p⟩ _ H aq;have bad:¬hD e p->bz (.aa 2) (Mz.res (e,p)):=λh=>.of (by show _=ag.aa (if _ then _ else _);rw[av h]);refine I 12 ?_;by_cases Y:e<2
 .exact v1 5 Y<|I 33<|bp (bad aqM)
 refine v0 5 Y<|I 7 ?_;by_cases G:11<e
 .exact v1 9 G<|I 29<|bp (bad aqM)
 refine v0 9 G<|I 8 ?_;by_cases A:p<2
 .exact v1 14 A<|I 24<|bp (bad aqM)
 refine v0 14 A<|I 8 ?_;by_cases T:113<p
 .exact v1 19 T<|I 19<|bp (bad aqM)
 refine v0 19 T<|I 12<|cj 26 (e+p)<|I 2 ?_;by_cases C:e+p<5
 .exact v1 27 C<|I 11<|bp (bad aqM)
 exact v0 27 C<|I 12<|cC (by show _=ag.aa (if _ then _ else _);rw[aD aqM])
def GZ:bl 178 Mz:=Xp bu
def vj(e p m b:Int):ag:=.agg [.aa e,.aa p,.aa m,.aa b]
def g2(e:Int):Int:=2^(e-1).toNat-1
def MA:df:=bV λ((e,p):Int×Int)=>([qf e p,.aa 0,.nl],True,if hD e p then .bc [vj e p 0<|g2 e,.aa 0]else .bc [vj 0 0 0 0,.aa 2])
def Xq:bl 289 MA:=by
 refine bL [GZ] Uh.1 ?_;intro⟨e,p⟩ _ H aq;refine I 22<|aS GZ (e,p) az ?_;by_cases h:hD e p
 .refine aJ 20 (.aa 0) j (by show ag.aa (if _ then _ else _)=_;rw[aD h]) ?_;have D:MA.res (e,p)= .bc [vj e p 0<|g2 e,.aa 0]:=aD h;obtain⟨r,l⟩:∃r,r=MA.res (e,p):=dN;obtain⟨Y,G,_⟩:=h;refine I 15 ?_;rcases(show e=2\/e=3\/e=4\/e=5\/e=6\/e=7\/e=8\/e=9\/e=10\/e=11 by omega)with h|h|h|h|h|h|h|h|h|h<;>subst h
  all_goals first|refine dF 28 (.aa 1) j j j ?_|refine dF 28 (.aa 2) j j j ?_|refine dF 28 (.aa 3) j j j ?_|refine dF 28 (.aa 4) j j j ?_|refine dF 28 (.aa 5) j j j ?_|refine dF 28 (.aa 6) j j j ?_|refine dF 28 (.aa 7) j j j ?_|refine dF 28 (.aa 8) j j j ?_|refine dF 28 (.aa 9) j j j ?_|refine dF 28 (.aa 10) j j j ?_
  all_goals (repeat refine fE j ?_)
  all_goals (
   refine ea (L:=Int×Int) (λ(E,b)=>r= .bc [vj E p 0 b,.aa 0]) (λ(E,b)=>⟨[.c 364 [.aa 0,.aa 0,.aa 0,.aa 0],.c 364 [.aa E,.aa p,.aa 0,.aa b]],2,[(34,.aa 0),(33,.aa 0),(8,.p 1 0),(6,.p 0 0),(7,.aa 0)]⟩) (λ_=>0) [1,2] (_,_) ?_ (by show 0<bs+1;omega) bk ?_
   .rw[l];exact D
   rintro⟨E,b⟩ Z;refine I 20 ?_;exact cC<|Z.symm.trans l)
 .exact aJ 20 (.aa 2) j (by show ag.aa (if _ then _ else _)=_;rw[av h])<|I 15<|cC (av h).symm
def Xr:bl 363 (bV λ(k:Int)=>([.aa k],-20000<=k/\k<=20000,cU<|eQ (mkRat 1 1) k)):=by
 apply bL [Xm] TB.1;intro k h H aq;exact I 8<|aS Xm k az<|cl 7 (aD h)<|I 15<|bn (ep j j<|.refl _)
def G0:bl 290 (bV λ((x,k):Rat×Int)=>([cU x,.aa k],cq 268435456 x/\-20000<=k/\k<=20000,cU<|eQ x k)):=by
 apply bL [GY] VW.1;intro⟨x,k⟩ ⟨O,h⟩ H aq;exact I 10<|aS GY (x,k) O<|cl 10 (aD h)<|I 15<|bn (ep j j<|.refl _)
def Xs:bl 292 (bV λ(x:Rat)=>([cU x],cq 268435456 x/\x.num≠0,.aa<|kb x.num.natAbs x.den)):=by
 apply bL [Xo] VY.1;intro x ⟨O,h⟩ H aq;exact I 9<|aS Xo x O<|cl 7 (av h)<|I 14<|bn (ep j j<|.refl _)
def rv(aC:2<=e)(aI:e<=11):1<=g2 e/\g2 e<=1023:=by
 rcases(show e=2\/e=3\/e=4\/e=5\/e=6\/e=7\/e=8\/e=9\/e=10\/e=11 by omega)with h|h|h|h|h|h|h|h|h|h<;>subst h<;>decide
def Xt:bl 374 (bV λ((e,p,m):Int×Int×Int)=>([vj e p m<|g2 e],hD e p,.aa<|1-g2 e)):=by
 apply bL [] Ut.1;intro⟨e,p,m⟩ ⟨Y,G,A,T,C⟩ H aq;have⟨S,t⟩:=rv Y G;exact I 15<|cC (eV j R R)
def pq{n:Int}(aC:ei k n.natAbs)(aI:ei k d)(T:d≠0):cq k (mkRat n d):=by
 obtain⟨S,z⟩:=xv n d T;refine⟨tx aC ?_,tx aI ?_⟩
 .exact aq9
 .rw[z];exact ki _ _
def eL{l:Nat}{x:Rat}(h:cq k x)(aB:k<=l:=by decide):cq l x:=⟨dq h.1 aB,dq h.2 aB⟩
def akS{c:Int}:bz (.bc [.agg [.b false,.nl,.nl],.aa c]) (.bc [cU 0,.aa c]):=.bc ⟨le_zero,.refl _,az⟩
def G1(c:Nat){x:Rat}{k:Int}(h:cq a x)(aC: -(32*(c:Int))<k)(aI:k<32*(c:Int)):cq (a+c) (eQ x k):=by
 have hp:∀n:Nat,n<32*c->ei c (2^n):=λn aj=>dq (CP n) R;rw[eQ];split
 .exact pq (dq h.1 R) (lI h.2<|hp _ R)<|n6 x.den_nz au
 .refine pq ?_ (dq h.2 R) x.den_nz;rw[sX];exact lI h.1<|hp _ R
def MB(n:Int)(aC: -9223372036854775808<=n)(aI:n<9223372036854775808):cq 2 (mkRat n 1):=pq (iW R) (iW ai) ai
def xx{x:Rat}(aC:cq a x)(aI:cq b y):cq (a+b+1) (x+y):=by
 rw[AK];have F:=lI aI.1 aC.2;refine pq (tx (Xb (lI aC.1 aI.2)<|dq F R) ?_) (dq (lI aC.2 aI.2) R)<|n6 x.den_nz y.den_nz;exact atU
def Xu{x:Rat}(aC:cq a x)(aI:cq b y):cq (a+b+1) (x-y):=by
 rw[DQ];exact xx aC<|GW aI
def nO(e p:Int):Rat:=eQ (eQ (mkRat 1 1) p-mkRat 1 1)<|g2 e-p+1
def akT{p:Int}(h:hD e p):cq 41 (nO e p):=by
 have⟨Y,G,A,T,C⟩:=h;have⟨S,t⟩:=rv Y G;have af:=MB 1 ai ai;exact eL<|G1 32 (Xu (G1 4 af R R) af) R R
def Xv:bl 294 (bV λ((e,p,m):Int×Int×Int)=>([vj e p m<|g2 e],hD e p,cU<|nO e p)):=by
 refine bL [Xr,tB,Xf,G0] VZ.1 ?_;intro⟨e,p,m⟩ ⟨Y,G,A,T,C⟩ H aq;obtain⟨S,t⟩:=rv Y G;have af:=MB 1 ai ai;exact I 11<|ca Xr p ary<|ca tB (1:Int) aqq<|ca Xf (eQ (mkRat 1 1) p,mkRat 1 1) ⟨eL<|G1 4 af R R,eL af⟩<|I 6<|dF 14 (.aa<|g2 e-p) j j (eV j R R)<|I 1<|dF 15 (.aa<|g2 e-p+1) j j (eV j R R)<|ca G0 (eQ (mkRat 1 1) p-mkRat 1 1,g2 e-p+1) ⟨eL<|Xu (G1 4 af R R) af,R,R⟩<|I 4<|eD
def Xw:bl 291 (bV λ((e,p,k,m):Int×Int×Int×Int)=>([vj e p m<|g2 e,.aa k],hD e p/\-1000000000000<=k/\k<=1000000000000,.aa<|max k (1-g2 e)-p+1)):=by
 refine bL [Xt] VX.1 ?_;intro⟨e,p,k,m⟩ ⟨⟨Y,G,A,T,C⟩,l,M⟩ H aq;obtain⟨S,t⟩:=rv Y G;refine I 9<|ca Xt (e,p,m) ⟨Y,G,A,T,C⟩<|I 11 ?_;exact bn (ep j j (.of (by
  rw[gn (n:=max k (1-g2 e)-p) R R];exact eV j R R)))
def G2(e p:Int)(x:Rat):Int:=if x.num=0 then 2-g2 e-p else max (kb x.num.natAbs x.den) (1-g2 e)-p+1
theorem xy{x:Rat}:0<ji x y↔y<x:=by
 grind [ji]
def G3(p q:Nat): -(bG q:Int)-1<=kb p q/\kb p q<=bG p:=by rw[kb];split<;>omega
def ga(d:Nat):ac ag:=[.aa d]
def dy(aM:ac Nat):ag:=.b6 1 Nat ga aM
def dj(n:Nat):ag:=dy<|aU 1000000000 n
def ej(k n:Nat):Prop:=(aU 1000000000 n).length<=k
def MC:df:=bV λ(z:ac Nat)=>([dy z],z.length<=1099511627776,dy<|fg z)
theorem pr:bl 204 MC:=by
 refine bL [] Ud.1 ?_;intro z (hp:z.length<=1099511627776) H aq;refine I 7<|eS (λes:ac Nat=>fg es=fg z/\es.length<=z.length) (λes=>⟨[],0,[(0,dy es)]⟩) List.length [] z ⟨j,cf _⟩ ?_;rintro es ⟨Y,G⟩;rcases pE es with rfl|⟨dw,d,rfl⟩
 .exact I 30<|bn (ep j j (.of<|by rw[show MC.res z=dy (fg z)from rfl,<-Y];rfl))
 .rw[rQ]at *;have l:(dw++[d]).length=dw.length+1:=by simp
  refine I 7<|cM 6<|I 9<|aJ 10 (.aa dw.length) j aq8<|e0 (K3 j j (show(dw++[d])[dw.length]? =some d by simp)) ?_;refine I 7<|w6 j (λT=>?_) λT=>?_
  .have T:d=0:=by grind
   refine I 8<|aJ 18 (.aa dw.length) j aq8<|e0 (K8 j j dN (c8 _) au) ?_;refine I 3<|bB [] dw ⟨au,by rw[<-Y,ri,aD T],R⟩ (k3 ⟨?_,az⟩);simp[dn,j7,dy]
  .have T:d≠0:=by grind
   exact I 12<|cC (by rw[show MC.res z=dy (fg z)from rfl,<-Y,ri,av T])
def Xx:df:=bV λ((a,b):Nat×Nat)=>([dj a,dj b],ej 1073741824 a/\ej 1073741824 b,.aa<|jf a b)
def lJ:bl 197 Xx:=by
 refine bL [] T9.1 ?_;intro⟨a,b⟩ ⟨(A:(aU _ a).length<=_),(C:(aU _ b).length<=_)⟩ H aq;have Y:=hb (b:=1000000000) ai a;have G:=hb (b:=1000000000) ai b;have Q:=va (b:=1000000000) ai a;have K:=va (b:=1000000000) ai b;have M:=gx (b:=1000000000) ai a;have nH:=gx (b:=1000000000) ai b;show bM.ok _ ⟨_,_,⟨_,_,[(0,dy<|aU 1000000000 a),(1,dy<|aU 1000000000 b)]⟩⟩;generalize aU 1000000000 a=xs at *;generalize aU 1000000000 b=Z at *;have fin:∀{r:Int},jf a b=r->bz (.aa r) (Xx.res (a,b)):=λh=>by rw[<-h];exact .refl _
 refine I 15<|cT (λh=>?_) λh=>?_
 .have h:xs.length≠Z.length:=by omega
  refine I 10<|cT (λh=>?_) λh=>?_
  .have h:xs.length<Z.length:=by omega
   refine I 8 ?_;have:=GF (b:=1000000000) ai Y K h;exact bp<|fin<|zK R
  .have h:Z.length<xs.length:=by have:Z.length<=xs.length:=by omega
                                 omega
   refine I 9 ?_;have:=GF (b:=1000000000) ai G Q h;exact bp<|fin<|GI R
 have h:xs.length=Z.length:=R
 refine I 12<|ea (L:=Nat) (λk=>k<=xs.length/\xs.drop k=Z.drop k) (λ(k:Nat)=>⟨[],0,[(0,dy xs),(1,dy Z),(5,.aa<|(k:Int)-1)]⟩) id [] xs.length ⟨cf _,by rw[sU,h,sU]⟩ apM bk ?_;rintro(k:Nat) ⟨N,T⟩;cases k with
 |zero=>
  exact arS
 |succ m=>
  have O:m<xs.length:=R
  have l:m<Z.length:=R
  have e:((m+1:Nat):Int)-1=(m:Nat):=R
  refine aJ 5 (.aa (m:Nat)) j (fG e)<|I 17<|aJ 20 (.b true) j au<|fy xs[m] (aO O) j<|I 3<|fy Z[m] (aO l) j<|I 4 ?_;have z:=GJ O;have S:=GJ l;refine cT (λh=>?_) λh=>?_
  .have aW:xs[m]<Z[m]:=by omega
   refine I 12<|bp (fin<|zK ?_);exact ar5
  refine I 6<|fy xs[m] (aO O) j<|I 3<|fy Z[m] (aO l) j<|I 4<|cT (λD=>?_) λD=>?_
  .have aW:Z[m]<xs[m]:=by omega
   refine I 11<|bp (fin<|GI ?_);exact ar6
  .have o:xs[m]=Z[m]:=by omega
   refine I 8<|bB [] m ⟨au,R,?_⟩ bk;rw[fj O,fj l,o,T]
end Go.bC.dg
namespace Go.bC.dg
variable{i b x y:Nat}
def xz{b n i:Nat}(ay:2<=b):i<(aU b n).length↔n/b^i≠0:=by
 have hp:0<b^i:=sV R;constructor
 .intro h e;have:=je ay (n:=n) (by rcases Nat.div_eq_zero_iff.1 e with h|h<;>omega);omega
 .intro h;exact CF ay (by
   obtain D|D:=gf n<|b^i
   .exact absurd (rR D) h
   .exact D)
theorem tC{b:Nat}(ay:2<=b):∀{n i:Nat},i<(aU b n).length->(aU b n)[i]? =some (n/b^i%b)
 |n,i,h=>by
  by_cases bX:n=0
  .subst bX;rw[g1]at h;simp at h
  .rw[nL ay bX]at h⊢;cases i with
   |zero=>simp
   |succ i=>
    rw[Du,tC ay apH,qz,g6,gP b]
theorem akU{n:Nat}(ay:2<=b)(h:i<(aU b n).length):(aU b n)[i]=n/b^i%b:=by
 have:=tC ay h
 grind
def mG(b x y i:Nat):Nat:=(x%b^i+y%b^i)/b^i
def akV(b x y:Nat):mG b x y 0=0:=by simp[mG,DJ]
def Xy(ay:0<b):(x+y)/b^i=x/b^i+y/b^i+mG b x y i:=by
 unfold mG;have S:=qx x<|b^i;have z:=qx y<|b^i;have:x+y=(x%b^i+y%b^i)+b^i*(x/b^i+y/b^i):=by rw[iM];omega
 rw[this,yd _ _<|sV ay];omega
def akW(ay:0<b):mG b x y i<=1:=by
 have hp:0<b^i:=sV ay;have Y:=eY x hp;have G:=eY y hp;rw[mG];have:(x%b^i+y%b^i)/b^i<2:=v3 R;omega
def akX(ay:0<b):mG b x y (i+1)=(mG b x y i+x/b^i%b+y/b^i%b)/b:=by
 have e:∀z,z%b^(i+1)=z%b^i+b^i*(z/b^i%b):=λz=>by
  rw[g6,Nat.mod_mul]
 unfold mG;rw[e x,e y,g6,<-qz];congr 1;rw[show x%b^i+b^i*(x/b^i%b)+(y%b^i+b^i*(y/b^i%b))=(x%b^i+y%b^i)+b^i*(x/b^i%b+y/b^i%b) by rw[iM];omega,yd _ _<|sV ay];omega
def akY(ay:0<b):(mG b x y i+x/b^i%b+y/b^i%b)%b=(x+y)/b^i%b:=by
 rw[Xy ay,show mG b x y i+x/b^i%b+y/b^i%b=mG b x y i+(x/b^i%b+y/b^i%b) by omega,Nat.add_mod,<-Nat.add_mod (x/b^i),<-Nat.add_mod,ua]
theorem akZ{l:ac Nat}(h:i<l.length):l.take (i+1)=l.take i++[l[i]]:=by
 simp_all
open Go.bC
set_option maxRecDepth 100000
set_option maxHeartbeats 4000000
variable{v w k c m d V P nM qd:Nat}
def sE{n:Nat}(h:(aU 1000000000 n).length<=k):n<1000000000^k:=by
 have Y:=ku<|hb (b:=1000000000) ai n;rw[gx ai]at Y;exact e2 Y<|j0 ai h
def MD{a:Nat}(bR:(aU 1000000000 a).length<=k)(ay:(aU 1000000000 b).length<=k):(aU 1000000000<|a+b).length<=k+1:=je ai (by
 have:=sE bR;have:=sE ay;omega)
def ak0{u:Nat}(h:w=u+v+c):w≠0↔(u≠0\/v≠0\/0<c):=R
theorem ak1{D:ac Nat}(h:i<D.length)(hm:i<m)(T:D[i]=d):(D.take i++List.replicate (m-i) 0).take i++([d]++(D.take i++List.replicate (m-i) 0).drop (i+[d].length))=D.take (i+1)++List.replicate (m-(i+1)) 0:=by
 have j:(D.take i).length=i:=by grind
 rw[akZ h,T,show m-i=(m-(i+1))+1 by omega,sY];congr 1
 .rw[DR R,gB R]
 .congr 1;rw[List.drop_append,x7 R,j];simp
def zQ:bl 312 (bV λ((a,b):Nat×Nat)=>([dj a,dj b],ej 1073741824 a/\ej 1073741824 b,dj<|a+b)):=by
 refine bL [] Vb.1 ?_;intro⟨a,b⟩ ⟨(A:(aU _ a).length<=_),(C:(aU _ b).length<=_)⟩ H aq;show bM.ok _ ⟨_,_,⟨_,_,[(0,dy<|aU 1000000000 a),(1,dy<|aU 1000000000 b)]⟩⟩;obtain⟨m,hm⟩:∃m,m=max (aU 1000000000 a).length (aU 1000000000 b).length:=dN;have o:=MD (k:=m) (a:=a) (b:=b) R R;refine I 13<|cj 13 ((m+1:Nat):Int)<|nF (n:=0) (c:=m+1) ga 0 ?_ (aj:=c8 _);refine I 15 ?_;refine ea (L:=Nat) (λi=>i<=(aU 1000000000<|a+b).length)
  (λ(i:Nat)=>⟨[.a 2 false 1 Nat ga<|(aU 1000000000<|a+b).take i++List.replicate (m+1-i) 0],1,[(0,dy<|aU 1000000000 a),(1,dy<|aU 1000000000 b),(5,.aH 0 1 0 i<|m+1),(6,.aa (mG 1000000000 a b i:Nat)),(7,.aa i)]⟩)
  (λi=>m+1-i) [0] 0 (c8 _) (by show m+1-0<bs+1;unfold bs;omega) (bk (aI:=⟨j,j,j,by rw[akV];rfl,j,az⟩)) ?_
 rintro(i:Nat) af;have QV:=Xy (b:=1000000000) (x:=a) (y:=b) (i:=i) ai;have fM:=akW (b:=1000000000) (x:=a) (y:=b) (i:=i) ai;have Ki:= @xz 1000000000 a i ai;have S:= @xz 1000000000 b i ai;have T:= @xz 1000000000 (a+b) i ai;have z:(i<(aU 1000000000<|a+b).length)↔(i<(aU 1000000000 a).length\/i<(aU 1000000000 b).length\/0<mG 1000000000 a b i):=by rw[Ki,S,T];exact ak0 QV
 refine I 8<|gZ (L:=Bool) (λt=>t=decide (i<(aU 1000000000<|a+b).length)) (λt=>⟨[.a 2 false 1 Nat ga<|(aU 1000000000<|a+b).take i++List.replicate (m+1-i) 0],1,[(0,dy<|aU 1000000000 a),(1,dy<|aU 1000000000 b),(5,.aH 0 1 0 i<|m+1),(6,.aa (mG 1000000000 a b i:Nat)),(7,.aa i),(28,.b t)]⟩) ?_ ?_
 .by_cases Y:i<(aU 1000000000 a).length
  .exact aJ 19 (.b true) j (by simp[Y])<|I 10<|dD [0] true (by simp[z,Y])
  refine aJ 19 (.b false) j (by simp[Y])<|I 10 ?_;by_cases G:i<(aU 1000000000 b).length
  .exact aJ 25 (.b true) j (by simp[G])<|I 4<|dD [0] true (by simp[z,G])
  exact aJ 25 (.b false) j (by simp[G])<|I 6<|dD [0] (decide ((0:Int)<(mG 1000000000 a b i:Nat))) (by simp only[z];congr 1;simp;omega)
 intro t N;by_cases aW:i<(aU 1000000000<|a+b).length
 .refine aJ 28 (.b true) j (by rw[N,cm aW]) ?_;obtain⟨Q,F⟩:∃d,d=a/1000000000^i%1000000000:=dN;obtain⟨l,K⟩:∃d,d=b/1000000000^i%1000000000:=dN;have ab:Q<1000000000:=by rw[F];exact eY _ ai
  have ad:l<1000000000:=by rw[K];exact eY _ ai
  have cs:=akX (b:=1000000000) (x:=a) (y:=b) (i:=i) ai;have E:=akY (b:=1000000000) (x:=a) (y:=b) (i:=i) ai;rw[<-F,<-K]at cs E;obtain⟨c,O⟩:∃c,c=mG 1000000000 a b i:=dN;rw[<-O]at cs E fM;have M:=akU (b:=1000000000) (n:=a+b) (i:=i) ai aW;refine aJ 6 (.aa (c:Nat)) j (by rw[O])<|I 14<|gZ (L:=Unit) (λ_=>True) (λ_=>⟨[.a 2 false 1 Nat ga<|(aU 1000000000<|a+b).take i++List.replicate (m+1-i) 0],1,[(0,dy<|aU 1000000000 a),(1,dy<|aU 1000000000 b),(5,.aH 0 1 0 i<|m+1),(6,.aa ((c+Q:Nat):Int)),(7,.aa i)]⟩) ?_ ?_
  .refine cT (λh=>?_) λh=>?_
   .have h:i<(aU 1000000000 a).length:=by omega
    exact I 4<|eW Q (by rw[F];exact tC ai h) j<|I 4<|bB [0] () az bk
   .have h:¬i<(aU 1000000000 a).length:=by omega
    have Z:Q=0:=by
     have:a/1000000000^i=0:=Decidable.not_not.1 λD=>h<|Ki.2 D;rw[F,this]
    exact I 1<|bB [0] () az bk
  intro _ _;refine I 9<|gZ (L:=Unit) (λ_=>True) (λ_=>⟨[.a 2 false 1 Nat ga<|(aU 1000000000<|a+b).take i++List.replicate (m+1-i) 0],1,[(0,dy<|aU 1000000000 a),(1,dy<|aU 1000000000 b),(5,.aH 0 1 0 i<|m+1),(6,.aa ((c+Q+l:Nat):Int)),(7,.aa i)]⟩) ?_ ?_
  .refine cT (λh=>?_) λh=>?_
   .have h:i<(aU 1000000000 b).length:=by omega
    exact I 4<|eW l (by rw[K];exact tC ai h) j<|I 4<|bB [0] () az bk
   .have h:¬i<(aU 1000000000 b).length:=by omega
    have Z:l=0:=by
     have:b/1000000000^i=0:=Decidable.not_not.1 λD=>h<|S.2 D;rw[K,this]
    exact I 1<|bB [0] () az bk
  intro _ _;refine I 5<|aJ 53 (.aa (((c+Q+l)%1000000000:Nat):Int)) j j<|I 1<|RN (ah:=ga) [(c+Q+l)%1000000000] (iH (ah:=ga) [(c+Q+l)%1000000000] j) ((aU 1000000000<|a+b).take (i+1)++List.replicate (m+1-(i+1)) 0) ?_ (aB:=?_) (aQ:=?_)
  .exact I 6<|aJ 57 (.aa (((c+Q+l)/1000000000:Nat):Int)) j (by show ag.i _ (IntKind.i64.wrap (((c+Q+l)/1000000000:Nat):Int))=_;exact eV j R R)<|I 9<|bB [0] (i+1) ⟨by show m+1-(i+1)<m+1-i;omega,aW⟩ bk
  .simp;omega
  .exact ak1 aW R<|by rw[M,E]
 .refine aJ 28 (.b false) j (by rw[N,cp aW])<|I 9 ?_;have a':i=(aU 1000000000<|a+b).length:=by omega
  refine FY 58 (aU 1000000000<|a+b) ?_ (aB:=by rw[iB,DR dM,x9,Nat.min_self,gB R]) (aj:=a'.symm);exact I 4<|eD
def ak2{O:ac Nat}(h:O.length=i)(hm:i<m):(O++List.replicate (m-i) 0).take i++([d]++(O++List.replicate (m-i) 0).drop (i+[d].length))=(O++[d])++List.replicate (m-(i+1)) 0:=by
 subst h;rw[show m-O.length=(m-(O.length+1))+1 by omega,sY];congr 1
 .rw[DR R,gB R]
 .congr 1;simp
def vk:bl 313 (bV λ((a,b):Nat×Nat)=>([dj a,dj b],ej 1073741824 a/\b<=a,dj<|a-b)):=by
 refine bL [pr] Tz.1 ?_;intro⟨a,b⟩ ⟨(A:(aU _ a).length<=_),(Y:b<=a)⟩ H aq;have ae:=hb (b:=1000000000) ai a;have G:=hb (b:=1000000000) ai b;have M:=gx (b:=1000000000) ai a;have nH:=gx (b:=1000000000) ai b;have ao:(aU 1000000000 b).length<=(aU 1000000000 a).length:=je ai<|mT Y<|sE<|cf _;show bM.ok _ ⟨_,_,⟨_,_,[(0,dy<|aU 1000000000 a),(1,dy<|aU 1000000000 b)]⟩⟩;generalize aU 1000000000 a=xs at *;generalize aU 1000000000 b=Z at *;refine I 9<|nF (n:=0) (c:=xs.length) ga 0 ?_ (aj:=c8 _);refine I 15 ?_;refine ea (L:=Nat×ac Nat×Nat) (λ(i,o,c)=>i<=xs.length/\o.length=i/\Ok 1000000000 o/\c<=1/\val 1000000000 (xs.take i)+1000000000^i*c=val 1000000000 o+val 1000000000 (Z.take i))
  (λ((i:Nat),(o:ac Nat),(c:Nat))=>⟨[.a 2 false 1 Nat ga<|o++List.replicate (xs.length-i) 0],1,[(0,dy xs),(1,dy Z),(5,.aH 0 1 0 i xs.length),(6,.aa c),(7,.aa i)]⟩)
  (λl=>xs.length-l.1) [0] (0,[],0) ⟨c8 _,j,λx O=>by simp at O,ai,by simp[val]⟩ apI bk ?_
 rintro⟨i,o,c⟩ ⟨af,Q,K,an,S⟩;refine I 9<|cT (λh=>?_) λh=>?_
 .have h:i<xs.length:=by omega
  have z:xs[i]? =some xs[i]:=aO h;have aW:=ae _<|dH h;refine I 8<|eW xs[i] z j<|I 15<|gZ (L:=Nat) (λy=>y<1000000000/\val 1000000000 (Z.take<|i+1)=val 1000000000 (Z.take i)+1000000000^i*y) (λ(y:Nat)=>⟨[.a 2 false 1 Nat ga<|o++List.replicate (xs.length-i) 0],1,[(0,dy xs),(1,dy Z),(5,.aH 0 1 0 i xs.length),(7,.aa i),(8,.aa<|(xs[i]:Int)-c-y)]⟩) ?_ ?_
  .refine cT (λD=>?_) λD=>?_
   .have D:i<Z.length:=by simpa using D
    have a':Z[i]? =some Z[i]:=aO D;have t:=G _<|dH D;refine I 4<|eW Z[i] a' j<|I 4<|bB [0] Z[i] ⟨t,iu D⟩ (bk (aI:=⟨j,j,j,j,?_,az⟩));exact congrArg (λn=>some<|ag.aa n)<|by rw[gn (n:=(xs[i]:Int)-c) R R];exact tv j R R
   .have D:Z.length<=i:=by simpa using D
    refine I 1<|bB [0] 0 asG (bk (aI:=⟨j,j,j,j,?_,az⟩));exact congrArg (λn=>some<|ag.aa n)<|tv R R R
  rintro y ⟨T,N⟩;refine I 12<|gZ (L:=Nat×Nat) (λ(d,E)=>d<1000000000/\E<=1/\xs[i]+1000000000*E=d+y+c) (λ((d:Nat),(E:Nat))=>⟨[.a 2 false 1 Nat ga<|o++List.replicate (xs.length-i) 0],1,[(0,dy xs),(1,dy Z),(5,.aH 0 1 0 i xs.length),(6,.aa E),(7,.aa i),(8,.aa d)]⟩) ?_ ?_
  .refine cT (λD=>?_) λD=>?_
   .refine I 10<|bB [0] (xs[i]+1000000000-c-y,1) aro (bk (aI:=⟨j,j,j,j,j,?_,az⟩));exact congrArg (λn=>some<|ag.aa n)<|tv R R R
   .refine I 1<|bB [0] (xs[i]-c-y,0) aro (bk (aI:=⟨j,j,j,j,j,?_,az⟩));exact congrArg (λn=>some<|ag.aa n) R
  rintro⟨d,E⟩ ⟨al,ak,F⟩;refine I 4<|RN (ah:=ga) [d] (iH (ah:=ga) [d] j) ((o++[d])++List.replicate (xs.length-(i+1)) 0) ?_ (aB:=ak2 Q h) (aQ:=by simp;omega);refine I 9<|bB [0] (i+1,o++[d],E) ⟨by show xs.length-(i+1)<xs.length-i;omega,R,by simp[Q],?_,ak,?_⟩ bk
  .intro x O;rcases gA.1 O with h|h
   .exact K x h
   .simp at h;omega
  .rw[l6,Q,iu h,N,g6];have:=WI S F;simp[val];omega
 .have F:i=xs.length:=by omega
  refine I 8<|FY 42 o ?_ (aB:=by rw[iB,DR R,gB R]) (aj:=Q);refine aS pr o asB<|I 4<|cC ?_;show dy (fg o)=dj (a-b);rw[xu (b:=1000000000) ai K];have ab:xs.take i=xs:=gB R;have ad:Z.take i=Z:=gB R;rw[ab,ad,M,nH]at S;have C:=ku K;have:c=0:=by
   rcases AG c with h|h
   .exact h
   .exfalso;have:c=1:=by omega
    subst this;rw[Q]at C;omega
  subst this;show dy _=dy _;rw[show val 1000000000 o=a-b by omega]
def ak3{U:Nat}(aQ:c<1000000000)(O:x<1000000000)(T:y<1000000000)(E:U<1000000000):x*y+U+c<1000000000000000000:=by
 have Y:x*y<=999999999*999999999:=ye R R;omega
def kN:bl 198 (bV λ((a,b):Nat×Nat)=>([dj a,dj b],ej 1073741824 a/\ej 1073741824 b,dj<|a*b)):=by
 refine bL [pr] Tu.1 ?_;intro⟨a,b⟩ ⟨(an:(aU _ a).length<=_),(C:(aU _ b).length<=_)⟩ H aq;have Y:=hb (b:=1000000000) ai a;have G:=hb (b:=1000000000) ai b;have M:=gx (b:=1000000000) ai a;have nH:=gx (b:=1000000000) ai b;show bM.ok _ ⟨_,_,⟨_,_,[(0,dy<|aU 1000000000 a),(1,dy<|aU 1000000000 b)]⟩⟩;generalize aU 1000000000 a=xs at *;generalize aU 1000000000 b=Z at *;refine I 12<|cj 13 ((xs.length+Z.length:Nat):Int)<|nF ga 0 ?_;refine I 10 ?_;refine ea (L:=Nat×ac Nat) (λ(i,o)=>i<=xs.length/\o.length=xs.length+Z.length/\Ok 1000000000 o/\val 1000000000 (o.take<|i+Z.length)=val 1000000000 (xs.take i)*val 1000000000 Z)
  (λ((i:Nat),(o:ac Nat))=>⟨[.a 2 false 1 Nat ga o],1,[(0,dy xs),(1,dy Z),(5,.aH 0 1 0 (xs.length+Z.length)<|xs.length+Z.length),(6,.aa i)]⟩)
  (λl=>xs.length-l.1) [0] (0,List.replicate (xs.length+Z.length) 0) ⟨R,au,sB ai _,by simp[val,val_zero]⟩ apI bk ?_
 rintro⟨i,o⟩ ⟨af,Q,K,S⟩;refine I 9<|cT (λh=>?_) λh=>?_
 .have h:i<xs.length:=by omega
  have t:=Y _<|dH h;refine I 16 ?_;refine ea (L:=Nat×ac Nat×Nat) (λ(J,os,c)=>J<=Z.length/\os.length=xs.length+Z.length/\Ok 1000000000 os/\c<1000000000/\(∀k,i+J<=k->os[k]? =o[k]?)/\val 1000000000 (os.take<|i+J)+1000000000^(i+J)*c=val 1000000000 (o.take<|i+J)+1000000000^i*(xs[i]*val 1000000000 (Z.take J)))
   (λ((J:Nat),(os:ac Nat),(c:Nat))=>⟨[.a 2 false 1 Nat ga os],1,[(0,dy xs),(1,dy Z),(5,.aH 0 1 0 (xs.length+Z.length)<|xs.length+Z.length),(6,.aa i),(7,.aa c),(8,.aa J)]⟩)
   (λl=>Z.length-l.1) [0] (0,o,0) ⟨R,Q,K,R,λ_ _=>j,by simp[val]⟩ ath bk ?_
  rintro⟨J,os,c⟩ ⟨ab,z,E,a',D,ad⟩;refine I 9<|cT (λF=>?_) λF=>?_
  .have F:J<Z.length:=by omega
   have ae:=G _<|dH F;have O:i+J<os.length:=R
   have aj:os[i+J]=o[i+J]:=by
    exact aru
   have ah:=E _<|dH O;have g:=ak3 a' t ae ah;refine I 11<|ww 31 ((i+J:Nat):Int)<|cP j j<|F0 os[i+J] (aO O) ?_;refine I 3<|fy xs[i] (aO h) j<|I 3<|fy Z[J] (aO F) j<|I 3 ?_;have ak:IntKind.i64.wrap (IntKind.i64.wrap ((c:Int)+os[i+J])+IntKind.i64.wrap ((xs[i]:Int)*Z[J]))=((c+(xs[i]*Z[J]+os[i+J]):Nat):Int):=by
    rw[<-n1];rw[gn (n:=(c:Int)+os[i+J]) R R,gn (n:=((xs[i]*Z[J]:Nat):Int)) R R,gn R R];omega
   refine dF 44 (.aa ((c+(xs[i]*Z[J]+os[i+J]):Nat):Int)) j j (congrArg (ag.aa) ak)<|I 9<|cj 48 ((i+J:Nat):Int) ?_;obtain⟨T,A⟩:∃T,T=c+(xs[i]*Z[J]+os[i+J]):=dN;refine aJ 7 (.aa (T:Nat)) j (by rw[A]) ?_;have al:T<1000000000000000000:=R
   refine I 2<|aJ 50 (.aa ((T%1000000000:Nat):Int)) j j<|lF j j<|kI (T%1000000000) ?_;refine I 5<|aJ 53 (.aa ((T/1000000000:Nat):Int)) j (by show ag.i _ (IntKind.i64.wrap ((T/1000000000:Nat):Int))=_;exact eV j R R)<|I 9 ?_;refine bB [0] (J+1,os.set (i+J)<|T%1000000000,T/1000000000) ⟨by show Z.length-(J+1)<Z.length-J;omega,R,by simp[z],mD E _<|eY _ ai,R,λk N=>by rw[nq R];exact D k R,?_⟩
    bk
   rw[<-rM,iu (l:=os.set (i+J) _) dM,iu (l:=o) R,iu F,mQ<|cf _,mg,g6,<-aj,A];exact WO (by rw[iA]) ad
  .have ab:J=Z.length:=by omega
   subst ab;refine I 11<|cj 58 ((i+Z.length:Nat):Int)<|I 1<|lF j j<|kI c ?_;refine I 8<|bB [0] (i+1,os.set (i+Z.length) c) ⟨by show xs.length-(i+1)<xs.length-i;omega,R,by simp[z],mD E _ a',?_⟩ bk;rw[show i+1+Z.length=i+Z.length+1 by omega,iu (l:=os.set _ _) dM,mQ<|cf _,mg,ad,S,iu h,ka<|cf _,fb,iZ]
 .have af:i=xs.length:=by omega
  subst af;refine I 8<|h5 61 ?_;refine aS pr o asB<|I 4<|cC ?_;show dy (fg o)=dj (a*b);rw[ka (l:=xs)<|cf _,ka (l:=o) R]at S;rw[xu (b:=1000000000) ai K,S,M,nH];rfl
def vl:aU 1000000000 1=[1]:=by rw[nL ai ai,g1]
def ng:bl 119 (bV λ(_:Unit)=>([],True,dj 1)):=by
 apply bL [] T4.1;intro _ _ H aq;refine I 8<|ks 0 ga [1] ?_;exact h5 1<|I 4<|cC (by show dy [1]=dy _;rw[vl])
def c0(x:Rat):ag:=.agg [.aa x.num.sign,dj x.num.natAbs,dy (if x.num=0 then[]else aU 1000000000 x.den)]
def CQ:bl 113 (bV λ(x:Rat)=>([c0 x],True,.aa x.num.sign)):=by
 apply bL [] VC.1;intro(x:Rat) _ H aq;exact I 14<|eD
def la:bl 199 (bV λ(x:Rat)=>([c0 x],True,dj x.den)):=by
 apply bL [ng] Ua.1;intro x _ H aq;refine I 14<|cT (λh=>?_) λh=>?_
 .have h:=vZ.1 h;have T:x.den=1:=by have:=x.reduced;rw[h]at this;simpa using this
  exact I 2<|aS ng () az<|I 5<|cC (by show dj 1=dj x.den;rw[T])
 .have h:x.num≠0:=λe=>h asT;exact I 10<|bn (ep j j (.of<|by show dy (if _ then _ else _)=dy _;rw[av h]))
def G4:bl 44 (bV λ(x:Rat)=>([c0 x],True,c0<|-x)):=by
 apply bL [] UF.1;intro(x:Rat) _ H aq;refine I 20<|cC ?_;show ag.agg [.i _<|IntKind.i64.wrap<|-x.num.sign,_,_]=ag.agg [.i _ _,_,_];have dk:∀n:Int,-1<=n.sign/\n.sign<=1:=λn=>by
  rcases(show n<0\/n=0\/0<n by omega)with h|h|h
  .rw[yk h];decide
  .rw[h];decide
  .rw[sW h];decide
 have:=dk x.num;rw[gn R R];simp[dy]
def ak4(m:Nat):ac Nat->cb
 |[]=>⟨[],0,[(0,.i .u64 m),(3,.nl)]⟩
 |d::aM=>⟨[.a 2 true 1 Nat ga<|d::aM],1,[(0,.i .u64 m),(3,.aH 0 1 0 (d::aM).length (d::aM).length)]⟩
def ME:bl 118 (bV λ(n:Nat)=>([.i .u64 n],n<18446744073709551616,dj n)):=by
 refine bL [] VF.1 ?_;intro(n:Nat) (aj:n<18446744073709551616) H aq;have C:(aU 1000000000 n).length<=3:=je ai R;refine I 12<|eS (L:=Nat×ac Nat) (λ(m,l)=>m<=n/\aU 1000000000 n=l++aU 1000000000 m) (λ(m,l)=>ak4 m l) (λl=>(aU 1000000000 l.1).length) [] (n,[]) ⟨cf _,j⟩ ?_;rintro⟨m,l⟩ ⟨hm,T⟩;have O:l.length<=3:=by rw[T]at C;simp at C;omega
 have step:m≠0->(aU 1000000000<|m/1000000000).length<(aU 1000000000 m).length/\m/1000000000<=n/\aU 1000000000 n=(l++[m%1000000000])++aU 1000000000 (m/1000000000):=λh=>by
  rw[T,nL ai h];simp;omega
 have E:((m%1000000000:Nat):Int)<9223372036854775808:=R
 have t:m/1000000000%18446744073709551616=m/1000000000:=R
 have o: -9223372036854775808<=((m%1000000000:Nat):Int):=R
 cases l with
 |nil=>
  refine I 7<|cT (λh=>?_) λh=>?_
  .have step:=step R;refine I 9<|cl 9 (eV j o E)<|I 1<|w8 ga [m%1000000000] (iH (ah:=ga) [m%1000000000] j) ?_;exact I 9<|bB [1] (m/1000000000,[m%1000000000]) step (bk (aI:=⟨p0<|congrArg Int.ofNat t,j,az⟩))
  .have F:m=0:=by omega
   subst F;rw[g1]at T;exact I 12<|bp (bz.nl.trans (.of<|by show dy []=dy _;rw[T];rfl))
 |cons d z=>
  refine I 7<|cT (λh=>?_) λh=>?_
  .have step:=step R;refine I 9<|cl 9 (eV j o E)<|I 1 ?_;have A:z.length<=2:=by simp at O;omega
   refine q6 (ah:=ga) [m%1000000000] (iH (ah:=ga) [m%1000000000] j) ?_;exact I 9<|bB [2] (m/1000000000,d::(z++[m%1000000000])) step (bk (aI:=⟨p0<|congrArg Int.ofNat t,congrArg (λk=>some<|ag.aH 2 1 0 k k) au,az⟩))
  .have F:m=0:=by omega
   subst F;rw[g1,rP]at T;exact I 8<|h5 14 (I 4<|cC (by show dy (d::z)=dy _;rw[T]))
def CR:bl 315 (bV λ(a:Nat)=>([dj a],ej 1073741824 a,dj<|a/2)):=by
 refine bL [pr] V3.1 ?_;intro(a:Nat) (A:(aU _ a).length<=_) H aq;have Y:=hb (b:=1000000000) ai a;have M:=gx (b:=1000000000) ai a;show bM.ok _ ⟨_,_,⟨_,_,[(0,dy<|aU 1000000000 a)]⟩⟩;generalize aU 1000000000 a=xs at *;refine st ?_;refine nF ga 0<|st ?_;refine ea (L:=Nat×ac Nat×Nat) (λ(k,o,r)=>k<=xs.length/\o.length=xs.length/\Ok 1000000000 o/\r<2/\val 1000000000 (xs.drop k)=val 1000000000 (o.drop k)*2+r)
  (λ((k:Nat),(o:ac Nat),(r:Nat))=>⟨[.a 2 false 1 Nat ga o],1,[(0,dy xs),(3,.aH 0 1 0 xs.length xs.length),(4,.aa r),(5,.aa<|(k:Int)-1)]⟩)
  (λl=>l.1) [0] (xs.length,List.replicate xs.length 0,0) ⟨R,au,sB ai _,ai,by simp[val]⟩ apM bk ?_
 rintro⟨k,o,r⟩ ⟨N,Q,K,I,S⟩;cases k with
 |zero=>
  refine st ?_;refine h5 30 ?_;refine aS pr o asB<|st ?_;rw[iB,iB]at S;refine cC ?_;show dy (fg o)=dj (a/2);rw[xu (b:=1000000000) ai K,show a/2=val 1000000000 o by omega];rfl
 |succ m=>
  have O:m<xs.length:=R
  have t:=WR I<|Y _<|dH O;refine aJ 5 (.aa (m:Nat)) j fG<|st ?_;refine aJ 13 (.b true) j au<|st ?_;refine l3 xs[m] (aO O) ?_;refine dW 22 ?_;refine aJ 22 (.aa ((r*1000000000+xs[m]:Nat):Int)) j (congrArg (ag.aa)<|by rw[gn (n:=(r:Int)*1000000000) R R,gn R R];omega) ?_;obtain⟨T,C⟩:∃T,T=r*1000000000+xs[m]:=dN;rw[<-C]at t;refine aJ 22 (.aa (T:Nat)) j (by rw[C])<|dW 26 ?_;refine aJ 26 (.aa ((T/2:Nat):Int)) j (by show ag.i _ (IntKind.i64.wrap ((T/2:Nat):Int))=_;exact eV j R R) ?_;refine zp ?_;refine kI (T/2)<|dW 29 ?_;refine aJ 29 (.aa ((T%2:Nat):Int)) j j<|st ?_;refine bB [0] (m,o.set m<|T/2,T%2) ⟨au,R,by simp[Q],mD K _ t,eY _ ai,?_⟩ bk;rw[(fj O),fj (l:=o.set m _) dM,mg,An R,C];exact WQ S
def CS:bl 314 (bV λ(a:Nat)=>([dj a],True,.b<|decide (a%2=1))):=by
 refine bL [] Uo.1 ?_;intro a _ H aq;show bM.ok _ ⟨_,_,⟨_,_,[(0,dy<|aU 1000000000 a)]⟩⟩;by_cases F:a=0
 .subst F;rw[g1];exact I 21<|eD
 .rw[nL ai F];refine I 11<|aJ 6 (.b true) j au<|I 3<|eW (a%1000000000) j j<|I 4<|aJ 10 (.aa ↑(a%1000000000%2)) j j<|I 7<|cC ?_;congr 2;apply propext;omega
def ak5{W:Nat}(I:V=v*P+nM)(Z:nM<P)(E:W=w*P+qd)(S:0<V):w/(v+1)<=W/V:=by
 rw[vX S];have G:V<=(v+1)*P:=by rw[fb];omega
 calc w/(v+1)*V<=w/(v+1)*((v+1)*P):=mh _ G
  _=w/(v+1)*(v+1)*P:=(iZ _ _ _).symm
  _<=w*P:=hV _ (IC _ _)
  _<=W:=by omega
theorem ak6{W:Nat}(I:V=v*P+nM)(F:qd<P)(E:W=w*P+qd)(S:0<v)(Z:0<P):W/V<=(w+1)/v:=by
 rw[vX S];have Y:W/V*V<=W:=IC _ _;have G:W/V*(v*P)<=W/V*V:=mh _ R;have A:W/V*v*P<(w+1)*P:=by grind
 exact pF<|AF A
def G5:bl 191 (bV λ((e,p):Int×Int)=>([qf e p],True,.aa (if hD e p then 0 else 2))):=Xp bu
theorem zR:bl 426 (bV λ((e,p):Int×Int)=>([qf e p],hD e p,.aa<|g2 e)):=by
 refine bL [] UB.1 ?_;intro⟨e,p⟩ ⟨Y,G,A,T,C⟩ H aq;obtain⟨n,aj⟩:∃n:Nat,e=(n:Int)+1:=⟨(e-1).toNat,R⟩;subst aj;have l:∀i:Nat,i<=10->1<=2^i/\2^i<=1024:=λi af=>⟨n4 i,j0 ai af⟩;refine I 18<|eS (λi=>i<=n) (λ(i:Nat)=>⟨[.c 267 [.aa<|n+1,.aa p]],1,[(1,.p 0 0),(3,.aa ((2^i:Nat):Int)),(4,.aa<|i+1)]⟩) (λi=>n-i) [0] 0 (c8 _) ?_;intro i af;have hp:=l i R;refine I 9<|cT (λh=>?_) λh=>?_
 .exact I 16<|bB [0] (i+1) ⟨by show n-(i+1)<n-i;omega,by show i+1<=n;omega⟩ (bk (aI:=⟨j,congrArg (λn=>some<|ag.aa n)<|tv (by rw[g6];omega) R R,congrArg (λn=>some<|ag.aa n)<|tv R R R,az⟩))
 .have D:i=n:=by omega
  refine I 13<|bn (ep j j<|.of<|congrArg (ag.aa)<|tv ?_ R R)
  grind [g2]
