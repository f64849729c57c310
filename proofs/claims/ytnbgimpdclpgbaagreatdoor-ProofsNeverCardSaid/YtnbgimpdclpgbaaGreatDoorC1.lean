/- What the functions of the program and of the document compute, for every input, and the plain laws of it (part 1); conditions as in the statements. -/
import Derived.Test.YtnbgimpdclpgbaaGreatDoorS3
import Derived.Test.YtnbgimpdclpgbaaGreatDoorT
set_option linter.all false
namespace Go.bA.c3
structure aO where
 a:Nat
 b:Nat
 c:Nat
 d:Nat
 e:Nat
 f:Nat
deriving DecidableEq
def aO.lt(x y:aO):Prop:=x.a<y.a\/x.a=y.a/\(x.b<y.b\/x.b=y.b/\(x.c<y.c\/x.c=y.c/\(x.d<y.d\/x.d=y.d/\(x.e<y.e\/x.e=y.e/\x.f<y.f))))
variable{x y:aO}
instance(x y:aO):Decidable (aO.lt x y):=by unfold aO.lt;infer_instance
def aO.oL(x:aO):¬aO.lt x x:=by unfold aO.lt;omega
def aO.zl{z:aO}(h:aO.lt x y)(j:aO.lt y z):aO.lt x z:=by unfold aO.lt at *;omega
def aO.LS(h:¬aO.lt x y)(ah:x≠y):aO.lt y x:=by
 by_cases g:aO.lt y x
 ·exact g
 ·exfalso;apply ah;cases x;cases y;unfold aO.lt at h g;simp only at h g;simp;omega
abbrev Poly:=ac<|aO×Rat
def Poly.eB(P:Poly):Prop:=P.Pairwise λp q=>aO.lt p.1 q.1
variable{P:Poly}{k:aO}
def b8:Poly->aO->Rat
 |[],_=>0
 |p::P,k=>if p.1=k then p.2 else b8 P k
def eC:Poly->aO->Rat->Poly
 |[],k,x=>if x+0=0 then[]else[(k,x+0)]
 |p::P,k,x=>if p.1=k then(if x+p.2=0 then P else(k,x+p.2)::P)else if aO.lt k p.1 then(if x+0=0 then p::P else(k,x+0)::p::P)else p::eC P k x
def qJ(h:∀p∈P,p.1≠k):b8 P k=0:=by
 induction P with
 |nil=>rfl
 |cons p P j=>
  unfold b8;rw[aw<|h p g5];exact j λq l=>h q<|e5 _ l
theorem kG(D:P.eB){x:Rat}(h:(k,x)∈P):b8 P k=x:=by
 induction P with
 |nil=>cases h
 |cons p P l=>
  have o:=ns.1 D;unfold b8;rcases e1.1 h with rfl|h
  ·rw[aE j]
  ·rw[aw λe=>aO.oL k<|by grind];exact l o.2 h
theorem mJ(D:P.eB)(k:aO)(x:Rat)(q:aO×Rat):q∈eC P k x↔(q.1=k/\q.2=x+b8 P k/\x+b8 P k≠0)\/q∈P/\q.1≠k:=by
 have one:∀s:Rat,q=(k,s)↔q.1=k/\q.2=s:=λs=>⟨λe=>by rw[e];exact eT,λ⟨A,j⟩=>by cases q;simp only at A j;rw[A,j]⟩
 induction P with
 |nil=>
  unfold eC b8;split
  ·rename_i h;simp[h]
  ·rename_i h;rw[hh,one];simp[h]
 |cons p P C=>
  have t:=ns.1 D;unfold eC b8;by_cases hp:p.1=k
  ·have z:∀r∈P,r.1≠k:=λr o e=>by
    have:=t.1 r o;rw[hp,e]at this;exact aO.oL _ this
   rw[aE hp];have j:q∈p::P/\q.1≠k↔q∈P:=by grind
   rw[j];split
   ·rename_i h;simp[h]
   ·rename_i h;rw[e1,one];simp[h]
  ·rw[aw hp];split
   ·rename_i aT;have z:∀r∈P,r.1≠k:=λr o e=>by
     have:=t.1 r o;rw[e]at this;exact aO.oL _<|aO.zl aT this
    rw[qJ z];have j:q∈p::P/\q.1≠k↔q∈p::P:=by grind
    rw[j];split
    ·rename_i h;simp[h]
    ·rename_i h;rw[e1,one];simp[h]
   ·have l:=C t.2;constructor
    ·intro h;rcases e1.1 h with rfl|h
     ·exact .inr ⟨g5,hp⟩
     ·rcases l.1 h with h|h
      ·exact .inl h
      ·exact .inr ⟨e5 _ h.1,h.2⟩
    ·rintro(h|⟨h,ah⟩)
     ·exact e5 _<|l.2<|.inl h
     ·rcases e1.1 h with rfl|h
      ·exact g5
      ·exact e5 _<|l.2<|.inr ⟨h,ah⟩
def mK(D:P.eB)(k:aO)(x:Rat):(eC P k x).eB:=by
 induction P with
 |nil=>unfold eC;split<;>simp[Poly.eB]
 |cons p P t=>
  have j:=ns.1 D;unfold eC;split
  ·rename_i hp;split
   ·exact j.2
   ·exact ns.2 ⟨λq l=>by have:=j.1 q l;rw[hp]at this;exact this,j.2⟩
  ·rename_i hp;split
   ·rename_i aT;split
    ·exact D
    ·refine ns.2 ⟨λq l=>?_,D⟩;rcases e1.1 l with rfl|l
     ·exact aT
     ·exact aO.zl aT<|j.1 q l
   ·rename_i aT;refine ns.2 ⟨λq l=>?_,t j.2⟩;rcases(mJ j.2 k x q).1 l with⟨o,_⟩|⟨o,_⟩
    ·rw[o];exact aO.LS aT λe=>hp e.symm
    ·exact j.1 q o
def VV(D:P.eB)(k:aO)(x:Rat)(J:aO):b8 (eC P k x) J=if J=k then x+b8 P k else b8 P J:=by
 by_cases C:∃y,(J,y)∈eC P k x
 ·obtain⟨y,z⟩:=C;rw[kG (mK D k x) z];rcases(mJ D k x _).1 z with⟨o,t,_⟩|⟨o,t⟩
  ·rw[aE o];exact t
  ·rw[aw t];exact(kG D o).symm
 ·have l:∀p∈eC P k x,p.1≠J:=λp hp e=>C ⟨p.2,by rw[<-e];exact hp⟩;rw[qJ l];split
  ·rename_i h;subst h;by_cases A:x+b8 P J=0
   ·exact A.symm
   ·exact absurd j (l (J,x+b8 P J)<|(mJ D J x _).2<|.inl ⟨j,j,A⟩)
  ·rename_i h;refine(qJ λp hp e=>?_).symm;exact l p ((mJ D k x _).2<|.inr ⟨hp,by rw[e];exact h⟩) e
def Poly.jx(P:Poly):Prop:=∀p∈P,p.2≠0
def Ca(j:P.eB)(ah:P.jx)(k:aO)(x:Rat):(eC P k x).jx:=λq z=>by
 rcases(mJ j k x q).1 z with⟨_,t,l⟩|⟨o,_⟩
 ·rw[t];exact l
 ·exact ah q o
theorem VW:∀{P Q:Poly},P.eB->Q.eB->P.jx->Q.jx->(∀k,b8 P k=b8 Q k)->P=Q:=by
 have mem:∀{P Q:Poly},P.eB->P.jx->(∀k,b8 P k=b8 Q k)->∀p∈P,p∈Q:=λ{P Q} j ah h p hp=>by
  have G:=kG j hp;rw[h]at G;have key:∀Q:Poly,b8 Q p.1=p.2->p∈Q:=by
   intro Q
   induction Q with
   |nil=>intro e;exact absurd e.symm (ah p hp)
   |cons q Q o=>
    intro e;unfold b8 at e;split at e
    ·rename_i K;have:p=q:=by grind
     rw[this];exact g5
    ·exact e5 _<|o e
  exact key Q G
 intro P
 induction P with
 |nil=>
  intro Q _ K _ ah h;cases Q with
  |nil=>rfl
  |cons q Q=>exact absurd (mem K ah (λk=>(h k).symm) q g5) av
 |cons p P o=>
  intro Q j I ah D h;cases Q with
  |nil=>exact absurd (mem j ah h p g5) av
  |cons q Q=>
   have F:=ns.1 j;have E:=ns.1 I;have e:p=q:=by
    have z:=mem j ah h p g5;have t:=mem I D (λk=>(h k).symm) q g5;rcases e1.1 z with e|z
    ·exact e
    ·rcases e1.1 t with e|t
     ·exact e.symm
     ·exact absurd (aO.zl (F.1 q t)<|E.1 p z)<|aO.oL _
   subst e;rw[o F.2 E.2 (λr l=>ah r<|e5 _ l) (λr l=>D r<|e5 _ l) λk=>?_];have A:=h k;unfold b8 at A;by_cases C:p.1=k
   ·rw[qJ λr l e=>aO.oL k<|by grind,qJ λr l e=>aO.oL k<|by grind]
   ·rw[aw C,aw C]at A;exact A
def eI:ac Nat->ac Nat
 |[]=>[]
 |d::aN=>match eI aN with
  |[]=>if d=0 then[]else[d]
  |r=>d::r
def val(b:Nat):ac Nat->Nat
 |[]=>0
 |d::aN=>d+b*val b aN
def Ok(b:Nat)(aN:ac Nat):Prop:=∀d∈aN,d<b
variable{b i:Nat}
def qK(dc:ac Nat)(d:Nat):eI (dc++[d])=if d=0 then eI dc else dc++[d]:=by
 induction dc with
 |nil=>simp[eI]
 |cons x xs j=>
  simp;rw[eI,j];by_cases h:d=0
  ·rw[aE h,aE h,eI]
  ·rw[aw h,aw h];cases xs<;>rfl
def lC(b:Nat)(xs j:ac Nat):val b (xs++j)=val b xs+b^xs.length*val b j:=by
 induction xs with
 |nil=>simp[val]
 |cons x xs l=>
  simp[List.cons_append,val,l,hN,fD,ia];rw[<-h9,fT b<|b^xs.length];omega
def akB(b:Nat)(aN:ac Nat):val b (eI aN)=val b aN:=by
 suffices h:∀n (aN:ac Nat),aN.length=n->val b (eI aN)=val b aN from h _ aN j
 intro n
 induction n with
 |zero=>intro aN h;rw[nr h];rfl
 |succ n l=>
  intro aN h;rcases od aN with rfl|⟨dc,d,rfl⟩
  ·rfl
  ·rw[oe]at *;rw[qK];split
   ·rename_i o;rw[l dc<|by simpa using h,lC,o];simp[val]
   ·rfl
def akC(aN:ac Nat)(h:Ok b aN):Ok b (eI aN):=by
 induction aN with
 |nil=>exact h
 |cons d aN l=>
  have o:=l λx j=>h x<|e5 _ j;have t:=h d av;unfold eI;split
  ·split
   ·exactλx j=>by simp at j
   ·intro x j;simp at j;omega
  ·rename_i r z;intro x j;rcases e1.1 j with rfl|j
   ·exact t
   ·exact o x j
def akD(aN:ac Nat):eI (eI aN)=eI aN:=by
 suffices h:∀n (aN:ac Nat),aN.length=n->eI (eI aN)=eI aN from h _ aN j
 intro n
 induction n with
 |zero=>intro aN h;rw[nr h];rfl
 |succ n l=>
  intro aN h;rcases od aN with rfl|⟨dc,d,rfl⟩
  ·rfl
  ·rw[oe]at *;rw[qK];split
   ·exact l dc<|by simpa using h
   ·rename_i o;rw[qK,aw o]
def VX(aN:ac Nat):(eI aN).length<=aN.length:=by
 induction aN with
 |nil=>exact dt _
 |cons d aN j=>
  unfold eI;split
  ·split<;>simp
  ·simp;exact j
def j9{aN:ac Nat}(h:Ok b aN):val b aN<b^aN.length:=by
 induction aN with
 |nil=>simp[val]
 |cons d aN l=>
  have t:=h d av;have o:=l λx j=>h x<|e5 _ j;simp[val,hN,fD];have:b*(val b aN+1)<=b*b^aN.length:=q6 _ o;rw[fT<|b^aN.length];rw[ia]at this;omega
def zm{dc:ac Nat}{d:Nat}(h:eI (dc++[d])=dc++[d]):b^dc.length<=val b (dc++[d])/\d≠0:=by
 rw[qK]at h;by_cases j:d=0
 ·rw[aE j]at h;have:=VX dc;rw[h]at this;simp at this;omega
 ·refine⟨?_,j⟩;rw[lC];simp only[val];have:b^dc.length*1<=b^dc.length*(d+b*0):=q6 _ R;omega
def Gh(aA:0<b){x y:ac Nat}(j:Ok b x)(D:eI y=y)(h:x.length<y.length):val b x<val b y:=by
 rcases od y with rfl|⟨dc,d,rfl⟩
 ·simp at h
 ·rw[oe]at *;have o:=j9 j;have t:=(zm (b:=b) D).1;have l:b^x.length<=b^dc.length:=jG aA (by simp at h;omega);omega
def Gi{p j s:ac Nat}{x y:Nat}(hp:Ok b p)(aD:p.length=j.length)(h:x<y):val b (p++x::s)<val b (j++y::s):=by
 rw[lC,lC,<-aD];simp[val];have o:=j9 hp;have l:b^p.length*(x+b*val b s+1)<=b^p.length*(y+b*val b s):=q6 _ R;rw[ia _ (x+b*val b s) 1]at l;omega
def hZ{l:ac Nat}(h:i<l.length):val b (l.take<|i+1)=val b (l.take i)+b^i*l[i]:=by
 rw[kd h,lC];simp[val,iF,jF<|og h,tA,oZ]
def jP{l:ac Nat}(h:l.length<=i):val b (l.take i)=val b l:=by rw[iG h]
def aW(b n:Nat):ac Nat:=if h:b<2\/n=0 then[]else n%b::aW b (n/b)
termination_by n
decreasing_by
 exact Ad R R
variable{n U c u w d:Nat}
def gK(b:Nat):aW b 0=[]:=by rw[aW];simp
def m9(aA:2<=b)(ah:n≠0):aW b n=n%b::aW b (n/b):=by rw[aW,dif_neg R]
def gl(aA:2<=b)(n:Nat):val b (aW b n)=n:=by
 induction n using Nat.strongRecOn with
 |ind n j=>
  by_cases ah:n=0
  ·subst ah;rw[gK];rfl
  ·rw[m9 aA ah,val,j _<|Ad R R];exact Ae n b
def gL(aA:2<=b)(n:Nat):Ok b (aW b n):=by
 induction n using Nat.strongRecOn with
 |ind n l=>
  by_cases ah:n=0
  ·subst ah;rw[gK];exactλx j=>by simp at j
  ·rw[m9 aA ah];intro x j;rcases e1.1 j with rfl|j
   ·exact eG _ R
   ·exact l _ (Ad R R) x j
def na(aA:2<=b):aW b n=[]↔n=0:=by
 constructor
 ·intro h;have:=gl aA n;rw[h]at this;simp[val]at this;omega
 ·intro h;subst h;exact gK b
def sW(aA:2<=b)(n:Nat):eI (aW b n)=aW b n:=by
 induction n using Nat.strongRecOn with
 |ind n l=>
  by_cases ah:n=0
  ·subst ah;rw[gK];rfl
  ·rw[m9 aA ah,eI,l _<|Ad R R];by_cases j:n/b=0
   ·rw[j,gK];have:=mS<|(Nat.div_eq_zero_iff_lt R).1 j;rw[this];simp[ah]
   ·cases o:aW b (n/b)with
    |nil=>exact absurd ((na aA).1 o) j
    |cons x xs=>rfl
theorem zn{b:Nat}(aA:2<=b):∀{aN:ac Nat},Ok b aN->eI aN=aN->aW b (val b aN)=aN
 |[],_,_=>gK b
 |d::aN,h,l=>by
  have aF:=h d av;have A:Ok b aN:=λx D=>h x<|e5 _ D;have o:eI aN=aN/\(aN=[]->d≠0):=by
   rw[eI]at l;cases z:eI aN with
   |nil=>
    rw[z]at l;simp only at l;split at l
    ·cases l
    ·cases l;exact⟨j,λ_=>lh⟩
   |cons x xs=>
    rw[z]at l;cases l;exact⟨j,λh=>by cases h⟩
  have F:val b (d::aN)≠0:=by
   simp only[val];cases C:aN with
   |nil=>have:=o.2 C;exact this
   |cons x xs=>
    intro I;have t:=zn aA A o.1;have:b*val b (x::xs)=0:=R
    have:val b (x::xs)=0:=by
     rcases Nat.mul_eq_zero.1 this with h|h
     ·omega
     ·exact h
    rw[C,this,gK]at t;cases t
  rw[m9 aA F];have E:val b (d::aN)%b=d:=by simp only[val];rw[Dg,mS aF]
  have G:val b (d::aN)/b=val b aN:=by simp[val];rw[xS _ _ R,p5 aF];omega
  rw[E,G,zn aA A o.1]
def w1(aA:2<=b){aN:ac Nat}(h:Ok b aN):eI aN=aW b (val b aN):=by
 rw[<-akB,zn aA (akC aN h)<|akD aN]
def je{k:Nat}(aA:2<=b)(h:n<b^k):(aW b n).length<=k:=by
 have l:=sW aA n;have o:=gl aA n;rcases od (aW b n)with j|⟨dc,d,j⟩
 ·rw[j];simp
 ·rw[oe]at j;rw[j]at l o;have t:=(zm (b:=b) l).1;rw[o]at t;have z:=(vy R).1<|mf t h;rw[j];simp;omega
def Cb{k:Nat}(aA:2<=b)(h:b^k<=n):k<(aW b n).length:=by
 have j:=j9<|gL aA n;rw[gl aA]at j;exact(vy (by omega:1<b)).1 R
def VY{P x y:Nat}(aA:0<b)(h:U+P*c=u+w):U+P*((c+x+y)%b)+P*b*((c+x+y)/b)=u+P*x+(w+P*y):=by
 have j:P*(c+x+y)=P*((c+x+y)%b)+P*b*((c+x+y)/b):=by
  rw[h9,<-ia,Ae]
 rw[ia,ia]at j;omega
theorem VZ{P x y j:Nat}(h:u+P*c=U+w)(D:x+b*j=d+y+c):u+P*x+P*b*j=U+P*d+(w+P*y):=by
 have l:P*x+P*b*j=P*d+P*y+P*c:=by grind
 omega
def lZ{l:ac Nat}(h:Ok b l)(i:Nat)(D:d<b):Ok b (l.set i d):=λx o=>by
 rcases List.mem_or_eq_of_mem_set o with j|j
 ·exact h x j
 ·omega
def r9(aA:0<b)(n:Nat):Ok b (List.replicate n 0):=λx j=>by
 have:=List.eq_of_mem_replicate j;omega
def val_zero(b n:Nat):val b (List.replicate n 0)=0:=by
 induction n with
 |zero=>rfl
 |succ n j=>simp[List.replicate_succ,val,j]
def iK(a b:Nat):Int:=if a<b then -1 else if a=b then 0 else 1
open Go.bA
set_option maxRecDepth 100000
set_option maxHeartbeats 4000000
abbrev bt(f:d7)(s:Spec):Prop:=dY bS.ctx f s
variable{f:d7}
def bR(K:ac (Nat×dL))(aZ:cJ){S:bl}(h:∀l,S.pre l->∀H au,b5.ok ⟨b7 aI (cj bS.ctx<|bG K)<|bx+1,bx+1,f,H,[],au,Fin S l aZ.res⟩ ⟨[],.c aZ.body,⟨[],0,hJ 0<|S.args l⟩⟩)
 (D:aI.get f=some aZ:=by kernel_rfl) (aD:∀l,(S.args l).length<=aZ.aM:=by exactλ_=>hP j):bt f S:=aeG bS.ea eo (bG K) D aD h
def V0(K:ac (Nat×dL))(aZ:cJ){S:bl}(h:∀l,S.pre l->∀H au,b5.ok ⟨b7 aI (cj bS.ctx<|bG K)<|bx+1,bx+1,f,H,[],au,K9 S l au.ae aZ.res⟩ ⟨[],.c aZ.body,⟨[],0,hJ 0<|S.args l⟩⟩)
 (D:aI.get f=some aZ:=by kernel_rfl) (aD:∀l,(S.args l).length<=aZ.aM:=by exactλ_=>hP j):dY bS.ctx f S.jb:=afZ bS.ea eo (bG K) D aD h
def sa(K:ac (Nat×dL))(aZ:cJ){S:bl}(h:∀l,S.pre l->∀H au,S.hp H->b5.ok ⟨b7 aI (cj bS.ctx<|bG K)<|bx+1,bx+1,f,H,[],au,Fin S l aZ.res⟩ ⟨[],.c aZ.body,⟨[],0,hJ 0<|S.args l⟩⟩)
 (D:aI.get f=some aZ:=by kernel_rfl) (aD:∀l,(S.args l).length<=aZ.aM:=by exactλ_=>hP j):bt f S:=KL bS.ea eo (bG K) D aD h
def kH(K:ac (Nat×dL))(aZ:cJ){S:ev}(h:∀l,S.pre l->∀H i0 au,i0.length=(S.own l).length->b5.ok ⟨b7 aI (cj bS.ctx<|bG K)<|bx+1,bx+1,f,H,i0,au,y7 S l aZ.res⟩ ⟨[],.c aZ.body,⟨S.own l,(S.own l).length,hJ 0<|S.args l⟩⟩)
 (D:aI.get f=some aZ:=by kernel_rfl) (aD:∀l,(S.args l).length<=aZ.aM:=by exactλ_=>hP j):bt f S:=aeU bS.ea eo (bG K) D aD h
def fI(d:Nat):ac ag:=[.i .u32 d]
def di(aN:ac Nat):ag:=.cU 1 Nat fI aN
def da(n:Nat):ag:=di<|aW 4294967296 n
def sX{n m:Int}(h:n=m)(aF: -9223372036854775808<=n)(aL:n<9223372036854775808):IntKind.i64.wrap n=m:=by rw[fP aF aL,h]
def V1(n:Int):IntKind.u64.wrap n=n%18446744073709551616:=by
 rw[<-kS];exact rn _ _ al
def Gj:bl:=b3 λ(j:ac Nat)=>([di j],j.length<=1099511627776,di<|eI j)
theorem akE:bt 222 Gj:=by
 refine bR [] Uu.1 ?_;intro l (hp:l.length<=1099511627776) H au;refine I 7<|eu (λes:ac Nat=>eI es=eI l/\es.length<=l.length) (λes=>⟨[],0,[(0,di es)]⟩) List.length [] l ⟨j,cn _⟩ (by show l.length<bx+1;unfold bx;omega) bB ?_;rintro es ⟨t,A⟩;rcases od es with rfl|⟨dc,d,rfl⟩
 ·exact I 30<|an (az j j (.of<|by rw[show Gj.res l=di (eI l)from rfl,<-t];rfl))
 ·rw[oe]at *;have z:(dc++[d]).length=dc.length+1:=by simp
  refine I 7<|dd 6<|I 9<|aP 10 (.aa dc.length) j (by rw[z,fP]<;>simp<;>omega)<|eL (KE j j (show(dc++[d])[dc.length]? =some d by simp)) ?_;refine I 7<|wG j (λo=>?_) λo=>?_
  ·have o:d=0:=by grind
   refine I 8<|aP 18 (.aa dc.length) j (by rw[z,fP]<;>simp<;>omega)<|eL (Re j j dC (dw _) av) ?_;refine I 3<|bW [] dc ⟨av,by rw[<-t,qK,aE o],R⟩ (m4 ⟨?_,aC⟩);simp[dp,jL,di]
  ·have o:d≠0:=by grind
   exact I 12<|an (az j j<|.of<|by rw[show Gj.res l=di (eI l)from rfl,<-t,qK,aw o])
def sY:bl:=b3 λ(j:ac Nat)=>([di j],Ok 4294967296 j/\j.length<=1099511627776,da<|val 4294967296 j)
def sZ:bt 128 sY:=by
 refine bR [(222,Gj)] U4.1 ?_;intro l ⟨o,t⟩ H au;exact I 8<|aV akE l t<|I 4<|an (az j j (.of<|by show di (eI l)=di _;rw[w1 al o]))
def w2:bl:=b3 λ(n:Nat)=>([.i .u64 n],n<18446744073709551616,da n)
def qL:bt 56 w2:=by
 refine bR [(128,sY)] Tn.1 ?_;intro(n:Nat) (hp:n<18446744073709551616) H au;refine I 13<|Rh 0 (ai:=fI) [n%4294967296,n/4294967296] j (by show[ag.i _ _,ag.i _ _]=[ag.i _ _,ag.i _ _];rw[show n/2^32%4294967296=n/4294967296 by omega]) mx ?_;refine Rg 8 [n%4294967296,n/4294967296] j j j j al mx ?_;refine aV sZ [n%4294967296,n/4294967296] ⟨λx l=>?_,av⟩ ?_
 ·simp at l;rcases l with rfl|rfl<;>omega
 exact I 4<|an (az j j (.of<|by show da _=da _;simp[val];congr 1;omega))
def dP(k n:Nat):Prop:=(aW 4294967296 n).length<=k
variable{a s B r h v J:Nat}
def LU:bl:=b3 λ((a,b):Nat×Nat)=>([da a,da b],dP 1073741824 a/\dP 1073741824 b,da<|a+b)
def V2:bt 63 LU:=by
 refine bR [(128,sY)] Tq.1 ?_;intro⟨a,b⟩ ⟨(K:(aW _ a).length<=_),(Q:(aW _ b).length<=_)⟩ H au;show b5.ok _ ⟨_,_,⟨_,_,[(0,di<|aW 4294967296 a),(1,di<|aW 4294967296 b)]⟩⟩;refine I 15<|gQ (λ((xs:ac Nat),(o:ac Nat))=>o.length<=xs.length/\xs.length<=1073741824/\Ok 4294967296 xs/\Ok 4294967296 o/\val 4294967296 xs+val 4294967296 o=a+b) (λ(xs,o)=>⟨[],0,[(0,di xs),(1,di o)]⟩) ?_ ?_
 ·refine cG (λh=>?_) λh=>?_
  ·have h:(aW 4294967296 a).length<(aW 4294967296 b).length:=by omega
   exact I 6<|bW [] (aW _ b,aW _ a) ⟨R,Q,gL al _,gL al _,by rw[gl al,gl al,tv]⟩ bB
  ·have h:(aW 4294967296 b).length<=(aW 4294967296 a).length:=by omega
   exact I 1<|dv [] (aW _ a,aW _ b) ⟨h,K,gL al _,gL al _,by rw[gl al,gl al]⟩
 rintro⟨xs,o⟩ ⟨S,Y,N,O,M⟩;refine I 5<|cd 18 ((xs.length+1:Nat):Int)<|oE fI 0 ?_;refine I 17 ?_;refine eu (L:=Nat×ac Nat×Nat) (λ(i,t,c)=>i<=xs.length/\t.length=xs.length+1/\Ok 4294967296 t/\c<=1/\val 4294967296 (t.take i)+4294967296^i*c=val 4294967296 (xs.take i)+val 4294967296 (o.take i))
  (λ((i:Nat),(t:ac Nat),(c:Nat))=>⟨[.a 229 false 1 Nat fI t],1,[(0,di xs),(1,di o),(5,.aK 0 1 0 (xs.length+1)<|xs.length+1),(6,.i .u64 c),(20,di xs),(21,.aa xs.length),(22,.aa i)]⟩)
  (λl=>xs.length-l.1) [0] (0,List.replicate (xs.length+1) 0,0) ⟨R,av,r9 al _,R,by simp[val]⟩ (by show xs.length-0<bx+1;unfold bx;omega) bB ?_
 rintro⟨i,t,c⟩ ⟨af,A,D,a',C⟩;refine I 6<|cG (λh=>?_) λh=>?_
 ·have h:i<xs.length:=by omega
  have E:xs[i]? =some xs[i]:=a0 h;have aT:=N _<|dx h;refine I 7<|fc xs[i] E j<|I 23<|gQ (λy=>y<4294967296/\val 4294967296 (o.take<|i+1)=val 4294967296 (o.take i)+4294967296^i*y) (λ(y:Nat)=>⟨[.a 229 false 1 Nat fI t],1,[(0,di xs),(1,di o),(5,.aK 0 1 0 (xs.length+1)<|xs.length+1),(6,.i .u64 ((c+xs[i]+y:Nat):Int)),(7,.aa i),(20,di xs),(21,.aa xs.length),(22,.aa i)]⟩) ?_ ?_
  ·refine cG (λz=>?_) λz=>?_
   ·have z:i<o.length:=by simpa using z
    have F:o[i]? =some o[i]:=a0 z;have G:=O _<|dx z;refine I 4<|fc o[i] F j<|I 5<|bW [0] o[i] ⟨G,hZ z⟩ (bB (aL:=⟨j,j,j,?_,j,j,j,j,aC⟩));exact rL
   ·have z:o.length<=i:=by simpa using z
    refine I 1<|bW [0] 0 ⟨al,by rw[jP R,jP z];simp⟩ (bB (aL:=⟨j,j,j,?_,j,j,j,j,aC⟩));exact rL
  rintro y ⟨Z,T⟩;refine I 6<|k4 j j<|kE ((c+xs[i]+y)%4294967296) ?_;refine I 13<|bW [0] (i+1,t.set i<|(c+xs[i]+y)%4294967296,(c+xs[i]+y)/4294967296) ⟨by show xs.length-(i+1)<xs.length-i;omega,R,by simp[A],lZ D _<|eG _ al,R,?_⟩ (bB (aL:=⟨j,j,j,j,j,j,?_,aC⟩))
  ·rw[hZ (l:=t.set i _) dA,hZ h,T,me<|cn _,lJ,fD];exact VY al C
  ·exact nQ
 ·have h:i=xs.length:=by have:xs.length<=i:=by omega
                         omega
  subst h;refine I 12<|k4 j j<|kE (c%4294967296) ?_;refine I 5<|kn 56 ?_;refine aV sZ (t.set xs.length<|c%4294967296) ⟨lZ D _<|eG _ al,by simp[A];omega⟩<|I 4<|an (az j j<|.of ?_);show da _=da _;congr 1;rw[<-jP (i:=xs.length+1) (by simp[A]),hZ dA,me<|cn _,lJ,gn R,C,jP<|cn _,jP S,M]
def V3:bl:=b3 λ((a,b):Nat×Nat)=>([da a,da b],dP 1073741824 a/\b<=a,da<|a-b)
def LV(h:b<=a):(aW 4294967296 b).length<=(aW 4294967296 a).length:=by
 have j:=j9<|gL (b:=4294967296) al a;rw[gl al]at j;exact je al R
def V4:bt 65 V3:=by
 refine bR [(128,sY)] Ts.1 ?_;intro⟨a,b⟩ ⟨(Z:(aW _ a).length<=_),(Q:b<=a)⟩ H au;have S:=LV Q;have N:=gL (b:=4294967296) al a;have O:=gL (b:=4294967296) al b;have ae:=gl (b:=4294967296) al a;have m6:=gl (b:=4294967296) al b;show b5.ok _ ⟨_,_,⟨_,_,[(0,di<|aW 4294967296 a),(1,di<|aW 4294967296 b)]⟩⟩;generalize aW 4294967296 a=xs at *;generalize aW 4294967296 b=o at *;refine I 9<|oE fI 0 ?_;refine I 17 ?_;refine eu (L:=Nat×ac Nat×Nat) (λ(i,z,c)=>i<=xs.length/\z.length=xs.length/\Ok 4294967296 z/\c<=1/\val 4294967296 (xs.take i)+4294967296^i*c=val 4294967296 (z.take i)+val 4294967296 (o.take i))
  (λ((i:Nat),(z:ac Nat),(c:Nat))=>⟨[.a 229 false 1 Nat fI z],1,[(0,di xs),(1,di o),(5,.aK 0 1 0 xs.length xs.length),(6,.i .u64 c),(13,di xs),(14,.aa xs.length),(15,.aa i)]⟩)
  (λl=>xs.length-l.1) [0] (0,List.replicate xs.length 0,0) ⟨R,av,r9 al _,R,by simp[val]⟩ (by show xs.length-0<bx+1;unfold bx;omega) bB ?_
 rintro⟨i,z,c⟩ ⟨af,E,D,ad,C⟩;refine I 6<|cG (λh=>?_) λh=>?_
 ·have h:i<xs.length:=by omega
  have F:xs[i]? =some xs[i]:=a0 h;have aT:=N _<|dx h;refine I 7<|fc xs[i] F j<|I 23<|gQ (λy=>y<4294967296/\val 4294967296 (o.take<|i+1)=val 4294967296 (o.take i)+4294967296^i*y) (λ(y:Nat)=>⟨[.a 229 false 1 Nat fI z],1,[(0,di xs),(1,di o),(5,.aK 0 1 0 xs.length xs.length),(9,.i .u64 (((xs[i]+18446744073709551616-c-y)%18446744073709551616:Nat):Int)),(7,.aa i),(13,di xs),(14,.aa xs.length),(15,.aa i)]⟩) ?_ ?_
  ·refine cG (λA=>?_) λA=>?_
   ·have A:i<o.length:=by simpa using A
    have G:o[i]? =some o[i]:=a0 A;have K:=O _<|dx A;exact I 4<|fc o[i] G j<|I 5<|bW [0] o[i] ⟨K,hZ A⟩ bB
   ·have A:o.length<=i:=by simpa using A
    exact I 1<|bW [0] 0 ⟨al,by rw[jP R,jP A];simp⟩ bB
  rintro y ⟨a',T⟩;generalize ab:(xs[i]+18446744073709551616-c-y)%18446744073709551616=t;refine I 6<|k4 j j<|kE (t%4294967296) ?_;refine I 13<|bW [0] (i+1,z.set i<|t%4294967296,t/9223372036854775808) ⟨by show xs.length-(i+1)<xs.length-i;omega,R,by simp[E],lZ D _<|eG _ al,R,?_⟩ bB;rw[hZ (l:=z.set i _) dA,hZ h,T,me<|cn _,lJ,fD];exact VZ C R
 ·have h:i=xs.length:=by have:xs.length<=i:=by omega
                         omega
  subst h;refine I 8<|kn 43 ?_;refine aV sZ z ⟨D,R⟩<|I 4<|an (az j j<|.of ?_);show da _=da _;congr 1;rw[jP<|cn _,jP (l:=z) R,jP S]at C;have M:=j9 D;rw[E]at M;have Y:c=0:=by
   rcases fS 0 c with h|h
   ·have:c=1:=by omega
    rw[this]at C;omega
   ·omega
  rw[Y]at C;show _=a-b;omega
def zo:bl:=b3 λ((a,b):Nat×Nat)=>([da a,da b],dP 1073741824 a/\dP 1073741824 b,.aa<|iK a b)
def zp(h:a<b):iK a b= -1:=by unfold iK;rw[aE h]
def Gk(h:b<a):iK a b=1:=by unfold iK;rw[aw R,aw R]
def V5(a:Nat):iK a a=0:=by unfold iK;simp
def Gl{l:ac Nat}{m:Nat}(h:m<l.length):l=l.take m++l[m]::l.drop (m+1):=by
 rw[<-gp h,ob]
def Gm:bt 64 zo:=by
 refine bR [] Tr.1 ?_;intro⟨a,b⟩ ⟨(N:(aW _ a).length<=_),(Q:(aW _ b).length<=_)⟩ H au;have C:=gL (b:=4294967296) al a;have D:=gL (b:=4294967296) al b;have K:=sW (b:=4294967296) al a;have M:=sW (b:=4294967296) al b;have A:=gl (b:=4294967296) al a;have m6:=gl (b:=4294967296) al b;show b5.ok _ ⟨_,_,⟨_,_,[(0,di<|aW 4294967296 a),(1,di<|aW 4294967296 b)]⟩⟩;generalize aW 4294967296 a=xs at *;generalize aW 4294967296 b=l at *;have fin:∀{r:Int},iK a b=r->bJ (.aa r) (zo.res (a,b)):=λh=>by rw[<-h];exact .refl _
 refine I 15<|cG (λh=>?_) λh=>?_
 ·have h:xs.length≠l.length:=by omega
  refine I 10<|cG (λh=>?_) λh=>?_
  ·have h:xs.length<l.length:=by omega
   refine I 8 ?_;have:=Gh (b:=4294967296) al C M h;exact an<|az j j<|fin<|zp R
  ·have h:l.length<xs.length:=by have:l.length<=xs.length:=by omega
                                 omega
   refine I 9 ?_;have:=Gh (b:=4294967296) al D K h;exact an<|az j j<|fin<|Gk R
 have h:xs.length=l.length:=R
 refine I 12<|eu (L:=Nat) (λk=>k<=xs.length/\xs.drop k=l.drop k) (λ(k:Nat)=>⟨[],0,[(0,di xs),(1,di l),(5,.aa<|(k:Int)-1)]⟩) id [] xs.length ⟨cn _,by rw[sn,h,sn]⟩ (by show xs.length<bx+1;unfold bx;omega) bB ?_;rintro(k:Nat) ⟨S,t⟩;cases k with
 |zero=>
  exact I 19<|an (az j j (fin<|by simp at t;rw[t]at A;rw[<-A,<-m6];exact V5 _))
 |succ m=>
  have o:m<xs.length:=R
  have z:m<l.length:=R
  have e:((m+1:Nat):Int)-1=(m:Nat):=R
  refine aP 5 (.aa (m:Nat)) j (fu e)<|I 16<|aP 20 (.b true) j av<|ks xs[m] (a0 o) j<|I 3<|ks l[m] (a0 z) j<|I 4 ?_;have E:=Gl o;have F:=Gl z;refine cG (λh=>?_) λh=>?_
  ·have O:xs[m]≠l[m]:=by omega
   refine I 5<|ks xs[m] (a0 o) j<|I 3<|ks l[m] (a0 z) j<|I 4<|cG (λh=>?_) λh=>?_
   ·have aT:xs[m]<l[m]:=by omega
    refine I 12<|an (az j j<|fin<|zp ?_);rw[<-A,<-m6,E,F,t];exact Gi (λx o=>C x<|p4 o) dA aT
   ·have aT:l[m]<xs[m]:=by have:l[m]<=xs[m]:=by omega
                           omega
    refine I 13<|an (az j j<|fin<|Gk ?_);rw[<-A,<-m6,E,F,t];exact Gi (λx o=>D x<|p4 o) dA aT
  ·have G:xs[m]=l[m]:=by omega
   refine I 8<|bW [] m ⟨av,R,?_⟩ bB;rw[gp o,gp z,G,t]
def LW{x y:Nat}(aS:c<4294967296)(j:x<4294967296)(D:y<4294967296)(E:U<4294967296):x*y<18446744073709551616/\x*y+U<18446744073709551616/\c+(x*y+U)<18446744073709551616:=by
 have l:x*y<=4294967295*4294967295:=Af R R;omega
theorem V6{P Q ai x y:Nat}(D:P=Q*ai)(h:U+P*c=a+Q*(x*b)):U+P*((c+(x*y+d))%B)+P*B*((c+(x*y+d))/B)=a+P*d+Q*(x*(b+ai*y)):=by
 have j:P*(c+(x*y+d))=P*((c+(x*y+d))%B)+P*B*((c+(x*y+d))/B):=by
  rw[h9,<-ia,Ae]
 have l:Q*(x*(b+ai*y))=Q*(x*b)+P*(x*y):=by grind
 rw[ia,ia]at j;omega
def uH:bl:=b3 λ((a,b):Nat×Nat)=>([da a,da b],dP 1073741824 a/\dP 1073741824 b,da<|a*b)
def Gn:dY bS.ctx 61 uH.jb:=by
 refine V0 [(128,sY)] Tp.1 ?_;intro⟨a,b⟩ ⟨(ar:(aW _ a).length<=_),(ax:(aW _ b).length<=_)⟩ H au;have ah:=gL (b:=4294967296) al a;have ai:=gL (b:=4294967296) al b;have aj:=gl (b:=4294967296) al a;have m6:=gl (b:=4294967296) al b;show b5.ok _ ⟨_,_,⟨_,_,[(0,di<|aW 4294967296 a),(1,di<|aW 4294967296 b)]⟩⟩;generalize aW 4294967296 a=xs at *;generalize aW 4294967296 b=o at *;refine I 12<|cd 15 ((xs.length+o.length:Nat):Int)<|oE fI 0 ?_;refine I 12 ?_;refine eu (L:=Nat×ac Nat) (λ(i,t)=>i<=xs.length/\t.length=xs.length+o.length/\Ok 4294967296 t/\val 4294967296 (t.take<|i+o.length)=val 4294967296 (xs.take i)*val 4294967296 o)
  (λ((i:Nat),(t:ac Nat))=>⟨[.a 229 false 1 Nat fI t],1,[(1,di o),(5,.aK 0 1 0 (xs.length+o.length)<|xs.length+o.length),(17,di xs),(18,.aa xs.length),(19,.aa i)]⟩)
  (λl=>xs.length-l.1) [0] (0,List.replicate (xs.length+o.length) 0) ⟨R,av,r9 al _,by simp[val,val_zero]⟩ (by show xs.length-0<bx+1;unfold bx;omega) bB ?_
 rintro⟨i,t⟩ ⟨af,ak,F,A⟩;refine I 6<|cG (λh=>?_) λh=>?_
 ·have h:i<xs.length:=by omega
  have ao:=ah _<|dx h;refine I 7<|fc xs[i] (a0 h) j<|I 19 ?_;refine eu (L:=Nat×ac Nat×Nat) (λ(J,os,c)=>J<=o.length/\os.length=xs.length+o.length/\Ok 4294967296 os/\c<4294967296/\(∀k,i+J<=k->os[k]? =t[k]?)/\val 4294967296 (os.take<|i+J)+4294967296^(i+J)*c=val 4294967296 (t.take<|i+J)+4294967296^i*(xs[i]*val 4294967296 (o.take J)))
   (λ((J:Nat),(os:ac Nat),(c:Nat))=>⟨[.a 229 false 1 Nat fI os],1,[(1,di o),(5,.aK 0 1 0 (xs.length+o.length)<|xs.length+o.length),(17,di xs),(18,.aa xs.length),(19,.aa i),(6,.aa i),(7,.i .u32 (xs[i]:Nat)),(8,.i .u64 c),(24,di o),(25,.aa o.length),(26,.aa J)]⟩)
   (λl=>o.length-l.1) [0] (0,t,0) ⟨R,ak,F,R,λ_ _=>j,by simp[val]⟩ (by show o.length-0<bx+1;unfold bx;omega) bB ?_
  rintro⟨J,os,c⟩ ⟨K,E,D,G,M,N⟩;refine I 6<|cG (λz=>?_) λz=>?_
  ·have z:J<o.length:=by omega
   have O:=ai _<|dx z;have C:i+J<os.length:=R
   have Q:os[i+J]=t[i+J]:=by
    have:=M (i+J)<|cn _;rw[a0 C,a0 R]at this;exact Option.some.inj this
   have S:=D _<|dx C;obtain⟨ad,Z,a2⟩:=LW G ao O S;refine I 7<|fc o[J] (a0 z) j<|I 17<|cd 40 ((i+J:Nat):Int)<|k4 j j<|nP os[i+J] (a0 C) ?_
   iterate 3 refine fz j ?_
   refine aP 45 (.i .u64 ((c+(xs[i]*o[J]+os[i+J]):Nat):Int)) j (fu ?_) ?_
   ·have Y:xs[i]%18446744073709551616=xs[i]:=by omega
    have ab:o[J]%18446744073709551616=o[J]:=R
    have a':os[i+J]%18446744073709551616=os[i+J]:=R
    rw[Y,ab,a',gn ad,gn Z,gn a2]
   refine I 11<|cd 49 ((i+J:Nat):Int) ?_;generalize ae:c+(xs[i]*o[J]+os[i+J])=T at *;refine k4 j j<|kE (T%4294967296) ?_;refine I 13 ?_;refine bW [0] (J+1,os.set (i+J)<|T%4294967296,T/4294967296) ⟨by show o.length-(J+1)<o.length-J;omega,R,by simp[E],lZ D _<|eG _ al,R,λk ay=>by rw[mU R];exact M k R,?_⟩
    bB
   rw[<-q7,hZ (l:=os.set (i+J) _) dA,hZ (l:=t) R,hZ z,me<|cn _,lJ,fD,<-Q,<-ae];exact V6 (by rw[h8]) N
  ·have K:J=o.length:=by omega
   subst K;refine I 13<|cd 60 ((i+o.length:Nat):Int)<|k4 j j<|kE (c%4294967296) ?_;refine I 7<|bW [0] (i+1,os.set (i+o.length)<|c%4294967296) ⟨by show xs.length-(i+1)<xs.length-i;omega,R,by simp[E],lZ D _<|eG _ al,?_⟩ bB;rw[show i+1+o.length=i+o.length+1 by omega,hZ (l:=os.set _ _) dA,me<|cn _,lJ,gn G,N,A,hZ h,jP<|cn _,e2,h9]
 ·have af:i=xs.length:=by omega
  subst af;refine I 8<|af2 65 ?_;refine af1 sZ t ⟨F,R⟩ ?_;refine I 4<|an (FN j<|.of ?_);show gk _ (da _)=gk _ (da _);congr 2;rw[jP (l:=xs)<|cn _,jP (l:=t) R]at A;rw[A,aj,m6]
def s0:bt 61 uH:=Gn.R1
def V7{X O x:Nat}(h:X=O*d+r):x+B*X=((r*B+x)/d+B*O)*d+(r*B+x)%d:=by
 have j:=p6 (r*B+x) d;rw[e2,h,h9,fT (_/d) d,ia,fT r B]at *;omega
def V8{x:Nat}(j:r<d)(D:x<B):(r*B+x)/d<B:=by
 rw[xT R];have:(r+1)*B<=d*B:=hA _ j;rw[fT B d];rw[e2]at this;omega
def V9{x k:Nat}(j:x<2^k):h*2^k|||x=h*2^k+x:=by
 rw[fT,<-NY j]
def LX{x:Nat}(D:r<4294967296)(j:x<4294967296):(r*2^32%18446744073709551616%18446744073709551616|||x%18446744073709551616%18446744073709551616)=r*4294967296+x:=by
 have l:r*2^32%18446744073709551616%18446744073709551616=r*2^32:=R
 have o:x%18446744073709551616%18446744073709551616=x:=R
 rw[l,o,V9 j]
def LY:bl:=b3 λ((a,b):Nat×Nat)=>([da a,.i .u32 b],dP 1073741824 a/\0<b/\b<4294967296,.bq [da<|a/b,.i .u32 ((a%b:Nat):Int)])
def Wa:bt 172 LY:=by
 refine bR [(128,sY)] Ui.1 ?_;intro⟨a,d⟩ ⟨(Q:(aW _ a).length<=_),(z:0<d),(S:d<_)⟩ H au;have I:=gL (b:=4294967296) al a;have E:=gl (b:=4294967296) al a;show b5.ok _ ⟨_,_,⟨_,_,[(0,di<|aW 4294967296 a),(1,.i .u32 d)]⟩⟩;generalize aW 4294967296 a=xs at *;refine st ?_;refine oE fI 0<|st ?_;refine eu (L:=Nat×ac Nat×Nat) (λ(k,o,r)=>k<=xs.length/\o.length=xs.length/\Ok 4294967296 o/\r<d/\val 4294967296 (xs.drop k)=val 4294967296 (o.drop k)*d+r)
  (λ((k:Nat),(o:ac Nat),(r:Nat))=>⟨[.a 229 false 1 Nat fI o],1,[(0,di xs),(1,.i .u32 d),(4,.aK 0 1 0 xs.length xs.length),(6,.i .u64 r),(7,.aa<|(k:Int)-1)]⟩)
  (λl=>l.1) [0] (xs.length,List.replicate xs.length 0,0) ⟨R,av,r9 al _,z,by simp[val]⟩ (by show xs.length<bx+1;unfold bx;omega) bB ?_
 rintro⟨k,o,r⟩ ⟨Z,M,D,C,t⟩;cases k with
 |zero=>
  refine st ?_;refine kn 38 ?_;refine aV sZ o ⟨D,R⟩<|st ?_;rw[iQ,iQ]at t;have K:a/d=val 4294967296 o:=by rw[<-E,t,fT];rw[Nat.mul_add_div z,p5 C];omega
  have hm:a%d=r:=by rw[<-E,t,fT,Nat.mul_add_mod,gn C]
  exact an (az j j<|.bq ⟨.of<|by show da _=da (a/d);rw[K],.of (fu<|by show((r%4294967296:Nat):Int)=((a%d:Nat):Int);omega),aC⟩)
 |succ m=>
  have A:m<xs.length:=R
  have F:=I _<|dx A;have N:=V8 C F;have Y:r*4294967296+xs[m]<18446744073709551616:=by
   have:(r+1)*4294967296<=4294967296*4294967296:=hA _ R;omega
  refine aP 7 (.aa (m:Nat)) j fu<|st ?_;refine aP 15 (.b true) j av<|st ?_;refine pG xs[m] (a0 A) ?_
  iterate 3 refine fz j ?_
  refine aP 25 (.i .u64 ((r*4294967296+xs[m]:Nat):Int)) j (fu<|congrArg _<|LX R F) ?_;generalize O:r*4294967296+xs[m]=T at *;refine st ?_;refine aP 30 (.i .u64 (d:Nat)) j fu ?_;refine aeJ<|st ?_;refine y3 ?_;refine kE (T/d%4294967296)<|st ?_;refine aP 36 (.i .u64 (d:Nat)) j fu ?_;refine aeK<|st ?_;have G:xs.drop m=xs[m]::xs.drop (m+1):=gp A;refine bW [0] (m,o.set m<|T/d%4294967296,T%d) ⟨av,R,by simp[M],lZ D _<|eG _ al,eG _ z,?_⟩ bB;rw[G,gp (l:=o.set m _) dA,lJ,zY R,gn N,<-O];exact V7 t
def Wb{x:Nat}(D:s<32)(cA:h<2^s):h|||(x*2^s)%4294967296=h+(x*2^s)%4294967296:=by
 have e:4294967296=2^s*2^(32-s):=by rw[<-h8,show s+(32-s)=32 by omega]
 have j:(x*2^s)%4294967296=2^s*(x%2^(32-s)):=by rw[e,fT x,Nat.mul_mod_mul_left]
 rw[j,Nat.or_comm,<-NY cA,tv]
def Gp(j:s<32):2^s<=2147483648:=by
 have:2^s<=2^31:=jG al R;exact this
def akF{x:Nat}(j:s<32)(D:x<4294967296):x*2^s<9223372036854775808:=by
 have l:x*2^s<=4294967295*2147483648:=Af R<|Gp j;omega
def akG{x:Nat}(j:x<4294967296):x*2^s/4294967296<2^s:=by
 have l:=la s;rw[xT al,fT];exact(Nat.mul_lt_mul_left l).2 j
def akH{P:Nat}(j:U+P*h=a):U+P*(h+v%4294967296)+P*4294967296*(v/4294967296)=a+P*v:=by
 have l:P*v=P*(v%4294967296)+P*4294967296*(v/4294967296):=by
  rw[h9,<-ia];congr 1;omega
 rw[ia];omega
def LZ(n:Nat):2^n=2^(n%32)*4294967296^(n/32):=by
 rw[show 4294967296=2^32 from rfl,<-re,<-h8];congr 1;omega
theorem Wc{k:Nat}(h:k<9223372036854775808):ag.aa (IntKind.i64.wrap<|(k:Int).tdiv 32)=ag.aa ((k/32:Nat):Int):=eM j (by grind)<|by grind
def Gq:bl:=b3 λ((a,b):Nat×Nat)=>([da a,.aa b],dP 1073741824 a/\b<34359738368,da<|a*2^b)
def zq:bt 217 Gq:=by
 refine bR [(128,sY)] Ur.1 ?_;intro⟨a,n⟩ ⟨(ad:(aW _ a).length<=_),(ah:n<_)⟩ H au;have Y:=gL (b:=4294967296) al a;have F:=gl (b:=4294967296) al a;show b5.ok _ ⟨_,_,⟨_,_,[(0,di<|aW 4294967296 a),(1,.aa n)]⟩⟩;generalize aW 4294967296 a=xs at *;refine I 13<|cG (λh=>?_) λh=>?_
 ·have T:xs=[]:=nr R;subst T;have:a=0:=F.symm;subst this;exact I 7<|an (az j j<|bJ.nl.trans (.of<|by show di []=da (0*2^n);rw[jk];show _=di (aW _ 0);rw[gK]))
 iterate 2 refine fz j ?_
 refine fz j ?_;refine fz j ?_;refine fz j ?_;refine fz j ?_;refine fz j ?_;refine aP 15 _ j (Wc R) ?_
 iterate 3 refine fz j ?_
 refine cg 17 (fu j) ?_;generalize Z:n/32=q;have t:n%32<32:=eG _ al;have G:=LZ n;rw[Z]at G;generalize n%32=s at *;refine I 10<|aP 23 (.aa ((xs.length+q+1:Nat):Int)) j (by rw[fP (n:=(xs.length:Int)+q) R R];exact eM)<|oE fI 0 ?_;refine I 12 ?_;refine eu (L:=Nat×ac Nat) (λ(i,o)=>i<=xs.length/\o.length=xs.length+q+1/\Ok 4294967296 o/\(∃h,o[i+q]? =some h/\h<2^s)/\val 4294967296 (o.take<|i+q+1)=val 4294967296 (xs.take i)*(2^s*4294967296^q))
  (λ((i:Nat),(o:ac Nat))=>⟨[.a 229 false 1 Nat fI o],1,[(5,.aa q),(6,.i .u64 s),(7,.aK 0 1 0 (xs.length+q+1)<|xs.length+q+1),(25,di xs),(26,.aa xs.length),(27,.aa i)]⟩)
  (λl=>xs.length-l.1) [0] (0,List.replicate (xs.length+q+1) 0) ⟨R,av,r9 al _,⟨0,by rw[H5,aE R],la s⟩,by rw[List.take_replicate,val_zero];simp[val]⟩ (by show xs.length-0<bx+1;unfold bx;omega) bB ?_
 rintro⟨i,o⟩ ⟨af,ab,D,⟨h,E,C⟩,z⟩;refine I 6<|cG (λaT=>?_) λaT=>?_
 ·have aT:i<xs.length:=by omega
  have K:=Y _<|dx aT;have ae:=akF t K;have N:=akG (s:=s) K;have a2:=Gp t;refine I 7<|fc xs[i] (a0 aT) j ?_
  iterate 3 refine fz j ?_
  iterate 3 refine fz j ?_
  iterate 3 refine fz j ?_
  iterate 2 refine fz j ?_
  refine aP 35 (.i .u64 ((xs[i]*2^s:Nat):Int)) j (fu ?_) ?_
  ·rw[gn (a:=xs[i]) R,gn R]
  generalize A:xs[i]*2^s=V at *;refine I 9<|cd 39 ((i+q:Nat):Int)<|k4 j j<|nP h E ?_
  iterate 3 refine fz j ?_
  refine aP 44 (.i .u32 ((h+V%4294967296:Nat):Int)) j (fu ?_) ?_
  ·rw[gn (a:=h) R,Nat.mod_mod,<-A,Wb t C]
  have a':h+V%4294967296<4294967296:=by
   rw[<-A,<-Wb t C];exact Nat.or_lt_two_pow (n:=32) R<|eG _ al
  generalize Q:h+V%4294967296=qx at *;refine k4 j j<|kE qx ?_;refine I 11<|aP 50 (.aa ((i+q+1:Nat):Int)) j (by rw[fP (n:=(i:Int)+q) R R];exact eM)<|k4 j j<|kE (V/2^32%4294967296) ?_;refine I 7 ?_;have S:V/2^32%4294967296=V/4294967296:=R
  rw[S];refine bW [0] (i+1,(o.set (i+q) qx).set (i+q+1)<|V/4294967296) ⟨by show xs.length-(i+1)<xs.length-i;omega,R,by simp[ab],lZ (lZ D _ a') _ R,⟨V/4294967296,by rw[show i+1+q=i+q+1 by omega,Dh dA],N⟩,?_⟩
   bB
  have O:val 4294967296 (o.take<|i+q)+4294967296^(i+q)*h=val 4294967296 (xs.take i)*(2^s*4294967296^q):=by
   rw[<-z,hZ R];congr 2;exact(Option.some.inj<|(a0 R).symm.trans E).symm
  have M:=akH (v:=V) O;rw[show i+1+q+1=i+q+1+1 by omega,hZ dA,lJ,me<|cn _,hZ dA,lJ,me<|cn _,hZ aT,<-Q,fD,M,<-A,e2,h8];congr 1
  ac_rfl
 ·have af:i=xs.length:=by omega
  subst af;refine I 8<|kn 56 ?_;refine aV sZ o ⟨D,R⟩<|I 4<|an (az j j<|.of ?_);show da _=da _;congr 1;rw[jP (l:=xs)<|cn _,jP (l:=o) R]at z;rw[z,F,<-G]
def pJ{l:ac Nat}(h:Ok b l)(k:Nat):Ok b (l.take k):=λx j=>h x<|p4 j
def uI{l:ac Nat}(h:Ok b l)(k:Nat):Ok b (l.drop k):=λx j=>h x<|xU j
def Gr{l:ac Nat}{k:Nat}(ax:k<=l.length):val b l=val b (l.take k)+b^k*val b (l.drop k):=by
 have:=lC b (l.take k)<|l.drop k;rw[ob,iF,jF ax]at this;exact this
def Wd(aA:0<b){l:ac Nat}(h:Ok b l){k:Nat}(ax:k<=l.length):val b l/b^k=val b (l.drop k):=by
 have j:=j9<|pJ h k;rw[iF,jF ax]at j;rw[Gr ax,xS _ _ R,p5 j,iE]
def akI{W ai:Nat}(D:s<32)(j:W=v+18446744073709551616*ai):(W/2^s)%4294967296=(v/2^s)%4294967296:=by
 have e:18446744073709551616*ai=2^s*(4294967296*(2^(32-s)*ai)):=by
  rw[show 18446744073709551616=4294967296*2^32 from rfl,show 2^32=2^s*2^(32-s) by rw[<-h8,show s+(32-s)=32 by omega]]
  ac_rfl
 rw[j,e,xS _ _<|la s,Dg]
def We:bl:=b3 λ((a,b):Nat×Nat)=>([da a,.aa b],dP 1073741824 a/\b<9223372036854775808,da<|a/2^b)
def akJ:bt 220 We:=by
 refine bR [(128,sY)] Ut.1 ?_;intro⟨a,n⟩ ⟨(aj:(aW _ a).length<=_),(ah:n<_)⟩ H au;have t:=gL (b:=4294967296) al a;have Z:=gl (b:=4294967296) al a;show b5.ok _ ⟨_,_,⟨_,_,[(0,di<|aW 4294967296 a),(1,.aa n)]⟩⟩;generalize aW 4294967296 a=xs at *
 iterate 3 refine fz j ?_
 iterate 3 refine fz j ?_
 iterate 3 refine fz j ?_
 refine aP 11 _ j (Wc R) ?_
 iterate 2 refine fz j ?_
 refine aP 13 (.aa ((n%32:Nat):Int)) j (fu j) ?_;generalize Y:n/32=q;have M:n%32<32:=eG _ al;have I:=LZ n;rw[Y]at I;generalize n%32=s at *;refine st ?_;have G:a/2^n=a/4294967296^q/2^s:=by rw[I,fT,p7]
 refine cG (λh=>?_) λh=>?_
 ·refine st ?_;have ar:=j9 t;have ak:4294967296^xs.length<=4294967296^q:=jG al R;exact an<|az j j<|bJ.nl.trans (.of<|by show di []=da (a/2^n);rw[G,p5 (show a<4294967296^q by omega),Nat.zero_div];show _=di (aW _ 0);rw[gK])
 have ad:q<xs.length:=R
 refine st ?_;refine cd 22 ((xs.length-q:Nat):Int) ?_;refine oE fI 0<|st ?_;have O:a/4294967296^q=val 4294967296 (xs.drop q):=by rw[<-Z,Wd al t R]
 have E:=j9<|uI t q;rw[k7]at E;generalize ao:xs.length-q=N at *;refine eu (L:=Nat×ac Nat) (λ(i,o)=>i<=N/\o.length=N/\Ok 4294967296 o/\val 4294967296 (o.take i)=(val 4294967296 (xs.drop q)/2^s)%4294967296^i)
  (λ((i:Nat),(o:ac Nat))=>⟨[.a 229 false 1 Nat fI o],1,[(0,di xs),(5,.aa q),(6,.i .u64 s),(7,.aK 0 1 0 N N),(25,.aa N),(26,.aa i)]⟩)
  (λl=>N-l.1) [0] (0,List.replicate N 0) ⟨R,av,r9 al _,by simp[val,Di]⟩ (by show N-0<bx+1;unfold bx;omega) bB ?_
 rintro⟨i,o⟩ ⟨af,a',F,C⟩;refine st ?_;refine cG (λaT=>?_) λaT=>?_
 ·have A:i+q<xs.length:=by omega
  have ab:=t _<|dx A;refine st ?_;refine cd 32 ((i+q:Nat):Int) ?_;refine pG xs[i+q] (a0 A) ?_
  iterate 2 refine fz j ?_
  refine aP 35 (.i .u64 (xs[i+q]:Nat)) j fu<|st ?_;refine gQ (λ(v:Nat)=>∃ai,val 4294967296 (xs.drop<|i+q)=v+18446744073709551616*ai) (λ(v:Nat)=>⟨[.a 229 false 1 Nat fI o],1,[(9,.i .u64 v),(8,.aa i),(0,di xs),(5,.aa q),(6,.i .u64 s),(7,.aK 0 1 0 N N),(25,.aa N),(26,.aa i)]⟩) ?_ ?_
  ·have D:IntKind.i64.wrap (IntKind.i64.wrap ((i:Int)+q)+1)=((i+q+1:Nat):Int):=by rw[fP (n:=(i:Int)+q) R R,fP]<;>omega
   rw[D];refine cG (λz=>?_) λz=>?_
   ·have z:i+q+1<xs.length:=by omega
    have ae:=t _<|dx z;refine st ?_;refine aP 48 (.aa ((i+q+1:Nat):Int)) j (fu D) ?_;refine pG xs[i+q+1] (a0 z) ?_;refine st ?_;refine bW [0] (xs[i+q]+4294967296*xs[i+q+1]) ⟨val 4294967296<|xs.drop<|i+q+1+1,?_⟩<|bB (aL:=⟨rL<|congrArg _ ?_,j,j,j,j,j,j,j,aC⟩)
    ·rw[gp A,gp z,val,val];omega
    ·have K:xs[i+q+1]%18446744073709551616*2^32%18446744073709551616%18446744073709551616=xs[i+q+1]*2^32:=by omega
     have T:xs[i+q]%18446744073709551616=xs[i+q]:=R
     rw[K,T,Nat.or_comm,V9 (k:=32) ab];omega
   ·refine st ?_;refine bW [0] xs[i+q] ⟨0,?_⟩ bB;rw[gp A,xN R,val,val]
  rintro(v:Nat) ⟨ai,S⟩;refine st ?_;refine aeL<|st ?_;refine y3 ?_;refine kE (v/2^s%4294967296)<|st ?_;refine bW [0] (i+1,o.set i<|v/2^s%4294967296) ⟨by show N-(i+1)<N-i;omega,R,by simp[a'],lZ F _<|eG _ al,?_⟩ bB;rw[hZ dA,me<|cn _,lJ,C,fD,Nat.mod_mul,<-akI M S,p7,fT<|2^s,<-p7,Wd al (uI t q) dA,p3,tv q i]
 ·have Q:i=N:=by omega
  subst Q;refine st ?_;refine kn 62 ?_;refine aV sZ o ⟨F,R⟩<|st ?_;refine an<|az j j<|.of ?_;show da _=da _;congr 1;rw[jP (l:=o) R,gn<|mf (jW _ _) E]at C;show _=a/2^n;rw[C,G,O]
def bE(n:Nat):Nat:=if n=0 then 0 else Nat.log2 n+1
def uJ(h:1<=n):bE n=bE (n/2)+1:=by
 unfold bE;rw[aw R];by_cases j:n/2=0
 ·rw[aE j];have:n=1:=by omega
  subst this;rfl
 ·rw[aw j,Nat.log2_def,aE R]
theorem Cc:∀(k n:Nat),2^k<=n->bE n=bE (n/2^k)+k
 |0,n,_=>by simp
 |k+1,n,h=>by
  have bX:2^(k+1)=2*2^k:=R
  have hp:=la k;rw[uJ R,Cc k (n/2) R,p7,bX];omega
def qM(h:n≠0):2^(bE n-1)<=n/\n<2^bE n:=by
 unfold bE;rw[aw h];exact⟨Nat.log2_self_le h,Nat.lt_log2_self⟩
def akK{n k:Nat}(aF:2^k<=n)(aL:n<2^(k+1)):bE n=k+1:=by
 have j:n≠0:=R
 obtain⟨a,b⟩:=qM j;have:=(vy R).1<|mf aF b;have:=(vy R).1<|mf a aL;omega
def o6:bl:=b3 λ(n:Nat)=>([.i .u32 n],n<4294967296,.aa (bE n:Nat))
def Wf:bt 304 o6:=by
 refine bR [] TP.1 ?_;intro(n:Nat) (ah:n<4294967296) H au;refine I 12<|gQ (λ((m:Nat),(k:Nat))=>m<65536/\k<=16/\bE n=bE m+k) (λ(m,k)=>⟨[],0,[(0,.i .u32 m),(2,.aa k)]⟩) ?_ ?_
 ·refine cG (λh=>?_) λh=>?_
  ·exact I 10<|bW [] (n/65536,16) ⟨R,al,Cc 16 n R⟩ bB
  ·exact I 1<|bW [] (n,0) ⟨R,al,j⟩ bB
 rintro⟨m,k⟩ ⟨hm,o,l⟩;refine I 7<|gQ (λ((m:Nat),(k:Nat))=>m<256/\k<=24/\bE n=bE m+k) (λ(m,k)=>⟨[],0,[(0,.i .u32 m),(2,.aa k)]⟩) ?_ ?_
 ·refine cG (λh=>?_) λh=>?_
  ·exact I 12<|bW [] (m/256,k+8) ⟨R,R,by rw[l,Cc 8 m R,show(2:Nat)^8=256 from rfl];omega⟩ bB
  ·exact I 1<|h4 [] (m,k) ⟨R,l⟩
 rintro⟨m,k⟩ ⟨hm,o,l⟩;refine I 5<|aP 15 (.i .u8 (m:Nat)) j fu ?_;have x1:∀m,m<256->([0,1,2,2,3,3,3,3,4,4,4,4,4,4,4,4,5,5,5,5,5,5,5,5,5,5,5,5,5,5,5,5,6,6,6,6,6,6,6,6,6,6,6,6,6,6,6,6,6,6,6,6,6,6,6,6,6,6,6,6,6,6,6,6,7,7,7,7,7,7,7,7,7,7,7,7,7,7,7,7,7,7,7,7,7,7,7,7,7,7,7,7,7,7,7,7,7,7,7,7,7,7,7,7,7,7,7,7,7,7,7,7,7,7,7,7,7,7,7,7,7,7,7,7,7,7,7,7,8,8,8,8,8,8,8,8,8,8,8,8,8,8,8,8,8,8,8,8,8,8,8,8,8,8,8,8,8,8,8,8,8,8,8,8,8,8,8,8,8,8,8,8,8,8,8,8,8,8,8,8,8,8,8,8,8,8,8,8,8,8,8,8,8,8,8,8,8,8,8,8,8,8,8,8,8,8,8,8,8,8,8,8,8,8,8,8,8,8,8,8,8,8,8,8,8,8,8,8,8,8,8,8,8,8,8,8,8,8,8,8,8,8,8,8,8,8,8,8,8,8,8,8,8,8,8,8]:ac ci)[m]? =some (UInt8.ofNat<|bE m)/\bE m<=8:=by decide +kernel
 obtain⟨t,z⟩:=x1 m hm;refine mH _ t<|I 6 ?_;have e:(UInt8.ofNat<|bE m).toNat=bE m:=by simp;omega
 rw[e];refine an<|az j j<|.of ?_;show ag.i _ _=ag.aa (bE n:Nat);rw[l,fP (n:=((bE m:Nat):Int)) R R];exact eM
def Wg:bl:=b3 λ(n:Nat)=>([.i .u32 n],n<4294967296,.aa ((32-bE n:Nat):Int))
def L0(h:n<4294967296):bE n<=32:=by
 by_cases j:n=0
 ·subst j;decide
 ·have:=(qM j).1;have:=(vy R).1<|mf this (show n<2^32 from h);omega
def akL:bt 216 Wg:=by
 refine bR [(304,o6)] Vf.1 ?_;intro n ah H au;refine I 8<|aV Wf n ah<|I 5 ?_;have:=L0 ah;exact an<|az j j<|.of eM
def mL(b:Nat):Nat->Nat->ac Nat
 |0,_=>[]
 |k+1,n=>n%b::mL b k (n/b)
theorem Cd(b:Nat):∀k n,(mL b k n).length=k
 |0,_=>rfl
 |k+1,n=>by simp[mL,Cd b k]
theorem Wh{b:Nat}(aA:0<b):∀k n,Ok b (mL b k n)
 |0,_=>λx j=>by simp[mL]at j
 |k+1,n=>λx j=>by
  rcases e1.1 j with rfl|j
  ·exact eG _ aA
  ·exact Wh aA k _ x j
theorem L1{b:Nat}:∀k n,val b (mL b k n)=n%b^k
 |0,n=>by simp[mL,val,Di]
 |k+1,n=>by rw[mL,val,L1 k,fD,fT (b^k) b,Nat.mod_mul]
theorem wU{b:Nat}(aA:0<b):∀{l:ac Nat} {n k:Nat},Ok b l->l.length=k->val b l=n->l=mL b k n
 |[],_,_,_,rfl,_=>rfl
 |d::l,_,_,h,rfl,rfl=>by
  have aF:=h d av;rw[hN,mL,val,Dg,gn aF,xS _ _ aA,p5 aF,iE,<-wU aA (λx o=>h x<|e5 _ o) j j]
def Wi{us os:ac Nat}{k:Nat}(aD:os.length=us.length)(ba:J+k<=us.length)(D:∀p,p<J\/J+k<=p->os[p]? =us[p]?):os=us.take J++((os.drop J).take k++us.drop (J+k)):=by
 apply p0;intro p;by_cases l:p<J
 ·rw[sk dA,n7,aE l];exact D p<|.inl l
 ·rw[vu dA,iF,jF R];by_cases o:p<J+k
  ·rw[sk dA,n7,aE R,oa];congr 1;omega
  ·rw[vu dA];have:((os.drop J).take k).length=k:=by simp;omega
   rw[this,oa,D p<|.inr R];congr 1;omega
def qN{l:ac Nat}(h:J+i<l.length):val b ((l.drop J).take<|i+1)=val b ((l.drop J).take i)+b^i*l[J+i]:=by
 rw[hZ dA,List.getElem_drop]
def g7(us:ac Nat)(J k n:Nat):ac Nat:=us.take J++(mL 4294967296 k n++us.drop (J+k))
def eJ(us:ac Nat)(J k:Nat):Nat:=val 4294967296<|(us.drop J).take k
def Wj:ev:=ko λ((us,J,l,g):ac Nat×Nat×ac Nat×Nat)=>([.a 229 false 1 Nat fI us],[.aK 0 1 J (us.length-J)<|us.length-J,di l,.i .u64 g],J+l.length<us.length/\Ok 4294967296 us/\Ok 4294967296 l/\g<4294967296/\us.length<=1099511627776,[.a 229 false 1 Nat fI<|g7 us J (l.length+1)<|eJ us J (l.length+1)+(if eJ us J (l.length+1)<g*val 4294967296 l then 4294967296^(l.length+1)else 0)-g*val 4294967296 l],.b<|decide (eJ us J (l.length+1)<g*val 4294967296 l))
def akM:bt 218 Wj:=by
 refine kH [] Vg.1 ?_;rintro⟨us,J,z,g⟩ ⟨aI,ay,az,ae,aN⟩ H i0 au af;obtain⟨aL,rfl⟩:∃b,i0=[b]:=mg.1 af;show b5.ok _ ⟨_,_,⟨[.a 229 false 1 Nat fI us],1,[(0,.aK 0 1 J (us.length-J)<|us.length-J),(1,di z),(2,.i .u64 g)]⟩⟩;refine I 20 ?_;refine eu (L:=Nat×ac Nat×Nat×Nat) (λ(i,os,c,w)=>i<=z.length/\os.length=us.length/\Ok 4294967296 os/\c<4294967296/\w<=1/\(∀p,p<J\/J+i<=p->os[p]? =us[p]?)/\eJ us J i+4294967296^i*(c+w)=eJ os J i+g*val 4294967296 (z.take i))
  (λ((i:Nat),(os:ac Nat),(c:Nat),(w:Nat))=>⟨[.a 229 false 1 Nat fI os],1,[(0,.aK 0 1 J (us.length-J)<|us.length-J),(1,di z),(2,.i .u64 g),(7,.i .u64 c),(8,.i .u64 w),(13,di z),(14,.aa z.length),(15,.aa i)]⟩)
  (λl=>z.length-l.1) [0] (0,us,0,0) ⟨R,j,ay,R,R,λ_ _=>j,by simp[eJ,val]⟩ (by show z.length-0<bx+1;unfold bx;omega) bB ?_
 rintro⟨i,os,c,w⟩ ⟨aF,Z,D,aA,aJ,E,C⟩;refine I 6<|cG (λh=>?_) λh=>?_
 ·have h:i<z.length:=by omega
  have a':=az _<|dx h;have A:J+i<os.length:=R
  have F:os[J+i]=us[J+i]:=by
   have:=E (J+i)<|.inr<|cn _;rw[a0 A,a0 R]at this;exact Option.some.inj this
  have ao:=D _<|dx A;obtain⟨ax,aG,aM⟩:=LW (U:=0) aA ae a' al;refine I 7<|fc z[i] (a0 h) j<|I 13<|aP 25 (.i .u64 ((c+g*z[i]:Nat):Int)) j (fu<|congrArg _ ?_) ?_
  ·rw[gn (a:=z[i]) R,gn ax,gn R]
  have aH:c+g*z[i]<18446744073709551616:=R
  generalize aD:c+g*z[i]=T at *;refine I 7<|mG ?_;refine nP os[J+i] (a0 A) ?_;refine I 7<|aP 36 (.i .u64 (((os[J+i]+18446744073709551616-T%4294967296-w)%18446744073709551616:Nat):Int)) j fu ?_;generalize ai:(os[J+i]+18446744073709551616-T%4294967296-w)%18446744073709551616=t at *;refine I 9<|mG ?_;refine kE (t%4294967296) ?_;refine I 20 ?_;refine bW [0] (i+1,os.set (J+i)<|t%4294967296,T/4294967296,t/9223372036854775808) ⟨by show z.length-(i+1)<z.length-i;omega,R,by simp[Z],lZ D _<|eG _ al,R,R,λp hp=>?_,?_⟩
   bB
  ·rw[mU R];exact E p R
  ·unfold eJ at C⊢;rw[qN R,qN (l:=os.set _ _) dA,lJ,hZ h,<-F,fD];have G:((os.set (J+i)<|t%4294967296).drop J).take i=(os.drop J).take i:=by
    rw[Dj];rw[aw R,show J+i-J=i by omega,me<|cn _]
   rw[G];have K:os[J+i]+4294967296*(t/9223372036854775808)=t%4294967296+T%4294967296+w:=R
   have ak:T=T%4294967296+4294967296*(T/4294967296):=R
   generalize t/9223372036854775808=w' at *;generalize T/4294967296=ar at *;generalize T%4294967296=fx at *;generalize t%4294967296=N at *;generalize 4294967296^i=P at *;have bH:P*(os[J+i]+4294967296*w')=P*(N+fx+w):=by rw[K]
   have av:P*(c+g*z[i])=P*(fx+4294967296*ar):=by rw[aD,ak]
   rw[ia g,Nat.mul_left_comm g P];simp only[ia,h9]at bH av C⊢;omega
 ·have af:i=z.length:=by omega
  subst af;have A:J+z.length<os.length:=R
  have F:os[J+z.length]=us[J+z.length]:=by
   have:=E (J+z.length)<|.inr<|cn _;rw[a0 A,a0 R]at this;exact Option.some.inj this
  have ao:=D _<|dx A;refine I 10<|mG ?_;refine nP os[J+z.length] (a0 A) ?_;refine I 5<|aP 56 (.i .u64 (((os[J+z.length]+18446744073709551616-c-w)%18446744073709551616:Nat):Int)) j fu ?_;generalize ai:(os[J+z.length]+18446744073709551616-c-w)%18446744073709551616=t at *;refine I 10<|mG ?_;refine kE (t%4294967296) ?_;refine I 11 ?_;have S:Ok 4294967296 (os.set (J+z.length)<|t%4294967296):=lZ D _<|eG _ al;have Y:(((os.set (J+z.length)<|t%4294967296).drop J).take<|z.length+1).length=z.length+1:=by simp;omega
  have aB:=j9<|pJ (uI S J)<|z.length+1;rw[Y]at aB;have ab:=Wi (us:=us) (os:=os.set (J+z.length)<|t%4294967296) (J:=J) (k:=z.length+1) (by simp[Z]) R (λp hp=>by rw[mU R];exact E p R);have ad:=wU (b:=4294967296) al (pJ (uI S J)<|z.length+1) Y j;generalize aj:val 4294967296 (((os.set (J+z.length)<|t%4294967296).drop J).take<|z.length+1)=O at *;have key:eJ us J (z.length+1)+4294967296^(z.length+1)*(t/9223372036854775808)=O+g*val 4294967296 z:=by
   rw[<-aj];unfold eJ at C⊢;rw[qN R,qN (l:=os.set _ _) dA,lJ,<-F,fD];have G:((os.set (J+z.length)<|t%4294967296).drop J).take z.length=(os.drop J).take z.length:=by
    rw[Dj];rw[aw R,show J+z.length-J=z.length by omega,me<|cn _]
   rw[G];rw[jP<|cn _]at C;have K:os[J+z.length]+4294967296*(t/9223372036854775808)=t%4294967296+c+w:=R
   generalize t/9223372036854775808=w' at *;generalize t%4294967296=N at *;generalize 4294967296^z.length=P at *;have bH:P*(os[J+z.length]+4294967296*w')=P*(N+c+w):=by rw[K]
   simp only[ia,h9]at bH C⊢;omega
  have Q:eJ us J (z.length+1)+(if eJ us J (z.length+1)<g*val 4294967296 z then 4294967296^(z.length+1)else 0)-g*val 4294967296 z=O/\(t/2^63=1↔eJ us J (z.length+1)<g*val 4294967296 z):=by
   rcases(show t/9223372036854775808=0\/t/9223372036854775808=1 by omega)with M|M
   ·rw[M]at key;rw[aw R];exact⟨R,R⟩
   ·rw[M]at key;rw[aE R];exact⟨R,R⟩
  refine an ⟨.inr j,⟨_,j,j,.of ?_⟩,[0],j,hV aC ⟨_,j,?_,λ_=>j⟩⟩
  ·show ag.b (decide (((t/2^63:Nat):Int)=1))=ag.b (decide (eJ us J (z.length+1)<g*val 4294967296 z));congr 1;rw[decide_eq_decide,<-Q.2];exact⟨λh=>R,λh=>R⟩
  ·show a4.a _ _ _ _ _ _=a4.a _ _ _ _ _ _;congr 1;rw[Q.1];unfold g7;rw[<-ad];exact ab
def Wk:ev:=ko λ((us,J,l):ac Nat×Nat×ac Nat)=>([.a 229 false 1 Nat fI us],[.aK 0 1 J (us.length-J)<|us.length-J,di l],J+l.length<us.length/\Ok 4294967296 us/\Ok 4294967296 l/\us.length<=1099511627776,[.a 229 false 1 Nat fI<|g7 us J (l.length+1)<|eJ us J (l.length+1)+val 4294967296 l],.bq [])
theorem L2{b:Nat}:∀k n,mL b k (n%b^k)=mL b k n
 |0,n=>rfl
 |k+1,n=>by
  rw[mL,mL,fD,fT (b^k) b,Nat.mod_mul_right_mod,Nat.mod_mul_right_div_self,L2]
def akN:bt 219 Wk:=by
 refine kH [] Us.1 ?_;rintro⟨us,J,o⟩ ⟨ah,Z,a',ak⟩ H i0 au af;obtain⟨aj,rfl⟩:∃b,i0=[b]:=mg.1 af;show b5.ok _ ⟨_,_,⟨[.a 229 false 1 Nat fI us],1,[(0,.aK 0 1 J (us.length-J)<|us.length-J),(1,di o)]⟩⟩;refine I 14 ?_;refine eu (L:=Nat×ac Nat×Nat) (λ(i,os,c)=>i<=o.length/\os.length=us.length/\Ok 4294967296 os/\c<=1/\(∀p,p<J\/J+i<=p->os[p]? =us[p]?)/\eJ os J i+4294967296^i*c=eJ us J i+val 4294967296 (o.take i))
  (λ((i:Nat),(os:ac Nat),(c:Nat))=>⟨[.a 229 false 1 Nat fI os],1,[(0,.aK 0 1 J (us.length-J)<|us.length-J),(1,di o),(4,.i .u64 c),(7,di o),(8,.aa o.length),(9,.aa i)]⟩)
  (λl=>o.length-l.1) [0] (0,us,0) ⟨R,j,Z,R,λ_ _=>j,by simp[eJ,val]⟩ (by show o.length-0<bx+1;unfold bx;omega) bB ?_
 rintro⟨i,os,c⟩ ⟨ad,N,C,ai,D,A⟩;refine I 6<|cG (λh=>?_) λh=>?_
 ·have h:i<o.length:=by omega
  have ab:=a' _<|dx h;have z:J+i<os.length:=R
  have E:os[J+i]=us[J+i]:=by
   have:=D (J+i)<|.inr<|cn _;rw[a0 z,a0 R]at this;exact Option.some.inj this
  have T:=C _<|dx z;refine I 7<|fc o[i] (a0 h) j<|I 10<|mG ?_;refine nP os[J+i] (a0 z) ?_;refine I 5<|aP 23 (.i .u64 ((c+os[J+i]+o[i]:Nat):Int)) j fu<|I 9<|mG ?_;refine kE ((c+os[J+i]+o[i])%4294967296) ?_;refine I 13 ?_;refine bW [0] (i+1,os.set (J+i)<|(c+os[J+i]+o[i])%4294967296,(c+os[J+i]+o[i])/4294967296) ⟨by show o.length-(i+1)<o.length-i;omega,R,by simp[N],lZ C _<|eG _ al,R,λp hp=>?_,?_⟩
   bB
  ·rw[mU R];exact D p R
  ·unfold eJ at A⊢;rw[qN (l:=us) R,qN (l:=os.set _ _) dA,lJ,hZ h,<-E,fD];have F:((os.set (J+i)<|(c+os[J+i]+o[i])%4294967296).drop J).take i=(os.drop J).take i:=by
    rw[Dj];rw[aw R,show J+i-J=i by omega,me<|cn _]
   rw[F];exact VY al A
 ·have af:i=o.length:=by omega
  subst af;have z:J+o.length<os.length:=R
  have E:os[J+o.length]=us[J+o.length]:=by
   have:=D (J+o.length)<|.inr<|cn _;rw[a0 z,a0 R]at this;exact Option.some.inj this
  have T:=C _<|dx z;refine I 9<|mG ?_;refine nP os[J+o.length] (a0 z) ?_;refine I 3<|aP 39 (.i .u32 (((os[J+o.length]+c)%4294967296:Nat):Int)) j fu ?_;generalize ae:(os[J+o.length]+c)%4294967296=t at *;refine mG ?_;refine kE t ?_;refine I 1 ?_;have G:Ok 4294967296 (os.set (J+o.length) t):=lZ C _ R;have K:(((os.set (J+o.length) t).drop J).take<|o.length+1).length=o.length+1:=by simp;omega
  have M:=j9<|pJ (uI G J)<|o.length+1;rw[K]at M;have O:=Wi (us:=us) (os:=os.set (J+o.length) t) (J:=J) (k:=o.length+1) (by simp[N]) R (λp hp=>by rw[mU R];exact D p R);have Q:=wU (b:=4294967296) al (pJ (uI G J)<|o.length+1) K j;have key:(eJ us J (o.length+1)+val 4294967296 o)%4294967296^(o.length+1)=val 4294967296 (((os.set (J+o.length) t).drop J).take<|o.length+1):=by
   rw[<-gn M];have:eJ us J (o.length+1)+val 4294967296 o=val 4294967296 (((os.set (J+o.length) t).drop J).take<|o.length+1)+4294967296^(o.length+1)*((os[J+o.length]+c)/4294967296):=by
    unfold eJ at A⊢;rw[qN (l:=us) R,qN (l:=os.set _ _) dA,lJ,<-E,fD];have F:((os.set (J+o.length) t).drop J).take o.length=(os.drop J).take o.length:=by
     rw[Dj];rw[aw R,show J+o.length-J=o.length by omega,me<|cn _]
    rw[F];rw[jP (l:=o)<|cn _]at A;have S:os[J+o.length]+c=t+4294967296*((os[J+o.length]+c)/4294967296):=R
    generalize(os[J+o.length]+c)/4294967296=Y at *;generalize 4294967296^o.length=P at *;have bH:P*(os[J+o.length]+c)=P*(t+4294967296*Y):=by rw[S]
    simp only[ia,h9]at bH A⊢;omega
   rw[this,Dg]
  refine an ⟨.inl j,lD,[0],j,hV aC ⟨_,j,?_,λ_=>j⟩⟩;show a4.a _ _ _ _ _ _=a4.a _ _ _ _ _ _;congr 1;unfold g7;rw[<-L2,key,<-Q];exact O
end Go.bA.c3
namespace Go.bA.c3
section
variable{B P V W v1 v2 iL top nb pK q g over:Nat}
theorem akO(j:V=(v1*B+v2)*P+nb)(D:W=(top*B+iL)*P+pK)(F:pK<P)(E:iL<B)(h:q*V<=W):q*v1<=top:=by
 have l:q*v1*(B*P)<=q*V:=by
  rw[h9];refine q6 q ?_;rw[j,e2,<-h9];omega
 have o:W<(top+1)*(B*P):=by
  have:(top*B+iL+1)*P<=(top*B+B)*P:=lI P R;have e:(top*B+B)*P=(top+1)*(B*P):=by grind
  have t:(top*B+iL+1)*P=(top*B+iL)*P+P:=by grind
  omega
 have:=Ag<|mf (cC l h) o;omega
theorem akP(I:V=(v1*B+v2)*P+nb)(G:W=(top*B+iL)*P+pK)(M:pK<P)(h:q*V<=W)(E:q<=g)(D:top=g*v1+over)(F:over*B+iL<g*v2):q<g:=by
 rcases fS q g with j|j
 ·exact j
 ·have e:q=g:=by omega
  subst e;have o:q*(v1*B+v2)*P<=q*V:=by
   rw[h9];refine q6 q ?_;omega
  have t:W<(top*B+iL+1)*P:=by grind
  have l:=Ag<|mf (cC o h) t;rw[D,ia,e2]at l;have z:q*(v1*B)=q*v1*B:=by grind
  omega
theorem akQ(M:V=(v1*B+v2)*P+nb)(E:nb<P)(D:0<v1)(I:W=(top*B+iL)*P+pK)(j:top=g*v1+over)(F:g*v2<=over*B+iL)(G:g<=B):g*V<=W+V:=by
 have A:g*V<=(g*(v1*B+v2)+g)*P:=by
  have:V<=(v1*B+v2+1)*P:=by grind
  have:=q6 g this;rw[<-h9,ia g _ 1,n8]at this;exact this
 have l:g*(v1*B+v2)<=top*B+iL:=by
  rw[j,ia,e2];have t:g*(v1*B)=g*v1*B:=by grind
  omega
 have z:(g*(v1*B+v2)+g)*P<=(top*B+iL)*P+g*P:=by
  rw[e2];exact Dk (lI P l) _
 have o:g*P<=V:=by
  have:g*P<=(v1*B+v2)*P:=lI P (by
   have:=q6 B D;rw[fT v1 B];omega)
  omega
 omega
theorem akR(I:V=(v1*B+v2)*P+nb)(j:nb<P)(M:v2<B)(G:W=(top*B+iL)*P+pK)(D:top=g*v1+over)(F:B<=over)(E:g<=B):g*V<=W:=by
 have t:g*V<=g*((v1*B+B)*P):=by
  refine q6 g ?_;have:(v1*B+v2+1)*P<=(v1*B+B)*P:=lI P R;rw[e2 _ 1 P]at this;omega
 have z:g*((v1*B+B)*P)=(g*v1+g)*B*P:=by grind
 have o:(g*v1+g)*B*P<=top*B*P:=lI P<|lI B R;have l:top*B*P<=(top*B+iL)*P:=lI P R;omega
end
variable{V B v2 P nb:Nat}
theorem akS{v1 h:Nat}(F:V=(v1*B+v2)*P+nb)(D:nb<P)(G:v2<B)(E:0<B)(ah:h*(P*B)<=V):h<=v1:=by
 have j:V<(v1+1)*(P*B):=by
  have l:(v1*B+v2+1)*P<=(v1*B+B)*P:=lI P R;have e:(v1*B+B)*P=(v1+1)*(P*B):=by grind
  rw[e2 _ 1 P]at l;omega
 have:=Ag<|mf ah j;omega
theorem akT{W v1 pK top A j iL:Nat}(I:V=(v1*B+v2)*P+nb)(E:nb<P)(M:v2<B)(F:0<B)(G:W=(top*B+iL)*P+pK)(D:top=j*B+A)(h:W<V*B):j<=v1:=by
 have t:V<=(v1+1)*(P*B):=by
  have z:(v1*B+v2+1)*P<=(v1*B+B)*P:=lI P R;have e:(v1*B+B)*P=(v1+1)*(P*B):=by grind
  rw[e2 _ 1 P]at z;omega
 have o:j*(P*B*B)<=W:=by
  have:(j*B*B)*P<=(top*B+iL)*P:=lI P (by
   rw[D,e2];omega)
  have e:j*B*B*P=j*(P*B*B):=by ac_rfl
  omega
 have l:V*B<=(v1+1)*(P*B*B):=by
  have:=lI B t;rw[h9]at this;exact this
 have:=Ag<|mf o<|xH h l;omega
def akU{W g:Nat}(j:0<V)(aF:W/V<=g)(aL:g*V<=W+V):(W<g*V->g-1=W/V/\0<g)/\(¬W<g*V->g=W/V):=by
 constructor
 ·intro h;have o:=(xT j).2 h;have l:(g-1)*V<=W:=by
   rw[Nat.sub_mul];omega
  have:=(tB j).2 l;omega
 ·intro h;have:=(tB j).2 (show g*V<=W by omega);omega
open Go.bA
set_option maxRecDepth 100000
set_option maxHeartbeats 4000000
variable{k:Nat}{us:ac Nat}{J X n a b m d x:Nat}{neg:Bool}{p q:Nat}
def Gs(h:J+k<=us.length):(g7 us J k X).length=us.length:=by
 unfold g7;simp[Cd];omega
def Wl(h:Ok 4294967296 us):Ok 4294967296 (g7 us J k X):=λx l=>by
 unfold g7 at l;simp at l;rcases l with l|l|l
 ·exact h x<|p4 l
 ·exact Wh al _ _ x l
 ·exact h x<|xU l
def akV(h:J+k<=us.length):val 4294967296 (g7 us J k X)=val 4294967296 (us.take J)+4294967296^J*(X%4294967296^k+4294967296^k*val 4294967296 (us.drop<|J+k)):=by
 unfold g7;rw[lC,lC,L1,Cd,iF,jF R]
def akW{D:Nat}(h:J+k<=us.length):g7 (g7 us J k X) J k D=g7 us J k D:=by
 unfold g7;rw[HX dA];congr 2;rw[<-p3,Da dA,Da<|Cd _ _ _]
def akX(h:J+k<=us.length):eJ (g7 us J k X) J k=X%4294967296^k:=by
 unfold eJ g7;rw[Da dA,HX<|Cd _ _ _,L1]
def akY:g7 us J k (X%4294967296^k)=g7 us J k X:=by
 unfold g7;rw[L2]
def akZ(h:J+k<=us.length)(D:Ok 4294967296 us):g7 us J k (eJ us J k)=us:=by
 unfold g7 eJ;rw[<-wU al (pJ (uI D J) k) dA j];rw[<-p3,ob,ob]
theorem Wm(F:Ok 4294967296 us)(h:J+(n+1)<=us.length)(G:V<4294967296^n)(M:val 4294967296 us<V*4294967296^(J+1)):
 val 4294967296 us=val 4294967296 (us.take J)+4294967296^J*eJ us J (n+1)/\val 4294967296 (us.drop<|J+(n+1))=0/\eJ us J (n+1)<V*4294967296:=by
 have t:=Gr (b:=4294967296) (l:=us) (k:=J) R;have o:=Gr (b:=4294967296) (l:=us.drop J) (k:=n+1) dA;rw[p3]at o;have A:val 4294967296 (us.drop<|J+(n+1))=0:=by
  rcases Ah (val 4294967296<|us.drop<|J+(n+1))with z|z
  ·exact z
  ·exfalso;have I:4294967296^(J+(n+1))*1<=4294967296^(J+(n+1))*val 4294967296 (us.drop<|J+(n+1)):=lK _ z;have E:V*4294967296^(J+1)<=4294967296^n*4294967296^(J+1):=hA _ R;rw[<-h8,show n+(J+1)=J+(n+1) by omega]at E;rw[o,ia,<-h9,<-h8]at t;omega
 rw[A,tA]at o;refine⟨by rw[t,o];rfl,A,?_⟩;have C:4294967296^J*eJ us J (n+1)<4294967296^J*(V*4294967296):=by
  have:V*4294967296^(J+1)=4294967296^J*(V*4294967296):=by grind
  have D:val 4294967296 (us.drop J)=eJ us J (n+1):=o;rw[D]at t;omega
 exact Nat.lt_of_mul_lt_mul_left C
theorem ak0{ju:ac Nat}{A:Nat}(D:Ok 4294967296 us)(h:J+(n+1)<=us.length)(ba:J<ju.length)(I:0<V)(E:V<4294967296^n)(G:val 4294967296 us<V*4294967296^(J+1))(F:A=val 4294967296 (ju.drop<|J+1)*4294967296^(J+1)*V+val 4294967296 us):
 val 4294967296 (g7 us J (n+1)<|eJ us J (n+1)%V)<V*4294967296^J/\A=val 4294967296 ((ju.set J<|eJ us J (n+1)/V).drop J)*4294967296^J*V+val 4294967296 (g7 us J (n+1)<|eJ us J (n+1)%V):=by
 obtain⟨t,z,C⟩:=Wm D h E G;have hm:=eG (eJ us J<|n+1) I;have K:=p6 (eJ us J<|n+1) V;rw[akV h,z,tA,oZ,gn R];have aT:=j9<|pJ D J;rw[iF,jF R]at aT;constructor
 ·have:4294967296^J*(eJ us J (n+1)%V+1)<=4294967296^J*V:=lK _ hm;rw[ia]at this;rw[fT V];omega
 ·have l:val 4294967296 ((ju.set J<|eJ us J (n+1)/V).drop J)=eJ us J (n+1)/V+4294967296*val 4294967296 (ju.drop<|J+1):=by
   rw[gp dA,lJ,zY R];rfl
  have o:4294967296^J*eJ us J (n+1)=4294967296^J*(V*(eJ us J (n+1)/V))+4294967296^J*(eJ us J (n+1)%V):=by grind
  rw[F,t,l,o,e2,e2,fD];have M:eJ us J (n+1)/V*4294967296^J*V=4294967296^J*(V*(eJ us J (n+1)/V)):=by ac_rfl
  have N:4294967296*val 4294967296 (ju.drop<|J+1)*4294967296^J*V=val 4294967296 (ju.drop<|J+1)*(4294967296^J*4294967296)*V:=by ac_rfl
  omega
theorem ak1{j:ac Nat}(aD:j.length=m+2)(D:Ok 4294967296 j)(E:eI j=j)(F:val 4294967296 j=b):
 bE j[m+1]<=32/\0<bE j[m+1]/\b*2^(32-bE j[m+1])<4294967296^(m+2)/\2147483648*4294967296^(m+1)<=b*2^(32-bE j[m+1]):=by
 have z:j[m+1]≠0:=by
  have e:j=j.take (m+1)++[j[m+1]]:=by
   have:=ob (m+1) j;rw[gp R,xN R]at this;exact this.symm
  have:=E;rw[e]at this;exact(zm (b:=4294967296) this).2
 have aT:=D _<|dx (show m+1<j.length by omega);have A:=L0 aT;obtain⟨I,t⟩:=qM z;have M:0<bE j[m+1]:=by grind
 have N:b=val 4294967296 (j.take<|m+1)+4294967296^(m+1)*j[m+1]:=by
  rw[<-F,<-hZ R,iG R]
 have K:=j9<|pJ D<|m+1;rw[iF,jF R]at K;generalize j[m+1]=d at *;have hp:0<2^(32-bE d):=la _;have G:2^bE d*2^(32-bE d)=4294967296:=by rw[<-h8,show bE d+(32-bE d)=32 by omega]
 have C:2^(bE d-1)*2^(32-bE d)=2147483648:=by rw[<-h8,show bE d-1+(32-bE d)=31 by omega]
 refine⟨A,M,?_,?_⟩
 ·have o:b<4294967296^(m+1)*2^bE d:=by
   have:4294967296^(m+1)*(d+1)<=4294967296^(m+1)*2^bE d:=lK _ t;rw[ia]at this;omega
  have l:=NZ o hp;rw[h9,G]at l;exact l
 ·have o:4294967296^(m+1)*2^(bE d-1)<=b:=by
   have:4294967296^(m+1)*2^(bE d-1)<=4294967296^(m+1)*d:=lK _ I;omega
  have l:=hA (2^(32-bE d)) o;rw[h9,C]at l;rw[fT];exact l
def ak2{r:Nat}(D:r<4294967296)(j:x<4294967296):(r%18446744073709551616*2^32%18446744073709551616%18446744073709551616|||x%18446744073709551616%18446744073709551616)=r*4294967296+x:=by
 rw[gn (a:=r) R];exact LX D j
def ak3(P A l j iL:Nat):A+P*iL+P*4294967296*l+P*4294967296*4294967296*j=((j*4294967296+l)*4294967296+iL)*P+A:=by
 rw[e2,e2,e2];have o:P*4294967296*4294967296*j=j*4294967296*4294967296*P:=by ac_rfl
 have z:P*4294967296*l=l*4294967296*P:=by ac_rfl
 have t:P*iL=iL*P:=by ac_rfl
 omega
def ak4(P A l j:Nat):A+P*l+P*4294967296*j=(j*4294967296+l)*P+A:=by
 rw[e2];have o:P*4294967296*j=j*4294967296*P:=by ac_rfl
 have t:P*l=l*P:=by ac_rfl
 omega
def Wn{g:Nat}(h:0<g)(aL:g<18446744073709551616):(g+(18446744073709551616*1-1))%18446744073709551616=g-1:=R
def Ce{l:ac Nat}{i:Nat}(h:i<l.length):l[i]? =some l[i]:=a0 h
def L3:bl:=b3 λ((a,b):Nat×Nat)=>([da a,da b],dP 1073741823 a/\dP 1073741823 b/\b≠0,.bq [da<|a/b,da<|a%b])
def L4:bt 126 L3:=by
 refine bR [(64,zo),(172,LY),(56,w2),(216,Wg),(217,Gq),(220,We),(218,Wj),(219,Wk),(128,sY)] Ug.1 ?_;intro⟨a,b⟩ ⟨(cn:(aW _ a).length<=_),(cD:(aW _ b).length<=_),(bT:b≠0)⟩ H au;show b5.ok _ ⟨_,_,⟨_,_,[(0,di<|aW 4294967296 a),(1,di<|aW 4294967296 b)]⟩⟩;have cJ:0<(aW 4294967296 b).length:=o2.2 λh=>bT<|(na al).1 h;refine st ?_;refine aV Gm (a,b) ⟨by show(aW _ a).length<=_;omega,by show(aW _ b).length<=_;omega⟩<|st ?_;refine cG (λh=>?_) λh=>?_
 ·have aT:a<b:=by
   rcases fS a b with K|K
   ·exact K
   ·have h:iK a b<0:=h;unfold iK at h;rw[aw R]at h;split at h<;>omega
  refine st ?_;exact an<|az j j<|.bq ⟨bJ.nl.trans (.of<|by show di []=di (aW _<|a/b);rw[p5 aT,gK]),.of<|by show di _=di (aW _<|a%b);rw[gn aT],aC⟩
 have bS:b<=a:=by
  rcases fS a b with K|K
  ·exact absurd (show iK a b<0 by rw[zp K];decide) h
  ·exact K
 refine st ?_;refine cG (λC=>?_) λC=>?_
 ·have C:(aW 4294967296 b).length=1:=by omega
  obtain⟨d,ae⟩:=mg.1 C;have aB:=gl (b:=4294967296) al b;have aO:=gL (b:=4294967296) al b;rw[ae]at aB aO;have bc:b=d:=by simp[val]at aB;exact aB.symm
  have b':=aO d av;rw[ae];subst bc;refine st ?_;refine pG (J:=0) b j ?_;refine st ?_;refine aV Wa (a,b) ⟨by show(aW _ a).length<=_;omega,by show 0<b;omega,b'⟩<|st ?_;refine aP 37 (.i .u64 ((a%b:Nat):Int)) j (fu (by have:=eG a (show 0<b by omega);omega)) ?_;refine aV qL (a%b) (by have:=eG a (show 0<b by omega);show a%b<_;omega)<|st ?_;exact an<|az j j<|.bq ⟨.refl _,.refl _,aC⟩
 have bZ:=gL (b:=4294967296) al a;have aZ:=gL (b:=4294967296) al b;have bU:=gl (b:=4294967296) al a;have bV:=gl (b:=4294967296) al b;have bz:=sW (b:=4294967296) al b;have b6:=LV bS;generalize aR:aW 4294967296 a=xs at *;generalize aL:aW 4294967296 b=z at *;obtain⟨m,hm⟩:∃m,z.length=m+2:=⟨z.length-2,R⟩;obtain⟨cI,hk,aJ,ao⟩:=ak1 hm aZ bz bV;have ae:=aZ _<|dx (show m+1<z.length by omega);refine st ?_;refine cd 41 ((m+1:Nat):Int) ?_;refine pG z[m+1] (a0 R) ?_;refine st ?_;refine aV akL z[m+1] ae ?_;generalize ch:z[m+1]=a5 at *;refine aP 44 (.aa ((32-bE a5:Nat):Int)) j j ?_;generalize cE:32-bE a5=e at *;have cj:e<=31:=R
 refine st ?_;refine aV zq (b,e) ⟨by show(aW _ b).length<=_;rw[aL];omega,by show e<_;omega⟩ ?_ (he:=by exact⟨.of<|congrArg di aL.symm,.refl _,aC⟩);refine aP 47 (di<|aW 4294967296<|b*2^e) j j<|st ?_;refine cd 50 ((xs.length+1:Nat):Int) ?_;refine oE fI 0<|st ?_;refine aV zq (a,e) ⟨by show(aW _ a).length<=_;rw[aR];omega,by show e<_;omega⟩ ?_ (he:=by exact⟨.of<|congrArg di aR.symm,.refl _,aC⟩);have c':a*2^e<2147483648*4294967296^xs.length:=by
  have C:=j9 bZ;rw[bU]at C;have ak:(a+1)*2^e<=4294967296^xs.length*2147483648:=Af R<|Gp R;have cy:0<2^e:=la e;rw[e2]at ak;omega
 have bp:a*2^e<4294967296^(xs.length+1):=by
  rw[fD];have:0<4294967296^xs.length:=nv al;omega
 have a':(aW 4294967296<|a*2^e).length<=xs.length+1:=je al bp;refine st ?_;refine aeW (aW 4294967296<|a*2^e) (Fv j mx mx)<|st ?_;refine aP 61 (.aa ((xs.length-z.length+1:Nat):Int)) j (by rw[fP (n:=(xs.length:Int)-z.length) R R];exact eM) ?_;refine oE fI 0<|st ?_;have ai:=gl (b:=4294967296) al<|b*2^e;have O:=gL (b:=4294967296) al<|b*2^e;have bb:(aW 4294967296<|b*2^e).length=m+2:=by
  have C:=je (b:=4294967296) al aJ;have ak:=Cb (b:=4294967296) (n:=b*2^e) (k:=m+1) al (by
   have:0<4294967296^(m+1):=nv al;omega)
  omega
 generalize b9:aW 4294967296 (b*2^e)=t at *;have bg:(aW 4294967296 (a*2^e)++(List.replicate (xs.length+1) 0).drop (aW 4294967296<|a*2^e).length).length=xs.length+1:=by simp;omega
 have a6:val 4294967296 (aW 4294967296 (a*2^e)++(List.replicate (xs.length+1) 0).drop (aW 4294967296<|a*2^e).length)=a*2^e:=by
  rw[List.drop_replicate,lC,val_zero,gl al];omega
 have bY:Ok 4294967296 (aW 4294967296 (a*2^e)++(List.replicate (xs.length+1) 0).drop (aW 4294967296<|a*2^e).length):=λx Y=>by
  rcases hf.1 Y with Y|Y
  ·exact gL al _ x Y
  ·exact r9 al _ x<|xU Y
 generalize aW 4294967296 (a*2^e)++(List.replicate (xs.length+1) 0).drop (aW 4294967296<|a*2^e).length=bk at *;refine eu (L:=Nat×ac Nat×ac Nat) (λ(k,us,A)=>k<=xs.length-z.length+1/\us.length=xs.length+1/\Ok 4294967296 us/\A.length=xs.length-z.length+1/\Ok 4294967296 A/\(∀p,p<k->A[p]? =some 0)/\val 4294967296 us<b*2^e*4294967296^k/\a*2^e=val 4294967296 (A.drop k)*4294967296^k*(b*2^e)+val 4294967296 us)
  (λ((k:Nat),(us:ac Nat),(A:ac Nat))=>⟨[.a 229 false 1 Nat fI us,.a 229 false 1 Nat fI A],2,[(4,.aK 1 1 0 (xs.length-z.length+1)<|xs.length-z.length+1),(6,.aa ((m+2:Nat):Int)),(9,.aa e),(10,di t),(11,.aK 0 1 0 (xs.length+1)<|xs.length+1),(12,.aa<|(k:Int)-1)]⟩)
  (λl=>l.1) [0,1] (xs.length-z.length+1,bk,List.replicate (xs.length-z.length+1) 0) ⟨R,bg,bY,av,r9 al _,λp hp=>by rw[H5,aE hp],?_,by rw[a6,xN av];simp[val]⟩ (by show xs.length-z.length+1<bx+1;unfold bx;omega) bB ?_
 ·rw[a6];have C:=hA (4294967296^(xs.length-z.length+1)) ao;rw[h9,<-h8,show m+1+(xs.length-z.length+1)=xs.length by omega]at C;omega
 rintro⟨k,us,A⟩ ⟨cF,a',E,aM,aI,aH,Z,aj⟩;cases k with
 |zero=>
  rw[xV,n8]at Z;rw[xV,n8,iQ]at aj;refine e4 67 ?_
  iterate 9 refine fz j ?_
  refine KQ 4 ?_;refine KQ 11<|st ?_;refine cm sZ A ⟨aI,R⟩<|st ?_;refine aeZ (us.take<|m+2)<|st ?_;refine cm sZ (us.take<|m+2) ⟨pJ E _,by simp;omega⟩<|st ?_;refine cm akJ (val 4294967296<|us.take<|m+2,e) ⟨?_,by show e<_;omega⟩ ?_
  ·show(aW _ _).length<=_;have:=je (b:=4294967296) al<|j9<|pJ E<|m+2;rw[iF]at this;omega
  refine st ?_;have ay:0<2^e:=la e;have bL:0<b*2^e:=vz R ay;have b4:val 4294967296 (us.take<|m+2)=val 4294967296 us:=by
   have bj:=Gr (b:=4294967296) (l:=us) (k:=m+2) R;rcases Ah (val 4294967296<|us.drop<|m+2)with F|F
   ·rw[F]at bj;omega
   ·have:4294967296^(m+2)*1<=4294967296^(m+2)*val 4294967296 (us.drop<|m+2):=lK _ F;omega
  have b3:val 4294967296 A=a/b:=by
   have C:a*2^e/(b*2^e)=a/b:=Nat.mul_div_mul_right _ _ ay;rw[<-C,aj,tv,Nat.add_mul_div_right _ _ bL,p5 Z,iE]
  have bX:val 4294967296 us/2^e=a%b:=by
   have C:a*2^e%(b*2^e)=a%b*2^e:=Nat.mul_mod_mul_right _ _ _;rw[aj,tv,Nat.add_mul_mod_self_right,gn Z]at C;rw[C,Nat.mul_div_cancel _ ay]
  exact an (az j j<|.bq ⟨.of<|congrArg da b3,.of (congrArg da<|by rw[b4];exact bX),aC⟩)
 |succ J=>
  refine aP 12 (.aa (J:Nat)) j fu<|st ?_;refine aP 67 (.b true) j av<|st ?_;refine ww 73 ((J+(m+2):Nat):Int) ?_;refine FA ?_;refine FB us[J+(m+2)] (Ce R) ?_;refine e4 82 ?_;refine dD 82 (.aa ((J+(m+1):Nat):Int)) j j (by rw[fP (n:=(J:Int)+(m+2:Nat)) R R];exact eM) ?_;refine FA ?_;refine FB us[J+(m+1)] (Ce R) ?_;refine e4 86 ?_;have bw:=E _<|dx (show J+(m+2)<us.length by omega);have bu:=E _<|dx (show J+(m+1)<us.length by omega);have a7:=E _<|dx (show J+m<us.length by omega);have ct:=O _<|dx (show m+1<t.length by omega);have T:=O _<|dx (show m<t.length by omega);obtain⟨top,ar⟩:∃top,top=us[J+(m+2)]*4294967296+us[J+(m+1)]:=dC;refine dD 86 (.i .u64 (top:Nat)) j j (fu<|congrArg _<|(ak2 bw bu).trans ar.symm) ?_;obtain⟨eE,B4,B5⟩:=Wm (n:=m+2) E R aJ Z;have Q:eJ us J (m+2+1)=(top*4294967296+us[J+m])*4294967296^m+eJ us J m:=by
   unfold eJ;rw[ar];rw[qN R,qN R,qN R,fD,fD];exact ak3 _ _ _ _ _
  have I:b*2^e=(t[m+1]*4294967296+t[m])*4294967296^m+val 4294967296 (t.take m):=by
   rw[<-ai];have:val 4294967296 t=val 4294967296 (t.take<|m+1+1):=by rw[iG R]
   rw[this,hZ R,hZ R,fD];exact ak4 _ _ _ _
  have a9:eJ us J m<4294967296^m:=by
   have:=j9<|pJ (uI E J) m;unfold eJ;rw[iF,jF dA]at this;exact this
  have ab:val 4294967296 (t.take m)<4294967296^m:=by
   have:=j9<|pJ O m;rw[iF,jF R]at this;exact this
  have S:0<t[m+1]:=by
   rcases Ah t[m+1]with F|F
   ·rw[F,jk,iE]at I;have C:t[m]*4294967296^m+4294967296^m<=4294967296^(m+1):=by
     have:(t[m]+1)*4294967296^m<=4294967296*4294967296^m:=hA _ T;rw[e2,vv]at this;rw[fD,fT _ 4294967296];exact this
    have ak:1*4294967296^(m+1)<=2147483648*4294967296^(m+1):=hA _ al;omega
   ·exact F
  have N:0<b*2^e:=vz R<|la e;have aX:eJ us J (m+2+1)/(b*2^e)<4294967296:=(xT N).2 (by rw[fT];exact B5);have aY:eJ us J (m+2+1)/(b*2^e)*(b*2^e)<=eJ us J (m+2+1):=H6 _ _;have M:=ak0 (ju:=A) (n:=m+2) E R R N aJ Z aj;generalize aG:eJ us J (m+2+1)=W at *;generalize G:W/(b*2^e)=q at *;generalize ca:b*2^e=V at *;generalize cx:us[J+(m+2)]=bQ at *;generalize cw:us[J+(m+1)]=cK at *;generalize bf:us[J+m]=iL at *;generalize bG:t[m+1]=v1 at *;generalize bN:t[m]=v2 at *;have ax:t[m+1]? =some v1:=by rw[Ce R,bG]
  have bm:t[m]? =some v2:=by rw[Ce R,bN]
  have bl:us[J+m]? =some iL:=by rw[Ce R,bf]
  have cp:top<18446744073709551616:=R
  have cr:2147483648<=v1:=akS I ab T al (by rw[fD]at ao;exact ao);have cq:bQ<=v1:=akT I ab T al Q ar B5;refine st ?_;refine ww 90 ((m+1:Nat):Int) ?_;refine Fz v1 ax ?_;refine e4 93 ?_;refine dD 93 (.i .u64 (v1:Nat)) j j fu ?_;refine aeX<|st ?_;refine ww 98 ((m+1:Nat):Int) ?_;refine Fz v1 ax ?_;refine e4 101 ?_;refine dD 101 (.i .u64 (v1:Nat)) j j fu ?_;refine aeY<|e4 15 ?_
  iterate 3 refine fz j ?_
  refine gQ (λ(g:Nat)=>q<=g/\g<4294967296/\g*V<=W+V) (λ(g:Nat)=>⟨[.a 229 false 1 Nat fI us,.a 229 false 1 Nat fI A],2,[(4,.aK 1 1 0 (xs.length-z.length+1)<|xs.length-z.length+1),(6,.aa ((m+2:Nat):Int)),(9,.aa e),(10,di t),(11,.aK 0 1 0 (xs.length+1)<|xs.length+1),(12,.aa J),(14,.i .u64 g)]⟩) ?_ ?_
  ·refine st ?_;refine eu (L:=Nat×Nat) (λ(g,U)=>top=g*v1+U/\q<=g/\g<=4294967297/\U<4294967296)
    (λ((g:Nat),(U:Nat))=>⟨[.a 229 false 1 Nat fI us,.a 229 false 1 Nat fI A],2,[(4,.aK 1 1 0 (xs.length-z.length+1)<|xs.length-z.length+1),(6,.aa ((m+2:Nat):Int)),(9,.aa e),(10,di t),(11,.aK 0 1 0 (xs.length+1)<|xs.length+1),(12,.aa J),(14,.i .u64 g),(15,.i .u64 U)]⟩)
    (λl=>l.1) [0,1] (top/v1,top%v1) ⟨by rw[fT];exact(p6 top v1).symm,?_,?_,?_⟩ ?_ bB ?_
   ·exact(tB S).2<|akO I Q a9 a7 aY
   ·have:top/v1<4294967298:=(xT S).2 R;omega
   ·have:=eG top S;omega
   ·have:top/v1<=top:=jW _ _;have ak:top/v1<4294967298:=(xT S).2 R;show top/v1<bx+1;unfold bx;omega
   rintro⟨g,U⟩ ⟨aS,aQ,cv,br⟩;refine e4 106 ?_;rcases fS g 4294967296 with aA|aA;refine dD 106 (.b false) j j (by show ag.b (decide _)=_;congr 1;simp;omega)<|e4 110 ?_;refine ww 110 (m:Nat)<|st ?_;refine Fz v2 bm ?_;obtain⟨bH,cA,cB⟩:=LW (c:=0) (U:=0) al aA T al;refine e4 114 ?_;refine dD 114 (.i .u64 ((g*v2:Nat):Int)) j j (fu<|congrArg _<|by rw[gn (a:=v2) R,gn bH])<|e4 121 ?_;refine dD 121 (.aa ((J+m:Nat):Int)) j j (by rw[fP (n:=(J:Int)+(m+2:Nat)) R R];exact eM)<|st ?_;refine FA<|st ?_;refine FB iL bl ?_;refine e4 125 ?_;refine dD 125 (.i .u64 ((U*4294967296+iL:Nat):Int)) j j (fu<|congrArg _<|LX br a7)<|st ?_;refine cG (λD=>?_) (λD=>?_)
   rotate_left
   ·refine st ?_;exact bW [0,1] g ⟨aQ,aA,akQ I ab S Q aS R R⟩ bB
   refine dD 106 (.b true) j j (by show ag.b (decide _)=_;congr 1;simp;omega)<|st ?_
   rotate_left
   have aT:=akP I Q a9 aY aQ aS R;refine st ?_
   all_goals
    have cl:(g-1)*v1+v1=g*v1:=by
     rw[<-C2,show(g-1).succ=g by omega]
    have aN:top=(g-1)*v1+(U+v1):=R
    refine aP 14 (.i .u64 ((g-1:Nat):Int)) j (fu<|congrArg _<|Wn R R) ?_;refine cd 133 ((m+1:Nat):Int) ?_;refine pG v1 ax ?_;refine e4 137 ?_;refine aP 137 (.i .u64 ((U+v1:Nat):Int)) j fu<|st ?_;refine cG (λD=>?_) λD=>?_
    ·have D:(((U+v1)/4294967296:Nat):Int)≠0:=D;refine st ?_;have bd:=akR I ab T Q aN R R;have hle:=(tB N).2 bd;rw[G]at hle;exact bW [0,1] (g-1) ⟨R,R,R⟩ bB
    ·have D:¬(((U+v1)/4294967296:Nat):Int)≠0:=D;refine st ?_;exact bW [0,1] (g-1,U+v1) ⟨by show g-1<g;omega,aN,R,R,R⟩ bB
  rintro(g:Nat) ⟨ba,bO,bs⟩;obtain⟨bA,bD⟩:=akU (W:=W) (V:=V) (g:=g) N (by rw[G];exact ba) bs;refine st ?_;refine cG (λF=>?_) λF=>?_
  ·have aU:q=0:=by omega
   have bo:W<V:=by
    have:=p6 W V;rw[G,aU,tA,iE]at this;have:=eG W N;omega
   refine st ?_;rw[gn bo,<-aG,akZ R E,aU]at M;have b1:A.set J 0=A:=by
    apply p0;intro p;rw[o0];split
    ·rename_i hp;subst hp;rw[aE R,aH _ R]
    ·rfl
   rw[b1]at M;exact bW [0,1] (J,us,A) ⟨by show J<J+1;omega,R,a',E,aM,aI,λp hp=>aH p R,M.1,M.2⟩ bB
  refine st ?_;refine Rk<|st ?_;refine k3 akM 0 (us,J,t,g) ⟨R,E,O,bO,R⟩ ?_ (he:=by show[ag.aK 0 1 J _ _,di t,ag.i .u64 (g:Nat)]=[ag.aK 0 1 J _ _,di t,ag.i .u64 (g:Nat)];rw[a']);have ad:t.length=m+2:=bb;have cg:∀X,X<V->X%4294967296^(m+2+1)=X:=λX b7=>gn (by
   have:4294967296^(m+2)<=4294967296^(m+2+1):=jG al R;omega)
  have bn:=p6 W V;rw[G]at bn;have cL:=eG W N;rw[show eJ us J (t.length+1)=W by rw[ad];exact aG,ai,ad];refine aP 148 (.b<|decide (W<g*V)) j (by show ag.b (decide (eJ us J (t.length+1)<g*val 4294967296 t))=_;rw[ad,aG,ai]) ?_;refine fz j ?_;refine fz j ?_;refine gQ (λ(g:Nat)=>g=q) (λ(g:Nat)=>⟨[.a 229 false 1 Nat fI<|g7 us J (m+2+1)<|W%V,.a 229 false 1 Nat fI A],2,[(4,.aK 1 1 0 (xs.length-z.length+1)<|xs.length-z.length+1),(6,.aa ((m+2:Nat):Int)),(9,.aa e),(10,di t),(11,.aK 0 1 0 (xs.length+1)<|xs.length+1),(12,.aa J),(14,.i .u64 g)]⟩) ?_ ?_
  ·refine cG (λD=>?_) λD=>?_
   ·obtain⟨af,cC⟩:=bA D;rw[aE D];refine e4 14 ?_;refine aP 14 (.i .u64 ((g-1:Nat):Int)) j (fu<|congrArg _<|Wn R R)<|st ?_;refine Rk<|st ?_;refine k3 akN 0 (g7 us J (m+2+1)<|W+4294967296^(m+2+1)-g*V,J,t) ⟨by rw[Gs R];omega,Wl E,O,by rw[Gs R];omega⟩ ?_ (he:=by show[ag.aK 0 1 J _ _,di t]=[ag.aK 0 1 J _ _,di t];rw[Gs R,a']);refine st ?_;refine bW [0,1] (g-1) (af.trans G)<|bB (aF:=⟨⟨_,j,?_,λ_=>j⟩,jN,aC⟩);show a4.a _ _ _ _ _ _=a4.a _ _ _ _ _ _;congr 1;rw[ad,akW R,akX R,ai];have ck:(g-1)*V+V=g*V:=by rw[<-C2,show(g-1).succ=g by omega]
    have b8:(g-1)*V=V*q:=by rw[af,G,fT]
    have cH:0<4294967296^(m+2+1):=nv al;have cf:V<4294967296^(m+2+1):=by
     have:4294967296^(m+2)<=4294967296^(m+2+1):=jG al R;omega
    have key:((W+4294967296^(m+2+1)-g*V)%4294967296^(m+2+1)+V)%4294967296^(m+2+1)=W%V:=by
     generalize 4294967296^(m+2+1)=PP at *;rw[gn (show W+PP-g*V<PP by omega),show W+PP-g*V+V=W%V+PP by omega,Nat.add_mod_right,gn R]
    rw[<-akY,key]
   ·have af:=bD D;rw[aw D];refine st ?_;refine bW [0,1] g R<|bB (aF:=⟨⟨_,j,?_,λ_=>j⟩,jN,aC⟩);show a4.a _ _ _ _ _ _=a4.a _ _ _ _ _ _;congr 2;rw[oZ];have:g*V=V*q:=by rw[af,G,fT]
    omega
  intro bI bh;rw[show bI=q from bh];refine st ?_;refine y3 ?_;refine kE (q%4294967296)<|st ?_;rw[gn aX];refine bW [0,1] (J,g7 us J (m+2+1)<|W%V,A.set J q) ⟨by show J<J+1;omega,R,by rw[Gs R];exact a',Wl E,by simp[aM],lZ aI _ aX,λp hp=>by rw[mU R];exact aH p R,M.1,M.2⟩ bB
def s3(h:dP k a)(aA:b<=a):dP k b:=cC (LV aA) h
def uK(h:dP k a):a<4294967296^k:=by
 have j:=j9<|gL (b:=4294967296) al a;rw[gl al]at j;exact eR j<|jG al h
def sb(h:a<4294967296^k):dP k a:=je al h
def L5(h:m<=n):bE m<=bE n:=by
 by_cases j:m=0
 ·subst j;exact dw _
 ·have l:=(qM j).1;have o:=(qM (show n≠0 by omega)).2;have:=(vy (by decide:1<2)).1<|mf (cC l h) o;omega
def ak5(h:m<=n/2)(ah:1<=n):bE m<bE n:=by
 have:=L5 h;rw[uJ ah];omega
def Gt(h:n<2^k):bE n<=k:=by
 by_cases j:n=0
 ·subst j;exact dw _
 ·have:=(vy (by decide:1<2)).1<|mf (qM j).1 h;omega
def Cf(h:dP k a):bE a<=32*k:=Gt<|by rw[re];exact uK h
def ak6(j:dP k a)(aA:dP k b):bE (a*b)<=64*k:=Gt (by
 rw[show 64*k=32*k+32*k by omega,h8,re];exact H7 (uK j)<|uK aA)
def ak7{y:Nat}(j:0<y)(h:y<=x):y*(x%y)<=x*y/2:=by
 have t:x%y<y:=eG x j;have l:2*(x%y)<=x:=by
  have:=p6 x y;have o:y*1<=y*(x/y):=lK y<|Ai h j;omega
 rw[tB al];have:=lK y l;rw[fT x y];have e:y*(x%y)*2=y*(2*(x%y)):=by ac_rfl
 omega
def L6:bl:=b3 λ((a,b):Nat×Nat)=>([da a,da b],dP 1073741823 a/\dP 1073741823 b,da<|Nat.gcd a b)
def Wo:bt 58 L6:=by
 refine bR [(126,L3)] SI.1 ?_;intro⟨a,b⟩ ⟨(A:dP _ a),(D:dP _ b)⟩ H au;refine I 7<|eu (L:=Nat×Nat) (λ(x,y)=>dP 1073741823 x/\dP 1073741823 y/\Nat.gcd x y=Nat.gcd a b) (λ((x:Nat),(y:Nat))=>⟨[],0,[(0,da x),(1,da y)]⟩) (λl=>2*bE (l.1*l.2)+if l.1<l.2 then 1 else 0) [] (a,b) ⟨A,D,j⟩ ?_ bB ?_
 ·show 2*bE (a*b)+(if a<b then 1 else 0)<bx+1;have:=ak6 A D;unfold bx;split<;>omega
 rintro⟨x,y⟩ ⟨E,z,C⟩;refine I 8<|cG (λh=>?_) λh=>?_
 ·have t:y≠0:=λF=>by subst F;rw[gK]at h;simp at h
  refine I 7<|aV L4 (x,y) ⟨E,z,t⟩<|I 14<|dv [] (y,x%y) ⟨?_,z,s3 z<|og<|eG x R,?_⟩
  ·show 2*bE (y*(x%y))+(if y<x%y then 1 else 0)<2*bE (x*y)+(if x<y then 1 else 0);have hm:=eG x (show 0<y by omega);rw[aw R];by_cases o:x<y
   ·rw[aE o,gn o,fT y x];omega
   ·rw[aw o];have hp:0<x*y:=vz R R;have:=ak5 (ak7 R R) hp;omega
  ·rw[<-C,vA x y,Nat.gcd_rec y x,vA]
 ·have t:y=0:=(na (b:=4294967296) al).1<|nr R;subst t;refine I 12<|an (az j j<|.of ?_);show da x=da (Nat.gcd a b);rw[<-C,Nat.gcd_zero_right]
def L7:bl:=b3 λ(n:Nat)=>([da n],True,.b<|decide (n=1))
def ak8:aW 4294967296 1=[1]:=by rw[m9 al al,show 1/4294967296=0 from rfl,gK]
def Gu:bt 57 L7:=by
 refine bR [] SH.1 ?_;intro(n:Nat) _ H au;show b5.ok _ ⟨_,_,⟨_,_,[(0,di<|aW 4294967296 n)]⟩⟩;have l:=gl (b:=4294967296) al n;generalize o:aW 4294967296 n=t at *;refine e4 6 ?_
 match t,l,o with
 |[],l,o=>
  refine I 9 ?_;have:n=0:=by simp[val]at l;exact l.symm
  subst this;exact an (az j j dO)
 |[d],l,o=>
  have:n=d:=by simp[val]at l;exact l.symm
  subst this;refine I 3<|fc (J:=0) n j j<|I 9<|an (az j j<|.of ?_);show ag.b _=ag.b _;congr 1;rw[decide_eq_decide];exact⟨λh=>R,λh=>R⟩
 |d::A::t,l,o=>
  refine I 9<|an (az j j<|.of ?_);show ag.b false=ag.b _;congr 1
  symm
  rw[decide_eq_false_iff_not];intro z;subst z;rw[ak8]at o;cases o
def oM(d:Nat):ag:=.gb 1 Nat fI (if d=1 then[]else aW 4294967296 d)
def gA(x:Rat):ac ag:=[.b<|decide (x.num<0),da x.num.natAbs,oM x.den]
def cc(x:Rat):ag:=.agg<|gA x
def Cg(h:d≠1):oM d= .gb 1 Nat fI (aW 4294967296 d):=by unfold oM;rw[aw h]
def Wp(h:d≠1)(bX:d≠0):bJ (da d) (oM d):=by
 rw[Cg h];exact bJ.gb λe=>bX<|(na al).1 e
def Wq(h:d≠1):bJ (oM d) (da d):=by
 rw[Cg h];exact bJ.BD
def uL(n:Int)(d:Nat)(h:d≠0):(mkRat n d).num=n/((n.natAbs.gcd d:Nat):Int)/\(mkRat n d).den=d/n.natAbs.gcd d:=by
 rw[<-Rat.normalize_eq_mkRat h,Rat.normalize_eq h];exact eT
def Wr(hp:p≠0)(cz:q≠0):(mkRat (if neg then -(p:Int)else p) q).num=(if neg then -((p/p.gcd q:Nat):Int)else((p/p.gcd q:Nat):Int))/\(mkRat (if neg then -(p:Int)else p) q).den=q/p.gcd q:=by
 have t:0<p.gcd q:=H8 _ R;have o:(if neg then -(p:Int)else(p:Int)).natAbs=p:=by cases neg<;>simp
 obtain⟨j,l⟩:=uL (if neg then -(p:Int)else p) q cz;rw[o]at j l;refine⟨?_,l⟩;rw[j];cases neg
 ·simp
 ·simp only[if_true];obtain⟨k,z⟩:=Aj p q;generalize p.gcd q=g at *;subst z;rw[Dl _ t,mT,<-Int.mul_neg,Int.mul_ediv_cancel_left _ R]
def L8{x:Rat}{c:ag}(aF:x.num=if neg then -(p:Int)else(p:Int))(aL:x.den=q)(hp:p≠0)(aS:bJ c (oM q)):bJ (.agg [.b neg,da p,c]) (cc x):=by
 refine bJ.agg ⟨.of ?_,.of ?_,?_,aC⟩
 ·congr 1;rw[aF];cases neg
  ·simp
  ·simp;omega
 ·congr 1;rw[aF];cases neg<;>simp
 ·rw[aL];exact aS
def le_zero:bJ (.agg [.b false,.nl,.nl]) (cc 0):=bJ.agg ⟨.refl _,bJ.nl.trans (.of<|by show di []=di (aW _ 0);rw[gK]),bJ.jx,aC⟩
def uM:bl:=b3 λ((n,p,q):Bool×Nat×Nat)=>([.b n,da p,da q],dP 1073741823 p/\dP 1073741823 q/\q≠0,cc<|mkRat (if n then -(p:Int)else p) q)
def s4:(aW 4294967296 n).length=0↔n=0:=by rw[H9];exact na al
def oN:bt 54 uM:=by
 refine bR [(57,L7),(58,L6),(126,L3)] SG.1 ?_;intro⟨n,p,q⟩ ⟨(hp:dP _ p),(G:dP _ q),(S:q≠0)⟩ H au;refine I 13<|cG (λh=>?_) λh=>?_
 ·have D:p=0:=s4.1 R;subst D;refine I 8<|an (az j j<|le_zero.trans<|.of ?_);show cc 0=cc (mkRat _ q);congr 1;cases n<;>simp
 have D:p≠0:=λQ=>h (by rw[Q,gK];rfl);have E:0<p.gcd q:=H8 _ R;refine I 6<|aV Gu q aC<|I 3<|gQ (λ((o:Nat),(l:Nat))=>o=p/p.gcd q/\l=q/p.gcd q) (λ(o,l)=>⟨[.c 45 [.b false,.nl,.nl]],1,[(0,.b n),(1,da o),(2,da l),(6,.p 0 0)]⟩) ?_ ?_
 ·refine y6 (λz=>?_) λz=>?_
  ·refine I 4<|aV Wo (p,q) ⟨hp,G⟩<|I 6<|aV Gu (p.gcd q) aC<|I 3<|y6 (λA=>?_) λA=>?_
   ·have F:dP 1073741823 (p.gcd q):=s3 hp<|Nat.gcd_le_left _ R;exact I 4<|aV L4 (p,p.gcd q) ⟨hp,F,by show p.gcd q≠0;omega⟩<|I 9<|aV L4 (q,p.gcd q) ⟨G,F,by show p.gcd q≠0;omega⟩<|I 5<|dv [0] (p/p.gcd q,q/p.gcd q) eT
   ·exact I 1<|dv [0] (p,q) ⟨by rw[A,tC],by rw[A,tC]⟩
  ·exact I 1<|dv [0] (p,q) ⟨by rw[z,Dm,tC],by rw[z,Dm,tC]⟩
 rintro⟨o,l⟩ ⟨N,O⟩;obtain⟨C,hk⟩:=Wr (neg:=n) D S;rw[<-N]at C;rw[<-O]at hk;have K:o≠0:=by
  have:=Ai (Nat.gcd_le_left q (show 0<p by omega)) E;omega
 have M:l≠0:=by
  have:=Ai (Ia p (show 0<q by omega)) E;omega
 refine I 4<|aV Gu l aC<|I 2<|cG (λt=>?_) λt=>?_
 ·exact I 14<|an (az j j (L8 C hk K<|by rw[t];exact bJ.jx))
 ·exact I 12<|an (az j j<|L8 C hk K<|Wp t M)
def b9(k:Nat)(x:Rat):Prop:=dP k x.num.natAbs/\dP k x.den
variable{y:Rat}
def uN:bl:=b3 λ(x:Rat)=>([cc x],True,da x.den)
def nW:bt 62 uN:=by
 refine bR [(56,w2)] US.1 ?_;intro x _ H au;refine I 11 ?_;by_cases l:x.den=1
 ·exact aP 4 (.gb 1 Nat fI []) j (by rw[l];rfl)<|I 6<|aV qL (1:Nat) (by show 1<_;decide)<|I 5<|an (az j j (.of<|by show da 1=da x.den;rw[l]))
 ·refine cg 4 (Cg l) ?_;have o:(aW 4294967296 x.den).isEmpty=false:=Ib.2 λe=>x.den_nz<|(na al).1 e;refine I 3<|aej j (by rw[o];rfl) ?_;exact I 10<|an (az j j<|Wq l)
def uO:bl:=b3 λ(x:Rat)=>([cc x],True,.aa x.num.sign)
def uP:bt 17 uO:=by
 refine bR [] Td.1 ?_;intro x _ H au;refine I 17<|cG (λh=>?_) λh=>?_
 ·have l:x.num.natAbs=0:=s4.1 R;exact I 8<|an (az j j (.of<|by show ag.aa 0=ag.aa x.num.sign;rw[Int.natAbs_eq_zero.1 l];rfl))
 have l:x.num≠0:=λe=>h (by rw[e];show((aW _ 0).length:Int)=0;rw[gK];rfl);refine I 7<|cG (λh=>?_) λh=>?_
 ·exact I 8<|an (az j j (.of<|by show ag.aa (-1)=ag.aa x.num.sign;rw[vB h]))
 ·exact I 9<|an (az j j (.of<|by show ag.aa 1=ag.aa x.num.sign;rw[rf R]))
def Ws:bl:=b3 λ(x:Rat)=>([cc x],True,cc<|-x)
theorem ak9:bt 66 Ws:=by
 refine bR [] UT.1 ?_;intro(x:Rat) _ H au;have hle:∀{t:Bool},t=decide (-x.num<0)->bJ (.agg [.b t,da x.num.natAbs,oM x.den]) (cc<|-x):=λh=>by
  refine bJ.agg ⟨.of<|by rw[h,Dn],.of av,.of av,aC⟩
 refine I 12 ?_;by_cases ah:x.num<0
 ·exact aP 6 (.b false) j (by grind)<|I 14<|an (az j j<|hle dA)
 ·refine aP 6 (.b true) j (by grind)<|I 18<|an (az j j<|hle ?_);rw[decide_eq_decide];rcases(show 0<x.num\/x.num<=0 by omega)with l|l
  ·have:x.num.natAbs≠0:=by omega
   have:(aW 4294967296 x.num.natAbs).length≠0:=λe=>this<|s4.1 e;exact⟨λ_=>R,λ_=>R⟩
  ·have o:x.num=0:=by omega
   have z:(aW 4294967296 x.num.natAbs).length=0:=s4.2 R;exact⟨λh=>R,λh=>R⟩
def iA(x:Rat):Rat:=if x.num<0 then -x else x
def qO(x:Rat):(iA x).num=(x.num.natAbs:Int)/\(iA x).den=x.den:=by
 unfold iA;split
 ·rw[Dn];exact⟨R,j⟩
 ·exact⟨R,j⟩
def Wt:bl:=b3 λ(x:Rat)=>([cc x],True,cc<|iA x)
def ala:bt 282 Wt:=by
 refine bR [] Vi.1 ?_;intro x _ H au;refine I 17<|an (az j j<|bJ.agg ⟨.of ?_,.of ?_,.of ?_,aC⟩)
 ·rw[(qO x).1];congr 1
 ·rw[(qO x).1];rfl
 ·rw[(qO x).2]
def jA(x y:Rat):Int:=if x<y then -1 else if x=y then 0 else 1
def Gv:bl:=b3 λ((x,y):Rat×Rat)=>([cc x,cc y],b9 268435456 x/\b9 268435456 y,.aa<|jA x y)
def ka{l:Nat}(j:dP k a)(aA:dP l b):dP (k+l) (a*b):=sb<|by rw[h8];exact H7 (uK j)<|uK aA
def bu(n:Bool)(p:Nat):Int:=if n then -(p:Int)else p
def w3(x:Rat):x.num=bu (decide (x.num<0)) x.num.natAbs:=by
 unfold bu;by_cases h:x.num<0
 ·rw[ck h,aE j];omega
 ·rw[cq h,aw al];omega
def Wu(x y:Rat):(x.num.sign<y.num.sign->jA x y= -1)/\(y.num.sign<x.num.sign->jA x y=1)/\(x.num.sign=y.num.sign->jA x y=x.num.sign*iK (x.num.natAbs*y.den) (y.num.natAbs*x.den)):=by
 have E:=x.den_nz;have F:=y.den_nz;have lt:x<y↔x.num*y.den<y.num*x.den:=Rat.lt_iff x y;have eq:x=y↔x.num*y.den=y.num*x.den:=by
  constructor
  ·rintro rfl;rfl
  ·intro h;have j:=(Rat.mkRat_eq_iff (n₁:=x.num) (n₂:=y.num) E F).2 h;rw[Dp,Dp]at j;exact j
 have M:(0:Int)<x.den:=R
 have N:(0:Int)<y.den:=R
 have df:∀n:Int,(n<0/\n.sign= -1)\/(n=0/\n.sign=0)\/(0<n/\n.sign=1):=λn=>by
  rcases(show n<0\/n=0\/0<n by omega)with h|h|h
  ·exact .inl ⟨h,vB h⟩
  ·exact .inr<|.inl ⟨h,by rw[h];rfl⟩
  ·exact .inr<|.inr ⟨h,rf h⟩
 have K:x.num*(y.den:Int)=x.num.sign*((x.num.natAbs*y.den:Nat):Int):=by
  rw[mT,<-p8,xW]
 have G:y.num*(x.den:Int)=y.num.sign*((y.num.natAbs*x.den:Nat):Int):=by
  rw[mT,<-p8,xW]
 have t:x.num≠0->0<x.num.natAbs*y.den:=λh=>vz R R;have rG:y.num≠0->0<y.num.natAbs*x.den:=λh=>vz R R;rw[K,G]at lt eq;unfold jA iK;generalize x.num.natAbs*y.den=A at *;generalize y.num.natAbs*x.den=C at *;simp only[lt,eq];rcases df x.num with⟨D,l⟩|⟨D,l⟩|⟨D,l⟩<;>rcases df y.num with⟨z,o⟩|⟨z,o⟩|⟨z,o⟩<;>rw[l,o]<;>refine⟨λh=>?_,λh=>?_,λh=>?_⟩<;>first
  |(exfalso;omega)
  |(have j:=t R;have I:=rG R;split<;>first|omega|(split<;>first|omega|(split<;>omega)))
  |(have j:=t R;split<;>first|omega|(split<;>omega))
  |(have I:=rG R;split<;>first|omega|(split<;>omega))
  |(split<;>first|omega|(split<;>first|omega|(split<;>omega)))
def cP{l:Nat}(h:dP k a)(aD:k<=l:=by decide):dP l a:=cC h aD
def L9:bt 106 Gv:=by
 refine bR [(17,uO),(62,uN),(61,uH),(64,zo)] Ue.1 ?_;intro⟨x,y⟩ ⟨(l:b9 _ x),(o:b9 _ y)⟩ H au;obtain⟨z,A,nV⟩:=Wu x y;refine I 10<|cm uP x aC<|I 1<|cm uP y aC<|I 12 ?_;have df:∀n:Int,-1<=n.sign/\n.sign<=1:=λn=>by
  rcases(show n<0\/n=0\/0<n by omega)with h|h|h
  ·rw[vB h];decide
  ·rw[h];decide
  ·rw[rf h];decide
 refine cG (λh=>?_) λh=>?_
 ·refine I 8<|cG (λt=>?_) λt=>?_
  ·exact I 8<|an (az j j (.of<|by show ag.aa (-1)=ag.aa (jA x y);rw[z t]))
  ·exact I 9<|an (az j j (.of<|by show ag.aa 1=ag.aa (jA x y);rw[A R]))
 have C:x.num.sign=y.num.sign:=R
 refine I 5<|cm nW y aC<|I 2<|cm s0 (x.num.natAbs,y.den) ⟨cP l.1,cP o.2⟩<|I 1<|cm nW x aC<|I 2<|cm s0 (y.num.natAbs,x.den) ⟨cP o.1,cP l.2⟩<|cm Gm (x.num.natAbs*y.den,y.num.natAbs*x.den) ⟨?_,?_⟩ ?_
 ·exact cP<|ka l.1 o.2
 ·exact cP<|ka o.1 l.2
 refine I 6<|an (az j j<|.of ?_);show ag.aa (IntKind.i64.wrap<|x.num.sign*iK _ _)=ag.aa (jA x y);rw[<-nV C];have: -1<=jA x y/\jA x y<=1:=by
  unfold jA;split
  ·decide
  ·split<;>decide
 exact eM j R R
theorem zr(h:iK a b<0):a<b:=by
 unfold iK at h;split at h
 ·assumption
 ·split at h<;>omega
def zs(h:¬iK a b<0):b<=a:=by
 rcases fS a b with j|j
 ·exact absurd (by rw[zp j];decide) h
 ·exact j
def Wv(j:dP k a)(aA:dP k b):dP (k+1) (a+b):=sb (by
 have l:=uK j;have o:=uK aA;omega)
def add_same{x:Rat}{n:Bool}(D:x.num=bu n x.num.natAbs)(E:y.num=bu n y.num.natAbs):mkRat (bu n<|x.num.natAbs*y.den+y.num.natAbs*x.den) (x.den*y.den)=x+y:=by
 rw[Ak];congr 1;have e:∀a b:Nat,bu n (a+b)=bu n a+bu n b:=λa b=>by unfold bu;cases n<;>simp<;>omega
 have j:∀a b:Nat,bu n (a*b)=bu n a*b:=λa b=>by unfold bu;cases n<;>simp[xX]
 rw[e,j,j,<-D,<-E]
def Ww{x:Rat}{n m:Bool}(E:n≠m)(D:x.num=bu n x.num.natAbs)(F:y.num=bu m y.num.natAbs)(h:y.num.natAbs*x.den<=x.num.natAbs*y.den):mkRat (bu n<|x.num.natAbs*y.den-y.num.natAbs*x.den) (x.den*y.den)=x+y:=by
 rw[Ak];congr 1;have j:∀(k:Bool) (a b:Nat),bu k (a*b)=bu k a*b:=λk a b=>by unfold bu;cases k<;>simp[xX]
 have e:∀a b:Nat,b<=a->bu n (a-b)=bu n a+bu m b:=λa b l=>by unfold bu;cases n<;>cases m<;>simp at E⊢<;>omega
 rw[e _ _ h,j,j,<-D,<-F]
def zt:bl:=b3 λ((x,y):Rat×Rat)=>([cc x,cc y],b9 268435456 x/\b9 268435456 y,cc<|x+y)
def Gw{x:Rat}:bJ (.agg [gk n<|.b<|decide (x.num<0),gk n<|da x.num.natAbs,gk n<|oM x.den]) (gk n<|cc x):= @bJ.afY n<|gA x
def Gx{a:ag}{x:Rat}(h:a=cc x):bJ (gk n a) (.agg<|(gA x).map<|gk n):=by
 subst h;exact .afX
def Wx:dY bS.ctx 13 zt.jb:=by
 refine V0 [(62,uN),(61,uH.jb),(63,LU),(65,V3),(64,zo),(54,uM)] Tb.1 ?_;intro⟨x,y⟩ ⟨(l:b9 _ x),(o:b9 _ y)⟩ H au;have D:=w3 x;have E:=w3 y;have t:dP 536870912 (x.num.natAbs*y.den):=ka l.1 o.2;have z:dP 536870912 (y.num.natAbs*x.den):=ka o.1 l.2;have F:dP 536870912 (x.den*y.den):=ka l.2 o.2;have C:x.den*y.den≠0:=nw x.den_nz y.den_nz;refine I 10<|cm nW y aC<|I 2<|FO Gn (x.num.natAbs,y.den) ⟨cP l.1,cP o.2⟩ ?_;refine I 1<|cm nW x aC<|I 2<|FO Gn (y.num.natAbs,x.den) ⟨cP o.1,cP l.2⟩ ?_;refine I 1<|cm nW x aC<|I 1<|cm nW y aC<|FO Gn (x.den,y.den) ⟨cP l.2,cP o.2⟩ ?_;refine I 17<|wG j (λh=>?_) λh=>?_
 ·have A:decide (x.num<0)=decide (y.num<0):=z7 h;refine I 4<|zd V2 (x.num.natAbs*y.den,y.num.natAbs*x.den) ⟨cP t,cP z⟩ ?_;refine I 3<|zd (he:=by exact⟨.K7,.refl _,.refl _,aC⟩) oN (decide (x.num<0),x.num.natAbs*y.den+y.num.natAbs*x.den,x.den*y.den) ⟨cP<|Wv t z,cP F,C⟩ ?_;exact ix 35 (.agg<|(gA<|x+y).map<|gk au.ae) j (Gx<|congrArg cc<|add_same D<|A▸E)<|I 6<|an (FN j Gw)
 have A:decide (x.num<0)≠decide (y.num<0):=ne_of_beq_false h;refine I 4<|aV (he:=by exact⟨.uA,.uA,aC⟩) Gm (x.num.natAbs*y.den,y.num.natAbs*x.den) ⟨cP t,cP z⟩<|I 4<|cG (λh=>?_) λh=>?_
 ·have aT:x.num.natAbs*y.den<y.num.natAbs*x.den:=zr h;refine I 4<|zd V4 (y.num.natAbs*x.den,x.num.natAbs*y.den) ⟨cP z,og aT⟩ ?_;refine I 3<|zd (he:=by exact⟨.K7,.refl _,.refl _,aC⟩) oN (decide (y.num<0),y.num.natAbs*x.den-x.num.natAbs*y.den,x.den*y.den) ⟨cP<|s3 z<|tD _ _,cP F,C⟩ ?_;exact ix 47 (.agg<|(gA<|x+y).map<|gk au.ae) j (Gx (congrArg cc<|(by have:=Ww A.symm E D<|og aT;rw[Rat.add_comm,<-this,fT y.den x.den];rfl)))<|I 6<|an (FN j Gw)
 ·have G:y.num.natAbs*x.den<=x.num.natAbs*y.den:=zs h;refine I 7<|zd V4 (x.num.natAbs*y.den,y.num.natAbs*x.den) ⟨cP t,G⟩ ?_;refine I 3<|zd (he:=by exact⟨.K7,.refl _,.refl _,aC⟩) oN (decide (x.num<0),x.num.natAbs*y.den-y.num.natAbs*x.den,x.den*y.den) ⟨cP<|s3 t<|tD _ _,cP F,C⟩ ?_;exact ix 54 (.agg<|(gA<|x+y).map<|gk au.ae) j (Gx<|congrArg cc<|Ww A D E G)<|I 4<|an (FN j Gw)
def Ma:bt 13 zt:=Wx.R1
def Mb:bl:=b3 λ((x,y):Rat×Rat)=>([cc x,cc y],b9 268435456 x/\b9 268435456 y,cc<|x-y)
def Mc{x:Rat}(h:b9 k x):b9 k (-x):=by
 unfold b9;rw[Dn,Ic];exact h
def Wy:bt 14 Mb:=by
 refine bR [(66,Ws),(13,zt)] T7.1 ?_;intro⟨x,y⟩ ⟨l,o⟩ H au;exact I 10<|cm ak9 y aC<|I 1<|cm Ma (x,-y) ⟨l,Mc o⟩<|I 4<|an (az j j<|.of<|congrArg cc (Dq x y).symm)
def w4:bl:=b3 λ(n:Int)=>([.aa n],-9223372036854775808<=n/\n<9223372036854775808,cc<|mkRat n 1)
def h5(h:n<18446744073709551616):dP 2 n:=sb h
def uQ:bt 59 w4:=by
 refine bR [(56,w2),(54,uM)] SJ.1 ?_;intro n ⟨t,l⟩ H au;cases n with
 |ofNat k=>
  have l:(k:Int)<9223372036854775808:=l;exact I 19<|aP 12 (.i .u64 k) j fu<|aV qL k (by show k<_;omega)<|aV qL (1:Nat) (by show 1<_;decide)<|aV oN (false,k,1) ⟨cP<|h5 R,cP<|h5 al,al⟩<|I 4<|an (az j j dO)
 |negSucc k=>
  refine I 12<|Q5 j av ?_;refine I 5 ?_;have o:IntKind.u64.wrap (-(IntKind.u64.wrap<|Int.negSucc k))=((k+1:Nat):Int):=by
   rw[V1,V1];omega
  refine cg 7 (fu o) ?_;exact aV qL (k+1) (by show k+1<_;omega)<|aV qL (1:Nat) (by show 1<_;decide)<|aV oN (true,k+1,1) ⟨cP<|h5 R,cP<|h5 al,al⟩<|I 5<|an (az j j dO)
def Wz(K:ac (Nat×dL)){f:d7}(aZ:cJ){S:ev}{ae:S.L->Nat}(h:∀l,S.pre l->∀H i0 au,i0.length=(S.own l).length->ae l<=au.ae->eQ ⟨b7 aI (cj bS.ctx<|bG K)<|bx+1,bx+1,f,H,i0,au,y7 S l aZ.res⟩ [] (.c aZ.body) (S.own l) ((S.own l).length) (hJ 0<|S.args l))
 (D:aI.get f=some aZ:=by kernel_rfl) (aD:∀l,(S.args l).length<=aZ.aM:=by exactλ_=>hP j):dY bS.ctx f (S.jb ae):=aeT bS.ea eo (bG K) D aD λl hp H i0 au _=>h l hp H i0 au
def aO.l(k:aO):ac Int:=[(k.a:Int),(k.b:Int),(k.c:Int),(k.d:Int),(k.e:Int),(k.f:Int)]
def ei(k:aO):bv:=.agg ⟨k.l.map<|Value.int .i64⟩
def l0(k:aO):ag:=.agg [.aa (k.a:Int),.aa (k.b:Int),.aa (k.c:Int),.aa (k.d:Int),.aa (k.e:Int),.aa (k.f:Int)]
def w5(k:aO):uD (l0 k) (ei k):=af4 .i64 k.l
def key_inj{k J:aO}(h:ei k=ei J):k=J:=by
 unfold ei aO.l at h;simp at h;obtain⟨C,D,t,o,z,A⟩:=h;cases k;cases J;simp;simp only at C D t o z A;omega
def aO.gB(k:aO):Prop:=k.a<4096/\k.b<4096/\k.c<4096/\k.d<4096/\k.e<4096/\k.f<4096
theorem pL{k:aO}(h:k.gB):(fr.arr .i64 6).ok (ei k)=true:=by
 obtain⟨G,I,D,C,E,F⟩:=h;have one:∀n:Nat,n<4096->vR .i64 (n:Int)=true:=λn ah=>by
  unfold vR;rw[o9,o9];have t:IntKind.i64.min= -9223372036854775808:=al
  have A:IntKind.i64.max=9223372036854775807:=al
  rw[t,A,cO];exact⟨ck R,ck R⟩
 show(Nat.beq (du<|k.l.map<|Value.int .i64) 6&&(k.l.map<|Value.int .i64).all λx=>fL x (λz m=>jI .i64 z&&vR .i64 m) false)=true;rw[cO,il];refine⟨j,λx o=>?_⟩;obtain⟨n,ah,rfl⟩:=cW.1 o;unfold aO.l at ah;simp at ah;rcases ah with rfl|rfl|rfl|rfl|rfl|rfl<;>(apply one;assumption)
abbrev gu:=aO->be (bv×bv×bv)
variable{cb:Nat}
def sc(cb:Nat):be (bv×bv×bv)->Rat->ac ag
 |none,x=>[gk cb<|.b<|decide (x.num<0),gk cb<|da x.num.natAbs,gk cb<|oM x.den]
 |some (u,v,w),x=>[r7 (.v u)<|.b<|decide (x.num<0),r7 (.v v)<|da x.num.natAbs,r7 (.v w)<|oM x.den]
def eY(cb:Nat)(L:gu)(P:Poly):ac (bv×ag):=P.map λp=>(ei p.1,.agg<|sc cb (L p.1) p.2)
def WA{U:be (bv×bv×bv)}{x:Rat}:bJ (.agg<|sc cb U x) (cc x):=by
 cases U with
 |none=>exact bJ.agg ⟨.uA,.uA,.uA,aC⟩
 |some t=>exact bJ.agg ⟨.Lk,.Lk,.Lk,aC⟩
def alb{j:Nat}(h:cb<=j){x:Rat}:bJ (.agg<|(gA x).map<|gk j) (.agg<|sc cb none x):=bJ.agg ⟨.Lj h,.Lj h,.Lj h,aC⟩
def alc{x:Rat}:bJ (.agg<|(gA x).map<|gk cb) (cc x):=bJ.agg ⟨.uA,.uA,.uA,aC⟩
section
variable{cb:Nat}{L:gu}{P:Poly}{k:aO}
def ald{x:Rat}(D:P.eB)(h:(k,x)∈P):iz (eY cb L P) (ei k)=some (.agg<|sc cb (L k) x):=by
 induction P with
 |nil=>cases h
 |cons p P l=>
  have j:=ns.1 D;show cond (dm (ei k)<|ei p.1) _ _=_;rcases e1.1 h with rfl|h
  ·rw[oj];rfl
  ·have:dm (ei k) (ei p.1)=false:=by
    cases o:dm (ei k) (ei p.1)with
    |false=>rfl
    |true=>
     have e:=key_inj<|jH _ _ o;have:=j.1 _ h;rw[<-e]at this;exact absurd this<|aO.oL _
   rw[this];exact l j.2 h
def WB(h:∀p∈P,p.1≠k):iz (eY cb L P) (ei k)=none:=by
 cases e:iz (eY cb L P) (ei k)with
 |none=>rfl
 |some a=>
  obtain⟨p,hp,j⟩:=cW.1<|wT e;exact absurd (key_inj<|congrArg Prod.fst j)<|h p hp
def oO(j:P.eB):((eY cb L P).map (·.1)).Nodup:=by
 unfold eY;rw[pZ];refine n9.2<|j.imp λ{p q} h e=>?_;have:=key_inj e;rw[this]at h;exact aO.oL _ h
def gu.jQ(L:gu)(k:aO):gu:=λJ=>if J=k then none else L J
def Gy(D:P.eB)(x:Rat):∀p∈eY cb L P,p.1≠ei k->p∈eY cb (L.jQ k) (eC P k x):=λp hp l=>by
 obtain⟨q,o,rfl⟩:=cW.1 hp;have j:q.1≠k:=λe=>l<|congrArg ei e;refine cW.2 ⟨q,(mJ D k x q).2<|.inr ⟨o,j⟩,?_⟩;unfold gu.jQ;rw[aw j]
def Md(D:P.eB)(x:Rat):∀p∈eY cb (L.jQ k) (eC P k x),(p=(ei k,.agg<|sc cb none<|x+b8 P k)/\x+b8 P k≠0)\/p∈eY cb L P/\p.1≠ei k:=λp hp=>by
 obtain⟨q,t,rfl⟩:=cW.1 hp;rcases(mJ D k x q).1 t with⟨j,l,o⟩|⟨j,l⟩
 ·refine .inl ⟨?_,o⟩;unfold gu.jQ;rw[aE j,j,l]
 ·refine .inr ⟨cW.2 ⟨q,j,?_⟩,λe=>l<|key_inj e⟩;unfold gu.jQ;rw[aw l]
def Ch{l m:ac (bv×ag)}(aF:(l.map (·.1)).Nodup)(aL:(m.map (·.1)).Nodup)(h:∀a,a∈l.map (·.1)↔a∈m.map (·.1)):l.length=m.length:=by
 have:=((C9 aF aL).2 h).length_eq;simpa using this
def ale(D:P.eB)(x:Rat)(E:x+b8 P k≠0):uB (eY cb L P) (ei k) (.agg<|sc cb none<|x+b8 P k) (eY cb (L.jQ k)<|eC P k x):=by
 have l:(ei k,ag.agg<|sc cb none<|x+b8 P k)∈eY cb (L.jQ k) (eC P k x):=by
  refine cW.2 ⟨(k,x+b8 P k),(mJ D k x _).2<|.inl ⟨j,j,E⟩,?_⟩;unfold gu.jQ;rw[aE j]
 refine⟨oO<|mK D k x,l,Gy D x,λp hp=>(Md D x p hp).imp (·.1) id,?_⟩;have key:∀a,a∈(eY cb (L.jQ k)<|eC P k x).map (·.1)↔a=ei k\/a∈(eY cb L P).map (·.1):=λa=>by
  constructor
  ·intro h;obtain⟨p,hp,rfl⟩:=cW.1 h;rcases Md D x p hp with⟨e,_⟩|⟨e,_⟩
   ·exact .inl<|by rw[e]
   ·exact .inr<|cW.2 ⟨p,e,j⟩
  ·rintro(rfl|h)
   ·exact cW.2 ⟨_,l,j⟩
   ·obtain⟨p,hp,rfl⟩:=cW.1 h;by_cases e:p.1=ei k
    ·rw[e];exact cW.2 ⟨_,l,j⟩
    ·exact cW.2 ⟨p,Gy D x p hp e,j⟩
 cases o:iz (eY cb L P) (ei k)with
 |some a=>
  refine Ch (oO<|mK D k x) (oO D) λa=>(key a).trans ⟨?_,.inr⟩;rintro(rfl|h)
  ·exact cW.2 ⟨_,wT o,j⟩
  ·exact h
 |none=>
  have t:=BY o;have:=Ch (m:=(ei k,.nl)::eY cb L P) (oO<|mK D k x) (tz.2 ⟨λh=>by
   obtain⟨p,hp,z⟩:=cW.1 h;exact t p hp z,oO D⟩) λa=>(key a).trans av
  simpa using this
def alf(D:P.eB)(x:Rat)(E:x+b8 P k=0):FP (eY cb L P) (ei k) (eY cb (L.jQ k)<|eC P k x):=by
 have jc:∀p∈eY cb (L.jQ k) (eC P k x),p∈eY cb L P/\p.1≠ei k:=λp hp=>(Md D x p hp).elim (λh=>absurd E h.2) id;refine⟨oO<|mK D k x,Gy D x,jc,?_⟩;have key:∀a,a≠ei k->(a∈(eY cb (L.jQ k)<|eC P k x).map (·.1)↔a∈(eY cb L P).map (·.1)):=λa z=>by
  constructor
  ·intro h;obtain⟨p,hp,rfl⟩:=cW.1 h;exact cW.2 ⟨p,(jc p hp).1,j⟩
  ·intro h;obtain⟨p,hp,rfl⟩:=cW.1 h;exact cW.2 ⟨p,Gy D x p hp z,j⟩
 have o:ei k∉(eY cb (L.jQ k)<|eC P k x).map (·.1):=λh=>by
  obtain⟨p,hp,l⟩:=cW.1 h;exact(jc p hp).2 l
 cases t:iz (eY cb L P) (ei k)with
 |some a=>
  have:=Ch (m:=(ei k,.nl)::eY cb (L.jQ k) (eC P k x)) (oO D) (tz.2 ⟨o,oO<|mK D k x⟩) λb=>by
   rw[jj,e1];by_cases e:b=ei k
   ·rw[e];exact⟨λ_=>.inl j,λ_=>cW.2 ⟨_,wT t,j⟩⟩
   ·rw[key b e];exact⟨.inr,λh=>h.elim (λh=>absurd h e) id⟩
  simp at this;show _=(eY cb L P).length-1;omega
 |none=>
  refine Ch (oO<|mK D k x) (oO D) λb=>?_;by_cases e:b=ei k
  ·subst e;refine⟨λh=>absurd h o,λh=>?_⟩;obtain⟨p,hp,l⟩:=cW.1 h;exact absurd l<|BY t p hp
  ·exact key b e
end
def zu:ev:=ko λ((cb,L,P,k,x):Nat×gu×Poly×aO×Rat)=>([.g<|ho<|eY cb L P],[.mp 0,l0 k,cc x],P.eB/\(∀p∈P,p.1.gB/\b9 268435456 p.2)/\k.gB/\b9 268435456 x,[.g<|ho<|eY cb (L.jQ k)<|eC P k x],.bq [])
abbrev Ci:zu.L->Nat:=λl=>l.1
variable{f:Poly}{H:bh}{es:ac f7}{clock:Nat}
def Cj:dY bS.ctx 99 (zu.jb Ci):=by
 refine Wz [(13,zt.jb),(17,uO)] SL.1 ?_;rintro⟨cb,L,P,k,x⟩ ⟨l,D,A,K⟩ H i0 au Q ah;have t:∀p∈eY cb L P,(fr.arr .i64 6).ok p.1=true:=λp hp=>by
  obtain⟨q,O,rfl⟩:=cW.1 hp;exact pL (D q O).1
 obtain⟨c,r,N,G,hle,M,E⟩:∃(c:Rat) (r:ag),b9 268435456 c/\b8 P k=c/\bJ r (cc c)/\(match iz (eY cb L P) (ei k)with|some a=>r=a|none=>∀H F,den H r F<|.agg #[.bool false,.slice none 0 0,.slice none 0 0])/\iV r=true:=by
  by_cases h:∃y,(k,y)∈P
  ·obtain⟨y,o⟩:=h;refine⟨y,_,(D _ o).2,kG l o,WA,by rw[ald l o],?_⟩;cases L k<;>rfl
  ·have C:∀p∈P,p.1≠k:=λp hp e=>h ⟨p.2,by rw[<-e];exact hp⟩;refine⟨0,.agg [.b false,.nl,.nl],⟨cP<|h5 al,cP<|h5 al⟩,qJ C,le_zero,by rw[WB C];exactλH F=>⟨_,j,_,_,j,j,_,_,j,j,_,_,j,j,j⟩,j⟩
 subst G;refine I 11<|Ll r (af3 j) (w5 k) t M ?_ (fH:=E) (jd:=pL A);refine dD 9 r j j j<|FO Wx (x,b8 P k) ⟨K,N⟩ ?_ (he:=by exact⟨.refl _,hle,aC⟩) (fH:=by show(iV _&&(iV r&&true))=true;rw[E];rfl);refine ix 10 (.agg<|(gA<|x+b8 P k).map<|gk au.ae) j (Gx j)<|I 7<|aV uP (x+b8 P k) aC (I 3<|cG (λh=>?_) λh=>?_) (he:=by exact⟨alc,aC⟩)
 ·have z:=Rat.num_eq_zero.1<|tE.1 h;refine I 4<|agp (eY cb (L.jQ k)<|eC P k x) (alf l x z) (w5 k) t ?_ (jd:=pL A);exact I 4<|an ⟨.inr j,lD,[0],j,hV aC gj⟩
 ·have z:x+b8 P k≠0:=λe=>h (by rw[e];rfl);refine I 6<|ix 18 (.agg<|sc cb none<|x+b8 P k) j (alb ah)<|Si (eY cb (L.jQ k)<|eC P k x) (ale l x z) (w5 k) t ?_ (jd:=pL A);exact I 1<|an ⟨.inl j,lD,[0],j,hV aC gj⟩
def fC(P:Poly)(x:Rat)(W:Poly):Poly:=W.foldl (λP p=>eC P p.1<|p.2*x) P
theorem s5{x:Rat}:∀{W P:Poly},P.eB->(fC P x W).eB
 |[],_,h=>h
 |p::W,P,h=>s5 (W:=W)<|mK h _ _
theorem zv{x:Rat}:∀{W P:Poly},P.eB->P.jx->(fC P x W).jx
 |[],_,_,h=>h
 |p::W,P,j,h=>zv (W:=W) (mK j _ _)<|Ca j h _ _
def WC{P:Poly}{x:Rat}{W:Poly}{p:aO×Rat}:fC P x (W++[p])=eC (fC P x W) p.1 (p.2*x):=by
 unfold fC;rw[List.foldl_append];rfl
theorem Ck{x:Rat}:∀{W P:Poly},P.eB->(W.map (·.1)).Nodup->∀k,b8 (fC P x W) k=b8 W k*x+b8 P k
 |[],P,_,_,k=>by show b8 P k=0*x+b8 P k;rw[Rat.zero_mul,Al]
 |p::W,P,l,ah,k=>by
  rw[jj,tz]at ah;show b8 (fC (eC P p.1<|p.2*x) x W) k=_;rw[Ck (mK l _ _) ah.2,VV l,show b8 (p::W) k=if p.1=k then p.2 else b8 W k from rfl];by_cases h:k=p.1
  ·subst h;rw[aE j,aE j,qJ λq cz e=>ah.1<|cW.2 ⟨q,cz,e⟩,Rat.zero_mul,Al]
  ·rw[aw h,aw λe=>h e.symm]
theorem Me:∀{W:Poly},(W.map (·.1)).Nodup->∀{k:aO} {y:Rat},(k,y)∈W->b8 W k=y
 |[],_,_,_,h=>by cases h
 |p::W,ah,k,y,h=>by
  rw[jj,tz]at ah;unfold b8;rcases e1.1 h with rfl|h
  ·rw[aE j]
  ·rw[aw λe=>ah.1<|by grind];exact Me ah.2 h
def alg{W V:Poly}(D:(W.map (·.1)).Nodup)(E:(V.map (·.1)).Nodup)(h:∀p,p∈W↔p∈V)(k:aO):b8 W k=b8 V k:=by
 by_cases j:∃y,(k,y)∈W
 ·obtain⟨y,l⟩:=j;rw[Me D l,Me E<|(h _).1 l]
 ·rw[qJ λp hp e=>j ⟨p.2,by rw[<-e];exact hp⟩,qJ λp hp e=>j ⟨p.2,by rw[<-e];exact(h p).2 hp⟩]
def Mf{P:Poly}(h:P.eB):(P.map (·.1)).Nodup:=n9.2 (h.imp λ{p q} j e=>by rw[e]at j;exact aO.oL _ j)
def alh{P W V:Poly}{x:Rat}(j:P.eB)(ah:P.jx)(D:(W.map (·.1)).Nodup)(E:(V.map (·.1)).Nodup)(h:∀p,p∈W↔p∈V):fC P x W=fC P x V:=
 VW (s5 j) (s5 j) (zv j ah) (zv j ah) λk=>by rw[Ck j D,Ck j E,alg D E h]
def eZ(P:Poly):ac (bv×ag):=P.map λp=>(ei p.1,cc p.2)
def qP(es:ac f7):gu:=λk=>match hR (ei k) es with
 |some m=>match m.val with
  |.agg ⟨[u,v,w]⟩=>some (u,v,w)
  |_=>none
 |none=>none
def uR(h:hb H es clock (eZ f)){m:f7}(hm:m∈es):∃p∈f,∃u v w,m.key=ei p.1/\m.val= .agg ⟨[u,v,w]⟩/\qP es p.1=some (u,v,w)/\den H (cc p.2) [] m.val:=by
 obtain⟨a,z,j⟩:=h.jc m hm;obtain⟨p,hp,o⟩:=cW.1 z;have l:=congrArg Prod.fst o;have A:cc p.2=a:=congrArg Prod.snd o;rw[<-A]at j;have F:=j;obtain⟨M,e,u,K,t,_,v,I,D,_,w,G,C,_,E⟩:=F;subst E C D t;refine⟨p,hp,u,v,w,l.symm,e,?_,j⟩;unfold qP;rw[EJ h.keys hm l.symm];simp only;rw[e]
def uS(h:hb H es clock (eZ f)){p:aO×Rat}(hp:p∈f):∃m∈es,m.key=ei p.1:=h.to _<|cW.2 ⟨p,hp,j⟩
def gu.oP(L:gu)(W:Poly):gu:=λk=>if k∈W.map (·.1)then none else L k
def ali(L:gu):L.oP []=L:=funext λk=>by unfold gu.oP;rw[aw av]
theorem alj(L:gu)(W:Poly)(p:aO×Rat):(L.oP W).jQ p.1=L.oP (W++[p]):=funext λk=>by
 unfold gu.jQ gu.oP;rw[oY];by_cases h:k=p.1
 ·rw[aE h,aE<|by rw[h];simp]
 ·rw[aw h];by_cases j:k∈W.map (·.1)
  ·rw[aE j,aE<|nu _ j]
  ·rw[aw j,aw<|by grind]
theorem alk(L:gu){W V:Poly}(h:∀p,p∈W↔p∈V):L.oP W=L.oP V:=funext λk=>by
 unfold gu.oP;have:k∈W.map (·.1)↔k∈V.map (·.1):=by grind
 by_cases j:k∈W.map (·.1)
 ·rw[aE j,aE<|this.1 j]
 ·rw[aw j,aw λl=>j<|this.2 l]
theorem alm{L:gu}(E:f.eB){D:ac aO}{p:aO×Rat}(hp:p∈f)(ax:p.1∉D):uB (eY cb L<|f.filter λq=>decide (q.1∈D)) (ei p.1) (.agg<|sc cb (L p.1) p.2) (eY cb L<|f.filter λq=>decide (q.1∈D++[p.1])):=by
 have C:∀K:ac aO,Poly.eB (f.filter λq=>decide (q.1∈K)):=λK=>E.sublist De;have z:∀(K:ac aO) q,q∈(f.filter λq=>decide (q.1∈K))↔q∈f/\q.1∈K:=λK q=>by rw[q9,decide_eq_true_eq]
 have F:∀q∈f,q.1=p.1->q=p:=λq t e=>by
  have o:=kG E t;have l:=kG E hp;rw[e,l]at o;cases q;cases p;simp only at e o;rw[e,o]
 refine⟨oO<|C _,cW.2 ⟨p,(z _ _).2 ⟨hp,av⟩,j⟩,λr A _=>?_,λr A=>?_,?_⟩
 ·obtain⟨q,t,rfl⟩:=cW.1 A;obtain⟨o,l⟩:=(z _ _).1 t;exact cW.2 ⟨q,(z _ _).2 ⟨o,nu _ l⟩,j⟩
 ·obtain⟨q,t,rfl⟩:=cW.1 A;obtain⟨o,l⟩:=(z _ _).1 t;rcases hf.1 l with l|l
  ·exact .inr ⟨cW.2 ⟨q,(z _ _).2 ⟨o,l⟩,j⟩,λe=>ax<|by rw[<-key_inj e];exact l⟩
  ·rw[hh]at l;rw[F q o l];exact .inl j
 ·rw[WB λq t e=>ax<|by grind];have:=Ch (m:=(ei p.1,.nl)::eY cb L (f.filter λq=>decide (q.1∈D))) (oO<|C _) (tz.2 ⟨λh=>by
   obtain⟨r,A,G⟩:=cW.1 h;obtain⟨q,t,rfl⟩:=cW.1 A;exact ax<|by rw[<-key_inj G];exact((z _ _).1 t).2,oO<|C _⟩) λa=>by
   rw[jj,e1];constructor
   ·intro h;obtain⟨r,A,rfl⟩:=cW.1 h;obtain⟨q,t,rfl⟩:=cW.1 A;obtain⟨o,l⟩:=(z _ _).1 t;rcases hf.1 l with l|l
    ·exact .inr<|cW.2 ⟨_,cW.2 ⟨q,(z _ _).2 ⟨o,l⟩,j⟩,j⟩
    ·rw[hh]at l;exact .inl<|congrArg ei l
   ·rintro(rfl|h)
    ·exact cW.2 ⟨_,cW.2 ⟨p,(z _ _).2 ⟨hp,av⟩,j⟩,j⟩
    ·obtain⟨r,A,rfl⟩:=cW.1 h;obtain⟨q,t,rfl⟩:=cW.1 A;obtain⟨o,l⟩:=(z _ _).1 t;exact cW.2 ⟨_,cW.2 ⟨q,(z _ _).2 ⟨o,nu _ l⟩,j⟩,j⟩
  simpa using this
def qQ(L:gu)(p:aO×Rat):fm:=match L p.1 with
 |none=>.num (ei p.1) (decide (p.2.num<0)) (aW 4294967296 p.2.num.natAbs) (if p.2.den=1 then[]else aW 4294967296 p.2.den)
 |some (u,v,w)=>.lit (ei p.1)<|.agg ⟨[u,v,w]⟩
theorem Mg{cb:Nat}{L:gu}:∀P:Poly,pI (eY cb L P) ((P.map<|qQ L).map λe=>(e.key,e.j1 cb))
 |[]=>trivial
 |p::P=>by
  refine⟨?_,?_,Mg P⟩
  ·show ei p.1=(qQ L p).key;unfold qQ;cases L p.1<;>rfl
  ·show bJ (.agg<|sc cb (L p.1) p.2) ((qQ L p).j1 cb);unfold qQ;cases L p.1 with
   |none=>exact Gw
   |some t=>
    intro H E v ⟨ad,e,v1,G,z,j,v2,F,iW,l,I,D,A,o,C⟩;have j:=j.1;have l:=l.1;have o:=o.1;subst C A iW z j l o;exact e
theorem Mh{H:bh}{L:gu}:∀{P:Poly},P.jx->(∀p∈P,∀u v w,L p.1=some (u,v,w)->den H (cc p.2) [] (.agg ⟨[u,v,w]⟩))->mI H (P.map<|qQ L) (eZ P)
 |[],_,_=>trivial
 |p::P,ah,h=>by
  refine⟨?_,⟨decide (p.2.num<0),aW 4294967296 p.2.num.natAbs,if p.2.den=1 then[]else aW 4294967296 p.2.den,j,λe=>?_,?_⟩,Mh (λq cz=>ah q<|e5 _ cz) λq cz=>h q<|e5 _ cz⟩
  ·show(qQ L p).key=ei p.1;unfold qQ;cases L p.1<;>rfl
  ·have:=(na al).1 e;exact ah p g5<|Rat.num_eq_zero.1<|Int.natAbs_eq_zero.1 this
  ·unfold qQ;cases l:L p.1 with
   |none=>exact rD
   |some t=>exact h p g5 t.1 t.2.1 t.2.2 l
def ej(x:Rat)(k:Int):Rat:=if k<0 then mkRat x.num (x.den*2^(-k).toNat)else mkRat (x.num*2^k.toNat) x.den
def Cl(k:Nat):dP (k/32+1) (2^k):=sb (by
 rw[LZ k,fD,fT];exact Nat.mul_lt_mul_of_pos_left (by have:=Gp<|eG k (show 0<32 by decide);omega)<|nv al)
def WD:bl:=b3 λ((x,k):Rat×Int)=>([cc x,.aa k],b9 268435456 x/\-17179869184<k/\k<17179869184,cc<|ej x k)
def aln:bt 362 WD:=by
 refine bR [(62,uN),(217,Gq),(54,uM)] TV.1 ?_;intro⟨x,k⟩ ⟨(l:b9 _ x),(A:_<k),(C:k<_)⟩ H au;have o:=w3 x;refine I 13<|cG (λh=>?_) λh=>?_
 ·obtain⟨n,rfl⟩:∃n:Nat,k= -(n:Int):=⟨(-k).toNat,R⟩;refine I 3<|cm nW x aC<|I 2 (ww 14 (n:Nat)<|cm zq (x.den,n) ⟨cP l.2,by show n<_;omega⟩<|I 4<|cm oN (decide (x.num<0),x.num.natAbs,x.den*2^n) ⟨cP l.1,cP<|ka l.2<|cP (Cl n) (show _<=536870913 by omega),nw x.den_nz (by have:=la n;omega)⟩<|I 5<|an (az j j<|.of<|congrArg cc ?_));show mkRat (bu _ _) _=ej x (-(n:Int));unfold ej;rw[aE h,<-o];congr 3;omega
 ·obtain⟨n,rfl⟩:∃n:Nat,k=(n:Int):=⟨k.toNat,R⟩;refine I 7<|cm zq (x.num.natAbs,n) ⟨cP l.1,by show n<_;omega⟩<|I 1<|cm nW x aC<|I 2<|cm oN (decide (x.num<0),x.num.natAbs*2^n,x.den) ⟨cP<|ka l.1<|cP (Cl n) (show _<=536870913 by omega),cP l.2,x.den_nz⟩<|I 4<|an (az j j<|.of<|congrArg cc ?_);show mkRat (bu _ _) _=ej x (n:Int);unfold ej;have z:∀(t:Bool) (a b:Nat),bu t (a*b)=bu t a*b:=λt a b=>by unfold bu;cases t<;>simp[xX]
  rw[aw h,z,<-o];congr 1
def Gz:bl:=b3 λ((x,k):Rat×Int)=>([cc x,.aa k],b9 268435456 x,if -20000<=k/\k<=20000 then .bq [cc<|ej x k,.aa 0]else .bq [cc 0,.aa 7])
theorem WE:bt 277 Gz:=by
 refine bR [(362,WD)] Uv.1 ?_;intro⟨x,k⟩ (z:b9 _ x) H au;have t:∀{r:ag},(-20000<=k/\k<=20000->bJ r (.bq [cc<|ej x k,.aa 0]))->(¬(-20000<=k/\k<=20000)->bJ r (.bq [cc 0,.aa 7]))->bJ r (Gz.res (x,k)):=λl o=>by
  show bJ _ (if _ then _ else _);split
  ·exact l lh
  ·exact o lh
 refine I 13 ?_;by_cases l:k< -20000
 ·exact v1 8 l<|I 15<|an (az j j<|t (λh=>R) λ_=>.bq ⟨le_zero,.refl _,aC⟩)
 ·refine v0 8 l<|I 7<|cG (λo=>?_) λo=>?_
  ·exact I 9<|an (az j j<|t (λh=>R) λ_=>.bq ⟨le_zero,.refl _,aC⟩)
  ·exact I 6<|aV aln (x,k) ⟨z,by show _<k;omega,by show k<_;omega⟩<|I 5<|an (az j j<|t (λ_=>.refl _) λh=>R)
def WG:bl:=b3 λ(k:Int)=>([.aa k],True,if -20000<=k/\k<=20000 then .bq [cc<|ej (mkRat 1 1) k,.aa 0]else .bq [cc 0,.aa 7])
def alo:bt 398 WG:=by
 refine bR [(59,w4),(277,Gz)] UH.1 ?_;intro(k:Int) _ H au;refine I 8<|aV uQ (1:Int) ⟨al,al⟩<|I 1<|aV WE (mkRat 1 1,k) ⟨cP<|h5 al,cP<|h5 al⟩ ?_;by_cases h: -20000<=k/\k<=20000
 ·exact cg 6 (aE h)<|I 7<|an (az j j<|.of (aE h).symm)
 ·exact cg 6 (aw h)<|I 7<|an (az j j<|.of (aw h).symm)
def alp{A t:Nat}(E:A=V+4294967296^n*t)(aD:V<4294967296^n)(D:t≠0):bE A=32*n+bE t:=by
 obtain⟨a,b⟩:=qM D;have hp:bE t≠0:=λe=>by rw[e]at b;omega
 have j:=(re 2 32 n).symm;rw[j]at E aD;have:= @akK A (32*n+(bE t-1)) (by
  rw[h8];have:=lK (2^(32*n)) a;omega) (by
  rw[show 32*n+(bE t-1)+1=32*n+bE t by omega,h8];have:=lK (2^(32*n)) (show t+1<=2^bE t from b);rw[ia]at this;omega)
 omega
def WH:bl:=b3 λ(n:Nat)=>([da n],dP 1073741824 n,.aa (bE n:Nat))
theorem WI:bt 423 WH:=by
 refine bR [(304,o6)] Vv.1 ?_;intro(n:Nat) ah H au;have ah:(aW 4294967296 n).length<=1073741824:=ah;refine I 19<|cG (λh=>?_) λh=>?_
 ·have z:n=0:=s4.1 R;exact I 7<|an (az j j (.of<|by rw[z];rfl))
 have z:(aW 4294967296 n).length≠0:=λe=>h R;have o:=gL (b:=4294967296) al n;have l:=gl (b:=4294967296) al n;have D:=sW (b:=4294967296) al n;rcases od (aW 4294967296 n)with F|⟨dc,t,E⟩
 ·exact absurd (by rw[F];rfl) z
 rw[oe]at E;rw[E]at o l D ah;have G:=(zm (b:=4294967296) D).2;have C:=o t av;have N:(aW 4294967296 n).length=dc.length+1:=by grind
 rw[lC]at l;have O:=alp (A:=n) (n:=dc.length) (by rw[<-l];simp[val]) (j9 λd M=>o d<|by simp[M]) G;have af:dc.length<=1073741823:=by grind
 have K:(aW 4294967296 n)[dc.length]? =some t:=by grind
 refine e4 9 ?_;refine cd 9 dc.length<|I 1<|cd 10 ((32*dc.length:Nat):Int)<|I 3<|cd 13 dc.length<|fc t K j<|I 1<|aV Wf t C<|I 5 ?_;have:=L0 C;exact an<|az j j<|.of eM
def jR(p q:Nat):Int:=if p*2^((bE q:Int)-bE p).toNat<q*2^((bE p:Int)-bE q).toNat then(bE p:Int)-bE q-1 else(bE p:Int)-bE q
def WJ:bl:=b3 λ(x:Rat)=>([cc x],b9 268435456 x,.aa<|jR x.num.natAbs x.den)
def alq:bt 404 WJ:=by
 refine bR [(62,uN),(423,WH),(217,Gq),(64,zo)] UJ.1 ?_;intro x l H au;have o:=Cf l.1;have t:=Cf l.2;refine I 9<|aV nW x aC<|I 7<|aV WI x.num.natAbs (cP l.1)<|I 1<|aV WI x.den (cP l.2)<|I 1<|cd 12 ((bE x.num.natAbs:Int)-bE x.den)<|I 11<|aP 17 (.aa ((((bE x.den:Int)-bE x.num.natAbs).toNat:Nat):Int)) j (congrArg (ag.aa)<|by rw[fP R R];omega) ?_;refine aV zq (x.num.natAbs,((bE x.den:Int)-bE x.num.natAbs).toNat) ⟨cP l.1,R⟩<|I 3<|aP 21 (.aa ((((bE x.num.natAbs:Int)-bE x.den).toNat:Nat):Int)) j (congrArg (ag.aa) R)<|aV zq (x.den,((bE x.num.natAbs:Int)-bE x.den).toNat) ⟨cP l.2,R⟩<|aV Gm (x.num.natAbs*2^((bE x.den:Int)-bE x.num.natAbs).toNat,x.den*2^((bE x.num.natAbs:Int)-bE x.den).toNat) ⟨cP<|ka l.1<|cP (Cl _) (show _<=268435457 by omega),cP<|ka l.2<|cP (Cl _) (show _<=268435457 by omega)⟩<|I 3<|cG (λh=>?_) λh=>?_
 ·refine I 13 ?_;exact an (az j j (.of (by
   show ag.i _ _=ag.aa (jR _ _);unfold jR;rw[aE<|zr h];exact eM)))
 ·refine I 9 ?_;exact an (az j j (.of (by
   show ag.i _ _=ag.aa (jR _ _);unfold jR;rw[aw<|Dc.2<|zs h])))
def WK:bl:=b3 λ(x:Rat)=>([cc x],b9 268435456 x,if x.num=0 then .bq [.aa 0,.aa 8]else .bq [.aa<|jR x.num.natAbs x.den,.aa 0])
def alr:bt 375 WK:=by
 refine bR [(17,uO),(404,WJ)] TY.1 ?_;intro x l H au;refine I 11<|aV uP x aC<|I 3<|cG (λh=>?_) λh=>?_
 ·have h:=tE.1 h;exact I 8<|an (az j j<|.of (aE h).symm)
 ·have h:x.num≠0:=λe=>h (by rw[e];rfl);exact I 5<|aV alq x l<|I 5<|an (az j j<|.of (aw h).symm)
def fJ(e p:Int):Prop:=2<=e/\e<=11/\2<=p/\p<=113/\5<=e+p
variable{e:Int}
instance(e p:Int):Decidable (fJ e p):=by unfold fJ;infer_instance
def pM(e p:Int):ag:=.agg [.aa e,.aa p]
def GA:bl:=b3 λ((e,p):Int×Int)=>([pM e p],True,.aa (if fJ e p then 0 else 2))
def WL:bt 178 GA:=by
 refine bR [] U6.1 ?_;intro⟨e,p⟩ _ H au;have bad:¬fJ e p->bJ (.aa 2) (GA.res (e,p)):=λh=>.of (by show _=ag.aa (if _ then _ else _);rw[aw h]);refine I 12 ?_;by_cases z:e<2
 ·exact v1 5 z<|I 33<|an (az j j (bad<|by unfold fJ;omega))
 refine v0 5 z<|I 7 ?_;by_cases A:11<e
 ·exact v1 9 A<|I 29<|an (az j j (bad<|by unfold fJ;omega))
 refine v0 9 A<|I 8 ?_;by_cases o:p<2
 ·exact v1 14 o<|I 24<|an (az j j (bad<|by unfold fJ;omega))
 refine v0 14 o<|I 8 ?_;by_cases l:113<p
 ·exact v1 19 l<|I 19<|an (az j j (bad<|by unfold fJ;omega))
 refine v0 19 l<|I 12<|cd 26 (e+p)<|I 2 ?_;by_cases t:e+p<5
 ·exact v1 27 t<|I 11<|an (az j j (bad<|by unfold fJ;omega))
 exact v0 27 t<|I 12<|an (az j j (.of<|by show _=ag.aa (if _ then _ else _);rw[aE<|by unfold fJ;omega]))
def uT(e p m b:Int):ag:=.agg [.aa e,.aa p,.aa m,.aa b]
def gC(e:Int):Int:=2^(e-1).toNat-1
def GB:bl:=b3 λ((e,p):Int×Int)=>([pM e p,.aa 0,.nl],True,if fJ e p then .bq [uT e p 0<|gC e,.aa 0]else .bq [uT 0 0 0 0,.aa 2])
def als:bt 289 GB:=by
 refine bR [(178,GA)] TL.1 ?_;intro⟨e,p⟩ _ H au;refine I 22<|aV WL (e,p) aC ?_;by_cases h:fJ e p
 ·refine aP 20 (.aa 0) j (by show ag.aa (if _ then _ else _)=_;rw[aE h]) ?_;have o:GB.res (e,p)= .bq [uT e p 0<|gC e,.aa 0]:=aE h;obtain⟨r,l⟩:∃r,r=GB.res (e,p):=dC;obtain⟨z,A,_⟩:=h;refine I 15 ?_;rcases(show e=2\/e=3\/e=4\/e=5\/e=6\/e=7\/e=8\/e=9\/e=10\/e=11 by omega)with h|h|h|h|h|h|h|h|h|h<;>subst h
  all_goals first|refine dD 28 (.aa 1) j j j ?_|refine dD 28 (.aa 2) j j j ?_|refine dD 28 (.aa 3) j j j ?_|refine dD 28 (.aa 4) j j j ?_|refine dD 28 (.aa 5) j j j ?_|refine dD 28 (.aa 6) j j j ?_|refine dD 28 (.aa 7) j j j ?_|refine dD 28 (.aa 8) j j j ?_|refine dD 28 (.aa 9) j j j ?_|refine dD 28 (.aa 10) j j j ?_
  all_goals (repeat refine fz j ?_)
  all_goals (
   refine eu (L:=Int×Int) (λ(E,b)=>r= .bq [uT E p 0 b,.aa 0]) (λ(E,b)=>⟨[.c 364 [.aa 0,.aa 0,.aa 0,.aa 0],.c 364 [.aa E,.aa p,.aa 0,.aa b]],2,[(34,.aa 0),(33,.aa 0),(8,.p 1 0),(6,.p 0 0),(7,.aa 0)]⟩) (λ_=>0) [1,2] (_,_) ?_ (by show 0<bx+1;omega) bB ?_
   ·rw[l];exact o
   rintro⟨E,b⟩ t;refine I 20 ?_;exact an<|az j j<|.of<|t.symm.trans l)
 ·exact aP 20 (.aa 2) j (by show ag.aa (if _ then _ else _)=_;rw[aw h])<|I 15<|an (az j j<|.of (aw h).symm)
def WM:bl:=b3 λ(k:Int)=>([.aa k],-20000<=k/\k<=20000,cc<|ej (mkRat 1 1) k)
def alu:bt 363 WM:=by
 refine bR [(398,WG)] S5.1 ?_;intro k h H au;exact I 8<|aV alo k aC<|cg 7 (aE h)<|I 15<|an (az j j dO)
def Mi:bl:=b3 λ((x,k):Rat×Int)=>([cc x,.aa k],b9 268435456 x/\-20000<=k/\k<=20000,cc<|ej x k)
def WN:bt 290 Mi:=by
 refine bR [(277,Gz)] Vk.1 ?_;intro⟨x,k⟩ ⟨l,h⟩ H au;exact I 10<|aV WE (x,k) l<|cg 10 (aE h)<|I 15<|an (az j j dO)
def WO:bl:=b3 λ(x:Rat)=>([cc x],b9 268435456 x/\x.num≠0,.aa<|jR x.num.natAbs x.den)
def alv:bt 292 WO:=by
 refine bR [(375,WK)] Vm.1 ?_;intro x ⟨l,h⟩ H au;exact I 9<|aV alr x l<|cg 7 (aw h)<|I 14<|an (az j j dO)
def qR(aF:2<=e)(aL:e<=11):1<=gC e/\gC e<=1023:=by
 rcases(show e=2\/e=3\/e=4\/e=5\/e=6\/e=7\/e=8\/e=9\/e=10\/e=11 by omega)with h|h|h|h|h|h|h|h|h|h<;>subst h<;>decide
def WQ:bl:=b3 λ((e,p,m):Int×Int×Int)=>([uT e p m<|gC e],fJ e p,.aa<|1-gC e)
def alw:bt 374 WQ:=by
 refine bR [] TX.1 ?_;intro⟨e,p,m⟩ ⟨l,o,z,t,A⟩ H au;obtain⟨C,D⟩:=qR l o;exact I 15<|an (az j j<|.of<|eM j R R)
def nc{n:Int}(aF:dP k n.natAbs)(aL:dP k d)(D:d≠0):b9 k (mkRat n d):=by
 obtain⟨j,l⟩:=uL n d D;refine⟨s3 aF ?_,s3 aL ?_⟩
 ·rw[j,Int.natAbs_ediv_of_dvd<|Int.ofNat_dvd_left.2<|Aj _ _];exact jW _ _
 ·rw[l];exact jW _ _
def eb{l:Nat}{x:Rat}(h:b9 k x)(aD:k<=l:=by decide):b9 l x:=⟨cP h.1 aD,cP h.2 aD⟩
def alx{c:Int}:bJ (.bq [.agg [.b false,.nl,.nl],.aa c]) (.bq [cc 0,.aa c]):=.bq ⟨le_zero,.refl _,aC⟩
def GC(c:Nat){x:Rat}{k:Int}(h:b9 a x)(aF: -(32*(c:Int))<k)(aL:k<32*(c:Int)):b9 (a+c) (ej x k):=by
 have hp:∀n:Nat,n<32*c->dP c (2^n):=λn ah=>cP (Cl n) R;unfold ej;split
 ·exact nc (cP h.1 R) (ka h.2<|hp _ R)<|nw x.den_nz av
 ·refine nc ?_ (cP h.2 R) x.den_nz;rw[tF];exact ka h.1<|hp _ R
def GD(n:Int)(aF: -9223372036854775808<=n)(aL:n<9223372036854775808):b9 2 (mkRat n 1):=nc (h5 R) (h5 al) al
def uU{x:Rat}(aF:b9 a x)(aL:b9 b y):b9 (a+b+1) (x+y):=by
 rw[Ak];have l:=ka aF.1 aL.2;have j:=ka aL.1 aF.2;refine nc (s3 (Wv l<|cP j R) ?_) (cP (ka aF.2 aL.2) R)<|nw x.den_nz y.den_nz;have:=Int.natAbs_add_le (x.num*y.den)<|y.num*x.den;rw[tF,tF]at this;simpa using this
def Cm{x:Rat}(aF:b9 a x)(aL:b9 b y):b9 (a+b+1) (x-y):=by
 rw[Dq];exact uU aF<|Mc aL
def nd(e p:Int):Rat:=ej (ej (mkRat 1 1) p-mkRat 1 1)<|gC e-p+1
def aly{p:Int}(h:fJ e p):b9 41 (nd e p):=by
 obtain⟨j,l,t,o,z⟩:=h;obtain⟨A,C⟩:=qR j l;have af:=GD 1 al al;exact eb<|GC 32 (Cm (GC 4 af R R) af) R R
def WR:bl:=b3 λ((e,p,m):Int×Int×Int)=>([uT e p m<|gC e],fJ e p,cc<|nd e p)
def alz:bt 294 WR:=by
 refine bR [(363,WM),(59,w4),(14,Mb),(290,Mi)] Vn.1 ?_;intro⟨e,p,m⟩ ⟨l,o,z,t,A⟩ H au;obtain⟨C,D⟩:=qR l o;have af:=GD 1 al al;exact I 11<|cm alu p ⟨R,R⟩<|cm uQ (1:Int) ⟨al,al⟩<|cm Wy (ej (mkRat 1 1) p,mkRat 1 1) ⟨eb<|GC 4 af R R,eb af⟩<|I 6<|dD 14 (.aa<|gC e-p) j j (eM j R R)<|I 1<|dD 15 (.aa<|gC e-p+1) j j (eM j R R)<|cm WN (ej (mkRat 1 1) p-mkRat 1 1,gC e-p+1) ⟨eb<|Cm (GC 4 af R R) af,R,R⟩<|I 4<|an (az j j dO)
def WS:bl:=b3 λ((e,p,k,m):Int×Int×Int×Int)=>([uT e p m<|gC e,.aa k],fJ e p/\-1000000000000<=k/\k<=1000000000000,.aa<|max k (1-gC e)-p+1)
def alA:bt 291 WS:=by
 refine bR [(374,WQ)] Vl.1 ?_;intro⟨e,p,k,m⟩ ⟨⟨l,o,z,t,A⟩,D,E⟩ H au;obtain⟨C,F⟩:=qR l o;refine I 9<|cm alw (e,p,m) ⟨l,o,z,t,A⟩<|I 11 ?_;exact an (az j j (.of (by
  rw[fP (n:=max k (1-gC e)-p) R R];exact eM j R R)))
def GF(e p:Int)(x:Rat):Int:=if x.num=0 then 2-gC e-p else max (jR x.num.natAbs x.den) (1-gC e)-p+1
theorem w6{x:Rat}:0<jA x y↔y<x:=by
 unfold jA;constructor
 ·intro h;split at h
  ·omega
  split at h
  ·omega
  exact Rat.lt_of_le_of_ne (so.1 lh) λe=>by simp_all
 ·intro h;rw[aw<|so.2<|Rat.le_of_lt h,aw λe=>by subst e;exact absurd h<|so.2<|Rat.le_refl];decide
def alB{x:Rat}(h:b9 k x):b9 k (iA x):=by
 unfold iA;split
 ·exact Mc h
 ·exact h
def GG(p q:Nat): -(bE q:Int)-1<=jR p q/\jR p q<=bE p:=by unfold jR;split<;>omega
def fQ(d:Nat):ac ag:=[.aa d]
def ds(aN:ac Nat):ag:=.cU 1 Nat fQ aN
def c9(n:Nat):ag:=ds<|aW 1000000000 n
def dW(k n:Nat):Prop:=(aW 1000000000 n).length<=k
def uV:bl:=b3 λ(j:ac Nat)=>([ds j],j.length<=1099511627776,ds<|eI j)
theorem uW:bt 204 uV:=by
 refine bR [] TH.1 ?_;intro l (hp:l.length<=1099511627776) H au;refine I 7<|eA (λes:ac Nat=>eI es=eI l/\es.length<=l.length) (λes=>⟨[],0,[(0,ds es)]⟩) List.length [] l ⟨j,cn _⟩ ?_;rintro es ⟨t,A⟩;rcases od es with rfl|⟨dc,d,rfl⟩
 ·exact I 30<|an (az j j (.of<|by rw[show uV.res l=ds (eI l)from rfl,<-t];rfl))
 ·rw[oe]at *;have z:(dc++[d]).length=dc.length+1:=by simp
  refine I 7<|dd 6<|I 9<|aP 10 (.aa dc.length) j (by rw[z,fP]<;>simp<;>omega)<|eL (KE j j (show(dc++[d])[dc.length]? =some d by simp)) ?_;refine I 7<|wG j (λo=>?_) λo=>?_
  ·have o:d=0:=by grind
   refine I 8<|aP 18 (.aa dc.length) j (by rw[z,fP]<;>simp<;>omega)<|eL (Re j j dC (dw _) av) ?_;refine I 3<|bW [] dc ⟨av,by rw[<-t,qK,aE o],R⟩ (m4 ⟨?_,aC⟩);simp[dp,jL,ds]
  ·have o:d≠0:=by grind
   exact I 12<|an (az j j<|.of<|by rw[show uV.res l=ds (eI l)from rfl,<-t,qK,aw o])
def sd:bl:=b3 λ((a,b):Nat×Nat)=>([c9 a,c9 b],dW 1073741824 a/\dW 1073741824 b,.aa<|iK a b)
def qS:bt 197 sd:=by
 refine bR [] TD.1 ?_;intro⟨a,b⟩ ⟨(O:(aW _ a).length<=_),(Q:(aW _ b).length<=_)⟩ H au;have C:=gL (b:=1000000000) al a;have D:=gL (b:=1000000000) al b;have M:=sW (b:=1000000000) al a;have N:=sW (b:=1000000000) al b;have A:=gl (b:=1000000000) al a;have m6:=gl (b:=1000000000) al b;show b5.ok _ ⟨_,_,⟨_,_,[(0,ds<|aW 1000000000 a),(1,ds<|aW 1000000000 b)]⟩⟩;generalize aW 1000000000 a=xs at *;generalize aW 1000000000 b=l at *;have fin:∀{r:Int},iK a b=r->bJ (.aa r) (sd.res (a,b)):=λh=>by rw[<-h];exact .refl _
 refine I 15<|cG (λh=>?_) λh=>?_
 ·have h:xs.length≠l.length:=by omega
  refine I 10<|cG (λh=>?_) λh=>?_
  ·have h:xs.length<l.length:=by omega
   refine I 8 ?_;have:=Gh (b:=1000000000) al C N h;exact an<|az j j<|fin<|zp R
  ·have h:l.length<xs.length:=by have:l.length<=xs.length:=by omega
                                 omega
   refine I 9 ?_;have:=Gh (b:=1000000000) al D M h;exact an<|az j j<|fin<|Gk R
 have h:xs.length=l.length:=R
 refine I 12<|eu (L:=Nat) (λk=>k<=xs.length/\xs.drop k=l.drop k) (λ(k:Nat)=>⟨[],0,[(0,ds xs),(1,ds l),(5,.aa<|(k:Int)-1)]⟩) id [] xs.length ⟨cn _,by rw[sn,h,sn]⟩ (by show xs.length<bx+1;unfold bx;omega) bB ?_;rintro(k:Nat) ⟨S,t⟩;cases k with
 |zero=>
  exact I 19<|an (az j j (fin<|by simp at t;rw[t]at A;rw[<-A,<-m6];exact V5 _))
 |succ m=>
  have o:m<xs.length:=R
  have z:m<l.length:=R
  have e:((m+1:Nat):Int)-1=(m:Nat):=R
  refine aP 5 (.aa (m:Nat)) j (fu e)<|I 17<|aP 20 (.b true) j av<|ks xs[m] (a0 o) j<|I 3<|ks l[m] (a0 z) j<|I 4 ?_;have E:=Gl o;have F:=Gl z;refine cG (λh=>?_) λh=>?_
  ·have aT:xs[m]<l[m]:=by omega
   refine I 12<|an (az j j<|fin<|zp ?_);rw[<-A,<-m6,E,F,t];exact Gi (λx o=>C x<|p4 o) dA aT
  refine I 6<|ks xs[m] (a0 o) j<|I 3<|ks l[m] (a0 z) j<|I 4<|cG (λG=>?_) λG=>?_
  ·have aT:l[m]<xs[m]:=by omega
   refine I 11<|an (az j j<|fin<|Gk ?_);rw[<-A,<-m6,E,F,t];exact Gi (λx o=>D x<|p4 o) dA aT
  ·have K:xs[m]=l[m]:=by omega
   refine I 8<|bW [] m ⟨av,R,?_⟩ bB;rw[gp o,gp z,K,t]
end Go.bA.c3
namespace Go.bA.c3
variable{i b x y:Nat}
def w7{b n i:Nat}(aA:2<=b):i<(aW b n).length↔n/b^i≠0:=by
 have hp:0<b^i:=nv R;constructor
 ·intro h e;have:=je aA (k:=i) (n:=n) (by rcases Nat.div_eq_zero_iff.1 e with h|h<;>omega);omega
 ·intro h;exact Cb aA (by
   rcases fS n (b^i)with j|j
   ·exact absurd (p5 j) h
   ·exact j)
theorem s6{b:Nat}(aA:2<=b):∀{n i:Nat},i<(aW b n).length->(aW b n)[i]? =some (n/b^i%b)
 |n,i,h=>by
  by_cases bX:n=0
  ·subst bX;rw[gK]at h;simp at h
  ·rw[m9 aA bX]at h⊢;cases i with
   |zero=>simp
   |succ i=>
    rw[C3,s6 aA<|by simpa using h,p7,fD,fT b]
def alC{n:Nat}(aA:2<=b)(h:i<(aW b n).length):(aW b n)[i]=n/b^i%b:=by
 have:=s6 aA h;rw[nq h]at this;exact Option.some.inj this
def l1(b x y i:Nat):Nat:=(x%b^i+y%b^i)/b^i
def alD(b x y:Nat):l1 b x y 0=0:=by simp[l1,Di]
def WT(aA:0<b):(x+y)/b^i=x/b^i+y/b^i+l1 b x y i:=by
 have hp:0<b^i:=nv aA;unfold l1;have j:=p6 x<|b^i;have l:=p6 y<|b^i;have:x+y=(x%b^i+y%b^i)+b^i*(x/b^i+y/b^i):=by rw[ia];omega
 rw[this,xS _ _ hp];omega
def alE(aA:0<b):l1 b x y i<=1:=by
 have hp:0<b^i:=nv aA;have j:=eG x hp;have l:=eG y hp;unfold l1;have:(x%b^i+y%b^i)/b^i<2:=vC R;omega
def alF(aA:0<b):l1 b x y (i+1)=(l1 b x y i+x/b^i%b+y/b^i%b)/b:=by
 have hp:0<b^i:=nv aA;have e:∀z,z%b^(i+1)=z%b^i+b^i*(z/b^i%b):=λz=>by
  rw[fD,Nat.mod_mul]
 unfold l1;rw[e x,e y,fD,<-p7];congr 1;rw[show x%b^i+b^i*(x/b^i%b)+(y%b^i+b^i*(y/b^i%b))=(x%b^i+y%b^i)+b^i*(x/b^i%b+y/b^i%b) by rw[ia];omega,xS _ _ hp];omega
def alG(aA:0<b):(l1 b x y i+x/b^i%b+y/b^i%b)%b=(x+y)/b^i%b:=by
 rw[WT aA];rw[show l1 b x y i+x/b^i%b+y/b^i%b=l1 b x y i+(x/b^i%b+y/b^i%b) by omega,Nat.add_mod,<-Nat.add_mod (x/b^i),<-Nat.add_mod,tv]
def alH{l:ac Nat}(h:i<l.length):l.take (i+1)=l.take i++[l[i]]:=by
 rw[List.take_add_one,nq h];rfl
open Go.bA
set_option maxRecDepth 100000
set_option maxHeartbeats 4000000
variable{k c m d:Nat}
def GH:bl:=b3 λ((a,b):Nat×Nat)=>([c9 a,c9 b],dW 1073741824 a/\dW 1073741824 b,c9<|a+b)
def se{n:Nat}(h:(aW 1000000000 n).length<=k):n<1000000000^k:=by
 have j:=j9<|gL (b:=1000000000) al n;rw[gl al]at j;exact eR j<|jG al h
def Mj{a:Nat}(j:(aW 1000000000 a).length<=k)(aA:(aW 1000000000 b).length<=k):(aW 1000000000<|a+b).length<=k+1:=je al (by
 have:=se j;have:=se aA;omega)
def alI{u v w:Nat}(h:w=u+v+c):w≠0↔(u≠0\/v≠0\/0<c):=R
theorem alJ{D:ac Nat}(h:i<D.length)(hm:i<m)(j:D[i]=d):(D.take i++List.replicate (m-i) 0).take i++([d]++(D.take i++List.replicate (m-i) 0).drop (i+[d].length))=D.take (i+1)++List.replicate (m-(i+1)) 0:=by
 have l:(D.take i).length=i:=by grind
 rw[alH h,j,show m-i=(m-(i+1))+1 by omega,rh];congr 1
 ·rw[Dr R,iG R]
 ·congr 1;rw[List.drop_append,xN R,l];simp
def Mk:bt 312 GH:=by
 refine bR [] UC.1 ?_;intro⟨a,b⟩ ⟨(Y:(aW _ a).length<=_),(a':(aW _ b).length<=_)⟩ H au;show b5.ok _ ⟨_,_,⟨_,_,[(0,ds<|aW 1000000000 a),(1,ds<|aW 1000000000 b)]⟩⟩;obtain⟨m,hm⟩:∃m,m=max (aW 1000000000 a).length (aW 1000000000 b).length:=dC;have Z:=Mj (k:=m) (a:=a) (b:=b) R R;refine I 13<|cd 13 ((m+1:Nat):Int)<|oE (n:=0) (c:=m+1) fQ 0 ?_ (ah:=dw _);refine I 15 ?_;refine eu (L:=Nat) (λi=>i<=(aW 1000000000<|a+b).length)
  (λ(i:Nat)=>⟨[.a 2 false 1 Nat fQ<|(aW 1000000000<|a+b).take i++List.replicate (m+1-i) 0],1,[(0,ds<|aW 1000000000 a),(1,ds<|aW 1000000000 b),(5,.aK 0 1 0 i<|m+1),(6,.aa (l1 1000000000 a b i:Nat)),(7,.aa i)]⟩)
  (λi=>m+1-i) [0] 0 (dw _) (by show m+1-0<bx+1;unfold bx;omega) (bB (aL:=⟨j,j,j,by rw[alD];rfl,j,aC⟩)) ?_
 rintro(i:Nat) af;have Qv:=WT (b:=1000000000) (x:=a) (y:=b) (i:=i) al;have fx:=alE (b:=1000000000) (x:=a) (y:=b) (i:=i) al;have JT:= @w7 1000000000 a i al;have M:= @w7 1000000000 b i al;have Q:= @w7 1000000000 (a+b) i al;have D:(i<(aW 1000000000<|a+b).length)↔(i<(aW 1000000000 a).length\/i<(aW 1000000000 b).length\/0<l1 1000000000 a b i):=by rw[JT,M,Q];exact alI Qv
 refine I 8<|gQ (L:=Bool) (λt=>t=decide (i<(aW 1000000000<|a+b).length)) (λt=>⟨[.a 2 false 1 Nat fQ<|(aW 1000000000<|a+b).take i++List.replicate (m+1-i) 0],1,[(0,ds<|aW 1000000000 a),(1,ds<|aW 1000000000 b),(5,.aK 0 1 0 i<|m+1),(6,.aa (l1 1000000000 a b i:Nat)),(7,.aa i),(28,.b t)]⟩) ?_ ?_
 ·by_cases F:i<(aW 1000000000 a).length
  ·exact aP 19 (.b true) j (by simp[F])<|I 10<|dv [0] true (by simp[D,F])
  refine aP 19 (.b false) j (by simp[F])<|I 10 ?_;by_cases G:i<(aW 1000000000 b).length
  ·exact aP 25 (.b true) j (by simp[G])<|I 4<|dv [0] true (by simp[D,G])
  exact aP 25 (.b false) j (by simp[G])<|I 6<|dv [0] (decide ((0:Int)<(l1 1000000000 a b i:Nat))) (by simp only[D];congr 1;simp;omega)
 intro t K;by_cases aT:i<(aW 1000000000<|a+b).length
 ·refine aP 28 (.b true) j (by rw[K,ck aT]) ?_;obtain⟨l,A⟩:∃d,d=a/1000000000^i%1000000000:=dC;obtain⟨o,z⟩:∃d,d=b/1000000000^i%1000000000:=dC;have ab:l<1000000000:=by rw[A];exact eG _ al
  have ad:o<1000000000:=by rw[z];exact eG _ al
  have cs:=alF (b:=1000000000) (x:=a) (y:=b) (i:=i) al;have C:=alG (b:=1000000000) (x:=a) (y:=b) (i:=i) al;rw[<-A,<-z]at cs C;obtain⟨c,N⟩:∃c,c=l1 1000000000 a b i:=dC;rw[<-N]at cs C fx;have O:=alC (b:=1000000000) (n:=a+b) (i:=i) al aT;refine aP 6 (.aa (c:Nat)) j (by rw[N])<|I 14<|gQ (L:=Unit) (λ_=>True) (λ_=>⟨[.a 2 false 1 Nat fQ<|(aW 1000000000<|a+b).take i++List.replicate (m+1-i) 0],1,[(0,ds<|aW 1000000000 a),(1,ds<|aW 1000000000 b),(5,.aK 0 1 0 i<|m+1),(6,.aa ((c+l:Nat):Int)),(7,.aa i)]⟩) ?_ ?_
  ·refine cG (λh=>?_) λh=>?_
   ·have h:i<(aW 1000000000 a).length:=by omega
    exact I 4<|fc l (by rw[A];exact s6 al h) j<|I 4<|bW [0] () aC bB
   ·have h:¬i<(aW 1000000000 a).length:=by omega
    have S:l=0:=by
     have:a/1000000000^i=0:=Decidable.not_not.1 λE=>h<|JT.2 E;rw[A,this]
    exact I 1<|bW [0] () aC bB
  intro _ _;refine I 9<|gQ (L:=Unit) (λ_=>True) (λ_=>⟨[.a 2 false 1 Nat fQ<|(aW 1000000000<|a+b).take i++List.replicate (m+1-i) 0],1,[(0,ds<|aW 1000000000 a),(1,ds<|aW 1000000000 b),(5,.aK 0 1 0 i<|m+1),(6,.aa ((c+l+o:Nat):Int)),(7,.aa i)]⟩) ?_ ?_
  ·refine cG (λh=>?_) λh=>?_
   ·have h:i<(aW 1000000000 b).length:=by omega
    exact I 4<|fc o (by rw[z];exact s6 al h) j<|I 4<|bW [0] () aC bB
   ·have h:¬i<(aW 1000000000 b).length:=by omega
    have S:o=0:=by
     have:b/1000000000^i=0:=Decidable.not_not.1 λE=>h<|M.2 E;rw[z,this]
    exact I 1<|bW [0] () aC bB
  intro _ _;refine I 5<|aP 53 (.aa (((c+l+o)%1000000000:Nat):Int)) j j<|I 1<|Rl (ai:=fQ) [(c+l+o)%1000000000] (jt (ai:=fQ) [(c+l+o)%1000000000] j) ((aW 1000000000<|a+b).take (i+1)++List.replicate (m+1-(i+1)) 0) ?_ (aD:=?_) (aS:=?_)
  ·exact I 6<|aP 57 (.aa (((c+l+o)/1000000000:Nat):Int)) j (by show ag.i _ (IntKind.i64.wrap (((c+l+o)/1000000000:Nat):Int))=_;exact eM j R R)<|I 9<|bW [0] (i+1) ⟨by show m+1-(i+1)<m+1-i;omega,aT⟩ bB
  ·simp;omega
  ·exact alJ aT R<|by rw[O,C]
 ·refine aP 28 (.b false) j (by rw[K,cq aT])<|I 9 ?_;have T:i=(aW 1000000000<|a+b).length:=by omega
  refine Fy 58 (aW 1000000000<|a+b) ?_ (aD:=by rw[iQ,Dr dA,xR,Nat.min_self,iG R]) (ah:=T.symm);exact I 4<|an (az j j dO)
def GI:bl:=b3 λ((a,b):Nat×Nat)=>([c9 a,c9 b],dW 1073741824 a/\b<=a,c9<|a-b)
def alK{O:ac Nat}(h:O.length=i)(hm:i<m):(O++List.replicate (m-i) 0).take i++([d]++(O++List.replicate (m-i) 0).drop (i+[d].length))=(O++[d])++List.replicate (m-(i+1)) 0:=by
 subst h;rw[show m-O.length=(m-(O.length+1))+1 by omega,rh];congr 1
 ·rw[Dr R,iG R]
 ·congr 1;simp
def Cn:bt 313 GI:=by
 refine bR [(204,uV)] S3.1 ?_;intro⟨a,b⟩ ⟨(ae:(aW _ a).length<=_),(T:b<=a)⟩ H au;have Y:=gL (b:=1000000000) al a;have Z:=gL (b:=1000000000) al b;have a':=gl (b:=1000000000) al a;have m6:=gl (b:=1000000000) al b;have ar:(aW 1000000000 b).length<=(aW 1000000000 a).length:=je al<|mf T<|se<|cn _;show b5.ok _ ⟨_,_,⟨_,_,[(0,ds<|aW 1000000000 a),(1,ds<|aW 1000000000 b)]⟩⟩;generalize aW 1000000000 a=xs at *;generalize aW 1000000000 b=t at *;refine I 9<|oE (n:=0) (c:=xs.length) fQ 0 ?_ (ah:=dw _);refine I 15 ?_;refine eu (L:=Nat×ac Nat×Nat) (λ(i,o,c)=>i<=xs.length/\o.length=i/\Ok 1000000000 o/\c<=1/\val 1000000000 (xs.take i)+1000000000^i*c=val 1000000000 o+val 1000000000 (t.take i))
  (λ((i:Nat),(o:ac Nat),(c:Nat))=>⟨[.a 2 false 1 Nat fQ<|o++List.replicate (xs.length-i) 0],1,[(0,ds xs),(1,ds t),(5,.aK 0 1 0 i xs.length),(6,.aa c),(7,.aa i)]⟩)
  (λl=>xs.length-l.1) [0] (0,[],0) ⟨dw _,j,λx D=>by simp at D,al,by simp[val]⟩ (by show xs.length-0<bx+1;unfold bx;omega) bB ?_
 rintro⟨i,o,c⟩ ⟨af,C,E,ao,F⟩;refine I 9<|cG (λh=>?_) λh=>?_
 ·have h:i<xs.length:=by omega
  have K:xs[i]? =some xs[i]:=a0 h;have aT:=Y _<|dx h;refine I 8<|fc xs[i] K j<|I 15<|gQ (L:=Nat) (λy=>y<1000000000/\val 1000000000 (t.take<|i+1)=val 1000000000 (t.take i)+1000000000^i*y) (λ(y:Nat)=>⟨[.a 2 false 1 Nat fQ<|o++List.replicate (xs.length-i) 0],1,[(0,ds xs),(1,ds t),(5,.aK 0 1 0 i xs.length),(7,.aa i),(8,.aa<|(xs[i]:Int)-c-y)]⟩) ?_ ?_
  ·refine cG (λz=>?_) λz=>?_
   ·have z:i<t.length:=by simpa using z
    have M:t[i]? =some t[i]:=a0 z;have N:=Z _<|dx z;refine I 4<|fc t[i] M j<|I 4<|bW [0] t[i] ⟨N,hZ z⟩ (bB (aL:=⟨j,j,j,j,?_,aC⟩));exact congrArg (λn=>some<|ag.aa n)<|by rw[fP (n:=(xs[i]:Int)-c) R R];exact sX j R R
   ·have z:t.length<=i:=by simpa using z
    refine I 1<|bW [0] 0 ⟨al,by rw[jP R,jP z];simp⟩ (bB (aL:=⟨j,j,j,j,?_,aC⟩));exact congrArg (λn=>some<|ag.aa n)<|sX R R R
  rintro y ⟨aj,ab⟩;refine I 12<|gQ (L:=Nat×Nat) (λ(d,A)=>d<1000000000/\A<=1/\xs[i]+1000000000*A=d+y+c) (λ((d:Nat),(A:Nat))=>⟨[.a 2 false 1 Nat fQ<|o++List.replicate (xs.length-i) 0],1,[(0,ds xs),(1,ds t),(5,.aK 0 1 0 i xs.length),(6,.aa A),(7,.aa i),(8,.aa d)]⟩) ?_ ?_
  ·refine cG (λz=>?_) λz=>?_
   ·refine I 10<|bW [0] (xs[i]+1000000000-c-y,1) ⟨R,R,R⟩ (bB (aL:=⟨j,j,j,j,j,?_,aC⟩));exact congrArg (λn=>some<|ag.aa n)<|sX R R R
   ·refine I 1<|bW [0] (xs[i]-c-y,0) ⟨R,R,R⟩ (bB (aL:=⟨j,j,j,j,j,?_,aC⟩));exact congrArg (λn=>some<|ag.aa n) R
  rintro⟨d,A⟩ ⟨ak,ad,G⟩;refine I 4<|Rl (ai:=fQ) [d] (jt (ai:=fQ) [d] j) ((o++[d])++List.replicate (xs.length-(i+1)) 0) ?_ (aD:=alK C h) (aS:=by simp;omega);refine I 9<|bW [0] (i+1,o++[d],A) ⟨by show xs.length-(i+1)<xs.length-i;omega,R,by simp[C],?_,ad,?_⟩ bB
  ·intro x D;rcases hf.1 D with h|h
   ·exact E x h
   ·simp at h;omega
  ·rw[lC,C,hZ h,ab,fD];have:=VZ F G;simp[val];omega
 ·have G:i=xs.length:=by omega
  refine I 8<|Fy 42 o ?_ (aD:=by rw[iQ,Dr R,iG R]) (ah:=C);refine aV uW o (by show o.length<=_;omega)<|I 4<|an (az j j<|.of ?_);show ds (eI o)=c9 (a-b);rw[w1 (b:=1000000000) al E];have O:xs.take i=xs:=iG R;have S:t.take i=t:=iG R;rw[O,S,a',m6]at F;have Q:=j9 E;have:c=0:=by
   rcases Ah c with h|h
   ·exact h
   ·exfalso;have:c=1:=by omega
    subst this;rw[C]at Q;omega
  subst this;show ds _=ds _;rw[show val 1000000000 o=a-b by omega]
def w8:bl:=b3 λ((a,b):Nat×Nat)=>([c9 a,c9 b],dW 1073741824 a/\dW 1073741824 b,c9<|a*b)
def alL{U:Nat}(aS:c<1000000000)(j:x<1000000000)(D:y<1000000000)(E:U<1000000000):x*y+U+c<1000000000000000000:=by
 have l:x*y<=999999999*999999999:=Af R R;omega
def pN:bt 198 w8:=by
 refine bR [(204,uV)] SY.1 ?_;intro⟨a,b⟩ ⟨(ak:(aW _ a).length<=_),(ao:(aW _ b).length<=_)⟩ H au;have a':=gL (b:=1000000000) al a;have ab:=gL (b:=1000000000) al b;have ad:=gl (b:=1000000000) al a;have m6:=gl (b:=1000000000) al b;show b5.ok _ ⟨_,_,⟨_,_,[(0,ds<|aW 1000000000 a),(1,ds<|aW 1000000000 b)]⟩⟩;generalize aW 1000000000 a=xs at *;generalize aW 1000000000 b=o at *;refine I 12<|cd 13 ((xs.length+o.length:Nat):Int)<|oE fQ 0 ?_;refine I 10 ?_;refine eu (L:=Nat×ac Nat) (λ(i,t)=>i<=xs.length/\t.length=xs.length+o.length/\Ok 1000000000 t/\val 1000000000 (t.take<|i+o.length)=val 1000000000 (xs.take i)*val 1000000000 o)
  (λ((i:Nat),(t:ac Nat))=>⟨[.a 2 false 1 Nat fQ t],1,[(0,ds xs),(1,ds o),(5,.aK 0 1 0 (xs.length+o.length)<|xs.length+o.length),(6,.aa i)]⟩)
  (λl=>xs.length-l.1) [0] (0,List.replicate (xs.length+o.length) 0) ⟨R,av,r9 al _,by simp[val,val_zero]⟩ (by show xs.length-0<bx+1;unfold bx;omega) bB ?_
 rintro⟨i,t⟩ ⟨af,ae,F,A⟩;refine I 9<|cG (λh=>?_) λh=>?_
 ·have h:i<xs.length:=by omega
  have ai:=a' _<|dx h;refine I 16 ?_;refine eu (L:=Nat×ac Nat×Nat) (λ(J,os,c)=>J<=o.length/\os.length=xs.length+o.length/\Ok 1000000000 os/\c<1000000000/\(∀k,i+J<=k->os[k]? =t[k]?)/\val 1000000000 (os.take<|i+J)+1000000000^(i+J)*c=val 1000000000 (t.take<|i+J)+1000000000^i*(xs[i]*val 1000000000 (o.take J)))
   (λ((J:Nat),(os:ac Nat),(c:Nat))=>⟨[.a 2 false 1 Nat fQ os],1,[(0,ds xs),(1,ds o),(5,.aK 0 1 0 (xs.length+o.length)<|xs.length+o.length),(6,.aa i),(7,.aa c),(8,.aa J)]⟩)
   (λl=>o.length-l.1) [0] (0,t,0) ⟨R,ae,F,R,λ_ _=>j,by simp[val]⟩ (by show o.length-0<bx+1;unfold bx;omega) bB ?_
  rintro⟨J,os,c⟩ ⟨M,E,D,K,N,O⟩;refine I 9<|cG (λz=>?_) λz=>?_
  ·have z:J<o.length:=by omega
   have Q:=ab _<|dx z;have C:i+J<os.length:=R
   have S:os[i+J]=t[i+J]:=by
    have:=N (i+J)<|cn _;rw[a0 C,a0 R]at this;exact Option.some.inj this
   have Y:=D _<|dx C;have g:=alL K ai Q Y;refine I 11<|ww 31 ((i+J:Nat):Int)<|cK j j<|FB os[i+J] (a0 C) ?_;refine I 3<|ks xs[i] (a0 h) j<|I 3<|ks o[J] (a0 z) j<|I 3 ?_;have Z:IntKind.i64.wrap (IntKind.i64.wrap ((c:Int)+os[i+J])+IntKind.i64.wrap ((xs[i]:Int)*o[J]))=((c+(xs[i]*o[J]+os[i+J]):Nat):Int):=by
    rw[<-mT];rw[fP (n:=(c:Int)+os[i+J]) R R,fP (n:=((xs[i]*o[J]:Nat):Int)) R R,fP R R];omega
   refine dD 44 (.aa ((c+(xs[i]*o[J]+os[i+J]):Nat):Int)) j j (congrArg (ag.aa) Z)<|I 9<|cd 48 ((i+J:Nat):Int) ?_;obtain⟨T,G⟩:∃T,T=c+(xs[i]*o[J]+os[i+J]):=dC;refine aP 7 (.aa (T:Nat)) j (by rw[G]) ?_;have aj:T<1000000000000000000:=R
   refine I 2<|aP 50 (.aa ((T%1000000000:Nat):Int)) j j<|k4 j j<|kE (T%1000000000) ?_;refine I 5<|aP 53 (.aa ((T/1000000000:Nat):Int)) j (by show ag.i _ (IntKind.i64.wrap ((T/1000000000:Nat):Int))=_;exact eM j R R)<|I 9 ?_;refine bW [0] (J+1,os.set (i+J)<|T%1000000000,T/1000000000) ⟨by show o.length-(J+1)<o.length-J;omega,R,by simp[E],lZ D _<|eG _ al,R,λk ar=>by rw[mU R];exact N k R,?_⟩
    bB
   rw[<-q7,hZ (l:=os.set (i+J) _) dA,hZ (l:=t) R,hZ z,me<|cn _,lJ,fD,<-S,G];exact V6 (by rw[h8]) O
  ·have M:J=o.length:=by omega
   subst M;refine I 11<|cd 58 ((i+o.length:Nat):Int)<|I 1<|k4 j j<|kE c ?_;refine I 8<|bW [0] (i+1,os.set (i+o.length) c) ⟨by show xs.length-(i+1)<xs.length-i;omega,R,by simp[E],lZ D _ K,?_⟩ bB;rw[show i+1+o.length=i+o.length+1 by omega,hZ (l:=os.set _ _) dA,me<|cn _,lJ,O,A,hZ h,jP<|cn _,e2,h9]
 ·have af:i=xs.length:=by omega
  subst af;refine I 8<|kn 61 ?_;refine aV uW t (by show t.length<=_;omega)<|I 4<|an (az j j<|.of ?_);show ds (eI t)=c9 (a*b);rw[jP (l:=xs)<|cn _,jP (l:=t) R]at A;rw[w1 (b:=1000000000) al F,A,ad,m6];rfl
def uX:aW 1000000000 1=[1]:=by rw[m9 al al,gK]
def uY:bl:=b3 λ(_:Unit)=>([],True,c9 1)
def s7:bt 119 uY:=by
 refine bR [] Tx.1 ?_;intro _ _ H au;refine I 8<|kF 0 fQ [1] ?_;refine kn 1 ?_;exact I 4<|an (az j j (.of<|by show ds [1]=ds _;rw[uX]))
def dB(x:Rat):ag:=.agg [.aa x.num.sign,c9 x.num.natAbs,ds (if x.num=0 then[]else aW 1000000000 x.den)]
def w9:bl:=b3 λ(x:Rat)=>([dB x],True,c9 x.den)
def qT:bt 199 w9:=by
 refine bR [(119,uY)] TE.1 ?_;intro x _ H au;refine I 14<|cG (λh=>?_) λh=>?_
 ·have h:=tE.1 h;have l:x.den=1:=by have:=x.reduced;rw[h]at this;simpa using this
  exact I 2<|aV s7 () aC<|I 5<|an (az j j (.of<|by show c9 1=c9 x.den;rw[l]))
 ·have h:x.num≠0:=λe=>h (by rw[e];rfl);exact I 10<|an (az j j (.of<|by show ds (if _ then _ else _)=ds _;rw[aw h]))
def WU:bl:=b3 λ(x:Rat)=>([dB x],True,dB<|-x)
def alM:bt 44 WU:=by
 refine bR [] T9.1 ?_;intro(x:Rat) _ H au;refine I 20<|an (az j j<|.of ?_);show ag.agg [.i _<|IntKind.i64.wrap<|-x.num.sign,_,_]=ag.agg [.i _ _,_,_];have df:∀n:Int,-1<=n.sign/\n.sign<=1:=λn=>by
  rcases(show n<0\/n=0\/0<n by omega)with h|h|h
  ·rw[vB h];decide
  ·rw[h];decide
  ·rw[rf h];decide
 have:=df x.num;rw[fP R R];simp[ds]
def WV:bl:=b3 λ(n:Nat)=>([.i .u64 n],n<18446744073709551616,c9 n)
def alN(m:Nat):ac Nat->cl
 |[]=>⟨[],0,[(0,.i .u64 m),(3,.nl)]⟩
 |d::aN=>⟨[.a 2 true 1 Nat fQ<|d::aN],1,[(0,.i .u64 m),(3,.aK 0 1 0 (d::aN).length (d::aN).length)]⟩
def WW:bt 118 WV:=by
 refine bR [] U2.1 ?_;intro(n:Nat) (ah:n<18446744073709551616) H au;have C:(aW 1000000000 n).length<=3:=je al R;refine I 12<|eA (L:=Nat×ac Nat) (λ(m,l)=>m<=n/\aW 1000000000 n=l++aW 1000000000 m) (λ(m,l)=>alN m l) (λl=>(aW 1000000000 l.1).length) [] (n,[]) ⟨cn _,j⟩ ?_;rintro⟨m,l⟩ ⟨hm,o⟩;have F:l.length<=3:=by rw[o]at C;simp at C;omega
 have step:m≠0->(aW 1000000000<|m/1000000000).length<(aW 1000000000 m).length/\m/1000000000<=n/\aW 1000000000 n=(l++[m%1000000000])++aW 1000000000 (m/1000000000):=λh=>by
  rw[o,m9 al h];simp;omega
 have D:((m%1000000000:Nat):Int)<9223372036854775808:=R
 have A:m/1000000000%18446744073709551616=m/1000000000:=R
 have E: -9223372036854775808<=((m%1000000000:Nat):Int):=R
 cases l with
 |nil=>
  refine I 7<|cG (λh=>?_) λh=>?_
  ·have step:=step R;refine I 9<|cg 9 (eM j E D)<|I 1<|y4 fQ [m%1000000000] (jt (ai:=fQ) [m%1000000000] j) ?_;exact I 9<|bW [1] (m/1000000000,[m%1000000000]) step (bB (aL:=⟨rL<|congrArg Int.ofNat A,j,aC⟩))
  ·have z:m=0:=by omega
   subst z;rw[gK]at o;exact I 12<|an (az j j<|bJ.nl.trans (.of<|by show ds []=ds _;rw[o];rfl))
 |cons d t=>
  refine I 7<|cG (λh=>?_) λh=>?_
  ·have step:=step R;refine I 9<|cg 9 (eM j E D)<|I 1 ?_;have G:t.length<=2:=by simp at F;omega
   refine y5 (ai:=fQ) [m%1000000000] (jt (ai:=fQ) [m%1000000000] j) ?_;exact I 9<|bW [2] (m/1000000000,d::(t++[m%1000000000])) step (bB (aL:=⟨rL<|congrArg Int.ofNat A,congrArg (λk=>some<|ag.aK 2 1 0 k k) av,aC⟩))
  ·have z:m=0:=by omega
   subst z;rw[gK,rb]at o;refine I 8<|kn 14 ?_;exact I 4<|an (az j j (.of<|by show ds (d::t)=ds _;rw[o]))
def WX:bl:=b3 λ(a:Nat)=>([c9 a],dW 1073741824 a,c9<|a/2)
def GJ:bt 315 WX:=by
 refine bR [(204,uV)] Vr.1 ?_;intro(a:Nat) (M:(aW _ a).length<=_) H au;have G:=gL (b:=1000000000) al a;have Q:=gl (b:=1000000000) al a;show b5.ok _ ⟨_,_,⟨_,_,[(0,ds<|aW 1000000000 a)]⟩⟩;generalize aW 1000000000 a=xs at *;refine st ?_;refine oE fQ 0<|st ?_;refine eu (L:=Nat×ac Nat×Nat) (λ(k,o,r)=>k<=xs.length/\o.length=xs.length/\Ok 1000000000 o/\r<2/\val 1000000000 (xs.drop k)=val 1000000000 (o.drop k)*2+r)
  (λ((k:Nat),(o:ac Nat),(r:Nat))=>⟨[.a 2 false 1 Nat fQ o],1,[(0,ds xs),(3,.aK 0 1 0 xs.length xs.length),(4,.aa r),(5,.aa<|(k:Int)-1)]⟩)
  (λl=>l.1) [0] (xs.length,List.replicate xs.length 0,0) ⟨R,av,r9 al _,al,by simp[val]⟩ (by show xs.length<bx+1;unfold bx;omega) bB ?_
 rintro⟨k,o,r⟩ ⟨O,I,C,F,A⟩;cases k with
 |zero=>
  refine st ?_;refine kn 30 ?_;refine aV uW o (by show o.length<=_;omega)<|st ?_;rw[iQ,iQ]at A;refine an<|az j j<|.of ?_;show ds (eI o)=c9 (a/2);rw[w1 (b:=1000000000) al C,show a/2=val 1000000000 o by omega];rfl
 |succ m=>
  have t:m<xs.length:=R
  have K:=G _<|dx t;have D:=V8 F K;refine aP 5 (.aa (m:Nat)) j fu<|st ?_;refine aP 13 (.b true) j av<|st ?_;refine pG xs[m] (a0 t) ?_;refine e4 22 ?_;refine aP 22 (.aa ((r*1000000000+xs[m]:Nat):Int)) j (congrArg (ag.aa)<|by rw[fP (n:=(r:Int)*1000000000) R R,fP R R];omega) ?_;obtain⟨T,z⟩:∃T,T=r*1000000000+xs[m]:=dC;have N:T<2000000000:=R
  rw[<-z]at D;refine aP 22 (.aa (T:Nat)) j (by rw[z])<|e4 26 ?_;refine aP 26 (.aa ((T/2:Nat):Int)) j (by show ag.i _ (IntKind.i64.wrap ((T/2:Nat):Int))=_;exact eM j R R) ?_;refine y3 ?_;refine kE (T/2)<|e4 29 ?_;refine aP 29 (.aa ((T%2:Nat):Int)) j j<|st ?_;have E:xs.drop m=xs[m]::xs.drop (m+1):=gp t;refine bW [0] (m,o.set m<|T/2,T%2) ⟨av,R,by simp[I],lZ C _ D,eG _ al,?_⟩ bB;rw[E,gp (l:=o.set m _) dA,lJ,zY R,z];exact V7 A
def WY:bl:=b3 λ(a:Nat)=>([c9 a],True,.b<|decide (a%2=1))
def GK:bt 314 WY:=by
 refine bR [] TS.1 ?_;intro(a:Nat) _ H au;show b5.ok _ ⟨_,_,⟨_,_,[(0,ds<|aW 1000000000 a)]⟩⟩;by_cases l:a=0
 ·subst l;rw[gK];exact I 21<|an (az j j dO)
 ·rw[m9 al l];refine I 11<|aP 6 (.b true) j av<|I 3<|fc (J:=0) (a%1000000000) j j<|I 4<|aP 10 (.aa ((a%1000000000%2:Nat):Int)) j j<|I 7<|an (az j j<|.of ?_);show ag.b (decide _)=ag.b (decide _);congr 2;apply propext;omega
