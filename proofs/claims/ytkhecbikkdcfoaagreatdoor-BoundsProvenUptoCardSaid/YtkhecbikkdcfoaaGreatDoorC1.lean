/- What the functions of the program and of the document compute, for every input, and the plain laws of it (part 1); conditions as in the statements. -/
import Derived.Test.YtkhecbikkdcfoaaGreatDoorS3
import Derived.Test.YtkhecbikkdcfoaaGreatDoorT
import Derived.Test.YtkhecbikkdcfoaaGreatDoorS1
import Derived.Test.YtkhecbikkdcfoaaGreatDoorS2
set_option linter.all false
namespace Go.bI.ds
def hr:ac Nat->ac Nat
 |[]=>[]
 |d::aU=>match hr aU with
  |[]=>if d=0 then[]else[d]
  |r=>d::r
def val(b:Nat):ac Nat->Nat
 |[]=>0
 |d::aU=>d+b*val b aU
def Ok(b:Nat)(aU:ac Nat):Prop:=∀d∈aU,d<b
variable{b:Nat}{l:ac Nat}{i:Nat}
theorem vJ(eH:ac Nat)(d:Nat):hr (eH++[d])=if d=0 then hr eH else eH++[d]:=by
 induction eH with
 |nil=>simp[hr]
 |cons x xs U=>
  simp;rw[hr,U];by_cases h:d=0
  .rw[aA h,aA h,hr]
  .rw[au h,au h];cases xs<;>rfl
theorem pL(b:Nat)(xs Q:ac Nat):val b (xs++Q)=val b xs+b^xs.length*val b Q:=by
 induction xs with
 |nil=>simp[val]
 |cons x xs U=>
  grind [val]
theorem aiz(b:Nat)(aU:ac Nat):val b (hr aU)=val b aU:=by
 suffices h:∀n (aU:ac Nat),aU.length=n->val b (hr aU)=val b aU from h _ aU o
 intro n
 induction n with
 |zero=>intro aU h;rw[pg h];rfl
 |succ n U=>
  intro aU h;obtain rfl|⟨eH,d,rfl⟩:=q0 aU
  .rfl
  .grind [vJ,pL,val]
def aiA(aU:ac Nat):(hr aU).length<=aU.length:=by
 induction aU with
 |nil=>exact ct _
 |cons d aU U=>
  rw[hr];split
  .split<;>simp
  .simp;exact U
def lj{aU:ac Nat}(h:Ok b aU):val b aU<b^aU.length:=by
 induction aU with
 |nil=>simp[val]
 |cons d aU U=>
  have Y:=h d az;simp[val,iQ,hZ];have:b*(val b aU+1)<=b*b^aU.length:=m4 _<|U λx O=>h x<|e3 _ O;rw[hK<|b^aU.length];rw[ki]at this;omega
def zv{eH:ac Nat}{d:Nat}(h:hr (eH++[d])=eH++[d]):b^eH.length<=val b (eH++[d])/\d≠0:=by
 rw[vJ]at h;by_cases S:d=0
 .rw[aA S]at h;have:=aiA eH;rw[h]at this;simp at this;omega
 .refine⟨?_,S⟩;rw[pL];simp only[val];have:b^eH.length*1<=b^eH.length*(d+b*0):=m4 _ J;omega
def V4(aa:0<b){x y:ac Nat}(O:Ok b x)(N:hr y=y)(h:x.length<y.length):val b x<val b y:=by
 obtain rfl|⟨eH,d,rfl⟩:=q0 y
 .simp at h
 .rw[tf]at *;have Y:=lj O;have G:=(zv (b:=b) N).1;have C:b^x.length<=b^eH.length:=k5 aa (by simp at h;omega);omega
def V5{p Q s:ac Nat}{x y:Nat}(hp:Ok b p)(aI:p.length=Q.length)(h:x<y):val b (p++x::s)<val b (Q++y::s):=by
 rw[pL,pL,<-aI];simp[val];have Y:=lj hp;have G:b^p.length*(x+b*val b s+1)<=b^p.length*(y+b*val b s):=m4 _ J;rw[ki _ (x+b*val b s) 1]at G;omega
theorem kc(h:i<l.length):val b (l.take<|i+1)=val b (l.take i)+b^i*l[i]:=by
 rw[om h,pL]
 grind [val]
def me(h:l.length<=i):val b (l.take i)=val b l:=by rw[pn h]
def b9(b n:Nat):ac Nat:=if h:b<2\/n=0 then[]else n%b::b9 b (n/b)
termination_by n
decreasing_by
 exact DL J J
variable{n k P R c x y u w d:Nat}
theorem iX(b:Nat):b9 b 0=[]:=by rw[b9];simp
theorem rS(aa:2<=b)(aj:n≠0):b9 b n=n%b::b9 b (n/b):=by rw[b9,dif_neg J]
theorem iL(aa:2<=b)(n:Nat):val b (b9 b n)=n:=by
 induction n using Nat.strongRecOn with
 |ind n U=>
  by_cases aj:n=0
  .subst aj;rw[iX];rfl
  .rw[rS aa aj,val,U _<|DL J J];exact DM n b
def ji(aa:2<=b)(n:Nat):Ok b (b9 b n):=by
 induction n using Nat.strongRecOn with
 |ind n U=>
  by_cases aj:n=0
  .subst aj;rw[iX];exactλx O=>by simp at O
  .rw[rS aa aj];intro x O;obtain rfl|O:=fg.1 O
   .exact fo _ J
   .exact U _ (DL J J) x O
theorem qG(aa:2<=b):b9 b n=[]↔n=0:=by
 grind [iL,val,iX]
def xG(aa:2<=b)(n:Nat):hr (b9 b n)=b9 b n:=by
 induction n using Nat.strongRecOn with
 |ind n U=>
  by_cases aj:n=0
  .subst aj;rw[iX];rfl
  .rw[rS aa aj,hr,U _<|DL J J];by_cases S:n/b=0
   .rw[S,iX];have:=p0<|(Nat.div_eq_zero_iff_lt J).1 S;rw[this];simp[aj]
   .cases A:b9 b (n/b)with
    |nil=>exact absurd ((qG aa).1 A) S
    |cons x xs=>rfl
theorem Ct{b:Nat}(aa:2<=b):∀{aU:ac Nat},Ok b aU->hr aU=aU->b9 b (val b aU)=aU
 |[],_,_=>iX b
 |d::aU,h,aN=>by
  have aE:=h d az;have G:Ok b aU:=λx O=>h x<|e3 _ O;have C:hr aU=aU/\(aU=[]->d≠0):=by
   rw[hr]at aN;cases aw:hr aU with
   |nil=>
    rw[aw]at aN;simp only at aN;split at aN
    .cases aN
    .cases aN;exact⟨o,λ_=>qg⟩
   |cons x xs=>
    rw[aw]at aN;cases aN;exact⟨o,λh=>by cases h⟩
  have Z:val b (d::aU)≠0:=by
   simp only[val];cases L:aU with
   |nil=>have:=C.2 L;exact this
   |cons x xs=>
    intro t;have N:=Ct aa G C.1;have:b*val b (x::xs)=0:=J
    have:val b (x::xs)=0:=by
     obtain h|h:=Nat.mul_eq_zero.1 this
     .omega
     .exact h
    rw[L,this,iX]at N;cases N
  rw[rS aa Z];have U:val b (d::aU)%b=d:=by simp only[val];rw[DN,p0 aE]
  have T:val b (d::aU)/b=val b aU:=by simp[val];rw[DO _ _ J,uR aE];omega
  rw[U,T,Ct aa G C.1]
def aiB(aa:2<=b){aU:ac Nat}(h:Ok b aU):hr aU=b9 b (val b aU):=by
 rw[<-aiz,Ct aa (by
    induction aU with
    |nil=>exact h
    |cons d aU U=>
     have G:=h d az;unfold hr;split
     .split
      .exactλx O=>by simp at O
      .intro x O;simp at O;omega
     .rename_i r aw;intro x O;rcases fg.1 O with rfl|O
      .exact G
      .exact(U λx O=>h x<|e3 _ O) x O) (by
    suffices h:∀n (aU:ac Nat),aU.length=n->hr (hr aU)=hr aU from h _ aU o
    intro n
    induction n with
    |zero=>intro aU h;rw[pg h];rfl
    |succ n U=>
     intro aU h;obtain rfl|⟨eH,d,rfl⟩:=q0 aU
     .rfl
     .rw[tf]at *;rw[vJ];split
      .exact U eH apA
      .rename_i T;rw[vJ,au T])]
def pM(aa:2<=b)(h:n<b^k):(b9 b n).length<=k:=by
 have aN:=xG aa n;have Z:=iL aa n;obtain A|⟨eH,d,A⟩:=q0<|b9 b n
 .rw[A];simp
 .rw[tf]at A;rw[A]at aN Z;have Y:=(zv (b:=b) aN).1;rw[Z]at Y;have C:=(wk J).1<|iR Y h;rw[A];simp;omega
def Cu(aa:2<=b)(h:b^k<=n):k<(b9 b n).length:=by
 have Y:=lj<|ji aa n;rw[iL aa]at Y;exact(wk (by omega:1<b)).1 J
def V6(aa:0<b)(h:R+P*c=u+w):R+P*((c+x+y)%b)+P*b*((c+x+y)/b)=u+P*x+(w+P*y):=by
 have Y:P*(c+x+y)=P*((c+x+y)%b)+P*b*((c+x+y)/b):=by
  rw[lX,<-Nat.mul_add,DM]
 rw[ki,ki]at Y;omega
theorem aiC{Q:Nat}(h:u+P*c=R+w)(S:x+b*Q=d+y+c):u+P*x+P*b*Q=R+P*d+(w+P*y):=by grind
def oU(h:Ok b l)(i:Nat)(S:d<b):Ok b (l.set i d):=λx O=>by
 obtain Y|Y:=Oy O
 .exact h x Y
 .omega
def vK(aa:0<b)(n:Nat):Ok b (List.replicate n 0):=λx O=>by
 have:=Iq O;omega
def val_zero(b n:Nat):val b (List.replicate n 0)=0:=by
 induction n with
 |zero=>rfl
 |succ n U=>simp[List.replicate_succ,val,U]
def mL(a b:Nat):Int:=if a<b then -1 else if a=b then 0 else 1
open Go.bI
set_option maxRecDepth 100000
set_option maxHeartbeats 4000000
abbrev b4(f:d8)(s:Spec):Prop:=eb cv.ctx f s
variable{f:d8}
instance{f:d8}{s:Spec}(h:b4 f s):CoeDep (b4 f s) h (Nat×dT):=⟨(f,s.K)⟩
def cJ(K:ac (Nat×dT))(a7:c7){S:da}(h:∀l,S.pre l->∀H ax,bP.ok ⟨cf aV (cm cv.ctx<|bE K)<|bz+1,bz+1,f,H,[],ax,Fin S l a7.res⟩ ⟨[],.c a7.body,⟨[],0,iJ 0<|S.args l⟩⟩)
 (O:aV.get f=some a7:=by kernel_rfl) (aI:∀l,(S.args l).length<=a7.aR:=by exactλ_=>jb o):b4 f S:=KY cv.gP hv (bE K) O aI λl hp H ax _=>h l hp H ax
def V7(K:ac (Nat×dT))(a7:c7){S:da}(h:∀l,S.pre l->∀H ax,bP.ok ⟨cf aV (cm cv.ctx<|bE K)<|bz+1,bz+1,f,H,[],ax,SF S l ax.ag a7.res⟩ ⟨[],.c a7.body,⟨[],0,iJ 0<|S.args l⟩⟩)
 (O:aV.get f=some a7:=by kernel_rfl) (aI:∀l,(S.args l).length<=a7.aR:=by exactλ_=>jb o):eb cv.ctx f S.jT:=by
  refine Kc cv.gP hv (bE K) O (λl t st ⟨_,_,_,d⟩=>by rw[gr d];exact aI l.1) ?_;rintro⟨l,H⟩ t st ⟨hp,E,U,d⟩;apply(h l hp H st H [] st (en t) apk U<|cY.zero d).mono;rintro x I al ⟨Z,F,s,z,A,D,O,r,Y,hle⟩;obtain⟨v,C,N⟩:=rK A D Y;exact⟨O,v,N,Z,A.less,z.less,hle _ _ _ C⟩
def mM(K:ac (Nat×dT))(a7:c7){S:da}(h:∀l,S.pre l->∀H ax,S.hp H->bP.ok ⟨cf aV (cm cv.ctx<|bE K)<|bz+1,bz+1,f,H,[],ax,Fin S l a7.res⟩ ⟨[],.c a7.body,⟨[],0,iJ 0<|S.args l⟩⟩)
 (O:aV.get f=some a7:=by kernel_rfl) (aI:∀l,(S.args l).length<=a7.aR:=by exactλ_=>jb o):b4 f S:=KY cv.gP hv (bE K) O aI h
def kT(K:ac (Nat×dT))(a7:c7){S:gh}(h:∀l,S.pre l->∀H i0 ax,i0.length=(S.own l).length->bP.ok ⟨cf aV (cm cv.ctx<|bE K)<|bz+1,bz+1,f,H,i0,ax,Ch S l a7.res⟩ ⟨[],.c a7.body,⟨S.own l,(S.own l).length,iJ 0<|S.args l⟩⟩)
 (O:aV.get f=some a7:=by kernel_rfl) (aI:∀l,(S.args l).length<=a7.aR:=by exactλ_=>jb o):b4 f S:=aej cv.gP hv (bE K) O aI λl hp H i0 ax _ aI=>h l hp H i0 ax aI
def gi(d:Nat):ac ai:=[.i .u32 d]
def dr(aU:ac Nat):ai:=.bs 1 Nat gi aU
def dw(n:Nat):ai:=dr<|b9 4294967296 n
def aiD{n m:Int}(h:n=m)(aE: -9223372036854775808<=n)(aK:n<9223372036854775808):IntKind.i64.wrap n=m:=by rw[j9 aE aK,h]
def V8(n:Int):IntKind.u64.wrap n=n%18446744073709551616:=by
 rw[<-lC];exact sl _ _ av
def LZ:da:=cR λ(C:ac Nat)=>([dr C],C.length<=1099511627776,dr<|hr C)
theorem V9:b4 132 LZ:=by
 refine cJ [] Tu.1 ?_;intro C (hp:C.length<=1099511627776) H ax;refine U 7<|dN (λL:ac Nat=>hr L=hr C/\L.length<=C.length) (λL=>⟨[],0,[(0,dr L)]⟩) List.length [] C ⟨o,c4 _⟩ (by show C.length<bz+1;unfold bz;omega) cr ?_;rintro L ⟨Y,G⟩;rcases q0 L with rfl|⟨eH,d,rfl⟩
 .exact U 30<|bh (dc o o (.of<|by rw[show LZ.res C=dr (hr C)from rfl,<-Y];rfl))
 .rw[tf]at *;have t:(eH++[d]).length=eH.length+1:=by simp
  refine U 7<|eD 6<|U 9<|a9 10 (.ae eH.length) o (by rw[t,j9]<;>simp<;>omega)<|e6 (RG o o (show(eH++[d])[eH.length]? =some d by simp)) ?_;refine U 7<|zc o (λS=>?_) λS=>?_
  .have S:d=0:=by grind
   refine U 8<|a9 18 (.ae eH.length) o (by rw[t,j9]<;>simp<;>omega)<|e6 (RN o o dq (dg _) az) ?_;refine U 3<|bL [] eH ⟨az,by rw[<-Y,vJ,aA S],J⟩ (Cd ⟨?_,aP⟩);simp[dx,jQ,dr]
  .have S:d≠0:=by grind
   exact U 12<|eK (by rw[show LZ.res C=dr (hr C)from rfl,<-Y,vJ,au S])
def mN:b4 100 (cR λ(aU:ac Nat)=>([dr aU],Ok 4294967296 aU/\aU.length<=1099511627776,dw<|val 4294967296 aU)):=by
 apply cJ [V9] T6.1;intro aU ⟨Y,G⟩ H ax;exact U 8<|bn V9 aU G<|U 4<|eK (by show dr (hr aU)=dr _;rw[aiB av Y])
def mO:b4 72 (cR λ(n:Nat)=>([.i .u64 n],n<18446744073709551616,dw n)):=by
 apply cJ [mN] UA.1;intro(n:Nat) (hp:n<18446744073709551616) H ax;refine U 13<|RS 0 (ak:=gi) [n%4294967296,n/4294967296] o (by show[ai.i _ _,ai.i _ _]=[ai.i _ _,ai.i _ _];rw[show n/2^32%4294967296=n/4294967296 by omega]) qj ?_;refine RQ 8 [n%4294967296,n/4294967296] o o o o av qj ?_;refine bn mN [n%4294967296,n/4294967296] ⟨λx O=>?_,az⟩ ?_
 .simp at O;rcases O with rfl|rfl<;>omega
 exact U 4<|bh (dc o o (.of<|by show dw _=dw _;simp[val];congr 1;omega))
def dU(k n:Nat):Prop:=(b9 4294967296 n).length<=k
variable{a s B r h v j:Nat}
def GI:b4 75 (cR λ((a,b):Nat×Nat)=>([dw a,dw b],dU 1073741824 a/\dU 1073741824 b,dw<|a+b)):=by
 refine cJ [mN] Tl.1 ?_;intro⟨a,b⟩ ⟨(t:(b9 _ a).length<=_),(aa:(b9 _ b).length<=_)⟩ H ax;show bP.ok _ ⟨_,_,⟨_,_,[(0,dr<|b9 4294967296 a),(1,dr<|b9 4294967296 b)]⟩⟩;refine U 15<|jS (λ((xs:ac Nat),(Q:ac Nat))=>Q.length<=xs.length/\xs.length<=1073741824/\Ok 4294967296 xs/\Ok 4294967296 Q/\val 4294967296 xs+val 4294967296 Q=a+b) (λ(xs,Q)=>⟨[],0,[(0,dr xs),(1,dr Q)]⟩) ?_ ?_
 .refine eC (λh=>?_) λh=>?_
  .have h:(b9 4294967296 a).length<(b9 4294967296 b).length:=by omega
   exact U 6<|bL [] (b9 _ b,b9 _ a) ⟨J,aa,ji av _,ji av _,by rw[iL av,iL av,x3]⟩ cr
  .have h:(b9 4294967296 b).length<=(b9 4294967296 a).length:=by omega
   exact U 1<|fk [] (b9 _ a,b9 _ b) ⟨h,t,ji av _,ji av _,by rw[iL av,iL av]⟩
 rintro⟨xs,Q⟩ ⟨C,O,Y,G,M⟩;refine U 5<|b5 18 ((xs.length+1:Nat):Int)<|pG gi 0 ?_;refine U 17 ?_;refine dN (L:=Nat×ac Nat×Nat) (λ(i,F,c)=>i<=xs.length/\F.length=xs.length+1/\Ok 4294967296 F/\c<=1/\val 4294967296 (F.take i)+4294967296^i*c=val 4294967296 (xs.take i)+val 4294967296 (Q.take i))
  (λ((i:Nat),(F:ac Nat),(c:Nat))=>⟨[.a 183 false 1 Nat gi F],1,[(0,dr xs),(1,dr Q),(5,.aL 0 1 0 (xs.length+1)<|xs.length+1),(6,.i .u64 c),(20,dr xs),(21,.ae xs.length),(22,.ae i)]⟩)
  (λl=>xs.length-l.1) [0] (0,List.replicate (xs.length+1) 0,0) ⟨J,az,vK av _,J,by simp[val]⟩ apr cr ?_
 rintro⟨i,F,c⟩ ⟨af,z,S,ah,Z⟩;refine U 6<|eC (λh=>?_) λh=>?_
 .have h:i<xs.length:=by omega
  have aT:=Y _<|eO h;refine U 7<|iW xs[i] (ba h) o<|U 23<|jS (λy=>y<4294967296/\val 4294967296 (Q.take<|i+1)=val 4294967296 (Q.take i)+4294967296^i*y) (λ(y:Nat)=>⟨[.a 183 false 1 Nat gi F],1,[(0,dr xs),(1,dr Q),(5,.aL 0 1 0 (xs.length+1)<|xs.length+1),(6,.i .u64 ((c+xs[i]+y:Nat):Int)),(7,.ae i),(20,dr xs),(21,.ae xs.length),(22,.ae i)]⟩) ?_ ?_
  .refine eC (λD=>?_) λD=>?_
   .have D:i<Q.length:=by simpa using D
    have K:=G _<|eO D;refine U 4<|iW Q[i] (ba D) o<|U 5<|bL [0] Q[i] ⟨K,kc D⟩ (cr (aK:=⟨o,o,o,?_,o,o,o,o,aP⟩));exact rv
   .have D:Q.length<=i:=by simpa using D
    refine U 1<|bL [0] 0 ⟨av,by rw[me J,me D];simp⟩ (cr (aK:=⟨o,o,o,?_,o,o,o,o,aP⟩));exact rv
  rintro y ⟨N,A⟩;refine U 6<|n7 o o<|mc ((c+xs[i]+y)%4294967296) ?_;refine U 13<|bL [0] (i+1,F.set i<|(c+xs[i]+y)%4294967296,(c+xs[i]+y)/4294967296) ⟨by show xs.length-(i+1)<xs.length-i;omega,J,by simp[z],oU S _<|fo _ av,J,?_⟩ (cr (aK:=⟨o,o,o,o,o,o,?_,aP⟩))
  .rw[kc (l:=F.set i _) ep,kc h,A,oo<|c4 _,ou,hZ];exact V6 av Z
  .exact tO
 .have h:i=xs.length:=by have:xs.length<=i:=by omega
                         omega
  subst h;refine U 12<|n7 o o<|mc (c%4294967296) ?_;refine U 5<|ju 56 ?_;refine bn mN (F.set xs.length<|c%4294967296) ⟨oU S _<|fo _ av,by simp[z];omega⟩<|U 4<|eK ?_;show dw _=dw _;congr 1;rw[<-me (i:=xs.length+1) (by simp[z]),kc ep,oo<|c4 _,ou,hb J,Z,me<|c4 _,me C,M]
def L0(h:b<=a):(b9 4294967296 b).length<=(b9 4294967296 a).length:=by
 have Y:=lj<|ji (b:=4294967296) av a;rw[iL av]at Y;exact pM av J
def L1:b4 76 (cR λ((a,b):Nat×Nat)=>([dw a,dw b],dU 1073741824 a/\b<=a,dw<|a-b)):=by
 refine cJ [mN] TY.1 ?_;intro⟨a,b⟩ ⟨(ad:(b9 _ a).length<=_),(aa:b<=a)⟩ H ax;have a':=L0 aa;have Y:=ji (b:=4294967296) av a;have G:=ji (b:=4294967296) av b;have M:=iL (b:=4294967296) av a;have jv:=iL (b:=4294967296) av b;show bP.ok _ ⟨_,_,⟨_,_,[(0,dr<|b9 4294967296 a),(1,dr<|b9 4294967296 b)]⟩⟩;generalize b9 4294967296 a=xs at *;generalize b9 4294967296 b=Q at *;refine U 9<|pG gi 0 ?_;refine U 17 ?_;refine dN (L:=Nat×ac Nat×Nat) (λ(i,F,c)=>i<=xs.length/\F.length=xs.length/\Ok 4294967296 F/\c<=1/\val 4294967296 (xs.take i)+4294967296^i*c=val 4294967296 (F.take i)+val 4294967296 (Q.take i))
  (λ((i:Nat),(F:ac Nat),(c:Nat))=>⟨[.a 183 false 1 Nat gi F],1,[(0,dr xs),(1,dr Q),(5,.aL 0 1 0 xs.length xs.length),(6,.i .u64 c),(13,dr xs),(14,.ae xs.length),(15,.ae i)]⟩)
  (λl=>xs.length-l.1) [0] (0,List.replicate xs.length 0,0) ⟨J,az,vK av _,J,by simp[val]⟩ apr cr ?_
 rintro⟨i,F,c⟩ ⟨af,z,S,ah,Z⟩;refine U 6<|eC (λh=>?_) λh=>?_
 .have h:i<xs.length:=by omega
  have O:xs[i]? =some xs[i]:=ba h;have aT:=Y _<|eO h;refine U 7<|iW xs[i] O o<|U 23<|jS (λy=>y<4294967296/\val 4294967296 (Q.take<|i+1)=val 4294967296 (Q.take i)+4294967296^i*y) (λ(y:Nat)=>⟨[.a 183 false 1 Nat gi F],1,[(0,dr xs),(1,dr Q),(5,.aL 0 1 0 xs.length xs.length),(9,.i .u64 (((xs[i]+18446744073709551616-c-y)%18446744073709551616:Nat):Int)),(7,.ae i),(13,dr xs),(14,.ae xs.length),(15,.ae i)]⟩) ?_ ?_
  .refine eC (λD=>?_) λD=>?_
   .have D:i<Q.length:=by simpa using D
    have E:Q[i]? =some Q[i]:=ba D;have K:=G _<|eO D;exact U 4<|iW Q[i] E o<|U 5<|bL [0] Q[i] ⟨K,kc D⟩ cr
   .have D:Q.length<=i:=by simpa using D
    exact U 1<|bL [0] 0 ⟨av,by rw[me J,me D];simp⟩ cr
  rintro y ⟨N,A⟩;generalize aN:(xs[i]+18446744073709551616-c-y)%18446744073709551616=t;refine U 6<|n7 o o<|mc (t%4294967296) ?_;refine U 13<|bL [0] (i+1,F.set i<|t%4294967296,t/9223372036854775808) ⟨by show xs.length-(i+1)<xs.length-i;omega,J,by simp[z],oU S _<|fo _ av,J,?_⟩ cr;rw[kc (l:=F.set i _) ep,kc h,A,oo<|c4 _,ou,hZ];exact aiC Z J
 .have h:i=xs.length:=by have:xs.length<=i:=by omega
                         omega
  subst h;refine U 8<|ju 43 ?_;refine bn mN F ⟨S,J⟩<|U 4<|eK ?_;show dw _=dw _;congr 1;rw[me<|c4 _,me (l:=F) J,me a']at Z;have C:=lj S;rw[z]at C;have T:c=0:=by
   rcases fW 0 c with h|h
   .have:c=1:=by omega
    rw[this]at Z;omega
   .omega
  rw[T]at Z;show _=a-b;omega
def Wa:da:=cR λ((a,b):Nat×Nat)=>([dw a,dw b],dU 1073741824 a/\dU 1073741824 b,.ae<|mL a b)
def GJ(h:a<b):mL a b= -1:=by unfold mL;rw[aA h]
def Wb(h:b<a):mL a b=1:=by unfold mL;rw[au J,au J]
def aiE(a:Nat):mL a a=0:=by unfold mL;simp
def Wc{m:Nat}(h:m<l.length):l=l.take m++l[m]::l.drop (m+1):=by
 rw[<-hL h,wc]
def vL:b4 42 Wa:=by
 refine cJ [] U2.1 ?_;intro⟨a,b⟩ ⟨(D:(b9 _ a).length<=_),(aa:(b9 _ b).length<=_)⟩ H ax;have Y:=ji (b:=4294967296) av a;have G:=ji (b:=4294967296) av b;have z:=xG (b:=4294967296) av a;have Z:=xG (b:=4294967296) av b;have M:=iL (b:=4294967296) av a;have jv:=iL (b:=4294967296) av b;show bP.ok _ ⟨_,_,⟨_,_,[(0,dr<|b9 4294967296 a),(1,dr<|b9 4294967296 b)]⟩⟩;generalize b9 4294967296 a=xs at *;generalize b9 4294967296 b=Q at *;have fin:∀{r:Int},mL a b=r->bX (.ae r) (Wa.res (a,b)):=λh=>by rw[<-h];exact .refl _
 refine U 15<|eC (λh=>?_) λh=>?_
 .have h:xs.length≠Q.length:=by omega
  refine U 10<|eC (λh=>?_) λh=>?_
  .have h:xs.length<Q.length:=by omega
   refine U 8 ?_;have:=V4 (b:=4294967296) av Y Z h;exact du<|fin<|GJ J
  .have h:Q.length<xs.length:=by have:Q.length<=xs.length:=by omega
                                 omega
   refine U 9 ?_;have:=V4 (b:=4294967296) av G z h;exact du<|fin<|Wb J
 have h:xs.length=Q.length:=J
 refine U 12<|dN (L:=Nat) (λk=>k<=xs.length/\xs.drop k=Q.drop k) (λ(k:Nat)=>⟨[],0,[(0,dr xs),(1,dr Q),(5,.ae<|(k:Int)-1)]⟩) id [] xs.length ⟨c4 _,by rw[wm,h,wm]⟩ asB cr ?_;rintro(k:Nat) ⟨E,S⟩;cases k with
 |zero=>
  exact U 19<|bh (dc o o (fin<|by simp at S;rw[S]at M;rw[<-M,<-jv];exact aiE _))
 |succ m=>
  have O:m<xs.length:=J
  have N:m<Q.length:=J
  have e:((m+1:Nat):Int)-1=(m:Nat):=J
  refine a9 5 (.ae (m:Nat)) o (ht e)<|U 16<|a9 20 (.b true) o az<|tW xs[m] (ba O) o<|U 3<|tW Q[m] (ba N) o<|U 4 ?_;have t:=Wc O;have K:=Wc N;refine eC (λh=>?_) λh=>?_
  .have C:xs[m]≠Q[m]:=by omega
   refine U 5<|tW xs[m] (ba O) o<|U 3<|tW Q[m] (ba N) o<|U 4<|eC (λh=>?_) λh=>?_
   .have aT:xs[m]<Q[m]:=by omega
    refine U 12<|du (fin<|GJ ?_);rw[<-M,<-jv,t,K,S];exact V5 (λx O=>Y x<|wg O) ep aT
   .have aT:Q[m]<xs[m]:=by have:Q[m]<=xs[m]:=by omega
                           omega
    refine U 13<|du (fin<|Wb ?_);rw[<-M,<-jv,t,K,S];exact V5 (λx O=>G x<|wg O) ep aT
  .have A:xs[m]=Q[m]:=by omega
   refine U 8<|bL [] m ⟨az,J,?_⟩ cr;rw[hL O,hL N,A,S]
def L2(ah:c<4294967296)(O:x<4294967296)(N:y<4294967296)(ay:R<4294967296):x*y<18446744073709551616/\x*y+R<18446744073709551616/\c+(x*y+R)<18446744073709551616:=by
 have Y:x*y<=4294967295*4294967295:=po J J;omega
theorem aiF{Q ak:Nat}(D:P=Q*ak)(h:R+P*c=a+Q*(x*b)):R+P*((c+(x*y+d))%B)+P*B*((c+(x*y+d))/B)=a+P*d+Q*(x*(b+ak*y)):=by
 have Y:P*(c+(x*y+d))=P*((c+(x*y+d))%B)+P*B*((c+(x*y+d))/B):=by
  rw[lX,<-Nat.mul_add,DM]
 have G:Q*(x*(b+ak*y))=Q*(x*b)+P*(x*y):=by grind
 rw[ki,ki]at Y;omega
def L3:da:=cR λ((a,b):Nat×Nat)=>([dw a,dw b],dU 1073741824 a/\dU 1073741824 b,dw<|a*b)
def GK:eb cv.ctx 40 L3.jT:=by
 refine V7 [mN] Tf.1 ?_;intro⟨a,b⟩ ⟨(aw:(b9 _ a).length<=_),(aa:(b9 _ b).length<=_)⟩ H ax;have Y:=ji (b:=4294967296) av a;have G:=ji (b:=4294967296) av b;have M:=iL (b:=4294967296) av a;have jv:=iL (b:=4294967296) av b;show bP.ok _ ⟨_,_,⟨_,_,[(0,dr<|b9 4294967296 a),(1,dr<|b9 4294967296 b)]⟩⟩;generalize b9 4294967296 a=xs at *;generalize b9 4294967296 b=Q at *;refine U 12<|b5 15 ((xs.length+Q.length:Nat):Int)<|pG gi 0 ?_;refine U 12 ?_;refine dN (L:=Nat×ac Nat) (λ(i,F)=>i<=xs.length/\F.length=xs.length+Q.length/\Ok 4294967296 F/\val 4294967296 (F.take<|i+Q.length)=val 4294967296 (xs.take i)*val 4294967296 Q)
  (λ((i:Nat),(F:ac Nat))=>⟨[.a 183 false 1 Nat gi F],1,[(1,dr Q),(5,.aL 0 1 0 (xs.length+Q.length)<|xs.length+Q.length),(17,dr xs),(18,.ae xs.length),(19,.ae i)]⟩)
  (λl=>xs.length-l.1) [0] (0,List.replicate (xs.length+Q.length) 0) ⟨J,az,vK av _,by simp[val,val_zero]⟩ apr cr ?_
 rintro⟨i,F⟩ ⟨af,aq,S,Z⟩;refine U 6<|eC (λh=>?_) λh=>?_
 .have h:i<xs.length:=by omega
  have ar:=Y _<|eO h;refine U 7<|iW xs[i] (ba h) o<|U 19 ?_;refine dN (L:=Nat×ac Nat×Nat) (λ(j,K,c)=>j<=Q.length/\K.length=xs.length+Q.length/\Ok 4294967296 K/\c<4294967296/\(∀k,i+j<=k->K[k]? =F[k]?)/\val 4294967296 (K.take<|i+j)+4294967296^(i+j)*c=val 4294967296 (F.take<|i+j)+4294967296^i*(xs[i]*val 4294967296 (Q.take j)))
   (λ((j:Nat),(K:ac Nat),(c:Nat))=>⟨[.a 183 false 1 Nat gi K],1,[(1,dr Q),(5,.aL 0 1 0 (xs.length+Q.length)<|xs.length+Q.length),(17,dr xs),(18,.ae xs.length),(19,.ae i),(6,.ae i),(7,.i .u32 (xs[i]:Nat)),(8,.i .u64 c),(24,dr Q),(25,.ae Q.length),(26,.ae j)]⟩)
   (λl=>Q.length-l.1) [0] (0,F,0) ⟨J,aq,S,J,λ_ _=>o,by simp[val]⟩ (by show Q.length-0<bz+1;unfold bz;omega) cr ?_
  rintro⟨j,K,c⟩ ⟨A,ad,a',ah,D,O⟩;refine U 6<|eC (λt=>?_) λt=>?_
  .have t:j<Q.length:=by omega
   have ai:=G _<|eO t;have N:i+j<K.length:=J
   have aj:K[i+j]=F[i+j]:=by
    have:=D (i+j)<|c4 _;exact ao1
   have ak:=a' _<|eO N;obtain⟨ao,ag,bj⟩:=L2 ah ar ai ak;refine U 7<|iW Q[j] (ba t) o<|U 17<|b5 40 ((i+j:Nat):Int)<|n7 o o<|n2 K[i+j] (ba N) ?_
   iterate 3 refine gF o ?_
   refine a9 45 (.i .u64 ((c+(xs[i]*Q[j]+K[i+j]):Nat):Int)) o (ht ?_) ?_
   .have al:xs[i]%18446744073709551616=xs[i]:=by omega
    have an:Q[j]%18446744073709551616=Q[j]:=J
    have z:K[i+j]%18446744073709551616=K[i+j]:=J
    rw[al,an,z,hb ao,hb ag,hb bj]
   refine U 11<|b5 49 ((i+j:Nat):Int) ?_;generalize C:c+(xs[i]*Q[j]+K[i+j])=T at *;refine n7 o o<|mc (T%4294967296) ?_;refine U 13 ?_;refine bL [0] (j+1,K.set (i+j)<|T%4294967296,T/4294967296) ⟨by show Q.length-(j+1)<Q.length-j;omega,J,by simp[ad],oU a' _<|fo _ av,J,λk E=>by rw[nH J];exact D k J,?_⟩
    cr
   rw[<-Nat.add_assoc,kc (l:=K.set (i+j) _) ep,kc (l:=F) J,kc t,oo<|c4 _,ou,hZ,<-aj,<-C];exact aiF (by rw[nJ]) O
  .have A:j=Q.length:=by omega
   subst A;refine U 13<|b5 60 ((i+Q.length:Nat):Int)<|n7 o o<|mc (c%4294967296) ?_;refine U 7<|bL [0] (i+1,K.set (i+Q.length)<|c%4294967296) ⟨by show xs.length-(i+1)<xs.length-i;omega,J,by simp[ad],oU a' _<|fo _ av,?_⟩ cr;rw[show i+1+Q.length=i+Q.length+1 by omega,kc (l:=K.set _ _) ep,oo<|c4 _,ou,hb ah,O,Z,kc h,me<|c4 _,fP,lX]
 .have af:i=xs.length:=by omega
  subst af;refine U 8<|afC 65 ?_;refine afB mN F ⟨S,J⟩ ?_;refine U 4<|bh (Gi o<|.of ?_);show g4 _ (dw _)=g4 _ (dw _);congr 2;rw[me (l:=xs)<|c4 _,me (l:=F) J]at Z;rw[Z,M,jv]
def oV:b4 40 L3:=GK.SE
def aiG{X O:Nat}(h:X=O*d+r):x+B*X=((r*B+x)/d+B*O)*d+(r*B+x)%d:=by
 have Y:=uS (r*B+x) d;rw[fP,h,lX,hK (_/d) d,ki,hK r B]at *;omega
def aiH(aw:r<d)(O:x<B):(r*B+x)/d<B:=by
 rw[x9 J];have:(r+1)*B<=d*B:=jE _ aw;rw[hK B d];rw[fP]at this;omega
def Wd(O:x<2^k):h*2^k|||x=h*2^k+x:=by
 rw[hK,<-Nat.two_pow_add_eq_or_of_lt O]
def L4(aw:r<4294967296)(O:x<4294967296):(r*2^32%18446744073709551616%18446744073709551616|||x%18446744073709551616%18446744073709551616)=r*4294967296+x:=by
 have U:r*2^32%18446744073709551616%18446744073709551616=r*2^32:=J
 have T:x%18446744073709551616%18446744073709551616=x:=J
 rw[U,T,Wd O]
def GL:b4 133 (cR λ((a,b):Nat×Nat)=>([dw a,.i .u32 b],dU 1073741824 a/\0<b/\b<4294967296,.br [dw<|a/b,.i .u32 ((a%b:Nat):Int)])):=by
 refine cJ [mN] Tv.1 ?_;intro⟨a,d⟩ ⟨(D:(b9 _ a).length<=_),(I:0<d),(G:d<_)⟩ H ax;have Y:=ji (b:=4294967296) av a;have M:=iL (b:=4294967296) av a;show bP.ok _ ⟨_,_,⟨_,_,[(0,dr<|b9 4294967296 a),(1,.i .u32 d)]⟩⟩;generalize b9 4294967296 a=xs at *;refine st ?_;refine pG gi 0<|st ?_;refine dN (L:=Nat×ac Nat×Nat) (λ(k,F,r)=>k<=xs.length/\F.length=xs.length/\Ok 4294967296 F/\r<d/\val 4294967296 (xs.drop k)=val 4294967296 (F.drop k)*d+r)
  (λ((k:Nat),(F:ac Nat),(r:Nat))=>⟨[.a 183 false 1 Nat gi F],1,[(0,dr xs),(1,.i .u32 d),(4,.aL 0 1 0 xs.length xs.length),(6,.i .u64 r),(7,.ae<|(k:Int)-1)]⟩)
  (λl=>l.1) [0] (xs.length,List.replicate xs.length 0,0) ⟨J,az,vK av _,I,by simp[val]⟩ asB cr ?_
 rintro⟨k,F,r⟩ ⟨E,z,S,aw,Z⟩;cases k with
 |zero=>
  refine st ?_;refine ju 38 ?_;refine bn mN F ⟨S,J⟩<|st ?_;rw[kC,kC]at Z;have aD:a/d=val 4294967296 F:=by rw[<-M,Z,hK];rw[Nat.mul_add_div I,uR aw];omega
  have hm:a%d=r:=by rw[<-M,Z,hK,Nat.mul_add_mod,hb aw]
  exact bh (dc o o<|.br ⟨.of<|by show dw _=dw (a/d);rw[aD],.of (ht<|by show((r%4294967296:Nat):Int)=((a%d:Nat):Int);omega),aP⟩)
 |succ m=>
  have O:m<xs.length:=J
  have t:=Y _<|eO O;have Q:=aiH aw t;have C:r*4294967296+xs[m]<18446744073709551616:=by
   have:(r+1)*4294967296<=4294967296*4294967296:=jE _ J;omega
  refine a9 7 (.ae (m:Nat)) o ht<|st ?_;refine a9 15 (.b true) o az<|st ?_;refine hh xs[m] (ba O) ?_
  iterate 3 refine gF o ?_
  refine a9 25 (.i .u64 ((r*4294967296+xs[m]:Nat):Int)) o (ht<|congrArg _<|L4 J t) ?_;generalize K:r*4294967296+xs[m]=T at *;refine st ?_;refine a9 30 (.i .u64 (d:Nat)) o ht ?_;refine aeb<|st ?_;refine pF ?_;refine mc (T/d%4294967296)<|st ?_;refine a9 36 (.i .u64 (d:Nat)) o ht ?_;refine aec<|st ?_;have A:xs.drop m=xs[m]::xs.drop (m+1):=hL O;refine bL [0] (m,F.set m<|T/d%4294967296,T%d) ⟨az,J,by simp[z],oU S _<|fo _ av,fo _ I,?_⟩ cr;rw[A,hL (l:=F.set m _) ep,ou,Ds J,hb Q,<-K];exact aiG Z
def We(M:s<32)(cl:h<2^s):h|||(x*2^s)%4294967296=h+(x*2^s)%4294967296:=by
 have e:4294967296=2^s*2^(32-s):=by rw[<-Nat.pow_add,show s+(32-s)=32 by omega]
 have T:(x*2^s)%4294967296=2^s*(x%2^(32-s)):=by rw[e,hK x,Nat.mul_mod_mul_left]
 rw[T,Nat.or_comm,<-Nat.two_pow_add_eq_or_of_lt cl,x3]
def GM(M:s<32):2^s<=2147483648:=by
 have:2^s<=2^31:=k5 av J;exact this
def aiI(M:s<32)(O:x<4294967296):x*2^s<9223372036854775808:=by
 have Y:x*2^s<=4294967295*2147483648:=po J<|GM M;omega
def aiJ(O:x<4294967296):x*2^s/4294967296<2^s:=by
 rw[x9 av,hK];exact(Nat.mul_lt_mul_left<|sd s).2 O
def aiK(Z:R+P*h=a):R+P*(h+v%4294967296)+P*4294967296*(v/4294967296)=a+P*v:=by
 have Y:P*v=P*(v%4294967296)+P*4294967296*(v/4294967296):=by
  rw[lX,<-Nat.mul_add];congr 1;omega
 rw[ki];omega
def L5(n:Nat):2^n=2^(n%32)*4294967296^(n/32):=by
 rw[show 4294967296=2^32 from rfl,<-Nat.pow_mul,<-Nat.pow_add];congr 1;omega
theorem Wf(h:k<9223372036854775808):ai.ae (IntKind.i64.wrap<|(k:Int).tdiv 32)=ai.ae ((k/32:Nat):Int):=gg o aoM aoM
def tY:b4 156 (cR λ((a,b):Nat×Nat)=>([dw a,.ae b],dU 1073741824 a/\b<34359738368,dw<|a*2^b)):=by
 refine cJ [mN] TA.1 ?_;intro⟨a,n⟩ ⟨(D:(b9 _ a).length<=_),(aj:n<_)⟩ H ax;have Y:=ji (b:=4294967296) av a;have a':=iL (b:=4294967296) av a;show bP.ok _ ⟨_,_,⟨_,_,[(0,dr<|b9 4294967296 a),(1,.ae n)]⟩⟩;generalize b9 4294967296 a=xs at *;refine U 13<|eC (λh=>?_) λh=>?_
 .have T:xs=[]:=pg J;subst T;have:a=0:=a'.symm;subst this;exact U 7<|du (bX.nl.trans (.of<|by show dr []=dw (0*2^n);rw[jC];show _=dr (b9 _ 0);rw[iX]))
 iterate 2 refine gF o ?_
 refine gF o ?_;refine gF o ?_;refine gF o ?_;refine gF o ?_;refine gF o ?_;refine a9 15 _ o (Wf J) ?_
 iterate 3 refine gF o ?_
 refine c3 17 (ht o) ?_;generalize aD:n/32=q;have M:n%32<32:=fo _ av;have A:=L5 n;rw[aD]at A;generalize n%32=s at *;refine U 10<|a9 23 (.ae ((xs.length+q+1:Nat):Int)) o (by rw[j9 (n:=(xs.length:Int)+q) J J];exact gg)<|pG gi 0 ?_;refine U 12 ?_;refine dN (L:=Nat×ac Nat) (λ(i,F)=>i<=xs.length/\F.length=xs.length+q+1/\Ok 4294967296 F/\(∃h,F[i+q]? =some h/\h<2^s)/\val 4294967296 (F.take<|i+q+1)=val 4294967296 (xs.take i)*(2^s*4294967296^q))
  (λ((i:Nat),(F:ac Nat))=>⟨[.a 183 false 1 Nat gi F],1,[(5,.ae q),(6,.i .u64 s),(7,.aL 0 1 0 (xs.length+q+1)<|xs.length+q+1),(25,dr xs),(26,.ae xs.length),(27,.ae i)]⟩)
  (λl=>xs.length-l.1) [0] (0,List.replicate (xs.length+q+1) 0) ⟨J,az,vK av _,⟨0,by rw[DP,aA J],sd s⟩,by rw[List.take_replicate,val_zero];simp[val]⟩ apr cr ?_
 rintro⟨i,F⟩ ⟨af,z,S,⟨h,O,K⟩,Z⟩;refine U 6<|eC (λaT=>?_) λaT=>?_
 .have aT:i<xs.length:=by omega
  have t:=Y _<|eO aT;have ah:=aiI M t;have ad:=aiJ (s:=s) t;have bj:=GM M;refine U 7<|iW xs[i] aq6 o ?_
  iterate 3 refine gF o ?_
  iterate 3 refine gF o ?_
  iterate 3 refine gF o ?_
  iterate 2 refine gF o ?_
  refine a9 35 (.i .u64 ((xs[i]*2^s:Nat):Int)) o (ht ?_) ?_
  .rw[hb (a:=xs[i]) J,hb J]
  generalize G:xs[i]*2^s=V at *;refine U 9<|b5 39 ((i+q:Nat):Int)<|n7 o o<|n2 h O ?_
  iterate 3 refine gF o ?_
  refine a9 44 (.i .u32 ((h+V%4294967296:Nat):Int)) o (ht ?_) ?_
  .rw[hb (a:=h) J,Nat.mod_mod,<-G,We M K]
  have E:h+V%4294967296<4294967296:=by
   rw[<-G,<-We M K];exact Nat.or_lt_two_pow (n:=32) J<|fo _ av
  generalize C:h+V%4294967296=iI at *;refine n7 o o<|mc iI ?_;refine U 11<|a9 50 (.ae ((i+q+1:Nat):Int)) o (by rw[j9 (n:=(i:Int)+q) J J];exact gg)<|n7 o o<|mc (V/2^32%4294967296) ?_;refine U 7 ?_;have N:V/2^32%4294967296=V/4294967296:=J
  rw[N];refine bL [0] (i+1,(F.set (i+q) iI).set (i+q+1)<|V/4294967296) ⟨by show xs.length-(i+1)<xs.length-i;omega,J,by simp[z],oU (oU S _ E) _ J,⟨V/4294967296,by rw[show i+1+q=i+q+1 by omega,AD ep],ad⟩,?_⟩
   cr
  have Q:val 4294967296 (F.take<|i+q)+4294967296^(i+q)*h=val 4294967296 (xs.take i)*(2^s*4294967296^q):=by
   rw[<-Z,kc J];congr 2;exact(Option.some.inj<|(ba J).symm.trans O).symm
  have ag:=aiK (v:=V) Q;rw[show i+1+q+1=i+q+1+1 by omega,kc ep,ou,oo<|c4 _,kc ep,ou,oo<|c4 _,kc aT,<-C,hZ,ag,<-G,fP,nJ];congr 1
  ac_rfl
 .have af:i=xs.length:=by omega
  subst af;refine U 8<|ju 56 ?_;refine bn mN F ⟨S,J⟩<|U 4<|eK ?_;show dw _=dw _;congr 1;rw[me (l:=xs)<|c4 _,me (l:=F) J]at Z;rw[Z,a',<-A]
def qH(h:Ok b l)(k:Nat):Ok b (l.take k):=λx O=>h x<|wg O
def vM(h:Ok b l)(k:Nat):Ok b (l.drop k):=λx O=>h x<|DQ O
def GN(aB:k<=l.length):val b l=val b (l.take k)+b^k*val b (l.drop k):=by
 have:=pL b (l.take k)<|l.drop k
 rwa [wc,kD,kh aB]at this
def Wg(aa:0<b)(h:Ok b l)(aB:k<=l.length):val b l/b^k=val b (l.drop k):=by
 have G:=lj<|qH h k;rw[kD,kh aB]at G;rw[GN aB,DO _ _ J,uR G,jn]
def aiL{W ak:Nat}(M:s<32)(Z:W=v+18446744073709551616*ak):(W/2^s)%4294967296=(v/2^s)%4294967296:=by
 have e:18446744073709551616*ak=2^s*(4294967296*(2^(32-s)*ak)):=by
  rw[show 18446744073709551616=4294967296*2^32 from rfl,show 2^32=2^s*2^(32-s) by rw[<-Nat.pow_add,show s+(32-s)=32 by omega]]
  ac_rfl
 rw[Z,e,DO _ _<|sd s,DN]
def Wh:b4 159 (cR λ((a,b):Nat×Nat)=>([dw a,.ae b],dU 1073741824 a/\b<9223372036854775808,dw<|a/2^b)):=by
 refine cJ [mN] Vk.1 ?_;intro⟨a,n⟩ ⟨(al:(b9 _ a).length<=_),(aj:n<_)⟩ H ax;have Y:=ji (b:=4294967296) av a;have ai:=iL (b:=4294967296) av a;show bP.ok _ ⟨_,_,⟨_,_,[(0,dr<|b9 4294967296 a),(1,.ae n)]⟩⟩;generalize b9 4294967296 a=xs at *
 iterate 3 refine gF o ?_
 iterate 3 refine gF o ?_
 iterate 3 refine gF o ?_
 refine a9 11 _ o (Wf J) ?_
 iterate 2 refine gF o ?_
 refine a9 13 (.ae ((n%32:Nat):Int)) o (ht o) ?_;generalize aD:n/32=q;have M:n%32<32:=fo _ av;have A:=L5 n;rw[aD]at A;generalize n%32=s at *;refine st ?_;have O:a/2^n=a/4294967296^q/2^s:=by rw[A,hK,ya]
 refine eC (λh=>?_) λh=>?_
 .refine st ?_;have G:=lj Y;have C:4294967296^xs.length<=4294967296^q:=k5 av J;exact du<|bX.nl.trans (.of<|by show dr []=dw (a/2^n);rw[O,uR (show a<4294967296^q by omega),Nat.zero_div];show _=dr (b9 _ 0);rw[iX])
 have I:q<xs.length:=J
 refine st ?_;refine b5 22 ((xs.length-q:Nat):Int) ?_;refine pG gi 0<|st ?_;have ah:a/4294967296^q=val 4294967296 (xs.drop q):=by rw[<-ai,Wg av Y J]
 have E:=lj<|vM Y q;rw[m5]at E;generalize dY:xs.length-q=N at *;refine dN (L:=Nat×ac Nat) (λ(i,F)=>i<=N/\F.length=N/\Ok 4294967296 F/\val 4294967296 (F.take i)=(val 4294967296 (xs.drop q)/2^s)%4294967296^i)
  (λ((i:Nat),(F:ac Nat))=>⟨[.a 183 false 1 Nat gi F],1,[(0,dr xs),(5,.ae q),(6,.i .u64 s),(7,.aL 0 1 0 N N),(25,.ae N),(26,.ae i)]⟩)
  (λl=>N-l.1) [0] (0,List.replicate N 0) ⟨J,az,vK av _,by simp[val,DR]⟩ (by show N-0<bz+1;unfold bz;omega) cr ?_
 rintro⟨i,F⟩ ⟨af,z,S,Z⟩;refine st ?_;refine eC (λaT=>?_) λaT=>?_
 .have a':i+q<xs.length:=by omega
  have t:=Y _<|eO a';refine st ?_;refine b5 32 ((i+q:Nat):Int) ?_;refine hh xs[i+q] (ba a') ?_
  iterate 2 refine gF o ?_
  refine a9 35 (.i .u64 (xs[i+q]:Nat)) o ht<|st ?_;refine jS (λ(v:Nat)=>∃ak,val 4294967296 (xs.drop<|i+q)=v+18446744073709551616*ak) (λ(v:Nat)=>⟨[.a 183 false 1 Nat gi F],1,[(9,.i .u64 v),(8,.ae i),(0,dr xs),(5,.ae q),(6,.i .u64 s),(7,.aL 0 1 0 N N),(25,.ae N),(26,.ae i)]⟩) ?_ ?_
  .have ad:IntKind.i64.wrap (IntKind.i64.wrap ((i:Int)+q)+1)=((i+q+1:Nat):Int):=by rw[j9 (n:=(i:Int)+q) J J,j9]<;>omega
   rw[ad];refine eC (λK=>?_) λK=>?_
   .have K:i+q+1<xs.length:=by omega
    have Q:=Y _<|eO K;refine st ?_;refine a9 48 (.ae ((i+q+1:Nat):Int)) o (ht ad) ?_;refine hh xs[i+q+1] (ba K) ?_;refine st ?_;refine bL [0] (xs[i+q]+4294967296*xs[i+q+1]) ⟨val 4294967296<|xs.drop<|i+q+1+1,?_⟩<|cr (aK:=⟨rv<|congrArg _ ?_,o,o,o,o,o,o,o,aP⟩)
    .rw[hL a',hL K,val,val];omega
    .have U:xs[i+q+1]%18446744073709551616*2^32%18446744073709551616%18446744073709551616=xs[i+q+1]*2^32:=by omega
     have T:xs[i+q]%18446744073709551616=xs[i+q]:=J
     rw[U,T,Nat.or_comm,Wd (k:=32) t];omega
   .refine st ?_;refine bL [0] xs[i+q] ⟨0,?_⟩ cr;rw[hL a',Ay J,val,val]
  rintro(v:Nat) ⟨ak,D⟩;refine st ?_;refine aed<|st ?_;refine pF ?_;refine mc (v/2^s%4294967296)<|st ?_;refine bL [0] (i+1,F.set i<|v/2^s%4294967296) ⟨by show N-(i+1)<N-i;omega,J,by simp[z],oU S _<|fo _ av,?_⟩ cr;rw[kc ep,oo<|c4 _,ou,Z,hZ,Nat.mod_mul,<-aiL M D,ya,hK<|2^s,<-Nat.div_div_eq_div_mul,Wg av (vM Y q) ep,uO,x3 q i]
 .have ag:i=N:=by omega
  subst ag;refine st ?_;refine ju 62 ?_;refine bn mN F ⟨S,J⟩<|st ?_;refine eK ?_;show dw _=dw _;congr 1;rw[me (l:=F) J,hb<|iR (mr _ _) E]at Z;show _=a/2^n;rw[Z,O,ah]
def cx(n:Nat):Nat:=if n=0 then 0 else Nat.log2 n+1
def Wi(h:1<=n):cx n=cx (n/2)+1:=by
 unfold cx;rw[au J];by_cases G:n/2=0
 .rw[aA G];have:n=1:=by omega
  subst this;rfl
 .rw[au G,Nat.log2_def,aA J]
theorem Cv:∀(k n:Nat),2^k<=n->cx n=cx (n/2^k)+k
 |0,n,_=>by simp
 |k+1,n,h=>by
  have bS:2^(k+1)=2*2^k:=J
  have hp:=sd k;rw[Wi J,Cv k (n/2) J,ya,bS];omega
def tZ(h:n≠0):2^(cx n-1)<=n/\n<2^cx n:=by
 rw[cx,au h];exact⟨Nat.log2_self_le h,Nat.lt_log2_self⟩
def aiM{n k:Nat}(aE:2^k<=n)(aK:n<2^(k+1)):cx n=k+1:=by
 have T:n≠0:=J
 have⟨a,b⟩:=tZ T;have:=(wk J).1<|iR aE b;have:=(wk J).1<|iR a aK;omega
def GO:b4 177 (cR λ(n:Nat)=>([.i .u32 n],n<4294967296,.ae (cx n:Nat))):=by
 refine cJ [] Uh.1 ?_;intro(n:Nat) (aj:n<4294967296) H ax;refine U 12<|jS (λ((m:Nat),(k:Nat))=>m<65536/\k<=16/\cx n=cx m+k) (λ(m,k)=>⟨[],0,[(0,.i .u32 m),(2,.ae k)]⟩) ?_ ?_
 .refine eC (λh=>?_) λh=>?_
  .exact U 10<|bL [] (n/65536,16) ⟨J,av,Cv 16 n J⟩ cr
  .exact U 1<|bL [] (n,0) ⟨J,av,o⟩ cr
 rintro⟨m,k⟩ ⟨hm,E,aa⟩;refine U 7<|jS (λ((m:Nat),(k:Nat))=>m<256/\k<=24/\cx n=cx m+k) (λ(m,k)=>⟨[],0,[(0,.i .u32 m),(2,.ae k)]⟩) ?_ ?_
 .refine eC (λh=>?_) λh=>?_
  .exact U 12<|bL [] (m/256,k+8) ⟨J,J,by rw[aa,Cv 8 m J,show(2:Nat)^8=256 from rfl];omega⟩ cr
  .exact U 1<|pJ [] (m,k) ⟨J,aa⟩
 rintro⟨m,k⟩ ⟨hm,E,aa⟩;refine U 5<|a9 15 (.i .u8 (m:Nat)) o ht ?_;have bW:∀m,m<256->([0,1,2,2,3,3,3,3,4,4,4,4,4,4,4,4,5,5,5,5,5,5,5,5,5,5,5,5,5,5,5,5,6,6,6,6,6,6,6,6,6,6,6,6,6,6,6,6,6,6,6,6,6,6,6,6,6,6,6,6,6,6,6,6,7,7,7,7,7,7,7,7,7,7,7,7,7,7,7,7,7,7,7,7,7,7,7,7,7,7,7,7,7,7,7,7,7,7,7,7,7,7,7,7,7,7,7,7,7,7,7,7,7,7,7,7,7,7,7,7,7,7,7,7,7,7,7,7,8,8,8,8,8,8,8,8,8,8,8,8,8,8,8,8,8,8,8,8,8,8,8,8,8,8,8,8,8,8,8,8,8,8,8,8,8,8,8,8,8,8,8,8,8,8,8,8,8,8,8,8,8,8,8,8,8,8,8,8,8,8,8,8,8,8,8,8,8,8,8,8,8,8,8,8,8,8,8,8,8,8,8,8,8,8,8,8,8,8,8,8,8,8,8,8,8,8,8,8,8,8,8,8,8,8,8,8,8,8,8,8,8,8,8,8,8,8,8,8,8,8,8,8,8,8,8,8]:ac ci)[m]? =some (UInt8.ofNat<|cx m)/\cx m<=8:=by decide +kernel
 obtain⟨Q,Z⟩:=bW m hm;refine tM _ Q<|U 6 ?_;have e:(UInt8.ofNat<|cx m).toNat=cx m:=by simp;omega
 rw[e];refine eK ?_;show ai.i _ _=ai.ae (cx n:Nat);rw[aa,j9 (n:=((cx m:Nat):Int)) J J];exact gg
def L6(h:n<4294967296):cx n<=32:=by
 by_cases T:n=0
 .subst T;decide
 .have:=(tZ T).1;have:=(wk J).1<|iR this (show n<2^32 from h);omega
def Wj:b4 155 (cR λ(n:Nat)=>([.i .u32 n],n<4294967296,.ae ((32-cx n:Nat):Int))):=by
 apply cJ [GO] Tz.1;intro n aj H ax;refine U 8<|bn GO n aj<|U 5 ?_;have:=L6 aj;exact bh<|dc o o<|.of gg
def nr(b:Nat):Nat->Nat->ac Nat
 |0,_=>[]
 |k+1,n=>n%b::nr b k (n/b)
theorem Cw(b:Nat):∀k n,(nr b k n).length=k
 |0,_=>rfl
 |k+1,n=>by simp[nr,Cw b k]
theorem Wk{b:Nat}(aa:0<b):∀k n,Ok b (nr b k n)
 |0,_=>λx O=>by simp[nr]at O
 |k+1,n=>λx O=>by
  rcases fg.1 O with rfl|O
  .exact fo _ aa
  .exact Wk aa k _ x O
theorem L7{b:Nat}:∀k n,val b (nr b k n)=n%b^k
 |0,n=>by simp[nr,val,DR]
 |k+1,n=>by rw[nr,val,L7 k,hZ,hK (b^k) b,Nat.mod_mul]
theorem xB{b:Nat}(aa:0<b):∀{l:ac Nat} {n k:Nat},Ok b l->l.length=k->val b l=n->l=nr b k n
 |[],_,_,_,rfl,_=>rfl
 |d::l,_,_,h,rfl,rfl=>by
  have aE:=h d az;rw[iQ,nr,val,DN,hb aE,DO _ _ aa,uR aE,jn,<-xB aa (λx O=>h x<|e3 _ O) o o]
def Wl{us os:ac Nat}(aI:os.length=us.length)(a3:j+k<=us.length)(M:∀p,p<j\/j+k<=p->os[p]? =us[p]?):os=us.take j++((os.drop j).take k++us.drop (j+k)):=by
 apply pf;intro p;by_cases Y:p<j
 .rw[ta ep,pe,aA Y];exact M p<|.inl Y
 .rw[wh ep,kD,kh J];by_cases G:p<j+k
  .rw[ta ep,pe,aA J,p3];congr 1;omega
  .rw[wh ep];have:((os.drop j).take k).length=k:=by simp;omega
   rw[this,p3,M p<|.inr J];congr 1;omega
def rT(h:j+i<l.length):val b ((l.drop j).take<|i+1)=val b ((l.drop j).take i)+b^i*l[j+i]:=by
 rw[kc ep,Ig]
def hB(us:ac Nat)(j k n:Nat):ac Nat:=us.take j++(nr 4294967296 k n++us.drop (j+k))
def eZ(us:ac Nat)(j k:Nat):Nat:=val 4294967296<|(us.drop j).take k
def Wm:b4 157 (kP λ((us,j,ab,g):ac Nat×Nat×ac Nat×Nat)=>([.a 183 false 1 Nat gi us],[.aL 0 1 j (us.length-j)<|us.length-j,dr ab,.i .u64 g],j+ab.length<us.length/\Ok 4294967296 us/\Ok 4294967296 ab/\g<4294967296/\us.length<=1099511627776,[.a 183 false 1 Nat gi<|hB us j (ab.length+1)<|eZ us j (ab.length+1)+(if eZ us j (ab.length+1)<g*val 4294967296 ab then 4294967296^(ab.length+1)else 0)-g*val 4294967296 ab],.b<|decide (eZ us j (ab.length+1)<g*val 4294967296 ab))):=by
 refine kT [] TB.1 ?_;rintro⟨us,j,ab,g⟩ ⟨aE,Y,G,aw,aH⟩ aC i0 ax af;obtain⟨aD,rfl⟩:∃b,i0=[b]:=m7.1 af;show bP.ok _ ⟨_,_,⟨[.a 183 false 1 Nat gi us],1,[(0,.aL 0 1 j (us.length-j)<|us.length-j),(1,dr ab),(2,.i .u64 g)]⟩⟩;refine U 20 ?_;refine dN (L:=Nat×ac Nat×Nat×Nat) (λ(i,K,c,w)=>i<=ab.length/\K.length=us.length/\Ok 4294967296 K/\c<4294967296/\w<=1/\(∀p,p<j\/j+i<=p->K[p]? =us[p]?)/\eZ us j i+4294967296^i*(c+w)=eZ K j i+g*val 4294967296 (ab.take i))
  (λ((i:Nat),(K:ac Nat),(c:Nat),(w:Nat))=>⟨[.a 183 false 1 Nat gi K],1,[(0,.aL 0 1 j (us.length-j)<|us.length-j),(1,dr ab),(2,.i .u64 g),(7,.i .u64 c),(8,.i .u64 w),(13,dr ab),(14,.ae ab.length),(15,.ae i)]⟩)
  (λl=>ab.length-l.1) [0] (0,us,0,0) ⟨J,o,Y,J,J,λ_ _=>o,by simp[eZ,val]⟩ asx cr ?_
 rintro⟨i,K,c,w⟩ ⟨aG,z,S,ah,hw,D,Z⟩;refine U 6<|eC (λh=>?_) λh=>?_
 .have h:i<ab.length:=by omega
  have an:=G _<|eO h;have N:j+i<K.length:=J
  have F:K[j+i]=us[j+i]:=by
   have:=D (j+i)<|.inr<|c4 _;exact ao1
  have ay:=S _<|eO N;obtain⟨ey,eW,aF⟩:=L2 (R:=0) ah aw an av;refine U 7<|iW ab[i] (ba h) o<|U 13<|a9 25 (.i .u64 ((c+g*ab[i]:Nat):Int)) o (ht<|congrArg _ ?_) ?_
  .rw[hb (a:=ab[i]) J,hb ey,hb J]
  have C:c+g*ab[i]<18446744073709551616:=J
  generalize aq:c+g*ab[i]=T at *;refine U 7<|n1 ?_;refine n2 K[j+i] (ba N) ?_;refine U 7<|a9 36 (.i .u64 (((K[j+i]+18446744073709551616-T%4294967296-w)%18446744073709551616:Nat):Int)) o ht ?_;generalize aN:(K[j+i]+18446744073709551616-T%4294967296-w)%18446744073709551616=t at *;refine U 9<|n1 ?_;refine mc (t%4294967296) ?_;refine U 20 ?_;refine bL [0] (i+1,K.set (j+i)<|t%4294967296,T/4294967296,t/9223372036854775808) ⟨by show ab.length-(i+1)<ab.length-i;omega,J,by simp[z],oU S _<|fo _ av,J,J,λp hp=>?_,?_⟩
   cr
  .rw[nH J];exact D p J
  .unfold eZ at Z⊢;rw[rT J,rT (l:=K.set _ _) ep,ou,kc h,<-F,hZ];have ad:((K.set (j+i)<|t%4294967296).drop j).take i=(K.drop j).take i:=by
    rw[DS];rw[au J,show j+i-j=i by omega,oo<|c4 _]
   rw[ad];have a':K[j+i]+4294967296*(t/9223372036854775808)=t%4294967296+T%4294967296+w:=J
   have aB:T=T%4294967296+4294967296*(T/4294967296):=J
   generalize t/9223372036854775808=E at *;generalize T/4294967296=Q at *;generalize T%4294967296=gn at *;generalize t%4294967296=aj at *;generalize 4294967296^i=P at *;have bU:P*(K[j+i]+4294967296*E)=P*(aj+gn+w):=by rw[a']
   have H:P*(c+g*ab[i])=P*(gn+4294967296*Q):=by rw[aq,aB]
   rw[ki g,Nat.mul_left_comm g P];simp only[ki,lX]at bU H Z⊢;omega
 .have af:i=ab.length:=by omega
  subst af;have N:j+ab.length<K.length:=J
  have F:K[j+ab.length]=us[j+ab.length]:=by
   have:=D (j+ab.length)<|.inr<|c4 _;exact ao1
  have ay:=S _<|eO N;refine U 10<|n1 ?_;refine n2 K[j+ab.length] (ba N) ?_;refine U 5<|a9 56 (.i .u64 (((K[j+ab.length]+18446744073709551616-c-w)%18446744073709551616:Nat):Int)) o ht ?_;generalize aN:(K[j+ab.length]+18446744073709551616-c-w)%18446744073709551616=t at *;refine U 10<|n1 ?_;refine mc (t%4294967296) ?_;refine U 11 ?_;have al:Ok 4294967296 (K.set (j+ab.length)<|t%4294967296):=oU S _<|fo _ av;have M:(((K.set (j+ab.length)<|t%4294967296).drop j).take<|ab.length+1).length=ab.length+1:=by simp;omega
  have A:=lj<|qH (vM al j)<|ab.length+1;rw[M]at A;have ao:=Wl (us:=us) (os:=K.set (j+ab.length)<|t%4294967296) (j:=j) (k:=ab.length+1) (by simp[z]) J (λp hp=>by rw[nH J];exact D p J);have ar:=xB (b:=4294967296) av (qH (vM al j)<|ab.length+1) M o;generalize az:val 4294967296 (((K.set (j+ab.length)<|t%4294967296).drop j).take<|ab.length+1)=O at *;have key:eZ us j (ab.length+1)+4294967296^(ab.length+1)*(t/9223372036854775808)=O+g*val 4294967296 ab:=by
   rw[<-az];unfold eZ at Z⊢;rw[rT J,rT (l:=K.set _ _) ep,ou,<-F,hZ];have ad:((K.set (j+ab.length)<|t%4294967296).drop j).take ab.length=(K.drop j).take ab.length:=by
    exact aqR
   rw[ad];rw[me<|c4 _]at Z;have a':K[j+ab.length]+4294967296*(t/9223372036854775808)=t%4294967296+c+w:=J
   generalize t/9223372036854775808=E at *;generalize t%4294967296=aj at *;generalize 4294967296^ab.length=P at *;have bU:P*(K[j+ab.length]+4294967296*E)=P*(aj+c+w):=by rw[a']
   simp only[ki,lX]at bU Z⊢;omega
  have ak:eZ us j (ab.length+1)+(if eZ us j (ab.length+1)<g*val 4294967296 ab then 4294967296^(ab.length+1)else 0)-g*val 4294967296 ab=O/\(t/2^63=1↔eZ us j (ab.length+1)<g*val 4294967296 ab):=by
   rcases(show t/9223372036854775808=0\/t/9223372036854775808=1 by omega)with aa|aa
   .rw[aa]at key;rw[au J];exact⟨J,J⟩
   .rw[aa]at key;rw[aA J];exact⟨J,J⟩
  refine bh ⟨.inr o,⟨_,o,o,.of ?_⟩,[0],o,iz aP ⟨_,o,?_,λ_=>o⟩⟩
  .show ai.b (decide (((t/2^63:Nat):Int)=1))=ai.b (decide (eZ us j (ab.length+1)<g*val 4294967296 ab));congr 1;rw[decide_eq_decide,<-ak.2];exact aso aso
  .show a0.a _ _ _ _ _ _=a0.a _ _ _ _ _ _;congr 1;rw[ak.1];unfold hB;rw[<-ar];exact ao
theorem L8{b:Nat}:∀k n,nr b k (n%b^k)=nr b k n
 |0,n=>rfl
 |k+1,n=>by
  rw[nr,nr,hZ,hK (b^k) b,Nat.mod_mul_right_mod,Nat.mod_mul_right_div_self,L8]
def Wn:b4 158 (kP λ((us,j,ab):ac Nat×Nat×ac Nat)=>([.a 183 false 1 Nat gi us],[.aL 0 1 j (us.length-j)<|us.length-j,dr ab],j+ab.length<us.length/\Ok 4294967296 us/\Ok 4294967296 ab/\us.length<=1099511627776,[.a 183 false 1 Nat gi<|hB us j (ab.length+1)<|eZ us j (ab.length+1)+val 4294967296 ab],.br [])):=by
 refine kT [] UP.1 ?_;rintro⟨us,j,ab⟩ ⟨T,Y,G,C⟩ H i0 ax af;obtain⟨ak,rfl⟩:∃b,i0=[b]:=m7.1 af;show bP.ok _ ⟨_,_,⟨[.a 183 false 1 Nat gi us],1,[(0,.aL 0 1 j (us.length-j)<|us.length-j),(1,dr ab)]⟩⟩;refine U 14 ?_;refine dN (L:=Nat×ac Nat×Nat) (λ(i,K,c)=>i<=ab.length/\K.length=us.length/\Ok 4294967296 K/\c<=1/\(∀p,p<j\/j+i<=p->K[p]? =us[p]?)/\eZ K j i+4294967296^i*c=eZ us j i+val 4294967296 (ab.take i))
  (λ((i:Nat),(K:ac Nat),(c:Nat))=>⟨[.a 183 false 1 Nat gi K],1,[(0,.aL 0 1 j (us.length-j)<|us.length-j),(1,dr ab),(4,.i .u64 c),(7,dr ab),(8,.ae ab.length),(9,.ae i)]⟩)
  (λl=>ab.length-l.1) [0] (0,us,0) ⟨J,o,Y,J,λ_ _=>o,by simp[eZ,val]⟩ asx cr ?_
 rintro⟨i,K,c⟩ ⟨E,z,S,ah,D,Z⟩;refine U 6<|eC (λh=>?_) λh=>?_
 .have h:i<ab.length:=by omega
  have O:=G _<|eO h;have N:j+i<K.length:=J
  have F:K[j+i]=us[j+i]:=by
   have:=D (j+i)<|.inr<|c4 _;exact ao1
  have ay:=S _<|eO N;refine U 7<|iW ab[i] (ba h) o<|U 10<|n1 ?_;refine n2 K[j+i] (ba N) ?_;refine U 5<|a9 23 (.i .u64 ((c+K[j+i]+ab[i]:Nat):Int)) o ht<|U 9<|n1 ?_;refine mc ((c+K[j+i]+ab[i])%4294967296) ?_;refine U 13 ?_;refine bL [0] (i+1,K.set (j+i)<|(c+K[j+i]+ab[i])%4294967296,(c+K[j+i]+ab[i])/4294967296) ⟨by show ab.length-(i+1)<ab.length-i;omega,J,by simp[z],oU S _<|fo _ av,J,λp hp=>?_,?_⟩
   cr
  .rw[nH J];exact D p J
  .unfold eZ at Z⊢;rw[rT (l:=us) J,rT (l:=K.set _ _) ep,ou,kc h,<-F,hZ];have a':((K.set (j+i)<|(c+K[j+i]+ab[i])%4294967296).drop j).take i=(K.drop j).take i:=by
    rw[DS];rw[au J,show j+i-j=i by omega,oo<|c4 _]
   rw[a'];exact V6 av Z
 .have af:i=ab.length:=by omega
  subst af;have N:j+ab.length<K.length:=J
  have F:K[j+ab.length]=us[j+ab.length]:=by
   have:=D (j+ab.length)<|.inr<|c4 _;exact ao1
  have ay:=S _<|eO N;refine U 9<|n1 ?_;refine n2 K[j+ab.length] (ba N) ?_;refine U 3<|a9 39 (.i .u32 (((K[j+ab.length]+c)%4294967296:Nat):Int)) o ht ?_;generalize aN:(K[j+ab.length]+c)%4294967296=t at *;refine n1 ?_;refine mc t ?_;refine U 1 ?_;have ad:Ok 4294967296 (K.set (j+ab.length) t):=oU S _ J;have M:(((K.set (j+ab.length) t).drop j).take<|ab.length+1).length=ab.length+1:=by simp;omega
  have A:=lj<|qH (vM ad j)<|ab.length+1;rw[M]at A;have ag:=Wl (us:=us) (os:=K.set (j+ab.length) t) (j:=j) (k:=ab.length+1) (by simp[z]) J (λp hp=>by rw[nH J];exact D p J);have ai:=xB (b:=4294967296) av (qH (vM ad j)<|ab.length+1) M o;have key:(eZ us j (ab.length+1)+val 4294967296 ab)%4294967296^(ab.length+1)=val 4294967296 (((K.set (j+ab.length) t).drop j).take<|ab.length+1):=by
   rw[<-hb A];have:eZ us j (ab.length+1)+val 4294967296 ab=val 4294967296 (((K.set (j+ab.length) t).drop j).take<|ab.length+1)+4294967296^(ab.length+1)*((K[j+ab.length]+c)/4294967296):=by
    unfold eZ at Z⊢;rw[rT (l:=us) J,rT (l:=K.set _ _) ep,ou,<-F,hZ];have a':((K.set (j+ab.length) t).drop j).take ab.length=(K.drop j).take ab.length:=by
     exact aqR
    rw[a'];rw[me (l:=ab)<|c4 _]at Z;have aj:K[j+ab.length]+c=t+4294967296*((K[j+ab.length]+c)/4294967296):=J
    generalize(K[j+ab.length]+c)/4294967296=Q at *;generalize 4294967296^ab.length=P at *;have bU:P*(K[j+ab.length]+c)=P*(t+4294967296*Q):=by rw[aj]
    simp only[ki,lX]at bU Z⊢;omega
   rw[this,DN]
  refine bh ⟨.inl o,lQ,[0],o,iz aP ⟨_,o,?_,λ_=>o⟩⟩;show a0.a _ _ _ _ _ _=a0.a _ _ _ _ _ _;congr 1;unfold hB;rw[<-L8,key,<-ai];exact ag
end Go.bI.ds
namespace Go.bI.ds
section
variable{B P V W v1 v2 jj top rU vN q g over:Nat}
theorem aiN(U:V=(v1*B+v2)*P+rU)(Z:W=(top*B+jj)*P+vN)(Q:vN<P)(o:jj<B)(h:q*V<=W):q*v1<=top:=by
 have Y:q*v1*(B*P)<=q*V:=by
  rw[lX];apply m4 q;rw[U,fP,<-Nat.mul_assoc];omega
 have G:W<(top+1)*(B*P):=by
  have:(top*B+jj+1)*P<=(top*B+B)*P:=iZ P J;have e:(top*B+B)*P=(top+1)*(B*P):=by grind
  have T:(top*B+jj+1)*P=(top*B+jj)*P+P:=by grind
  omega
 have:=DT<|iR (cN Y h) G;omega
theorem aiO(E:V=(v1*B+v2)*P+rU)(Z:W=(top*B+jj)*P+vN)(Q:vN<P)(h:q*V<=W)(o:q<=g)(aN:top=g*v1+over)(F:over*B+jj<g*v2):q<g:=by
 rcases fW q g with D|D
 .exact D
 .have e:q=g:=by omega
  subst e;have Y:q*(v1*B+v2)*P<=q*V:=by
   rw[lX];apply m4 q;omega
  have G:W<(top*B+jj+1)*P:=by grind
  have C:=DT<|iR (cN Y h) G;rw[aN,ki,fP]at C;have U:q*(v1*B)=q*v1*B:=by grind
  omega
theorem aiP(D:V=(v1*B+v2)*P+rU)(o:rU<P)(J:0<v1)(Z:W=(top*B+jj)*P+vN)(aN:top=g*v1+over)(F:g*v2<=over*B+jj)(Q:g<=B):g*V<=W+V:=by
 have Y:g*V<=(g*(v1*B+v2)+g)*P:=by
  have:V<=(v1*B+v2+1)*P:=by grind
  have:=m4 g this
  rwa [<-Nat.mul_assoc,ki g _ 1,ph]at this
 have G:g*(v1*B+v2)<=top*B+jj:=by
  rw[aN,ki,fP];have U:g*(v1*B)=g*v1*B:=by grind
  omega
 have C:(g*(v1*B+v2)+g)*P<=(top*B+jj)*P+g*P:=by
  rw[fP];exact DU (iZ P G) _
 have N:g*P<=V:=by
  have:g*P<=(v1*B+v2)*P:=iZ P (by
   have:=m4 B J;rw[hK v1 B];omega)
  omega
 omega
theorem aiQ(U:V=(v1*B+v2)*P+rU)(o:rU<P)(O:v2<B)(Z:W=(top*B+jj)*P+vN)(aN:top=g*v1+over)(ay:B<=over)(Q:g<=B):g*V<=W:=by
 have Y:g*V<=g*((v1*B+B)*P):=by
  apply m4 g;have:(v1*B+v2+1)*P<=(v1*B+B)*P:=iZ P J;rw[fP _ 1 P]at this;omega
 have G:g*((v1*B+B)*P)=(g*v1+g)*B*P:=by grind
 have C:(g*v1+g)*B*P<=top*B*P:=iZ P<|iZ B J;have N:top*B*P<=(top*B+jj)*P:=iZ P J;omega
end
variable{V B v2 P rU:Nat}
theorem aiR{v1 h:Nat}(U:V=(v1*B+v2)*P+rU)(o:rU<P)(D:v2<B)(O:0<B)(aj:h*(P*B)<=V):h<=v1:=by
 have Y:V<(v1+1)*(P*B):=by
  have G:(v1*B+v2+1)*P<=(v1*B+B)*P:=iZ P J;have e:(v1*B+B)*P=(v1+1)*(P*B):=by grind
  rw[fP _ 1 P]at G;omega
 have:=DT<|iR aj Y;omega
theorem aiS{W v1 vN top L M jj:Nat}(U:V=(v1*B+v2)*P+rU)(o:rU<P)(D:v2<B)(O:0<B)(Z:W=(top*B+jj)*P+vN)(aN:top=M*B+L)(h:W<V*B):M<=v1:=by
 have Y:V<=(v1+1)*(P*B):=by
  have G:(v1*B+v2+1)*P<=(v1*B+B)*P:=iZ P J;have e:(v1*B+B)*P=(v1+1)*(P*B):=by grind
  rw[fP _ 1 P]at G;omega
 have C:M*(P*B*B)<=W:=by
  have:(M*B*B)*P<=(top*B+jj)*P:=iZ P (by
   rw[aN,fP];omega)
  have e:M*B*B*P=M*(P*B*B):=by ac_rfl
  omega
 have N:V*B<=(v1+1)*(P*B*B):=by
  have:=iZ B Y
  rwa [lX]at this
 have:=DT<|iR C<|r8 h N;omega
def aiT{W g:Nat}(U:0<V)(aE:W/V<=g)(aK:g*V<=W+V):(W<g*V->g-1=W/V/\0<g)/\(¬W<g*V->g=W/V):=by
 constructor
 .intro h;have C:=(x9 U).2 h;have N:(g-1)*V<=W:=by
   rw[Nat.sub_mul];omega
  have:=(DV U).2 N;omega
 .intro h;have:=(DV U).2 (show g*V<=W by omega);omega
open Go.bI
set_option maxRecDepth 100000
set_option maxHeartbeats 4000000
variable{k:Nat}{us:ac Nat}{j X n a b m d x:Nat}{neg:Bool}{p q:Nat}
def GP(h:j+k<=us.length):(hB us j k X).length=us.length:=by
 unfold hB;simp[Cw];omega
def Wo(h:Ok 4294967296 us):Ok 4294967296 (hB us j k X):=λx O=>by
 unfold hB at O;simp at O;rcases O with O|O|O
 .exact h x<|wg O
 .exact Wk av _ _ x O
 .exact h x<|DQ O
def aiU(h:j+k<=us.length):val 4294967296 (hB us j k X)=val 4294967296 (us.take j)+4294967296^j*(X%4294967296^k+4294967296^k*val 4294967296 (us.drop<|j+k)):=by
 unfold hB;rw[pL,pL,L7,Cw,kD,kh J]
def aiV{o:Nat}(h:j+k<=us.length):hB (hB us j k X) j k o=hB us j k o:=by
 unfold hB;rw[Il ep];congr 2;rw[<-List.drop_drop,DF ep,DF<|Cw _ _ _]
def aiW(h:j+k<=us.length):eZ (hB us j k X) j k=X%4294967296^k:=by
 unfold eZ hB;rw[DF ep,Il<|Cw _ _ _,L7]
def aiX:hB us j k (X%4294967296^k)=hB us j k X:=by
 unfold hB;rw[L8]
def aiY(h:j+k<=us.length)(S:Ok 4294967296 us):hB us j k (eZ us j k)=us:=by
 unfold hB eZ;rw[<-xB av (qH (vM S j) k) ep o];rw[<-List.drop_drop,wc,wc]
theorem Wp(S:Ok 4294967296 us)(h:j+(n+1)<=us.length)(D:V<4294967296^n)(E:val 4294967296 us<V*4294967296^(j+1)):
 val 4294967296 us=val 4294967296 (us.take j)+4294967296^j*eZ us j (n+1)/\val 4294967296 (us.drop<|j+(n+1))=0/\eZ us j (n+1)<V*4294967296:=by
 have U:=GN (b:=4294967296) (l:=us) (k:=j) J;have T:=GN (b:=4294967296) (l:=us.drop j) (k:=n+1) ep;rw[uO]at T;have aH:val 4294967296 (us.drop<|j+(n+1))=0:=by
  rcases AE (val 4294967296<|us.drop<|j+(n+1))with o|o
  .exact o
  .exfalso;have Y:4294967296^(j+(n+1))*1<=4294967296^(j+(n+1))*val 4294967296 (us.drop<|j+(n+1)):=q1 _ o;have G:V*4294967296^(j+1)<=4294967296^n*4294967296^(j+1):=jE _ J;rw[<-Nat.pow_add,show n+(j+1)=j+(n+1) by omega]at G;rw[T,ki,<-Nat.mul_assoc,<-Nat.pow_add]at U;omega
 rw[aH,DW]at T;refine⟨by rw[U,T];rfl,aH,?_⟩;have C:4294967296^j*eZ us j (n+1)<4294967296^j*(V*4294967296):=by
  have:V*4294967296^(j+1)=4294967296^j*(V*4294967296):=by grind
  have z:val 4294967296 (us.drop j)=eZ us j (n+1):=T;rw[z]at U;omega
 exact Nat.lt_of_mul_lt_mul_left C
theorem aiZ{lI:ac Nat}{A:Nat}(S:Ok 4294967296 us)(h:j+(n+1)<=us.length)(a3:j<lI.length)(o:0<V)(D:V<4294967296^n)(E:val 4294967296 us<V*4294967296^(j+1))(F:A=val 4294967296 (lI.drop<|j+1)*4294967296^(j+1)*V+val 4294967296 us):
 val 4294967296 (hB us j (n+1)<|eZ us j (n+1)%V)<V*4294967296^j/\A=val 4294967296 ((lI.set j<|eZ us j (n+1)/V).drop j)*4294967296^j*V+val 4294967296 (hB us j (n+1)<|eZ us j (n+1)%V):=by
 obtain⟨Y,G,C⟩:=Wp S h D E;have hm:=fo (eZ us j<|n+1) o;have t:=uS (eZ us j<|n+1) V;rw[aiU h,G,DW,sa,hb J];have aT:=lj<|qH S j;rw[kD,kh J]at aT;constructor
 .have:4294967296^j*(eZ us j (n+1)%V+1)<=4294967296^j*V:=q1 _ hm;rw[ki]at this;rw[hK V];omega
 .have U:val 4294967296 ((lI.set j<|eZ us j (n+1)/V).drop j)=eZ us j (n+1)/V+4294967296*val 4294967296 (lI.drop<|j+1):=by
   rw[hL ep,ou,Ds J];rfl
  have T:4294967296^j*eZ us j (n+1)=4294967296^j*(V*(eZ us j (n+1)/V))+4294967296^j*(eZ us j (n+1)%V):=by grind
  rw[F,Y,U,T,fP,fP,hZ];have z:eZ us j (n+1)/V*4294967296^j*V=4294967296^j*(V*(eZ us j (n+1)/V)):=by ac_rfl
  have H:4294967296*val 4294967296 (lI.drop<|j+1)*4294967296^j*V=val 4294967296 (lI.drop<|j+1)*(4294967296^j*4294967296)*V:=by ac_rfl
  omega
theorem ai0{Q:ac Nat}(aI:Q.length=m+2)(S:Ok 4294967296 Q)(aN:hr Q=Q)(Z:val 4294967296 Q=b):
 cx Q[m+1]<=32/\0<cx Q[m+1]/\b*2^(32-cx Q[m+1])<4294967296^(m+2)/\2147483648*4294967296^(m+1)<=b*2^(32-cx Q[m+1]):=by
 have A:Q[m+1]≠0:=by
  have e:Q=Q.take (m+1)++[Q[m+1]]:=by
   have:=wc (m+1) Q;rw[hL J,Ay J]at this;exact this.symm
  have:=aN;rw[e]at this;exact(zv (b:=4294967296) this).2
 have aT:=S _<|eO (show m+1<Q.length by omega);have t:=L6 aT;obtain⟨D,o⟩:=tZ A;have L:0<cx Q[m+1]:=by grind
 have U:b=val 4294967296 (Q.take<|m+1)+4294967296^(m+1)*Q[m+1]:=by
  rw[<-Z,<-kc J,pn J]
 have Y:=lj<|qH S<|m+1;rw[kD,kh J]at Y;generalize Q[m+1]=d at *;have hp:0<2^(32-cx d):=sd _;have T:2^cx d*2^(32-cx d)=4294967296:=by rw[<-Nat.pow_add,show cx d+(32-cx d)=32 by omega]
 have z:2^(cx d-1)*2^(32-cx d)=2147483648:=by rw[<-Nat.pow_add,show cx d-1+(32-cx d)=31 by omega]
 refine⟨t,L,?_,?_⟩
 .have G:b<4294967296^(m+1)*2^cx d:=by
   have:4294967296^(m+1)*(d+1)<=4294967296^(m+1)*2^cx d:=q1 _ o;rw[ki]at this;omega
  have C:=Ir G hp;rw[lX,T]at C;exact C
 .have G:4294967296^(m+1)*2^(cx d-1)<=b:=by
   have:4294967296^(m+1)*2^(cx d-1)<=4294967296^(m+1)*d:=q1 _ D;omega
  have C:=jE (2^(32-cx d)) G;rw[lX,z]at C;rw[hK];exact C
def ai1{r:Nat}(aw:r<4294967296)(O:x<4294967296):(r%18446744073709551616*2^32%18446744073709551616%18446744073709551616|||x%18446744073709551616%18446744073709551616)=r*4294967296+x:=by
 rw[hb (a:=r) J];exact L4 aw O
def ai2(P A L M jj:Nat):A+P*jj+P*4294967296*L+P*4294967296*4294967296*M=((M*4294967296+L)*4294967296+jj)*P+A:=by
 rw[fP,fP,fP];have U:P*4294967296*4294967296*M=M*4294967296*4294967296*P:=by ac_rfl
 have T:P*4294967296*L=L*4294967296*P:=by ac_rfl
 have z:P*jj=jj*P:=by ac_rfl
 omega
def ai3(P A L M:Nat):A+P*L+P*4294967296*M=(M*4294967296+L)*P+A:=by
 rw[fP];have U:P*4294967296*M=M*4294967296*P:=by ac_rfl
 have T:P*L=L*P:=by ac_rfl
 omega
def Wq{g:Nat}(h:0<g)(aK:g<18446744073709551616):(g+(18446744073709551616*1-1))%18446744073709551616=g-1:=J
def Cx{l:ac Nat}{i:Nat}(h:i<l.length):l[i]? =some l[i]:=ba h
def Cy:b4 118 (cR λ((a,b):Nat×Nat)=>([dw a,dw b],dU 1073741823 a/\dU 1073741823 b/\b≠0,.br [dw<|a/b,dw<|a%b])):=by
 refine cJ [vL,GL,mO,Wj,tY,Wh,Wm,Wn,mN] Tr.1 ?_;intro⟨a,b⟩ ⟨(cy:(b9 _ a).length<=_),(aa:(b9 _ b).length<=_),(bS:b≠0)⟩ H ax;show bP.ok _ ⟨_,_,⟨_,_,[(0,dr<|b9 4294967296 a),(1,dr<|b9 4294967296 b)]⟩⟩;have cD:0<(b9 4294967296 b).length:=qY.2 λh=>bS<|(qG av).1 h;refine st ?_;refine bn vL (a,b) ⟨by show(b9 _ a).length<=_;omega,by show(b9 _ b).length<=_;omega⟩<|st ?_;refine eC (λh=>?_) λh=>?_
 .have aT:a<b:=by
   rcases fW a b with D|D
   .exact D
   .have h:mL a b<0:=h;unfold mL at h;rw[au J]at h;split at h<;>omega
  refine st ?_;exact bh<|dc o o<|.br ⟨bX.nl.trans (.of<|by show dr []=dr (b9 _<|a/b);rw[uR aT,iX]),.of<|by show dr _=dr (b9 _<|a%b);rw[hb aT],aP⟩
 have bN:b<=a:=by
  rcases fW a b with D|D
  .exact absurd (show mL a b<0 by rw[GJ D];decide) h
  .exact D
 refine st ?_;refine eC (λY=>?_) λY=>?_
 .have Y:(b9 4294967296 b).length=1:=by omega
  obtain⟨d,S⟩:=m7.1 Y;have Z:=iL (b:=4294967296) av b;have aO:=ji (b:=4294967296) av b;rw[S]at Z aO;have a5:b=d:=by simp[val]at Z;exact Z.symm
  have a7:=aO d az;rw[S];subst a5;refine st ?_;refine hh (j:=0) b o ?_;refine st ?_;refine bn GL (a,b) ⟨by show(b9 _ a).length<=_;omega,by show 0<b;omega,a7⟩<|st ?_;refine a9 37 (.i .u64 ((a%b:Nat):Int)) o (ht (by have:=fo a (show 0<b by omega);omega)) ?_;refine bn mO (a%b) (by have:=fo a (show 0<b by omega);show a%b<_;omega)<|st ?_;exact bh<|dc o o<|.br ⟨.refl _,.refl _,aP⟩
 have bY:=ji (b:=4294967296) av a;have aV:=ji (b:=4294967296) av b;have bM:=iL (b:=4294967296) av a;have bW:=iL (b:=4294967296) av b;have bC:=xG (b:=4294967296) av b;have cw:=L0 bN;generalize aQ:b9 4294967296 a=xs at *;generalize aJ:b9 4294967296 b=Q at *;obtain⟨m,hm⟩:∃m,Q.length=m+2:=⟨Q.length-2,J⟩;obtain⟨hD,hY,aI,aw⟩:=ai0 hm aV bC bW;have S:=aV _<|eO (show m+1<Q.length by omega);refine st ?_;refine b5 41 ((m+1:Nat):Int) ?_;refine hh Q[m+1] (ba J) ?_;refine st ?_;refine bn Wj Q[m+1] S ?_;generalize cg:Q[m+1]=a1 at *;refine a9 44 (.ae ((32-cx a1:Nat):Int)) o o ?_;generalize cz:32-cx a1=e at *;have ch:e<=31:=J
 refine st ?_;refine bn tY (b,e) ⟨by show(b9 _ b).length<=_;rw[aJ];omega,by show e<_;omega⟩ ?_ (he:=by exact⟨.of<|congrArg dr aJ.symm,.refl _,aP⟩);refine a9 47 (dr<|b9 4294967296<|b*2^e) o o<|st ?_;refine b5 50 ((xs.length+1:Nat):Int) ?_;refine pG gi 0<|st ?_;refine bn tY (a,e) ⟨by show(b9 _ a).length<=_;rw[aQ];omega,by show e<_;omega⟩ ?_ (he:=by exact⟨.of<|congrArg dr aQ.symm,.refl _,aP⟩);have b7:a*2^e<2147483648*4294967296^xs.length:=by
  have Y:=lj bY;rw[bM]at Y;have G:(a+1)*2^e<=4294967296^xs.length*2147483648:=po J<|GM J;have cp:0<2^e:=sd e;rw[fP]at G;omega
 have bp:a*2^e<4294967296^(xs.length+1):=by
  rw[hZ];have:0<4294967296^xs.length:=k6 av;omega
 have C:(b9 4294967296<|a*2^e).length<=xs.length+1:=pM av bp;refine st ?_;refine aem (b9 4294967296<|a*2^e) (RL o qj qj)<|st ?_;refine a9 61 (.ae ((xs.length-Q.length+1:Nat):Int)) o (by rw[j9 (n:=(xs.length:Int)-Q.length) J J];exact gg) ?_;refine pG gi 0<|st ?_;have U:=iL (b:=4294967296) av<|b*2^e;have aj:=ji (b:=4294967296) av<|b*2^e;have bd:(b9 4294967296<|b*2^e).length=m+2:=by
  have Y:=pM (b:=4294967296) av aI;have G:=Cu (b:=4294967296) (n:=b*2^e) (k:=m+1) av (by
   have:0<4294967296^(m+1):=k6 av;omega)
  omega
 generalize cB:b9 4294967296 (b*2^e)=K at *;have bj:(b9 4294967296 (a*2^e)++(List.replicate (xs.length+1) 0).drop (b9 4294967296<|a*2^e).length).length=xs.length+1:=by simp;omega
 have a2:val 4294967296 (b9 4294967296 (a*2^e)++(List.replicate (xs.length+1) 0).drop (b9 4294967296<|a*2^e).length)=a*2^e:=by
  rw[List.drop_replicate,pL,val_zero,iL av];omega
 have b1:Ok 4294967296 (b9 4294967296 (a*2^e)++(List.replicate (xs.length+1) 0).drop (b9 4294967296<|a*2^e).length):=λx O=>by
  rcases ie.1 O with O|O
  .exact ji av _ x O
  .exact vK av _ x<|DQ O
 generalize b9 4294967296 (a*2^e)++(List.replicate (xs.length+1) 0).drop (b9 4294967296<|a*2^e).length=bk at *;refine dN (L:=Nat×ac Nat×ac Nat) (λ(k,us,a')=>k<=xs.length-Q.length+1/\us.length=xs.length+1/\Ok 4294967296 us/\a'.length=xs.length-Q.length+1/\Ok 4294967296 a'/\(∀p,p<k->a'[p]? =some 0)/\val 4294967296 us<b*2^e*4294967296^k/\a*2^e=val 4294967296 (a'.drop k)*4294967296^k*(b*2^e)+val 4294967296 us)
  (λ((k:Nat),(us:ac Nat),(a':ac Nat))=>⟨[.a 183 false 1 Nat gi us,.a 183 false 1 Nat gi a'],2,[(4,.aL 1 1 0 (xs.length-Q.length+1)<|xs.length-Q.length+1),(6,.ae ((m+2:Nat):Int)),(9,.ae e),(10,dr K),(11,.aL 0 1 0 (xs.length+1)<|xs.length+1),(12,.ae<|(k:Int)-1)]⟩)
  (λl=>l.1) [0,1] (xs.length-Q.length+1,bk,List.replicate (xs.length-Q.length+1) 0) ⟨J,bj,b1,az,vK av _,λp hp=>by rw[DP,aA hp],?_,by rw[a2,Ay az];simp[val]⟩ (by show xs.length-Q.length+1<bz+1;unfold bz;omega) cr ?_
 .rw[a2];have Y:=jE (4294967296^(xs.length-Q.length+1)) aw;rw[lX,<-Nat.pow_add,show m+1+(xs.length-Q.length+1)=xs.length by omega]at Y;omega
 rintro⟨k,us,a'⟩ ⟨cA,C,ab,I,aH,aG,E,z⟩;cases k with
 |zero=>
  rw[Nat.pow_zero,ph]at E;rw[Nat.pow_zero,ph,kC]at z;refine bf 67 ?_
  iterate 9 refine gF o ?_
  refine Gb 4 ?_;refine Gb 11<|st ?_;refine cS mN a' ⟨aH,J⟩<|st ?_;refine aep (us.take<|m+2)<|st ?_;refine cS mN (us.take<|m+2) ⟨qH ab _,by simp;omega⟩<|st ?_;refine cS Wh (val 4294967296<|us.take<|m+2,e) ⟨?_,by show e<_;omega⟩ ?_
  .show(b9 _ _).length<=_;have:=pM (b:=4294967296) av<|lj<|qH ab<|m+2;rw[kD]at this;omega
  refine st ?_;have aC:0<2^e:=sd e;have N:0<b*2^e:=pq J aC;have bV:val 4294967296 (us.take<|m+2)=val 4294967296 us:=by
   have bD:=GN (b:=4294967296) (l:=us) (k:=m+2) J;rcases AE (val 4294967296<|us.drop<|m+2)with T|T
   .rw[T]at bD;omega
   .have:4294967296^(m+2)*1<=4294967296^(m+2)*val 4294967296 (us.drop<|m+2):=q1 _ T;omega
  have b0:val 4294967296 a'=a/b:=by
   have Y:a*2^e/(b*2^e)=a/b:=Nat.mul_div_mul_right _ _ aC;rw[<-Y,z,x3,Nat.add_mul_div_right _ _ N,uR E,jn]
  have bT:val 4294967296 us/2^e=a%b:=by
   have Y:a*2^e%(b*2^e)=a%b*2^e:=Nat.mul_mod_mul_right _ _ _;rw[z,x3,Nat.add_mul_mod_self_right,hb E]at Y;rw[Y,Nat.mul_div_cancel _ aC]
  exact bh (dc o o<|.br ⟨.of<|congrArg dw b0,.of (congrArg dw<|by rw[bV];exact bT),aP⟩)
 |succ j=>
  refine a9 12 (.ae (j:Nat)) o ht<|st ?_;refine a9 67 (.b true) o az<|st ?_;refine ww 73 ((j+(m+2):Nat):Int) ?_;refine mG ?_;refine rM us[j+(m+2)] (Cx J) ?_;refine bf 82 ?_;refine ea 82 (.ae ((j+(m+1):Nat):Int)) o o asf ?_;refine mG ?_;refine rM us[j+(m+1)] (Cx J) ?_;refine bf 86 ?_;have bA:=ab _<|eO (show j+(m+2)<us.length by omega);have bx:=ab _<|eO (show j+(m+1)<us.length by omega);have a3:=ab _<|eO (show j+m<us.length by omega);have cf:=aj _<|eO (show m+1<K.length by omega);have an:=aj _<|eO (show m<K.length by omega);obtain⟨top,ay⟩:∃top,top=us[j+(m+2)]*4294967296+us[j+(m+1)]:=dq;refine ea 86 (.i .u64 (top:Nat)) o o (ht<|congrArg _<|(ai1 bA bx).trans ay.symm) ?_;obtain⟨fj,b3,aZ⟩:=Wp (n:=m+2) ab J aI E;have ak:eZ us j (m+2+1)=(top*4294967296+us[j+m])*4294967296^m+eZ us j m:=by
   unfold eZ;rw[ay];rw[rT J,rT J,rT J,hZ,hZ];exact ai2 _ _ _ _ _
  have ad:b*2^e=(K[m+1]*4294967296+K[m])*4294967296^m+val 4294967296 (K.take m):=by
   rw[<-U];have:val 4294967296 K=val 4294967296 (K.take<|m+1+1):=by rw[pn J]
   rw[this,kc J,kc J,hZ];exact ai3 _ _ _ _
  have aM:eZ us j m<4294967296^m:=by
   have:=lj<|qH (vM ab j) m;unfold eZ;rw[kD,kh ep]at this;exact this
  have ao:val 4294967296 (K.take m)<4294967296^m:=by
   have:=lj<|qH aj m;rw[kD,kh J]at this;exact this
  have al:0<K[m+1]:=by
   rcases AE K[m+1]with T|T
   .rw[T,jC,jn]at ad;have Y:K[m]*4294967296^m+4294967296^m<=4294967296^(m+1):=by
     have:(K[m]+1)*4294967296^m<=4294967296*4294967296^m:=jE _ an;rw[fP,te]at this;rw[hZ,hK _ 4294967296];exact this
    have G:1*4294967296^(m+1)<=2147483648*4294967296^(m+1):=jE _ av;omega
   .exact T
  have af:0<b*2^e:=pq J<|sd e;have aX:eZ us j (m+2+1)/(b*2^e)<4294967296:=(x9 af).2 (by rw[hK];exact aZ);have aY:eZ us j (m+2+1)/(b*2^e)*(b*2^e)<=eZ us j (m+2+1):=Nat.div_mul_le_self _ _;have t:=aiZ (lI:=a') (n:=m+2) ab J J af aI E z;generalize aF:eZ us j (m+2+1)=W at *;generalize aD:W/(b*2^e)=q at *;generalize b8:b*2^e=V at *;generalize cn:us[j+(m+2)]=M at *;generalize cH:us[j+(m+1)]=cE at *;generalize bg:us[j+m]=jj at *;generalize bI:K[m+1]=v1 at *;generalize bH:K[m]=v2 at *;have aB:K[m+1]? =some v1:=by rw[Cx J,bI]
  have bo:K[m]? =some v2:=by rw[Cx J,bH]
  have bm:us[j+m]? =some jj:=by rw[Cx J,bg]
  have cb:top<18446744073709551616:=J
  have cd:2147483648<=v1:=aiR ad ao an av (by rw[hZ]at aw;exact aw);have cc:M<=v1:=aiS ad ao an av ak ay aZ;refine st ?_;refine ww 90 ((m+1:Nat):Int) ?_;refine tP v1 aB ?_;refine bf 93 ?_;refine ea 93 (.i .u64 (v1:Nat)) o o ht ?_;refine aen<|st ?_;refine ww 98 ((m+1:Nat):Int) ?_;refine tP v1 aB ?_;refine bf 101 ?_;refine ea 101 (.i .u64 (v1:Nat)) o o ht ?_;refine aeo<|bf 15 ?_
  iterate 3 refine gF o ?_
  refine jS (λ(g:Nat)=>q<=g/\g<4294967296/\g*V<=W+V) (λ(g:Nat)=>⟨[.a 183 false 1 Nat gi us,.a 183 false 1 Nat gi a'],2,[(4,.aL 1 1 0 (xs.length-Q.length+1)<|xs.length-Q.length+1),(6,.ae ((m+2:Nat):Int)),(9,.ae e),(10,dr K),(11,.aL 0 1 0 (xs.length+1)<|xs.length+1),(12,.ae j),(14,.i .u64 g)]⟩) ?_ ?_
  .refine st ?_;refine dN (L:=Nat×Nat) (λ(g,R)=>top=g*v1+R/\q<=g/\g<=4294967297/\R<4294967296)
    (λ((g:Nat),(R:Nat))=>⟨[.a 183 false 1 Nat gi us,.a 183 false 1 Nat gi a'],2,[(4,.aL 1 1 0 (xs.length-Q.length+1)<|xs.length-Q.length+1),(6,.ae ((m+2:Nat):Int)),(9,.ae e),(10,dr K),(11,.aL 0 1 0 (xs.length+1)<|xs.length+1),(12,.ae j),(14,.i .u64 g),(15,.i .u64 R)]⟩)
    (λl=>l.1) [0,1] (top/v1,top%v1) ⟨by rw[hK];exact(uS top v1).symm,?_,?_,?_⟩ ?_ cr ?_
   .exact(DV al).2<|aiN ad ak aM a3 aY
   .have:top/v1<4294967298:=(x9 al).2 J;omega
   .have:=fo top al;omega
   .have:top/v1<=top:=mr _ _;have G:top/v1<4294967298:=(x9 al).2 J;show top/v1<bz+1;unfold bz;omega
   rintro⟨g,R⟩ ⟨aN,aR,cm,bB⟩;refine bf 106 ?_;rcases fW g 4294967296 with F|F;refine ea 106 (.b false) o o asg<|bf 110 ?_;refine ww 110 (m:Nat)<|st ?_;refine tP v2 bo ?_;obtain⟨bU,cq,cu⟩:=L2 (c:=0) (R:=0) av F an av;refine bf 114 ?_;refine ea 114 (.i .u64 ((g*v2:Nat):Int)) o o (ht<|congrArg _<|by rw[hb (a:=v2) J,hb bU])<|bf 121 ?_;refine ea 121 (.ae ((j+m:Nat):Int)) o o asf<|st ?_;refine mG<|st ?_;refine rM jj bm ?_;refine bf 125 ?_;refine ea 125 (.i .u64 ((R*4294967296+jj:Nat):Int)) o o (ht<|congrArg _<|L4 bB a3)<|st ?_;refine eC (λah=>?_) (λah=>?_)
   rotate_left
   .refine st ?_;exact bL [0,1] g ⟨aR,F,aiP ad ao al ak aN J J⟩ cr
   refine ea 106 (.b true) o o asg<|st ?_
   rotate_left
   have aT:=aiO ad ak aM aY aR aN J;refine st ?_
   all_goals
    have ck:(g-1)*v1+v1=g*v1:=by
     rw[<-Nat.succ_mul,show(g-1).succ=g by omega]
    have A:top=(g-1)*v1+(R+v1):=J
    refine a9 14 (.i .u64 ((g-1:Nat):Int)) o (ht<|congrArg _<|Wq J J) ?_;refine b5 133 ((m+1:Nat):Int) ?_;refine hh v1 aB ?_;refine bf 137 ?_;refine a9 137 (.i .u64 ((R+v1:Nat):Int)) o ht<|st ?_;refine eC (λah=>?_) λah=>?_
    .have ah:(((R+v1)/4294967296:Nat):Int)≠0:=ah;refine st ?_;have bb:=aiQ ad ao an ak A J J;have hle:=(DV af).2 bb;rw[aD]at hle;exact bL [0,1] (g-1) ary cr
    .have ah:¬(((R+v1)/4294967296:Nat):Int)≠0:=ah;refine st ?_;exact bL [0,1] (g-1,R+v1) ⟨by show g-1<g;omega,A,J,J,J⟩ cr
  rintro(g:Nat) ⟨b',bJ,bt⟩;obtain⟨bE,bF⟩:=aiT (W:=W) (V:=V) (g:=g) af (by rw[aD];exact b') bt;refine st ?_;refine eC (λT=>?_) λT=>?_
  .have aW:q=0:=by omega
   have bw:W<V:=by
    have:=uS W V;rw[aD,aW,DW,jn]at this;have:=fo W af;omega
   refine st ?_;rw[hb bw,<-aF,aiY J ab,aW]at t;have a4:a'.set j 0=a':=by
    apply pf;intro p;rw[mq];split
    .rename_i hp;subst hp;rw[aA J,aG _ J]
    .rfl
   rw[a4]at t;exact bL [0,1] (j,us,a') ⟨by show j<j+1;omega,J,C,ab,I,aH,λp hp=>aG p J,t.1,t.2⟩ cr
  refine st ?_;refine RV<|st ?_;refine lN Wm 0 (us,j,K,g) ⟨J,ab,aj,bJ,J⟩ ?_ (he:=by show[ai.aL 0 1 j _ _,dr K,ai.i .u64 (g:Nat)]=[ai.aL 0 1 j _ _,dr K,ai.i .u64 (g:Nat)];rw[C]);have aq:K.length=m+2:=bd;have ca:∀X,X<V->X%4294967296^(m+2+1)=X:=λX b2=>hb (by
   have:4294967296^(m+2)<=4294967296^(m+2+1):=k5 av J;omega)
  have bq:=uS W V;rw[aD]at bq;have cF:=fo W af;rw[show eZ us j (K.length+1)=W by rw[aq];exact aF,U,aq];refine a9 148 (.b<|decide (W<g*V)) o (by show ai.b (decide (eZ us j (K.length+1)<g*val 4294967296 K))=_;rw[aq,aF,U]) ?_;refine gF o ?_;refine gF o ?_;refine jS (λ(g:Nat)=>g=q) (λ(g:Nat)=>⟨[.a 183 false 1 Nat gi<|hB us j (m+2+1)<|W%V,.a 183 false 1 Nat gi a'],2,[(4,.aL 1 1 0 (xs.length-Q.length+1)<|xs.length-Q.length+1),(6,.ae ((m+2:Nat):Int)),(9,.ae e),(10,dr K),(11,.aL 0 1 0 (xs.length+1)<|xs.length+1),(12,.ae j),(14,.i .u64 g)]⟩) ?_ ?_
  .refine eC (λah=>?_) λah=>?_
   .obtain⟨ar,ct⟩:=bE ah;rw[aA ah];refine bf 14 ?_;refine a9 14 (.i .u64 ((g-1:Nat):Int)) o (ht<|congrArg _<|Wq J J)<|st ?_;refine RV<|st ?_;refine lN Wn 0 (hB us j (m+2+1)<|W+4294967296^(m+2+1)-g*V,j,K) ⟨by rw[GP J];omega,Wo ab,aj,by rw[GP J];omega⟩ ?_ (he:=by show[ai.aL 0 1 j _ _,dr K]=[ai.aL 0 1 j _ _,dr K];rw[GP J,C]);refine st ?_;refine bL [0,1] (g-1) (ar.trans aD)<|cr (aE:=⟨⟨_,o,?_,λ_=>o⟩,jU,aP⟩);show a0.a _ _ _ _ _ _=a0.a _ _ _ _ _ _;congr 1;rw[aq,aiV J,aiW J,U];have cj:(g-1)*V+V=g*V:=by rw[<-Nat.succ_mul,show(g-1).succ=g by omega]
    have cl:(g-1)*V=V*q:=by rw[ar,aD,hK]
    have cC:0<4294967296^(m+2+1):=k6 av;have c':V<4294967296^(m+2+1):=by
     have:4294967296^(m+2)<=4294967296^(m+2+1):=k5 av J;omega
    have key:((W+4294967296^(m+2+1)-g*V)%4294967296^(m+2+1)+V)%4294967296^(m+2+1)=W%V:=by
     generalize 4294967296^(m+2+1)=PP at *;rw[hb (show W+PP-g*V<PP by omega),show W+PP-g*V+V=W%V+PP by omega,Nat.add_mod_right,hb J]
    rw[<-aiX,key]
   .have ar:=bF ah;rw[au ah];refine st ?_;refine bL [0,1] g J<|cr (aE:=⟨⟨_,o,?_,λ_=>o⟩,jU,aP⟩);show a0.a _ _ _ _ _ _=a0.a _ _ _ _ _ _;congr 2;rw[sa];have:g*V=V*q:=by rw[ar,aD,hK]
    omega
  intro bG bs;rw[show bG=q from bs];refine st ?_;refine pF ?_;refine mc (q%4294967296)<|st ?_;rw[hb aX];refine bL [0,1] (j,hB us j (m+2+1)<|W%V,a'.set j q) ⟨by show j<j+1;omega,J,by rw[GP J];exact C,Wo ab,by simp[I],oU aH _ aX,λp hp=>by rw[nH J];exact aG p J,t.1,t.2⟩ cr
def ua(h:dU k a)(aa:b<=a):dU k b:=cN (L0 aa) h
def ub(h:dU k a):a<4294967296^k:=by
 have Y:=lj<|ji (b:=4294967296) av a;rw[iL av]at Y;exact fG Y<|k5 av h
def sZ(h:a<4294967296^k):dU k a:=pM av h
def ai4(h:m<=n):cx m<=cx n:=by
 by_cases T:m=0
 .subst T;exact dg _
 .have Y:=(tZ T).1;have:=(wk (by decide:1<2)).1<|iR (cN Y h)<|(tZ (show n≠0 by omega)).2;omega
def ai5(h:m<=n/2)(aj:1<=n):cx m<cx n:=by
 have:=ai4 h;rw[Wi aj];omega
def L9(h:n<2^k):cx n<=k:=by
 by_cases T:n=0
 .subst T;exact dg _
 .have:=(wk J).1<|iR (tZ T).1 h;omega
def Cz(h:dU k a):cx a<=32*k:=L9<|by rw[yb];exact ub h
def ai6(bK:dU k a)(aa:dU k b):cx (a*b)<=64*k:=L9 (by
 rw[show 64*k=32*k+32*k by omega,nJ,yb];exact Nat.mul_lt_mul'' (ub bK)<|ub aa)
theorem ai7{y:Nat}(N:0<y)(h:y<=x):y*(x%y)<=x*y/2:=by
 have Y:=fo x N;have G:2*(x%y)<=x:=by
  have:=uS x y;have C:=q1 y<|DX h N;omega
 have:=q1 y G
 grind
theorem GQ:b4 74 (cR λ((a,b):Nat×Nat)=>([dw a,dw b],dU 1073741823 a/\dU 1073741823 b,dw<|Nat.gcd a b)):=by
 refine cJ [Cy] TX.1 ?_;intro⟨a,b⟩ ⟨D,aa⟩ H ax;refine U 7<|dN (λ(x,y)=>dU 1073741823 x/\dU 1073741823 y/\Nat.gcd x y=Nat.gcd a b) (λ(x,y)=>⟨[],0,[(0,dw x),(1,dw y)]⟩) (λl=>2*cx (l.1*l.2)+if l.1<l.2 then 1 else 0) [] (a,b) ⟨D,aa,o⟩ ?_ cr ?_
 .show 2*cx (a*b)+(if a<b then 1 else 0)<bz+1;have:=ai6 D aa;unfold bz;split<;>omega
 rintro⟨x,y⟩ ⟨O,N,F⟩;refine U 8<|eC (λh=>?_) λh=>?_
 .have z:y≠0:=λT=>by subst T;rw[iX]at h;simp at h
  refine U 7<|bn Cy (x,y) ⟨O,N,z⟩<|U 14<|fk [] (y,x%y) ⟨?_,N,ua N<|tg<|fo x J,by rw[<-F,Nat.gcd_comm x y,Nat.gcd_rec y x,Nat.gcd_comm]⟩
  .show 2*cx (y*(x%y))+(if y<x%y then 1 else 0)<2*cx (x*y)+(if x<y then 1 else 0);have hm:=fo x (show 0<y by omega);rw[au J];by_cases t:x<y
   .rw[aA t,hb t,hK y x];omega
   .rw[au t];have hp:0<x*y:=pq J J;have:=ai5 (ai7 J J) hp;omega
 .have z:y=0:=(qG (b:=4294967296) av).1<|pg J;refine U 12<|eK ?_
  grind
theorem ai8:b9 4294967296 1=[1]:=by grind [rS,iX]
theorem zw:b4 73 (cR λ(n:Nat)=>([dw n],True,.b<|decide (n=1))):=by
 apply cJ [] TW.1;intro n _ H ax;show bP.ok _ ⟨_,_,⟨_,_,[(0,dr<|b9 4294967296 n)]⟩⟩;have Z:=iL (b:=4294967296) av n;generalize L:b9 4294967296 n=C at *;apply bf 6
 match C,Z,L with
 |[],Z,L=>
  apply U 9;have:n=0:=by exact Z.symm
  subst this;exact fc
 |[d],Z,L=>
  have:n=d:=by exact Z.symm
  subst this;refine U 3<|iW n o o<|U 9<|eK ?_;congr 1
  grind
 |d::t::C,Z,L=>
  refine U 9<|eK ?_;congr 1
  symm
  rw[decide_eq_false_iff_not];intro Y;subst Y;rw[ai8]at L;cases L
def rV(d:Nat):ai:=.gq 1 Nat gi (if d=1 then[]else b9 4294967296 d)
def cc(x:Rat):ac ai:=[.b<|decide (x.num<0),dw x.num.natAbs,rV x.den]
def bQ(x:Rat):ai:=.agg<|cc x
def CA(h:d≠1):rV d= .gq 1 Nat gi (b9 4294967296 d):=by rw[rV];rw[au h]
def Wr(h:d≠1)(bS:d≠0):bX (dw d) (rV d):=by
 rw[CA h];exact bX.gq λe=>bS<|(qG av).1 e
def Ws(h:d≠1):bX (rV d) (dw d):=by
 rw[CA h];exact bX.FM
def Ma(n:Int)(d:Nat)(h:d≠0):(mkRat n d).num=n/((n.natAbs.gcd d:Nat):Int)/\(mkRat n d).den=d/n.natAbs.gcd d:=by
 exact arc
def ai9(hp:p≠0)(aD:q≠0):(mkRat (if neg then -(p:Int)else p) q).num=(if neg then -((p/p.gcd q:Nat):Int)else((p/p.gcd q:Nat):Int))/\(mkRat (if neg then -(p:Int)else p) q).den=q/p.gcd q:=by
 have F:0<p.gcd q:=Oz _ J;have D:(if neg then -(p:Int)else p).natAbs=p:=J
 have⟨Y,G⟩:=Ma (if neg then -p else p) q aD;rw[D]at Y G;refine⟨?_,G⟩;rw[Y];cases neg
 .simp
 .simp only[if_true];have⟨k,E⟩:=Nat.gcd_dvd_left p q;generalize p.gcd q=g at *;subst E;rw[Nat.mul_div_cancel_left _ F,Dy,<-Int.mul_neg,Int.mul_ediv_cancel_left _ J]
def Mb{x:Rat}{c:ai}(aE:x.num=if neg then -(p:Int)else(p:Int))(aK:x.den=q)(hp:p≠0)(ah:bX c (rV q)):bX (.agg [.b neg,dw p,c]) (bQ x):=by
 refine bX.agg ⟨.of ?_,.of ?_,?_,aP⟩
 .congr 1;rw[aE];cases neg
  .simp
  .simp;omega
 .congr 1;rw[aE];cases neg<;>simp
 .rw[aK];exact ah
def le_zero:bX (.agg [.b false,.nl,.nl]) (bQ 0):=bX.agg apg
def uc:(b9 4294967296 n).length=0↔n=0:=by rw[OA];exact qG av
theorem lk:b4 70 (cR λ((n,p,q):Bool×Nat×Nat)=>([.b n,dw p,dw q],dU 1073741823 p/\dU 1073741823 q/\q≠0,bQ<|mkRat (if n then -(p:Int)else p) q)):=by
 refine cJ [zw,GQ,Cy] Tk.1 ?_;intro⟨n,p,q⟩ ⟨(hp:dU _ p),(aD:dU _ q),S⟩ H ax;refine U 13<|eC (λh=>?_) λh=>?_
 .have z:p=0:=uc.1 J;refine U 8<|du (le_zero.trans<|.of ?_)
  simp_all
 have z:p≠0:=λE=>h (by rw[E,iX];rfl);have F:0<p.gcd q:=Oz _ J;refine U 6<|bn zw q aP<|U 3<|jS (λ((Q:Nat),(o:Nat))=>Q=p/p.gcd q/\o=q/p.gcd q) (λ(Q,o)=>⟨[.c 27 [.b false,.nl,.nl]],1,[(0,.b n),(1,dw Q),(2,dw o),(6,.p 0 0)]⟩) ?_ ?_
 .refine K1 (λY=>?_) λY=>?_
  .refine U 4<|bn GQ (p,q) ⟨hp,aD⟩<|U 6<|bn zw (p.gcd q) aP<|U 3<|K1 (λG=>?_) λG=>?_
   .have t:dU 1073741823 (p.gcd q):=ua hp<|Nat.gcd_le_left _ J;exact U 4<|bn Cy (p,p.gcd q) ⟨hp,t,J⟩<|U 9<|bn Cy (q,p.gcd q) ⟨aD,t,J⟩<|U 5<|fk [0] (p/p.gcd q,q/p.gcd q) e9
   .exact U 1<|fk [0] (p,q) ⟨by rw[G,yc],by rw[G,yc]⟩
  .exact U 1<|fk [0] (p,q) ⟨by rw[Y,Nat.gcd_one_right,yc],by rw[Y,Nat.gcd_one_right]⟩
 rintro⟨Q,oq⟩ ⟨D,T⟩;obtain⟨hD,hY⟩:=ai9 (neg:=n) z S;rw[<-D]at hD;rw[<-T]at hY;have A:Q≠0:=by
  have:=DX (Nat.gcd_le_left q (show 0<p by omega)) F;omega
 have K:oq≠0:=by
  have:=DX (Nat.gcd_le_right p (show 0<q by omega)) F;omega
 exact U 4<|bn zw oq aP<|U 2<|eC (λC=>(U 14<|du (Mb hD hY A<|by rw[C];exact bX.ij))) λC=>(U 12<|du (Mb hD hY A<|Wr C K))
def bg(k:Nat)(x:Rat):Prop:=dU k x.num.natAbs/\dU k x.den
variable{l:Nat}{y:Rat}
def kd:b4 41 (cR λ(x:Rat)=>([bQ x],True,dw x.den)):=by
 apply cJ [mO] U1.1;intro x _ H ax;apply U 11;by_cases S:x.den=1
 .exact a9 4 (.gq 1 Nat gi []) o as0<|U 6<|bn mO (1:Nat) ap5<|U 5<|eK (by show dw 1=dw x.den;rw[S])
 .apply c3 4 (CA S);refine U 3<|adR o (by rw[(Is.2 asj)];rfl) ?_;exact U 10<|du (Ws S)
def kU:b4 20 (cR λ(x:Rat)=>([bQ x],True,.ae x.num.sign)):=by
 apply cJ [] Tb.1;intro x _ H ax;refine U 17<|eC (λh=>?_) λh=>?_
 .have T:x.num.natAbs=0:=uc.1 J;exact U 8<|eK (by show ai.ae 0=ai.ae x.num.sign;rw[Int.natAbs_eq_zero.1 T];rfl)
 have T:x.num≠0:=λe=>h (by rw[e];show((b9 _ 0).length:Int)=0;rw[iX];rfl);exact U 7<|eC (λh=>(U 8<|eK (by show ai.ae (-1)=ai.ae x.num.sign;rw[It h]))) λh=>(U 9<|eK (by show ai.ae 1=ai.ae x.num.sign;rw[Iu J]))
theorem GR:b4 46 (cR λ(x:Rat)=>([bQ x],True,bQ<|-x)):=by
 refine cJ [] Uw.1 ?_;intro(x:Rat) _ H ax;have hle:∀{t:Bool},t=decide (-x.num<0)->bX (.agg [.b t,dw x.num.natAbs,rV x.den]) (bQ<|-x):=λh=>by
  refine bX.agg ⟨.of<|by rw[h,Rat.neg_num],.of az,.of az,aP⟩
 refine U 12 ?_;by_cases aj:x.num<0
 .exact a9 6 (.b false) o aoM<|U 14<|bh (dc o o<|hle ep)
 .refine a9 6 (.b true) o aoM<|U 18<|du (hle ?_);rw[decide_eq_decide];rcases(show 0<x.num\/x.num<=0 by omega)with T|T
  .have:x.num.natAbs≠0:=by omega
   have:(b9 4294967296 x.num.natAbs).length≠0:=λe=>this<|uc.1 e;exact⟨λ_=>J,λ_=>J⟩
  .have Y:x.num=0:=by omega
   have G:(b9 4294967296 x.num.natAbs).length=0:=uc.2 J;exact aso aso
def ud(x:Rat):Rat:=if x.num<0 then -x else x
def Mc(x:Rat):(ud x).num=(x.num.natAbs:Int)/\(ud x).den=x.den:=by
 rw[ud];split
 .rw[Rat.neg_num];exact⟨J,o⟩
 .exact⟨J,o⟩
def Wt:b4 166 (cR λ(x:Rat)=>([bQ x],True,bQ<|ud x)):=by
 apply cJ [] Vn.1;intro x _ H ax;exact U 17<|bh (dc o o<|bX.agg ⟨.of<|by rw[(Mc x).1];congr 1,.of<|by rw[(Mc x).1];rfl,.of<|by rw[(Mc x).2],aP⟩)
def jY(x y:Rat):Int:=if x<y then -1 else if x=y then 0 else 1
def jZ(bK:dU k a)(aa:dU l b):dU (k+l) (a*b):=sZ<|by rw[nJ];exact Nat.mul_lt_mul'' (ub bK)<|ub aa
def bM(n:Bool)(p:Nat):Int:=if n then -(p:Int)else p
theorem zx(x:Rat):x.num=bM (decide (x.num<0)) x.num.natAbs:=by
 grind [bM]
def aja(x y:Rat):(x.num.sign<y.num.sign->jY x y= -1)/\(y.num.sign<x.num.sign->jY x y=1)/\(x.num.sign=y.num.sign->jY x y=x.num.sign*mL (x.num.natAbs*y.den) (y.num.natAbs*x.den)):=by
 have O:=x.den_nz;have N:=y.den_nz;have lt:x<y↔x.num*y.den<y.num*x.den:=Rat.lt_iff x y;have eq:x=y↔x.num*y.den=y.num*x.den:=by
  constructor
  .rintro rfl;rfl
  .intro h;have Y:=(Rat.mkRat_eq_iff (n₁:=x.num) (n₂:=y.num) O N).2 h
   rwa [DY,DY]at Y
 have o:(0:Int)<x.den:=J
 have z:(0:Int)<y.den:=J
 have eR:∀n:Int,(n<0/\n.sign= -1)\/(n=0/\n.sign=0)\/(0<n/\n.sign=1):=λn=>by
  rcases(show n<0\/n=0\/0<n by omega)with h|h|h
  .exact .inl ⟨h,It h⟩
  .exact .inr<|.inl ⟨h,by rw[h];rfl⟩
  .exact .inr<|.inr ⟨h,Iu h⟩
 have Q:x.num*(y.den:Int)=x.num.sign*((x.num.natAbs*y.den:Nat):Int):=by
  rw[Dy,<-Int.mul_assoc,Int.sign_mul_natAbs]
 have I:y.num*(x.den:Int)=y.num.sign*((y.num.natAbs*x.den:Nat):Int):=by
  rw[Dy,<-Int.mul_assoc,Int.sign_mul_natAbs]
 have t:x.num≠0->0<x.num.natAbs*y.den:=λh=>pq J J;have sD:y.num≠0->0<y.num.natAbs*x.den:=λh=>pq J J;rw[Q,I]at lt eq;unfold jY mL;generalize x.num.natAbs*y.den=A at *;generalize y.num.natAbs*x.den=C at *;simp only[lt,eq];rcases eR x.num with⟨eV,ew⟩|⟨eV,ew⟩|⟨eV,ew⟩<;>rcases eR y.num with⟨Z,S⟩|⟨Z,S⟩|⟨Z,S⟩<;>rw[ew,S]<;>refine⟨λh=>?_,λh=>?_,λh=>?_⟩<;>first
  |(exfalso;omega)
  |(have Y:=t J;have G:=sD J;split<;>first|omega|(split<;>first|omega|(split<;>omega)))
  |(have Y:=t J;split<;>first|omega|(split<;>omega))
  |(have G:=sD J;split<;>first|omega|(split<;>omega))
  |(split<;>first|omega|(split<;>first|omega|(split<;>omega)))
def c1(h:dU k a)(aI:k<=l:=by decide):dU l a:=cN h aI
def lR:b4 8 (cR λ((x,y):Rat×Rat)=>([bQ x,bQ y],bg 268435456 x/\bg 268435456 y,.ae<|jY x y)):=by
 refine cJ [kU,kd,oV,vL] mz.1 ?_;intro⟨x,y⟩ ⟨(O:bg _ x),(N:bg _ y)⟩ H ax;obtain⟨Q,E,pK⟩:=aja x y;refine U 10<|cS kU x aP<|U 1<|cS kU y aP<|U 12 ?_;have eR:∀n:Int,-1<=n.sign/\n.sign<=1:=λn=>by
  rcases(show n<0\/n=0\/0<n by omega)with h|h|h
  .rw[It h];decide
  .rw[h];decide
  .rw[Iu h];decide
 refine eC (λh=>?_) λh=>?_
 .refine U 8<|eC (λY=>?_) λY=>?_
  .exact U 8<|eK (by show ai.ae (-1)=ai.ae (jY x y);rw[Q Y])
  .exact U 9<|eK (by show ai.ae 1=ai.ae (jY x y);rw[E J])
 have A:x.num.sign=y.num.sign:=J
 refine U 5<|cS kd y aP<|U 2<|cS oV (x.num.natAbs,y.den) ⟨c1 O.1,c1 N.2⟩<|U 1<|cS kd x aP<|U 2<|cS oV (y.num.natAbs,x.den) ⟨c1 N.1,c1 O.2⟩<|cS vL (x.num.natAbs*y.den,y.num.natAbs*x.den) ⟨?_,?_⟩ ?_
 .exact c1<|jZ O.1 N.2
 .exact c1<|jZ N.1 O.2
 refine U 6<|eK ?_;show ai.ae (IntKind.i64.wrap<|x.num.sign*mL _ _)=ai.ae (jY x y);rw[<-pK A];have: -1<=jY x y/\jY x y<=1:=by
  unfold jY;split
  .decide
  .split<;>decide
 exact gg o J J
theorem Wu(h:mL a b<0):a<b:=by grind [mL]
def Wv(h:¬mL a b<0):b<=a:=by
 obtain D|D:=fW a b
 .exact absurd (by rw[GJ D];decide) h
 .exact D
def Ww(bK:dU k a)(aa:dU k b):dU (k+1) (a+b):=sZ (by
 have Y:=ub bK;have G:=ub aa;omega)
def add_same{x:Rat}{n:Bool}(O:x.num=bM n x.num.natAbs)(N:y.num=bM n y.num.natAbs):mkRat (bM n<|x.num.natAbs*y.den+y.num.natAbs*x.den) (x.den*y.den)=x+y:=by
 rw[Rat.add_def'];congr 1;have e:∀a b:Nat,bM n (a+b)=bM n a+bM n b:=λa b=>by unfold bM;cases n<;>simp<;>omega
 have T:∀a b:Nat,bM n (a*b)=bM n a*b:=λa b=>by unfold bM;cases n<;>simp[Int.neg_mul]
 rw[e,T,T,<-O,<-N]
def Wx{x:Rat}{n m:Bool}(o:n≠m)(O:x.num=bM n x.num.natAbs)(N:y.num=bM m y.num.natAbs)(h:y.num.natAbs*x.den<=x.num.natAbs*y.den):mkRat (bM n<|x.num.natAbs*y.den-y.num.natAbs*x.den) (x.den*y.den)=x+y:=by
 rw[Rat.add_def'];congr 1;have T:∀(k:Bool) (a b:Nat),bM k (a*b)=bM k a*b:=λk a b=>by unfold bM;cases k<;>simp[Int.neg_mul]
 have e:∀a b:Nat,b<=a->bM n (a-b)=bM n a+bM m b:=λa b F=>by unfold bM;cases n<;>cases m<;>simp at o⊢<;>omega
 rw[e _ _ h,T,T,<-O,<-N]
def Md:da:=cR λ((x,y):Rat×Rat)=>([bQ x,bQ y],bg 268435456 x/\bg 268435456 y,bQ<|x+y)
def GS{x:Rat}:bX (.agg [g4 n<|.b<|decide (x.num<0),g4 n<|dw x.num.natAbs,g4 n<|rV x.den]) (g4 n<|bQ x):= @bX.afz n<|cc x
def GU{a:ai}{x:Rat}(h:a=bQ x):bX (g4 n a) (.agg<|(cc x).map<|g4 n):=by
 subst h;exact .afy
def Wy:eb cv.ctx 29 Md.jT:=by
 refine V7 [kd,(40,L3.jT),GI,L1,vL,lk] Ut.1 ?_;intro⟨x,y⟩ ⟨(O:bg _ x),(N:bg _ y)⟩ H ax;have t:=zx x;have K:=zx y;have A:dU 536870912 (x.num.natAbs*y.den):=jZ O.1 N.2;have Z:dU 536870912 (y.num.natAbs*x.den):=jZ N.1 O.2;have z:dU 536870912 (x.den*y.den):=jZ O.2 N.2;have C:x.den*y.den≠0:=uT x.den_nz y.den_nz;refine U 10<|cS kd y aP<|U 2<|Gj GK (x.num.natAbs,y.den) ⟨c1 O.1,c1 N.2⟩ ?_;refine U 1<|cS kd x aP<|U 2<|Gj GK (y.num.natAbs,x.den) ⟨c1 N.1,c1 O.2⟩ ?_;refine U 1<|cS kd x aP<|U 1<|cS kd y aP<|Gj GK (x.den,y.den) ⟨c1 O.2,c1 N.2⟩ ?_;refine U 17<|zc o (λh=>?_) λh=>?_
 .have M:decide (x.num<0)=decide (y.num<0):=Av h;refine U 4<|zh GI (x.num.natAbs*y.den,y.num.natAbs*x.den) ⟨c1 A,c1 Z⟩ ?_;refine U 3<|zh (he:=by exact asi) lk (decide (x.num<0),x.num.natAbs*y.den+y.num.natAbs*x.den,x.den*y.den) ⟨c1<|Ww A Z,c1 z,C⟩ ?_;exact fI 35 (.agg<|(cc<|x+y).map<|g4 ax.ag) o (GU<|congrArg bQ<|add_same t<|M▸K)<|U 6<|bh (Gi o GS)
 have M:decide (x.num<0)≠decide (y.num<0):=ne_of_beq_false h;refine U 4<|bn (he:=by exact⟨.oR,.oR,aP⟩) vL (x.num.natAbs*y.den,y.num.natAbs*x.den) ⟨c1 A,c1 Z⟩<|U 4<|eC (λh=>?_) λh=>?_
 .have aT:x.num.natAbs*y.den<y.num.natAbs*x.den:=Wu h;refine U 4<|zh L1 (y.num.natAbs*x.den,x.num.natAbs*y.den) ⟨c1 Z,tg aT⟩ ?_;refine U 3<|zh (he:=by exact asi) lk (decide (y.num<0),y.num.natAbs*x.den-x.num.natAbs*y.den,x.den*y.den) ⟨c1<|ua Z<|Nat.sub_le _ _,c1 z,C⟩ ?_;exact fI 47 (.agg<|(cc<|x+y).map<|g4 ax.ag) o (GU (congrArg bQ<|(by have:=Wx M.symm K t<|tg aT;rw[DZ,<-this,hK y.den x.den];rfl)))<|U 6<|bh (Gi o GS)
 .have Y:y.num.natAbs*x.den<=x.num.natAbs*y.den:=Wv h;refine U 7<|zh L1 (x.num.natAbs*y.den,y.num.natAbs*x.den) ⟨c1 A,Y⟩ ?_;refine U 3<|zh (he:=by exact asi) lk (decide (x.num<0),x.num.natAbs*y.den-y.num.natAbs*x.den,x.den*y.den) ⟨c1<|ua A<|Nat.sub_le _ _,c1 z,C⟩ ?_;exact fI 54 (.agg<|(cc<|x+y).map<|g4 ax.ag) o (GU<|congrArg bQ<|Wx M t K Y)<|U 4<|bh (Gi o GS)
def pN:b4 29 Md:=Wy.SE
def GV{x:Rat}(h:bg k x):bg k (-x):=by
 rw[bg,Rat.neg_num,Int.natAbs_neg];exact h
def oW:b4 11 (cR λ((x,y):Rat×Rat)=>([bQ x,bQ y],bg 268435456 x/\bg 268435456 y,bQ<|x-y)):=by
 apply cJ [GR,pN] vg.1;intro⟨x,y⟩ ⟨O,N⟩ H ax;exact U 10<|cS GR y aP<|U 1<|cS pN (x,-y) ⟨O,GV N⟩<|U 4<|eK (congrArg bQ (Iv x y).symm)
def iM(h:n<18446744073709551616):dU 2 n:=sZ h
def jk:b4 44 (cR λ(n:Int)=>([.ae n],-9223372036854775808<=n/\n<9223372036854775808,bQ<|mkRat n 1)):=by
 refine cJ [mO,lk] TS.1 ?_;intro n ⟨Y,G⟩ H ax;cases n with
 |ofNat k=>
  have G:(k:Int)<9223372036854775808:=G;exact U 19<|a9 12 (.i .u64 k) o ht<|bn mO k (by show k<_;omega)<|bn mO (1:Nat) ap5<|bn lk (false,k,1) ⟨c1<|iM J,c1<|iM av,av⟩<|U 4<|fc
 |negSucc k=>
  refine U 12<|RC o az ?_;refine U 5 ?_;have t:IntKind.u64.wrap (-(IntKind.u64.wrap<|Int.negSucc k))=↑(k+1):=by
   rw[V8,V8];omega
  exact c3 7 (ht t)<|bn mO (k+1) (by show k+1<_;omega)<|bn mO (1:Nat) ap5<|bn lk (true,k+1,1) ⟨c1<|iM J,c1<|iM av,av⟩<|U 5<|fc
def mP(x:Rat)(k:Int):Rat:=if k<0 then mkRat x.num (x.den*2^(-k).toNat)else mkRat (x.num*2^k.toNat) x.den
def CB(k:Nat):dU (k/32+1) (2^k):=sZ (by
 rw[L5 k,hK];exact Nat.mul_lt_mul_of_pos_left (by have:=GM<|fo k av;omega)<|k6 av)
theorem Wz:b4 198 (cR λ((x,k):Rat×Int)=>([bQ x,.ae k],bg 268435456 x/\-17179869184<k/\k<17179869184,bQ<|mP x k)):=by
 refine cJ [kd,tY,lk] UU.1 ?_;intro⟨x,k⟩ ⟨O,Y,G⟩ H ax;refine U 13<|eC (λh=>?_) λh=>?_
 .obtain⟨n,rfl⟩:∃n:Nat,k= -(n:Int):=⟨(-k).toNat,J⟩;refine U 3<|cS kd x aP<|U 2 (ww 14 (n:Nat)<|cS tY (x.den,n) ⟨c1 O.2,J⟩<|U 4<|cS lk (decide (x.num<0),x.num.natAbs,x.den*2^n) ⟨c1 O.1,c1<|jZ O.2<|c1 (CB n) (show _<=536870913 by omega),uT x.den_nz az⟩<|U 5<|eK (congrArg bQ ?_))
  grind [mP]
 .obtain⟨n,rfl⟩:∃n:Nat,k=(n:Int):=⟨k.toNat,J⟩;refine U 7<|cS tY (x.num.natAbs,n) ⟨c1 O.1,J⟩<|U 1<|cS kd x aP<|U 2<|cS lk (decide (x.num<0),x.num.natAbs*2^n,x.den) ⟨c1<|jZ O.1<|c1 (CB n) (show _<=536870913 by omega),c1 O.2,x.den_nz⟩<|U 4<|eK (congrArg bQ ?_)
  grind [mP]
def WA:da:=cR λ((x,k):Rat×Int)=>([bQ x,.ae k],bg 268435456 x,if -20000<=k/\k<=20000 then .br [bQ<|mP x k,.ae 0]else .br [bQ 0,.ae 7])
theorem GW:b4 144 WA:=by
 refine cJ [Wz] Tx.1 ?_;intro⟨x,k⟩ O H ax;have E:∀{r:ai},(-20000<=k/\k<=20000->bX r (.br [bQ<|mP x k,.ae 0]))->(¬(-20000<=k/\k<=20000)->bX r (.br [bQ 0,.ae 7]))->bX r (WA.res (x,k)):=λY G=>by
  show bX _ (if _ then _ else _)
  grind
 refine U 13 ?_;by_cases Y:k< -20000
 .exact v1 8 Y<|U 15<|bh asb
 .refine v0 8 Y<|U 7<|eC (λG=>?_) λG=>?_
  .exact U 9<|bh asb
  .exact U 6<|bn Wz (x,k) ⟨O,J,J⟩<|U 5<|du (E (λ_=>.refl _) λh=>J)
def WB:b4 241 (cR λ(k:Int)=>([.ae k],True,if -20000<=k/\k<=20000 then .br [bQ<|mP (mkRat 1 1) k,.ae 0]else .br [bQ 0,.ae 7])):=by
 refine cJ [jk,GW] Un.1 ?_;intro(k:Int) _ H ax;refine U 8<|bn jk (1:Int) apt<|U 1<|bn GW (mkRat 1 1,k) aqQ ?_;by_cases h: -20000<=k/\k<=20000
 .exact c3 6 (aA h)<|U 7<|bh (dc o o<|.of (aA h).symm)
 .exact c3 6 (au h)<|U 7<|bh (dc o o<|.of (au h).symm)
def ajb{A t:Nat}(U:A=V+4294967296^n*t)(aI:V<4294967296^n)(aN:t≠0):cx A=32*n+cx t:=by
 have⟨a,b⟩:=tZ aN;have hp:cx t≠0:=λe=>by rw[e]at b;omega
 rw[((yb 2 32 n).symm)]at U aI;have:= @aiM A (32*n+(cx t-1)) (by
  rw[nJ];have:=q1 (2^(32*n)) a;omega) (by
  rw[show 32*n+(cx t-1)+1=32*n+cx t by omega,nJ];have:=q1 (2^(32*n)) (show t+1<=2^cx t from b);rw[ki]at this;omega)
 omega
theorem Me:b4 255 (cR λ(n:Nat)=>([dw n],dU 1073741824 n,.ae (cx n:Nat))):=by
 refine cJ [GO] UX.1 ?_;intro(n:Nat) aj H ax;have aj:(b9 4294967296 n).length<=1073741824:=aj;refine U 19<|eC (λh=>?_) λh=>?_
 .have T:n=0:=uc.1 J;exact U 7<|bh (dc o o (.of<|by rw[T];rfl))
 have T:(b9 4294967296 n).length≠0:=λe=>h J;have S:=ji (b:=4294967296) av n;have Z:=iL (b:=4294967296) av n;have aN:=xG (b:=4294967296) av n;rcases q0 (b9 4294967296 n)with z|⟨eH,t,ah⟩
 .exact absurd (by rw[z];rfl) T
 rw[tf]at ah;rw[ah]at S Z aN aj;have K:=S t az;have D:(b9 4294967296 n).length=eH.length+1:=by grind
 rw[pL]at Z;have L:=ajb (A:=n) (n:=eH.length) (by rw[<-Z];simp[val]) (lj λd C=>S d<|by simp[C])<|(zv (b:=4294967296) aN).2;have af:eH.length<=1073741823:=by grind
 have Q:(b9 4294967296 n)[eH.length]? =some t:=by grind
 refine bf 9 ?_;refine b5 9 eH.length<|U 1<|b5 10 ↑(32*eH.length)<|U 3<|b5 13 eH.length<|iW t Q o<|U 1<|bn GO t K<|U 5 ?_;have:=L6 K;exact bh<|dc o o<|.of gg
def oX(p q:Nat):Int:=if p*2^((cx q:Int)-cx p).toNat<q*2^((cx p:Int)-cx q).toNat then(cx p:Int)-cx q-1 else(cx p:Int)-cx q
def WC:b4 240 (cR λ(x:Rat)=>([bQ x],bg 268435456 x,.ae<|oX x.num.natAbs x.den)):=by
 refine cJ [kd,Me,tY,vL] Um.1 ?_;intro x O H ax;have Z:=Cz O.1;have S:=Cz O.2;refine U 9<|bn kd x aP<|U 7<|bn Me x.num.natAbs (c1 O.1)<|U 1<|bn Me x.den (c1 O.2)<|U 1<|b5 12 ((cx x.num.natAbs:Int)-cx x.den)<|U 11<|a9 17 (.ae ((((cx x.den:Int)-cx x.num.natAbs).toNat:Nat):Int)) o (congrArg (ai.ae)<|by rw[j9 J J];omega) ?_;refine bn tY (x.num.natAbs,((cx x.den:Int)-cx x.num.natAbs).toNat) ⟨c1 O.1,J⟩<|U 3<|a9 21 (.ae ((((cx x.num.natAbs:Int)-cx x.den).toNat:Nat):Int)) o (congrArg (ai.ae) J)<|bn tY (x.den,((cx x.num.natAbs:Int)-cx x.den).toNat) ⟨c1 O.2,J⟩<|bn vL (x.num.natAbs*2^((cx x.den:Int)-cx x.num.natAbs).toNat,x.den*2^((cx x.num.natAbs:Int)-cx x.den).toNat) ⟨c1<|jZ O.1<|c1 (CB _) (show _<=268435457 by omega),c1<|jZ O.2<|c1 (CB _) (show _<=268435457 by omega)⟩<|U 3<|eC (λh=>?_) λh=>?_
 .refine U 13 ?_;exact bh (dc o o (.of (by
   show ai.i _ _=ai.ae (oX _ _);rw[oX,aA<|Wu h];exact gg)))
 .refine U 9 ?_;exact bh (dc o o (.of (by
   show ai.i _ _=ai.ae (oX _ _);rw[oX,au<|Nat.not_lt.2<|Wv h])))
def WD:b4 209 (cR λ(x:Rat)=>([bQ x],bg 268435456 x,if x.num=0 then .br [.ae 0,.ae 8]else .br [.ae<|oX x.num.natAbs x.den,.ae 0])):=by
 apply cJ [kU,WC] TF.1;intro x O H ax;refine U 11<|bn kU x aP<|U 3<|eC (λh=>?_) λh=>?_
 .have h:=wo.1 h;exact U 8<|eK (aA h).symm
 .have h:x.num≠0:=λe=>h (by rw[e];rfl);exact U 5<|bn WC x O<|U 5<|eK (au h).symm
def kV(e p:Int):Prop:=2<=e/\e<=11/\2<=p/\p<=113/\5<=e+p
variable{e:Int}
instance(e p:Int):Decidable (kV e p):=by unfold kV;infer_instance
def Mf(e p:Int):ai:=.agg [.ae e,.ae p]
def Mg:da:=cR λ((e,p):Int×Int)=>([Mf e p],True,.ae (if kV e p then 0 else 2))
def ajc{f:d8}(h:aV.get f=some LN.1):b4 f Mg:=by
 refine cJ [] LN.1 ?_ h;intro⟨e,p⟩ _ H ax;have bad:¬kV e p->bX (.ae 2) (Mg.res (e,p)):=λh=>.of (by show _=ai.ae (if _ then _ else _);rw[au h]);refine U 12 ?_;by_cases Y:e<2
 .exact v1 5 Y<|U 33<|du (bad ap4)
 refine v0 5 Y<|U 7 ?_;by_cases G:11<e
 .exact v1 9 G<|U 29<|du (bad ap4)
 refine v0 9 G<|U 8 ?_;by_cases C:p<2
 .exact v1 14 C<|U 24<|du (bad ap4)
 refine v0 14 C<|U 8 ?_;by_cases N:113<p
 .exact v1 19 N<|U 19<|du (bad ap4)
 refine v0 19 N<|U 12<|b5 26 (e+p)<|U 2 ?_;by_cases J:e+p<5
 .exact v1 27 J<|U 11<|du (bad ap4)
 exact v0 27 J<|U 12<|eK (by show _=ai.ae (if _ then _ else _);rw[aA ap4])
def GX:b4 120 Mg:=ajc cw
def vO(e p m b:Int):ai:=.agg [.ae e,.ae p,.ae m,.ae b]
def ns(e:Int):Int:=2^(e-1).toNat-1
def Mh:da:=cR λ((e,p):Int×Int)=>([Mf e p,.ae 0,.nl],True,if kV e p then .br [vO e p 0<|ns e,.ae 0]else .br [vO 0 0 0 0,.ae 2])
def WE:b4 161 Mh:=by
 refine cJ [GX] Vl.1 ?_;intro⟨e,p⟩ _ H ax;refine U 22<|bn GX (e,p) aP ?_;by_cases h:kV e p
 .refine a9 20 (.ae 0) o (by show ai.ae (if _ then _ else _)=_;rw[aA h]) ?_;have D:Mh.res (e,p)= .br [vO e p 0<|ns e,.ae 0]:=aA h;obtain⟨r,aw⟩:∃r,r=Mh.res (e,p):=dq;obtain⟨t,G,_⟩:=h;refine U 15 ?_;rcases(show e=2\/e=3\/e=4\/e=5\/e=6\/e=7\/e=8\/e=9\/e=10\/e=11 by omega)with h|h|h|h|h|h|h|h|h|h<;>subst h
  all_goals first|refine ea 28 (.ae 1) o o o ?_|refine ea 28 (.ae 2) o o o ?_|refine ea 28 (.ae 3) o o o ?_|refine ea 28 (.ae 4) o o o ?_|refine ea 28 (.ae 5) o o o ?_|refine ea 28 (.ae 6) o o o ?_|refine ea 28 (.ae 7) o o o ?_|refine ea 28 (.ae 8) o o o ?_|refine ea 28 (.ae 9) o o o ?_|refine ea 28 (.ae 10) o o o ?_
  all_goals (repeat refine gF o ?_)
  all_goals (
   refine dN (L:=Int×Int) (λ(E,b)=>r= .br [vO E p 0 b,.ae 0]) (λ(E,b)=>⟨[.c 257 [.ae 0,.ae 0,.ae 0,.ae 0],.c 257 [.ae E,.ae p,.ae 0,.ae b]],2,[(34,.ae 0),(33,.ae 0),(8,.p 1 0),(6,.p 0 0),(7,.ae 0)]⟩) (λ_=>0) [1,2] (_,_) ?_ (by show 0<bz+1;omega) cr ?_
   .rw[aw];exact D
   rintro⟨E,b⟩ Y;refine U 20 ?_;exact eK<|Y.symm.trans aw)
 .exact a9 20 (.ae 2) o (by show ai.ae (if _ then _ else _)=_;rw[au h])<|U 15<|eK (au h).symm
def WG:b4 210 (cR λ(k:Int)=>([.ae k],-20000<=k/\k<=20000,bQ<|mP (mkRat 1 1) k)):=by
 apply cJ [WB] Vt.1;intro k h H ax;exact U 8<|bn WB k aP<|c3 7 (aA h)<|U 15<|bh (dc o o kK)
def GY:b4 162 (cR λ((x,k):Rat×Int)=>([bQ x,.ae k],bg 268435456 x/\-20000<=k/\k<=20000,bQ<|mP x k)):=by
 apply cJ [GW] TC.1;intro⟨x,k⟩ ⟨O,h⟩ H ax;exact U 10<|bn GW (x,k) O<|c3 10 (aA h)<|U 15<|bh (dc o o kK)
def WH:b4 164 (cR λ(x:Rat)=>([bQ x],bg 268435456 x/\x.num≠0,.ae<|oX x.num.natAbs x.den)):=by
 apply cJ [WD] Vm.1;intro x ⟨O,h⟩ H ax;exact U 9<|bn WD x O<|c3 7 (au h)<|U 14<|bh (dc o o kK)
def CC(aE:2<=e)(aK:e<=11):1<=ns e/\ns e<=1023:=by
 rcases(show e=2\/e=3\/e=4\/e=5\/e=6\/e=7\/e=8\/e=9\/e=10\/e=11 by omega)with h|h|h|h|h|h|h|h|h|h<;>subst h<;>decide
def WI:b4 208 (cR λ((e,p,m):Int×Int×Int)=>([vO e p m<|ns e],kV e p,.ae<|1-ns e)):=by
 apply cJ [] Uk.1;intro⟨e,p,m⟩ ⟨Y,G,C,N,t⟩ H ax;have⟨Z,S⟩:=CC Y G;exact U 15<|eK (gg o J J)
def n9{n:Int}(aE:dU k n.natAbs)(aK:dU k d)(S:d≠0):bg k (mkRat n d):=by
 obtain⟨U,T⟩:=Ma n d S;refine⟨ua aE ?_,ua aK ?_⟩
 .rw[U,Int.natAbs_ediv_of_dvd<|Int.ofNat_dvd_left.2<|Nat.gcd_dvd_left _ _];exact mr _ _
 .rw[T];exact mr _ _
def b0{x:Rat}(h:bg k x)(aI:k<=l:=by decide):bg l x:=⟨c1 h.1 aI,c1 h.2 aI⟩
def ajd{c:Int}:bX (.br [.agg [.b false,.nl,.nl],.ae c]) (.br [bQ 0,.ae c]):=.br ⟨le_zero,.refl _,aP⟩
def GZ(c:Nat){x:Rat}{k:Int}(h:bg a x)(aE: -(32*(c:Int))<k)(aK:k<32*(c:Int)):bg (a+c) (mP x k):=by
 have hp:∀n:Nat,n<32*c->dU c (2^n):=λn aj=>c1 (CB n) J;rw[mP];split
 .exact n9 (c1 h.1 J) (jZ h.2<|hp _ J)<|uT x.den_nz az
 .refine n9 ?_ (c1 h.2 J) x.den_nz;rw[wq];exact jZ h.1<|hp _ J
def pO(n:Int)(aE: -9223372036854775808<=n)(aK:n<9223372036854775808):bg 2 (mkRat n 1):=n9 (iM J) (iM av) av
def s0{x:Rat}(aE:bg a x)(aK:bg b y):bg (a+b+1) (x+y):=by
 rw[Rat.add_def'];have O:=jZ aK.1 aE.2;refine n9 (ua (Ww (jZ aE.1 aK.2)<|c1 O J) ?_) (c1 (jZ aE.2 aK.2) J)<|uT x.den_nz y.den_nz;have:=Int.natAbs_add_le (x.num*y.den)<|y.num*x.den;rw[wq,wq]at this;exact aoX
def s3{x:Rat}(aE:bg a x)(aK:bg b y):bg (a+b+1) (x-y):=by
 rw[Iv];exact s0 aE<|GV aK
def zy(e p:Int):Rat:=mP (mP (mkRat 1 1) p-mkRat 1 1)<|ns e-p+1
def aje{p:Int}(h:kV e p):bg 41 (zy e p):=by
 have⟨Y,G,C,N,o⟩:=h;have⟨Z,S⟩:=CC Y G;have af:=pO 1 av av;exact b0<|GZ 32 (s3 (GZ 4 af J J) af) J J
def WJ:b4 167 (cR λ((e,p,m):Int×Int×Int)=>([vO e p m<|ns e],kV e p,bQ<|zy e p)):=by
 refine cJ [WG,jk,oW,GY] Vo.1 ?_;intro⟨e,p,m⟩ ⟨Y,G,C,N,t⟩ H ax;obtain⟨Z,S⟩:=CC Y G;have af:=pO 1 av av;exact U 11<|cS WG p ⟨J,J⟩<|cS jk (1:Int) apt<|cS oW (mP (mkRat 1 1) p,mkRat 1 1) ⟨b0<|GZ 4 af J J,b0 af⟩<|U 6<|ea 14 (.ae<|ns e-p) o o (gg o J J)<|U 1<|ea 15 (.ae<|ns e-p+1) o o (gg o J J)<|cS GY (mP (mkRat 1 1) p-mkRat 1 1,ns e-p+1) ⟨b0<|s3 (GZ 4 af J J) af,J,J⟩<|U 4<|fc
def WK:b4 163 (cR λ((e,p,k,m):Int×Int×Int×Int)=>([vO e p m<|ns e,.ae k],kV e p/\-1000000000000<=k/\k<=1000000000000,.ae<|max k (1-ns e)-p+1)):=by
 refine cJ [WI] Uc.1 ?_;intro⟨e,p,k,m⟩ ⟨⟨Y,G,C,N,t⟩,z,M⟩ H ax;obtain⟨Z,S⟩:=CC Y G;refine U 9<|cS WI (e,p,m) ⟨Y,G,C,N,t⟩<|U 11 ?_;exact bh (dc o o (.of (by
  rw[j9 (n:=max k (1-ns e)-p) J J];exact gg o J J)))
theorem ue{x:Rat}:0<jY x y↔y<x:=by
 grind [jY]
def WL(p q:Nat): -(cx q:Int)-1<=oX p q/\oX p q<=cx p:=by rw[oX];split<;>omega
end Go.bI.ds
namespace Go.bI.ds
def ajf{b n i:Nat}(aa:2<=b):i<(b9 b n).length↔n/b^i≠0:=by
 have hp:0<b^i:=k6 J;constructor
 .intro h e;have:=pM aa (n:=n) (by rcases Nat.div_eq_zero_iff.1 e with h|h<;>omega);omega
 .intro h;exact Cu aa (by
   obtain D|D:=fW n<|b^i
   .exact absurd (uR D) h
   .exact D)
theorem Mi{b:Nat}(aa:2<=b):∀{n i:Nat},i<(b9 b n).length->(b9 b n)[i]? =some (n/b^i%b)
 |n,i,h=>by
  by_cases bS:n=0
  .subst bS;rw[iX]at h;simp at h
  .rw[rS aa bS]at h⊢;cases i with
   |zero=>simp
   |succ i=>
    rw[Du,Mi aa apA,ya,hZ,hK b]
open Go.bI
set_option maxRecDepth 100000
set_option maxHeartbeats 4000000
def ajg{n k:Nat}:n<2^k↔cx n<=k:=⟨L9,λh=>by
 by_cases T:n=0
 .subst T;exact sd k
 .exact fG (tZ T).2<|k5 av h⟩
end Go.bI.ds
namespace Go.bI.ds
def WM{b n k:Nat}(aa:2<=b)(h:(b9 b n).length<=k):n<b^k:=by
 have Y:=lj<|ji aa n;rw[iL aa]at Y;exact r8 Y<|k5 J h
def dec(n:Nat):ac Nat:=if n=0 then[0]else(b9 10 n).reverse
def oa(l:ac Nat):ac ci:=l.map λd=>UInt8.ofNat<|48+d
def WN(l m:ac Nat):oa (l++m)=oa l++oa m:=by unfold oa;rw[oq]
def G0(l:ac Nat):(oa l).length=l.length:=by rw[oa];rw[hV]
def mQ(k n:Nat):ac Nat:=(List.range k).map λj=>n/10^j%10
def ajh(k n:Nat):mQ (k+1) n=mQ k n++[n/10^k%10]:=by rw[mQ];rw[Ij,oq];rfl
def Mj(k n:Nat):(mQ k n).length=k:=by rw[mQ];rw[hV,List.length_range]
theorem WO(k n:Nat):Ok 10 (mQ k n):=λd S=>by
 grind [mQ]
def aji(k n:Nat):val 10 (mQ k n)=n%10^k:=by
 induction k with
 |zero=>rw[DR];rfl
 |succ k U=>rw[ajh,pL,U,Mj,Nat.mod_pow_succ];rfl
def FE(l:ac Nat):Ok 10 (l.flatMap<|mQ 9):=λd S=>by
 have⟨x,_,h⟩:=tc.1 S;exact WO 9 x d h
def WQ(n:Nat):Ok 10 (dec n):=by
 rw[dec];split
 .intro d S;simp at S;omega
 .exactλd S=>ji av n d<|AF.1 S
theorem ajj(n:Nat):dec n≠[]:=by
 rw[dec];split
 .simp
 .intro h;exact absurd ((qG av).1<|OB.1 h) qg
def ajk(n:Nat):val 10 (dec n).reverse=n:=by
 rw[dec];split
 .rename_i h;rw[h];rfl
 .rw[List.reverse_reverse,iL av]
def Row(l:ac Nat):Prop:=l≠[]/\Ok 10 l/\(l=[0]\/l.head?≠some 0)
variable{l:ac Nat}
theorem ajl(h:l.getLast?≠some 0):hr l=l:=by
 obtain rfl|⟨eH,d,rfl⟩:=q0 l
 .rfl
 .grind [vJ]
theorem ajm(h:Row l):dec (val 10 l.reverse)=l:=by
 have⟨Y,G,C⟩:=h;have ok:Ok 10 l.reverse:=λd S=>G d<|AF.1 S;obtain rfl|C:=C
 .rfl
 .grind [hr,ajl,Ct,dec,iX]
def rW(s:ac ci):ac Nat:=s.map λc=>c.toNat-48
def dI(s:ac ci):Nat:=val 10 (rW s).reverse
def mR(s:ac ci):Prop:=∀c∈s,48<=c.toNat/\c.toNat<=57
instance(s:ac ci):Decidable (mR s):=by unfold mR;infer_instance
def nt(s:ac ci):Prop:=s≠[]/\mR s/\(s=[48]\/s.head?≠some 48)
variable{s:ac ci}
instance(s:ac ci):Decidable (nt s):=by unfold nt;infer_instance
def ajn(h:mR s):oa (rW s)=s:=by
 unfold oa rW;rw[qW]
 conv=>rhs;rw[<-List.map_id s]
 refine Dt λc ah=>?_;have:=h c ah;show UInt8.ofNat (48+(c.toNat-48))=c;rw[show 48+(c.toNat-48)=c.toNat by omega,Io]
def G1{d:Nat}(h:d<10):(UInt8.ofNat<|48+d).toNat=48+d:=by
 rw[UInt8.toNat_ofNat'];omega
def ajo(h:Ok 10 l):rW (oa l)=l:=by
 unfold oa rW;rw[qW]
 conv=>rhs;rw[<-List.map_id l]
 refine Dt λd S=>?_;have:=h d S;show(UInt8.ofNat<|48+d).toNat-48=d;rw[G1 this];omega
def ajp(h:Ok 10 l):mR (oa l):=λc ah=>by
 obtain⟨d,S,rfl⟩:=db.1 ah;have:=h d S;rw[G1 this];omega
def WR(h:mR s):Ok 10 (rW s):=λd S=>by
 obtain⟨c,ah,rfl⟩:=db.1 S;have:=h c ah;omega
def ez(n:Nat):ac ci:=oa<|dec n
def WS(h:nt s):ez (dI s)=s:=by
 unfold ez dI;rw[ajm (by
                 have⟨Y,G,C⟩:=h;refine⟨λe=>Y<|wj.1 e,WR G,?_⟩;obtain rfl|C:=C
                 .left;rfl
                 .right;cases s with
                  |nil=>exact absurd o Y
                  |cons c s=>
                   have ah:=G c az;simp[rW,j2,List.head?_cons,ne_eq,Option.some.injEq]at C⊢;intro e;exact C (Dw.1<|by show c.toNat=48;omega)),ajn h.2.1]
def CD(n:Nat):dI (ez n)=n:=by
 unfold ez dI;rw[ajo<|WQ n,ajk]
def CE(n:Nat):mR (ez n):=ajp<|WQ n
def vP(n:Nat):ez n≠[]:=λh=>ajj n<|wj.1 h
def G2(h:mR s):(47:ci)∉s:=λhm=>by have:=h _ hm;simp at this
def cutAt:ac ci->ac ci×be (ac ci)
 |[]=>([],none)
 |c::s=>if c=47 then([],some s)else(c::(cutAt s).1,(cutAt s).2)
theorem Mk:∀{s p q:ac ci},(47:ci)∉p->s=p++47::q->cutAt s=(p,some q)
 |_,[],q,_,rfl=>rfl
 |_,c::p,q,h,rfl=>by
  have:=Mk (q:=q) (λhm=>h<|e3 _ hm) o;show(if c=47 then _ else(c::(cutAt<|p++47::q).1,(cutAt<|p++47::q).2))=_;rw[au λe=>h<|by simp[e],this]
theorem Ml:∀{s:ac ci},(47:ci)∉s->cutAt s=(s,none)
 |[],_=>rfl
 |c::s,h=>by
  show(if c=47 then _ else _)=_;rw[au λe=>h<|by simp[e],Ml λhm=>h<|e3 _ hm]
theorem WT(s:ac ci):(47:ci)∉(cutAt s).1/\(∀q,(cutAt s).2=some q->s=(cutAt s).1++47::q)/\((cutAt s).2=none->s=(cutAt s).1):=by
 induction s with
 |nil=>exact asp asp
 |cons c s U=>
  by_cases ah:c=47
  .grind [cutAt]
  .have e:cutAt (c::s)=(c::(cutAt s).1,(cutAt s).2):=au ah;have⟨Y,G,C⟩:=U;rw[e];refine⟨λhm=>(fg.1 hm).elim (λe=>ah e.symm) Y,λq h=>?_,λh=>?_⟩
   .show c::s=c::((cutAt s).1++47::q);rw[<-G q h]
   .show c::s=c::(cutAt s).1;rw[<-C h]
def eR(s:ac ci):Bool×ac ci:=match s with
 |[]=>(false,[])
 |c::t=>if c=45 then(true,t)else(false,c::t)
def pP(n:Bool)(p:Nat):Int:=if n then -(p:Int)else p
def hF(s:ac ci):be Rat:=
 if nt (cutAt (eR s).2).1/\¬((eR s).1=true/\(cutAt (eR s).2).1=[48])then match(cutAt (eR s).2).2 with
  |none=>some (mkRat (pP (eR s).1<|dI (cutAt (eR s).2).1) 1)
  |some q=>if nt q/\q≠[48]/\q≠[49]/\Nat.gcd (dI (cutAt (eR s).2).1) (dI q)=1 then some (mkRat (pP (eR s).1<|dI (cutAt (eR s).2).1)<|dI q)else none
 else none
def gu(x:Rat):ac ci:=(if x.num<0 then[45]else[])++ez x.num.natAbs++(if x.den=1 then[]else 47::ez x.den)
def G3(h:nt s)(bS:dI s=0):s=[48]:=by rw[<-WS h,bS];rfl
def ajq(h:nt s)(bS:dI s=1):s=[49]:=by
 rw[<-WS h,bS];show oa (dec 1)=_;rw[dec,rS av av,iX];rfl
def ajr(n:Int)(d:Nat)(h:d≠0):(mkRat n d).num=n/((n.natAbs.gcd d:Nat):Int)/\(mkRat n d).den=d/n.natAbs.gcd d:=by
 exact arc
def xH(n:Bool)(p:Nat):(pP n p).natAbs=p:=by cases n<;>simp[pP]
open Go.bI
set_option maxRecDepth 100000
set_option maxHeartbeats 4000000
theorem Mm{x y:Rat}:jY x y<0↔x<y:=by
 grind [jY]
theorem ajs{d:Nat}(h:d<10):dec d=[d]:=by
 rw[dec]
 grind [rS,iX]
theorem ajt(u v:ac ci):dI (u++v)=dI v+10^v.length*dI u:=by
 unfold dI rW
 grind [pL]
def aju(w:ac ci)(c:ci):dI (w++[c])=(c.toNat-48)+10*dI w:=by
 simp[dI,rW,val]
def s4(h:mR s):dI s<10^s.length:=by
 have:=lj λd S=>WR h d<|AF.1 S;rw[yd]at this;rw[rW]at this
 rwa [hV]at this
def ajv(s:ac ci):s=(if(eR s).1=true then[45]else[])++(eR s).2:=by
 unfold eR;split
 .rfl
 .split
  .rename_i c t h;rw[h];rfl
  .rfl
def G4(b:Bool):ac ai:=[.b b]
def ks(c:ci):Bool:=decide (48<=c.toNat/\c.toNat<=57)
def zz:ac Bool:=(List.range 256).map λj=>decide (48<=j/\j<=57)
def qI:ac ai:=zz.flatMap G4
def ajw{j:Nat}(h:j<256):qI.drop j= .b (decide (48<=j/\j<=57))::qI.drop (j+1):=by
 have e:qI=zz.map ai.b:=by rw[qI];rfl
 have o:j<zz.length:=by rw[zz];exact h
 rw[e,<-List.map_drop,<-List.map_drop,hL o];congr 2;simp[zz]
def G5:b4 203 (cR λ(c:ci)=>([.ip qI,.i .u8 (c.toNat:Int)],True,.b<|ks c)):=by
 apply cJ [] Vs.1;intro c _ H ax;have ah:=c.toNat_lt;exact U 10<|e6 (aev o o ah) (a9 8 (.ip<|.b (ks c)::qI.drop (c.toNat+1)) o (by rw[ph,ajw ah];rfl)<|U 5<|fc)
theorem WU:b4 151 (cR λ(s:ac ci)=>([.s s,.ip qI],s.length<=1073741824,.s<|s.dropWhile ks)):=by
 refine cJ [G5] Vj.1 ?_;intro s M H ax;refine U 7<|jh (λt=>t.dropWhile ks=s.dropWhile ks/\t.length<=s.length) (λt=>⟨[],0,[(0,.s t),(1,.ip qI)]⟩) List.length [] s ⟨o,c4 _⟩ ?_;rintro t ⟨Y,G⟩;cases t with
 |nil=>
  exact asQ
 |cons c t=>
  refine U 6<|a9 7 (.b true) o az<|U 11<|tM c o<|bn G5 c aP<|U 3 ?_;by_cases ah:ks c=true
  .exact a9 12 (.b false) o as5<|U 5<|tN (p:=1) t (U 3<|fk [] t ⟨az,by rw[<-Y,D0,aA ah],by simp at G;omega⟩) (hp:=az) (aD:=az)
  .have ah:ks c=false:=by grind
   exact a9 12 (.b true) o aoM<|U 14<|eK (by show ai.s (c::t)=ai.s _;rw[<-Y,D0,au J])
def ob(s:ac ci):ac ci:=(s.reverse.dropWhile ks).reverse
def WV(t:ac ci)(c:ci):ob (t++[c])=if ks c=true then ob t else t++[c]:=by
 rw[ob,AG];show((c::t.reverse).dropWhile ks).reverse=_;rw[D0];split
 .rfl
 .simp
theorem WW:b4 152 (cR λ(s:ac ci)=>([.s s,.ip qI],s.length<=1073741824,.s<|ob s)):=by
 refine cJ [G5] Ty.1 ?_;intro s M H ax;refine U 7<|jh (λt=>ob t=ob s/\t.length<=s.length) (λt=>⟨[],0,[(0,.s t),(1,.ip qI)]⟩) List.length [] s ⟨o,c4 _⟩ ?_;rintro t ⟨Y,G⟩;rcases q0 t with rfl|⟨t,c,rfl⟩
 .exact asQ
 .rw[tf]at *;have z:(t++[c]).length=t.length+1:=by simp
  refine U 6<|a9 7 (.b true) o az<|U 14<|a9 12 (.ae t.length) o (by exact gg)<|tM c (show(t++[c])[t.length]? =some c by simp)<|bn G5 c aP<|U 3 ?_;by_cases ah:ks c=true
  .exact a9 15 (.b false) o as5<|U 8<|a9 19 (.ae (t.length:Nat)) o (by rw[z];exact gg)<|tN (p:=0) t (U 3<|fk [] t ⟨az,by rw[<-Y,WV,aA ah],J⟩) (hp:=dg _) (aD:=az)
  .exact a9 15 (.b true) o aoM<|U 14<|eK (by show ai.s (t++[c])=ai.s _;rw[<-Y,WV,au ah])
def CF:Nat->ac Bool
 |0=>List.replicate 256 false
 |n+1=>(CF n).set (48+n) true
theorem WX:∀n,(CF n).length=256
 |0=>nF
 |n+1=>by rw[CF];rw[qZ];exact WX n
def CG:ac ci:=[48,49,50,51,52,53,54,55,56,57]
def ajx{i:Nat}(h:i<10):CG[i]? =some (UInt8.ofNat<|48+i):=by
 rcases(show i=0\/i=1\/i=2\/i=3\/i=4\/i=5\/i=6\/i=7\/i=8\/i=9 by omega)with rfl|rfl|rfl|rfl|rfl|rfl|rfl|rfl|rfl|rfl<;>rfl
def WY:b4 150 (cR λ(_:Unit)=>([.s CG],True,.br [.agg qI,.b true])):=by
 refine cJ [] Vi.1 ?_;intro _ _ H ax;refine U 4<|kb 0 G4 (CF 0) ?_;refine U 9<|jh (L:=Nat) (λi=>i<=10) (λ(i:Nat)=>⟨[.a 246 false 1 Bool G4<|CF i],1,[(0,.s CG),(2,.p 0 0),(4,.ae i)]⟩) (λi=>10-i) [0] 0 (dg _) ?_;intro(i:Nat) af;refine U 9 ?_;have t:((CG.length:Nat):Int)=10:=rfl;refine eC (λh=>?_) λh=>?_
 .have h:i<10:=by omega
  refine U 8<|tM (UInt8.ofNat<|48+i) (ajx h)<|a9 14 (.i .u8 ((48+i:Nat):Int)) o (by rw[(G1 h)])<|U 10<|eC (λD=>?_) λD=>?_
  .omega
  refine U 4<|aeD ?_;refine mc true ?_ (a3:=by rw[WX];omega);exact U 8<|bL [0] (i+1) ⟨J,h⟩ cr
 .have A:i=10:=by omega
  subst A;refine U 7<|R9 0 ?_;exact U 6<|eK o
def WZ:da where
 L:=ac ci
 args:=λs=>[.s s,.s CG]
 pre:=λs=>s.length<=1073741824
 res:=λs=>.s<|(ob s).dropWhile ks
theorem ajy:eb cv.ctx 117 WZ.spec:=by
 refine cJ [WY,WW,WU] Tq.1 ?_;intro(s:ac ci) M H ax;refine U 11 ?_;by_cases h:s=[]
 .subst h;exact U 14<|fc
 refine a9 9 (.b false) o aoM<|U 30<|bn WY () aP<|U 17<|kb 0 G4 zz ?_;refine aeA 5 ?_;exact a9 5 (.ip qI) o o<|bn WW s M<|bn WU (ob s) (cN (by
  rw[ob,yd,<-(yd:s.reverse.length=s.length)];exact(List.dropWhile_sublist _).length_le) M)<|U 5<|fc
theorem drop_nil:∀{s:ac ci},s.dropWhile ks=[]↔∀c∈s,ks c=true
 |[]=>by simp
 |c::s=>by
  rw[D0];by_cases h:ks c=true
  .rw[aA h,drop_nil];simp[h]
  .rw[au h];simp[h]
def W0{c:ci}:ks c=true↔48<=c.toNat/\c.toNat<=57:=by rw[ks];rw[decide_eq_true_iff]
theorem strip_nil:(ob s).dropWhile ks=[]↔mR s:=by
 rw[drop_nil];rw[mR];constructor
 .intro h;have Y:ob s=[]:=by
   obtain T|⟨t,c,T⟩:=q0<|ob s
   .exact T
   .rw[tf]at T;have e:s.reverse.dropWhile ks=c::t.reverse:=by
     grind [ob]
    have:=List.head_dropWhile_not ks<|by rw[e];simp
    grind
  rw[ob]at Y;exactλc ah=>W0.1<|(drop_nil.1<|OB.1 Y) c<|AF.2 ah
 .intro h;unfold ob;rw[(drop_nil.2 λc ah=>W0.2<|h c<|AF.1 ah)];intro c ah;simp at ah
theorem Mn:b4 69 (cR λ(s:ac ci)=>([.s s],s.length<=1073741824,.b<|decide (nt s))):=by
 refine cJ [(117,WZ.spec)] Va.1 ?_;intro s M H ax;refine U 10 ?_;cases s with
 |nil=>
  exact a9 5 (.b false) o o<|U 17<|eK (by show ai.b false=ai.b (decide _);rw[dk λaa=>aa.1 o])
 |cons c t=>
  refine a9 5 (.b true) o o<|U 3<|bn ajy (c::t) M<|U 4 ?_;by_cases J:mR (c::t)
  .refine a9 10 (.b true) o (by rw[strip_nil.2 J];rfl)<|U 6 ?_;by_cases aa:c::t=[48]
   .exact a9 13 (.b true) o (by rw[aa];rfl)<|U 10<|eK (by show ai.b true=ai.b (decide _);rw[c9 ⟨az,J,.inl aa⟩])
   refine a9 13 (.b false) o aoM<|U 3<|tM c o<|U 9<|eK ?_;congr 1;rw[decide_eq_decide];constructor
   .intro h;refine⟨az,J,.inr λe=>h ?_⟩
    simp_all
   .rintro⟨_,_,h|h⟩ e
    .exact aa h
    .exact h<|congrArg some<|Dw.1 (show c.toNat=48 by omega)
  .exact a9 10 (.b false) o (by rw[AH.2<|mt strip_nil.1 J])<|U 12<|eK (by show ai.b false=ai.b (decide _);rw[dk λaa=>J aa.2.1])
theorem W1:∀s:ac ci,(match sr 47 s with
 |none=>cutAt s=(s,none)
 |some i=>i<s.length/\cutAt s=(s.take i,some<|s.drop<|i+1))
 |[]=>rfl
 |c::s=>by
  have U:=W1 s;have e:sr 47 (c::s)=cond (Nat.beq c.toNat (47:ci).toNat) (some 0) (bx (sr 47 s) (λi=>some<|Nat.succ i) none):=rfl;by_cases ah:c=47
  .subst ah;exact⟨x8 _,o⟩
  .have aa:Nat.beq c.toNat (47:ci).toNat=false:=by
    simpa[x2]using λh=>ah<|Dw.1<|dy h
   have T:cutAt (c::s)=(c::(cutAt s).1,(cutAt s).2):=au ah;rw[e,aa];cases h:sr 47 s with
   |none=>
    rw[h]at U;show cutAt (c::s)=_;rw[T,show cutAt s=(s,none)from U]
   |some i=>
    rw[h]at U;obtain⟨Y,G⟩:=U;show i+1<s.length+1/\cutAt (c::s)=_;rw[T,G];exact⟨J,o⟩
def W2:b4 146 (cR λ(s:ac ci)=>([.s s,.s [45]],s.length<=1073741824,.b (eR s).1)):=by
 apply cJ [] LK.1;intro s M H ax;apply U 13;cases s with
 |nil=>
  exact a9 10 (.b false) o o<|U 11<|fc
 |cons c t=>
  refine a9 10 (.b true) o ep<|U 7<|tN [c] ?_;refine U 9<|eK ?_;show ai.b ([c]==[45])=ai.b (eR<|c::t).1;by_cases ah:c=45
  .subst ah;rfl
  .rw[show eR (c::t)=(false,c::t)from au ah,AH.2<|by simpa using ah]
def Mo:da:=cR λ(s:ac ci)=>([.s s,.s [45]],s.length<=1073741824,.br [.s (eR s).2,.b (eR s).1])
theorem ajz:b4 67 Mo:=by
 refine cJ [(115,Mo)] U8.1 ?_;intro s M H ax;exact U 10<|bn (by
  refine cJ [W2] T8.1 ?_;intro s M H ax;refine U 11<|bn W2 s M<|U 3 ?_;cases s with
  |nil=>
   exact U 10<|fc
  |cons c t=>
   by_cases ah:c=45
   .subst ah;exact a9 9 (.b false) o o<|U 8<|tN t (U 5<|fc) (hp:=az)
   .have F:eR (c::t)=(false,c::t):=au ah;exact a9 9 (.b true) o aoM<|U 10<|bh (dc o o (.of<|by show ai.br _=ai.br [.s (eR<|c::t).2,.b (eR<|c::t).1];rw[F]))) s M<|U 7<|fc
def W3:b4 199 (cR λ(s:ac ci)=>([.s s,.i .u8 47],s.length<=1073741824,.ae<|vu 47 s)):=by
 apply cJ [] Uj.1;intro s M H ax;exact U 9<|e6 (aez (c:=47) o o) (U 4<|fc)
theorem W4:b4 147 (cR λ(s:ac ci)=>([.s s,.s [47]],s.length<=1073741824,.ae<|vu 47 s)):=by
 refine cJ [W3] UO.1 ?_;intro s M H ax;refine U 29 ?_;by_cases h:[47]=s
 .exact a9 16 (.b true) o apD<|U 9<|bh (dc o o<|.of apD)
 exact a9 16 (.b false) o aoM<|U 13<|tM 47 o<|bn W3 s M<|U 6<|fc
def oc(s:ac ci):ai:=match(cutAt s).2 with
 |none=>.br [.s s,.s [],.b false]
 |some q=>.br [.s (cutAt s).1,.s q,.b true]
def CH:da where
 L:=ac ci
 args:=λs=>[.s s,.s [47]]
 pre:=λs=>s.length<=1073741824
 res:=λs=>oc s
def ajA:eb cv.ctx 116 CH.spec:=by
 refine cJ [W4] Ve.1 ?_;intro(s:ac ci) (M:s.length<=_) H ax;have af:=W1 s;have fin:∀{r},oc s=r->bX r (CH.res s):=λh=>.of h.symm;unfold oc at fin;refine U 12<|bn W4 s M ?_;cases O:sr 47 s with
 |none=>
  rw[O]at af;rw[af]at fin;exact a9 10 (.ae<|-1) o asr<|U 21<|du (fin o)
 |some i=>
  rw[O]at af;obtain⟨Y,G⟩:i<s.length/\cutAt s=(s.take i,some<|s.drop<|i+1):=af;rw[G]at fin;refine a9 10 (.ae i) o asr<|U 14<|R6 (s.take i) ?_;refine U 5<|ea 20 (.ae ↑(i+1)) o o (gg az J ep)<|R6 (s.drop<|i+1) ?_ (aI:=pn az);exact U 7<|du (fin o)
def ajB:eb cv.ctx 68 CH.spec:=by
 apply cJ [(116,CH.spec)] U9.1;intro s M H ax;refine U 11<|bn ajA s M ?_;cases O:(cutAt s).2 with
 |none=>
  exact a9 9 (.br [.s s,.s [],.b false]) o (by show oc s=_;unfold oc;rw[O])<|U 9<|eK (by show _=oc s;unfold oc;rw[O])
 |some q=>
  exact a9 9 (.br [.s (cutAt s).1,.s q,.b true]) o (by show oc s=_;unfold oc;rw[O])<|U 9<|eK (by show _=oc s;unfold oc;rw[O])
def xI:ac ai:=(List.range 20).map λk=>.i .u64 ((10^k:Nat):Int)
def im(H:bm):Prop:=∃K el D aW,H 2=some (.cells K el D aW)/\∀Z,cT Z xI [] K
def im.up{H Z:bm}(h:cL H Z):im H->im Z:=λ⟨K,el,D,aW,Y,G⟩=>⟨K,el,D,aW,h _ _ Y,G⟩
def ajC{j:Nat}(h:j<20):xI.drop j= .i .u64 ((10^j:Nat):Int)::xI.drop (j+1):=by
 have o:j<xI.length:=by rw[xI];exact h
 rw[hL o];congr 1;simp[xI]
def xJ:da:=cR λ(n:Nat)=>([.i .u64 n],n<4294967296,.ae (cx n:Nat))
def ajD:ac ci:=[0,1,2,2,3,3,3,3,4,4,4,4,4,4,4,4,5,5,5,5,5,5,5,5,5,5,5,5,5,5,5,5,6,6,6,6,6,6,6,6,6,6,6,6,6,6,6,6,6,6,6,6,6,6,6,6,6,6,6,6,6,6,6,6,7,7,7,7,7,7,7,7,7,7,7,7,7,7,7,7,7,7,7,7,7,7,7,7,7,7,7,7,7,7,7,7,7,7,7,7,7,7,7,7,7,7,7,7,7,7,7,7,7,7,7,7,7,7,7,7,7,7,7,7,7,7,7,7,8,8,8,8,8,8,8,8,8,8,8,8,8,8,8,8,8,8,8,8,8,8,8,8,8,8,8,8,8,8,8,8,8,8,8,8,8,8,8,8,8,8,8,8,8,8,8,8,8,8,8,8,8,8,8,8,8,8,8,8,8,8,8,8,8,8,8,8,8,8,8,8,8,8,8,8,8,8,8,8,8,8,8,8,8,8,8,8,8,8,8,8,8,8,8,8,8,8,8,8,8,8,8,8,8,8,8,8,8,8,8,8,8,8,8,8,8,8,8,8,8,8,8,8,8,8,8,8]
def ajE:∀m,m<256->ajD[m]? =some (UInt8.ofNat<|cx m)/\cx m<=8:=by decide +kernel
def W5:b4 178 xJ:=by
 refine cJ [] Ui.1 ?_;intro(n:Nat) (aj:n<4294967296) H ax;refine U 12<|eC (λh=>?_) λh=>?_
 .omega
 refine U 9<|jS (λ(m,k)=>m<65536/\k<=16/\cx n=cx m+k) (λ(m,k)=>⟨[],0,[(0,.i .u64 m),(2,.ae k)]⟩) ?_ ?_
 .refine eC (λh=>?_) λh=>?_
  .exact U 12<|bL [] (n/65536,16) ⟨J,av,Cv 16 n J⟩ cr
  .exact U 1<|bL [] (n,0) ⟨J,av,o⟩ cr
 rintro⟨m,k⟩ ⟨hm,E,aa⟩;refine U 7<|jS (λ(m,k)=>m<256/\k<=24/\cx n=cx m+k) (λ(m,k)=>⟨[],0,[(0,.i .u64 m),(2,.ae k)]⟩) ?_ ?_
 .refine eC (λh=>?_) λh=>?_
  .exact U 12<|bL [] (m/256,k+8) ⟨J,J,by rw[aa,Cv 8 m J,show 2^8=256 from rfl];omega⟩ cr
  .exact U 1<|pJ [] (m,k) ⟨J,aa⟩
 rintro⟨m,k⟩ ⟨hm,E,aa⟩;refine U 5<|a9 21 (.i .u8 m) o ht ?_;obtain⟨Q,Z⟩:=ajE m hm;refine tM _ Q<|U 6 ?_;have e:(UInt8.ofNat<|cx m).toNat=cx m:=by simp;omega
 rw[e];refine eK ?_;show ai.i _ _=ai.ae (cx n:Nat);rw[aa,j9 (n:=↑(cx m)) J J];exact gg
def W6:b4 243 (cR λ(b:Nat)=>([.ae b],b<=64,.ae ((b*78913/262144:Nat):Int))):=by
 apply cJ [] Uo.1;intro(b:Nat) (aa:b<=64) H ax;exact U 9<|b5 4 ↑(b*78913)<|U 5<|fc
def W7:b4 244 (cR λ(b:Bool)=>([.b b],True,.ae (if b=true then 1 else 0))):=by
 apply cJ [] TK.1;intro b _ H ax;apply U 11;cases b with
 |true=>
  exact U 8<|fc
 |false=>
  exact U 9<|fc
def ajF:∀b,b<31->(b*78913/262144=0\/10^(b*78913/262144-1)<=2^(b-1))/\2^b<=10^(b*78913/262144+1)/\b*78913/262144<10:=by decide +kernel
def ajG{n:Nat}(bS:n≠0)(aj:n<1000000000):(b9 10 n).length=cx n*78913/262144+(if 10^(cx n*78913/262144)<=n then 1 else 0)/\cx n*78913/262144<10/\cx n<=30:=by
 obtain⟨Y,G⟩:=tZ bS;have aa:cx n<=30:=ajg.1 J;obtain⟨Q,Z,I⟩:=ajF (cx n) J;generalize cx n*78913/262144=l at *;have E:=pM (b:=10) (n:=n) (k:=l+1) av J;refine⟨?_,I,aa⟩;split
 .rename_i h;have:=Cu av h;omega
 .rename_i h;have C:=pM (b:=10) (n:=n) (k:=l) av J;rcases Q with Q|Q
  .omega
  .rcases AE l with N|N
   .omega
   .have:=Cu (b:=10) (n:=n) (k:=l-1) av J;omega
theorem W8:b4 217 (n0 im im.up λ(n:Nat)=>([.i .u64 n],n≠0/\n<1000000000,.ae ((b9 10 n).length:Nat))):=by
 refine mM [(178,xJ),W6,W7] TI.1 ?_;intro(n:Nat) ⟨T,aj⟩ H ax ⟨K,el,D,aW,F,S⟩;obtain⟨C,E,z⟩:=ajG T aj;refine U 8<|bn W5 n (by show n<_;omega)<|bn W6 (cx n) (by show cx n<=_;omega) ?_;generalize t:cx n*78913/262144=l at *;refine a9 6 (.ae l) o (by rw[<-t])<|U 8<|aeE F S ?_;refine a9 10 (.ip<|.i .u64 ((10^l:Nat):Int)::xI.drop (l+1)) o (by rw[ajC J])<|U 2<|a9 12 (.b<|decide (10^l<=n)) o (congrArg ai.b aoM)<|bn W7 (decide (10^l<=n)) aP ?_;obtain⟨q,aD⟩:∃q:Nat,q=if 10^l<=n then 1 else 0:=dq;have A:q<=1:=by grind
 refine a9 13 (.ae q) o (by show ai.i _ (if decide _=true then 1 else 0)=_;rw[aD];by_cases h:10^l<=n<;>simp[h])<|U 5 ?_;exact bh (dc o o (.of (by
  show ai.i _ _=ai.ae ((b9 10 n).length:Nat);exact gg)))
