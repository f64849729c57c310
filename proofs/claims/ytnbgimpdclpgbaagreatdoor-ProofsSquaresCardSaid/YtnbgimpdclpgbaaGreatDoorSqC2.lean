/- What the functions of the program and of the document compute, for every input, and the plain laws of it (part 2); conditions as in the statements. -/
import Derived.Test.YtnbgimpdclpgbaaGreatDoorSqC1
import Derived.Test.YtnbgimpdclpgbaaGreatDoorSqS3
import Derived.Test.YtnbgimpdclpgbaaGreatDoorSqS1
import Derived.Test.YtnbgimpdclpgbaaGreatDoorSqS2
import Derived.Test.YtnbgimpdclpgbaaGreatDoorSqX
noncomputable section
set_option linter.all false
namespace Go.bC.dg
open Go.bC
set_option maxRecDepth 100000
set_option maxHeartbeats 4000000
variable{k:Nat}
def ry(n:Nat):ej (n+1) (2^n):=je ai<|e2 (Nat.pow_lt_pow_right ai R)<|v5 ai<|n+1
def c7{l a:Nat}(h:ej k a)(aB:k<=l:=by decide):ej l a:=ch h aB
def G6(k:Nat):df:=bV λ(n:Nat)=>([.aa n],n<k/\n<=1000000000,dj<|2^n)
theorem G7:∀k:Nat,et b5.ctx 434 (G6 k).spec
 |0=>by
  refine bL [ng] LU.1 ?_;intro n h H aq;exact absurd h.1 R
 |k+1=>by
  refine bL [ng,(434,(G6 k).spec),kN,zQ] LU.1 ?_;intro(n:Nat) ⟨(aC:n<k+1),(aI:n<=1000000000)⟩ H aq;refine I 12<|cT (λh=>?_) λh=>?_
  .have h:n=0:=by omega
   subst h;exact I 2<|aS ng () az<|I 5<|eD
  have h:n≠0:=R
  refine I 6<|aJ 9 (.aa ((n/2:Nat):Int)) j (by show ag.i _ (IntKind.i64.wrap ((n/2:Nat):Int))=_;exact eV j R R)<|aS (G7 k) (n/2) ary<|I 7 ?_;have E:=ry<|n/2;refine aS kN (2^(n/2),2^(n/2)) ⟨c7 E R,c7 E R⟩<|I 8<|aJ 15 (.aa ↑(n%2)) j j ?_;have e:2^(n/2)*2^(n/2)=2^(n/2+n/2):=(iA 2 _ _).symm;have S:ej 1073741824 (2^(n/2)*2^(n/2)):=by rw[e];exact c7 (ry _) R
  refine I 3<|cT (λh=>?_) λh=>?_
  .have h:n%2=1:=by omega
   refine I 3<|aS zQ (2^(n/2)*2^(n/2),2^(n/2)*2^(n/2)) ⟨S,S⟩<|I 10<|cC (congrArg dj ?_);rw[e,<-Nat.two_mul,<-Nat.pow_succ'];congr 1;omega
  .have h:n%2=0:=by omega
   refine I 9<|cC (congrArg dj ?_)
   grind
theorem zS:bl 406 (bV λ(x:Rat)=>([c0 x],True,c0<|jh x)):=by
 refine bL [] Vk.1 ?_;intro(x:Rat) _ H aq;refine I 22<|cC ?_;show ag.agg [.i _<|IntKind.i64.wrap<|x.num.sign*x.num.sign,dj x.num.natAbs,dy (if x.num=0 then[]else aU 1000000000 x.den)]=ag.agg [.i _ _,dj (jh x).num.natAbs,dy (if(jh x).num=0 then[]else aU 1000000000 (jh x).den)];rw[(rp x).1,(rp x).2];have e:IntKind.i64.wrap (x.num.sign*x.num.sign)=((x.num.natAbs:Nat):Int).sign:=by
  rcases(show x.num<0\/x.num=0\/0<x.num by omega)with h|h|h
  .rw[yk h,sW R];rfl
  .rw[h];rfl
  .rw[sW h,sW R];rfl
 grind
def G8{n:Nat}:n<2^k↔bG n<=k:=⟨GQ,λh=>by
 by_cases F:n=0
 .subst F;exact n4 k
 .exact e2 (rj F).2<|j0 ai h⟩
def Xz{n:Nat}:29*((aU 1000000000 n).length-1)<=bG n/\bG n<=30*(aU 1000000000 n).length:=by
 constructor
 .refine v7 λh=>?_;have G:1000000000^((aU 1000000000 n).length-1)<=n:=v7 λD=>((xz (b:=1000000000) (n:=n) (i:=(aU 1000000000 n).length-1) ai).1 R)<|rR D;have A:(2^29)^((aU 1000000000 n).length-1)<=1000000000^((aU 1000000000 n).length-1):=v5 ai _;rw[<-qy]at A;have:=G8.2<|pF h;omega
 .refine GQ<|e2 (sE<|cf _) ?_;rw[qy];exact v5 ai _
def MF:bl 428 (bV λ(n:Nat)=>([dj n],ej 30000000 n,.aa (bG n:Nat))):=by
 refine bL [(434,(G6 1000000001).spec),lJ] TG.1 ?_;intro(n:Nat) (aj:(aU _ n).length<=_) H aq;obtain⟨S,t⟩:= @Xz n;obtain⟨l,B⟩:∃l,l=(aU 1000000000 n).length:=dN;rw[<-B]at S t aj;refine dW 9 ?_;rw[<-B];refine aJ 9 (.aa<|29*((l:Int)-1)) j (congrArg (ag.aa)<|by rw[gn (n:=(l:Int)-1) R R];exact tv j R R)<|I 1<|aJ 10 (.aa ((29*(l-1):Nat):Int)) j (congrArg (ag.aa) R) ?_;refine dW 13 ?_
 try rw[<-B]
 refine cj 13 ((30*l:Nat):Int)<|I 6<|eS (L:=Nat×Nat) (λ(bm,af)=>bm<=bG n/\bG n<=af/\af<=900000000) (λ((bm:Nat),(af:Nat))=>⟨[],0,[(0,dj n),(3,.aa bm),(4,.aa af)]⟩) (λl=>l.2-l.1) [] (29*(l-1),30*l) ⟨S,t,R⟩ ?_;rintro⟨bm,af⟩ ⟨Y,G,A⟩;refine I 8<|cT (λh=>?_) λh=>?_
 .have h:bm<af:=by omega
  refine I 8<|cj 19 ((bm+af:Nat):Int)<|I 1<|aJ 20 (.aa (((bm+af)/2:Nat):Int)) j (by show ag.i _ (IntKind.i64.wrap (((bm+af)/2:Nat):Int))=_;exact eV j R R)<|I 7<|aS (G7 1000000001) ((bm+af)/2) ary<|aS lJ (n,2^((bm+af)/2)) ⟨by show(aU _ n).length<=_;omega,c7 (ry _) R⟩<|I 3<|cT (λW=>?_) λW=>?_
  .have W:=G8.1<|zN W;exact I 5<|iV [] (bm,(bm+af)/2) ⟨Y,W,R⟩
  .have W:=Nat.lt_of_not_le λD=>DF.2 (zO W)<|G8.2 D;exact I 6<|bB [] ((bm+af)/2+1,af) ⟨R,W,G,A⟩ bk
 .have c:bm=bG n:=by omega
  exact I 12<|bn (ep j j<|.of<|by rw[c])
def eT(k:Nat)(x:Rat):Prop:=ej k x.num.natAbs/\ej k x.den
def lK{a b l:Nat}(bR:ej k a)(ay:ej l b):ej (k+l) (a*b):=je ai<|by rw[iA];exact ID (sE bR)<|sE ay
theorem xA(n:Int): -1<=n.sign/\n.sign<=1:=by
 grind
def sF:bl 112 (bV λ((x,y):Rat×Rat)=>([c0 x,c0 y],eT 268435456 x/\eT 268435456 y,.aa<|ji x y)):=by
 refine bL [la,kN,lJ] Tl.1 ?_;intro⟨x,y⟩ ⟨(O:eT _ x),(T:eT _ y)⟩ H aq;obtain⟨o,V,oB⟩:=Xa x y;have z:=xA x.num;have S:=xA y.num;refine I 19<|cT (λh=>?_) λh=>?_
 .exact I 8<|cC (by show ag.aa (-1)=ag.aa (ji x y);rw[o h])
 refine I 10<|cT (λY=>?_) λY=>?_
 .exact I 8<|cC (by show ag.aa 1=ag.aa (ji x y);rw[V Y])
 have D:x.num.sign=y.num.sign:=R
 refine I 6<|ca la y az<|I 2<|ca kN (x.num.natAbs,y.den) ⟨c7 O.1,c7 T.2⟩<|I 1<|ca la x az<|I 2<|ca kN (y.num.natAbs,x.den) ⟨c7 T.1,c7 O.2⟩<|ca lJ (x.num.natAbs*y.den,y.num.natAbs*x.den) ⟨c7<|lK O.1 T.2,c7<|lK T.1 O.2⟩<|I 7<|cC ?_;show ag.aa (IntKind.i64.wrap<|x.num.sign*jf _ _)=ag.aa (ji x y);rw[oB D];refine congrArg _<|tv j ?_ ?_
 all_goals
  have M:x.num.sign= -1\/x.num.sign=0\/x.num.sign=1:=R
  unfold jf;rcases M with h|h|h<;>rw[h]<;>split<;>(try split)<;>decide
end Go.bC.dg
namespace Go.bC.dg
variable{b a n m:Nat}
def G9{k:Nat}(ay:2<=b)(h:(aU b n).length<=k):n<b^k:=by
 have Y:=ku<|hb ay n;rw[gx ay]at Y;exact vM Y<|j0 R h
def XA(ay:2<=b)(h:(aU b n).length=m+1):(aU b n)[m]? =some (n/b^m):=by
 rw[tC ay R,oP];have:=G9 ay<|Nat.le_of_eq h;exact v3 this
def ak7(ay:2<=b)(h:m+1<(aU b n).length)(aW:n<b^(m+2)):
 (aU b n)[m]? =some (n/b^m%b)/\(aU b n)[m+1]? =some (n/b^(m+1))/\n/b^m%b+b*(n/b^(m+1))=n/b^m:=by
 refine⟨tC ay R,?_,?_⟩
 .rw[tC ay h,oP];exact v3 aW
 .rw[g6,<-qz];exact AD _ _
def XB(bR:a%2=0)(h:Nat.gcd a b%2=1):Nat.gcd (a/2) b=Nat.gcd a b:=by
 obtain⟨c,rfl⟩:∃c,a=2*c:=⟨a/2,R⟩;have C:b%2=1:=by
  obtain F|F:=Ik b
  .have:=Nat.dvd_gcd ⟨c,j⟩<|Nat.dvd_of_mod_eq_zero F;omega
  .exact F
 have W:Nat.Coprime 2 b:=by
  show Nat.gcd 2 b=1;rw[Nat.gcd_rec,C];exact Nat.gcd_one_left 2
 rw[DN _ ai];exact(Nat.Coprime.gcd_mul_left_cancel c W).symm
def ak8(ay:b%2=0)(h:Nat.gcd a b%2=1):Nat.gcd a (b/2)=Nat.gcd a b:=by
 rw[vY,XB ay<|by rwa [vY],vY]
def gcd_both(bR:a%2=0)(ay:b%2=0):2*Nat.gcd (a/2) (b/2)=Nat.gcd a b:=by
 obtain⟨c,rfl⟩:∃c,a=2*c:=⟨a/2,R⟩;obtain⟨d,rfl⟩:∃d,b=2*d:=⟨b/2,R⟩;rw[DN _ ai,DN _ ai,Nat.gcd_mul_left]
theorem XC(h:b<=a):Nat.gcd (a-b) b=Nat.gcd a b:=by
 simp_all
def XD(h:¬(a%2=0/\b%2=0)):Nat.gcd a b%2=1:=by
 obtain F|F:=Ik<|Nat.gcd a b
 .have Y:=Nat.dvd_of_mod_eq_zero F;have A:=Nat.dvd_trans Y<|Nat.gcd_dvd_right a b;exact absurd ⟨Nat.mod_eq_zero_of_dvd<|Nat.dvd_trans Y<|AI a b,Nat.mod_eq_zero_of_dvd A⟩ h
 .exact F
def dec(n:Nat):ac Nat:=if n=0 then[0]else(aU 10 n).reverse
def hs(l:ac Nat):ac ci:=l.map λd=>UInt8.ofNat<|48+d
def MG(l m:ac Nat):hs (l++m)=hs l++hs m:=by unfold hs;rw[rL]
def tD(l:ac Nat):(hs l).length=l.length:=by rw[hs];rw[hI]
def ix(k n:Nat):ac Nat:=(List.range k).map λJ=>n/10^J%10
def XE(k n:Nat):ix (k+1) n=ix k n++[n/10^k%10]:=by rw[ix];rw[List.range_succ,rL];rfl
def xB(k n:Nat):(ix k n).length=k:=by rw[ix];rw[hI,List.length_range]
theorem XF(k n:Nat):Ok 10 (ix k n):=λd T=>by
 grind [ix]
def XG(k n:Nat):val 10 (ix k n)=n%10^k:=by
 induction k with
 |zero=>rw[DJ];rfl
 |succ k I=>rw[XE,l6,I,xB,Nat.mod_pow_succ];rfl
def BS(l:ac Nat):Ok 10 (l.flatMap<|ix 9):=λd T=>by
 have⟨x,_,h⟩:=sQ.1 T;exact XF 9 x d h
theorem XH:∀{l:ac Nat},Ok 1000000000 l->val 10 (l.flatMap<|ix 9)=val 1000000000 l
 |[],_=>rfl
 |x::l,h=>by
  rw[ub,l6,XH λd T=>h d<|fq _ T,XG,xB];have:=h x au;rw[oP this];rfl
def XI(n:Nat):Ok 10 (dec n):=by
 rw[dec];split
 .intro d T;simp at T;omega
 .exactλd T=>hb ai n d<|AM.1 T
theorem ak9(n:Nat):dec n≠[]:=by
 rw[dec];split
 .simp
 .intro h;exact absurd ((oC ai).1<|Oq.1 h) pT
def ala(n:Nat):val 10 (dec n).reverse=n:=by
 rw[dec];split
 .rename_i h;rw[h];rfl
 .rw[List.reverse_reverse,gx ai]
def Row(l:ac Nat):Prop:=l≠[]/\Ok 10 l/\(l=[0]\/l.head?≠some 0)
variable{l:ac Nat}
theorem alb(h:l.getLast?≠some 0):fg l=l:=by
 obtain rfl|⟨dw,d,rfl⟩:=pE l
 .rfl
 .grind [ri]
theorem alc(h:Row l):dec (val 10 l.reverse)=l:=by
 have⟨Y,G,A⟩:=h;have ok:Ok 10 l.reverse:=λd T=>G d<|AM.1 T;obtain rfl|A:=A
 .rfl
 .grind [fg,alb,zJ,dec,g1]
def ps(s:ac ci):ac Nat:=s.map λc=>c.toNat-48
def b7(s:ac ci):Nat:=val 10 (ps s).reverse
def jA(s:ac ci):Prop:=∀c∈s,48<=c.toNat/\c.toNat<=57
instance(s:ac ci):Decidable (jA s):=by unfold jA;infer_instance
def hM(s:ac ci):Prop:=s≠[]/\jA s/\(s=[48]\/s.head?≠some 48)
variable{s p:ac ci}
instance(s:ac ci):Decidable (hM s):=by unfold hM;infer_instance
def ald(h:jA s):hs (ps s)=s:=by
 unfold hs ps;rw[qq]
 conv=>rhs;rw[<-List.map_id s]
 refine Io λc W=>?_;have:=h c W;show UInt8.ofNat (48+(c.toNat-48))=c;rw[show 48+(c.toNat-48)=c.toNat by omega,Iw]
def Ha{d:Nat}(h:d<10):(UInt8.ofNat<|48+d).toNat=48+d:=by
 rw[UInt8.toNat_ofNat'];omega
def ale(h:Ok 10 l):ps (hs l)=l:=by
 unfold hs ps;rw[qq]
 conv=>rhs;rw[<-List.map_id l]
 refine Io λd T=>?_;have:=h d T;show(UInt8.ofNat<|48+d).toNat-48=d;rw[Ha this];omega
def alf(h:Ok 10 l):jA (hs l):=λc W=>by
 obtain⟨d,T,rfl⟩:=da.1 W;have:=h d T;rw[Ha this];omega
def XJ(h:jA s):Ok 10 (ps s):=λd T=>by
 obtain⟨c,W,rfl⟩:=da.1 T;have:=h c W;omega
def eA(n:Nat):ac ci:=hs<|dec n
theorem Hb(h:hM s):eA (b7 s)=s:=by
 unfold eA b7;rw[alc (by
                 have⟨Y,G,A⟩:=h;refine⟨λe=>Y<|vV.1 e,XJ G,?_⟩;obtain rfl|A:=A
                 .left;rfl
                 .right;cases s with
                  |nil=>exact absurd j Y
                  |cons c s=>
                   have W:=G c au;simp[ps,jZ,List.head?_cons,ne_eq,Option.some.injEq]at A⊢;intro e;exact A (vO.1<|by show c.toNat=48;omega)),ald h.2.1]
def alg(n:Nat):b7 (eA n)=n:=by
 unfold eA b7;rw[ale<|XI n,ala]
def alh(n:Nat):jA (eA n):=alf<|XI n
def zT(n:Nat):eA n≠[]:=λh=>ak9 n<|vV.1 h
def XK(h:jA s):(47:ci)∉s:=λhm=>by have:=h _ hm;simp at this
def cutAt:ac ci->ac ci×be (ac ci)
 |[]=>([],none)
 |c::s=>if c=47 then([],some s)else(c::(cutAt s).1,(cutAt s).2)
theorem Hc:∀{s p q:ac ci},(47:ci)∉p->s=p++47::q->cutAt s=(p,some q)
 |_,[],q,_,rfl=>rfl
 |_,c::p,q,h,rfl=>by
  have:=Hc (q:=q) (λhm=>h<|fq _ hm) j;show(if c=47 then _ else(c::(cutAt<|p++47::q).1,(cutAt<|p++47::q).2))=_;rw[av λe=>h<|by simp[e],this]
theorem XL:∀{s:ac ci},(47:ci)∉s->cutAt s=(s,none)
 |[],_=>rfl
 |c::s,h=>by
  show(if c=47 then _ else _)=_;rw[av λe=>h<|by simp[e],XL λhm=>h<|fq _ hm]
theorem Hd(s:ac ci):(47:ci)∉(cutAt s).1/\(∀q,(cutAt s).2=some q->s=(cutAt s).1++47::q)/\((cutAt s).2=none->s=(cutAt s).1):=by
 induction s with
 |nil=>exact as1 as1
 |cons c s I=>
  by_cases W:c=47
  .grind [cutAt]
  .have e:cutAt (c::s)=(c::(cutAt s).1,(cutAt s).2):=av W;have⟨Y,G,A⟩:=I;rw[e];refine⟨λhm=>(fh.1 hm).elim (λe=>W e.symm) Y,λq h=>?_,λh=>?_⟩
   .show c::s=c::((cutAt s).1++47::q);rw[<-G q h]
   .show c::s=c::(cutAt s).1;rw[<-A h]
def dk(s:ac ci):Bool×ac ci:=match s with
 |[]=>(false,[])
 |c::t=>if c=45 then(true,t)else(false,c::t)
def hN(n:Bool)(p:Nat):Int:=if n then -(p:Int)else p
def dK(s:ac ci):be Rat:=
 if hM (cutAt (dk s).2).1/\¬((dk s).1=true/\(cutAt (dk s).2).1=[48])then match(cutAt (dk s).2).2 with
  |none=>some (mkRat (hN (dk s).1<|b7 (cutAt (dk s).2).1) 1)
  |some q=>if hM q/\q≠[48]/\q≠[49]/\Nat.gcd (b7 (cutAt (dk s).2).1) (b7 q)=1 then some (mkRat (hN (dk s).1<|b7 (cutAt (dk s).2).1)<|b7 q)else none
 else none
def kc(x:Rat):ac ci:=(if x.num<0 then[45]else[])++eA x.num.natAbs++(if x.den=1 then[]else 47::eA x.den)
theorem sG(h:hM s)(bX:b7 s=0):s=[48]:=by rw[<-Hb h,bX];rfl
def XM(h:hM s)(bX:b7 s=1):s=[49]:=by
 rw[<-Hb h,bX];show hs (dec 1)=_;rw[dec,nL ai ai,g1];rfl
theorem MH(n:Int)(d:Nat)(h:d≠0):(mkRat n d).num=n/((n.natAbs.gcd d:Nat):Int)/\(mkRat n d).den=d/n.natAbs.gcd d:=by
 exact arW
theorem nP(n:Bool)(p:Nat):(hN n p).natAbs=p:=by cases n<;>simp[hN]
theorem XN{n:Bool}{p q:Nat}(aj:n=true->p≠0)(cD:q≠0)(O:Nat.gcd p q=1):kc (mkRat (hN n p) q)=(if n=true then[45]else[])++eA p++(if q=1 then[]else 47::eA q):=by
 grind [MH,hN,nP,kc]
def ali{u R v bE:ac ci}(h:(47:ci)∉u)(D:(47:ci)∉R)(e:u++47::v=R++47::bE):v=bE:=by
 have:=Hc (q:=v) h j;rw[e,Hc D j]at this;simpa using(congrArg Prod.snd this).symm
theorem alj{n:Bool}{q:ac ci}(hp:hM p)(cD:hM q)(aj:¬(n=true/\p=[48]))(bX:q≠[48])(aC:q≠[49]):
 kc (mkRat (hN n<|b7 p)<|b7 q)=(if n=true then[45]else[])++p++47::q↔Nat.gcd (b7 p) (b7 q)=1:=by
 have jw:b7 q≠0:=λe=>bX<|sG cD e;have W:b7 q≠1:=λe=>aC<|XM cD e;have bT:(47:ci)∉(if n=true then[45]else[])++p:=λhm=>by
  obtain h|h:=gA.1 hm
  .cases n<;>simp at h
  .exact XK hp.2.1 h
 constructor
 .intro h;have⟨G,A⟩:=MH (hN n<|b7 p) (b7 q) jw;rw[nP]at A;have X:∀(b:Prop) [Decidable b] k,47∉(if b then[45]else[])++eA k:=λb _ k hm=>by
   obtain h|h:=gA.1 hm
   .split at h<;>simp at h
   .exact XK (alh k) h
  rw[kc]at h;by_cases T:(mkRat (hN n<|b7 p)<|b7 q).den=1
  .rw[aD T,rP]at h;exact absurd (h▸X _ _) au
  .rw[av T]at h;have z:(mkRat (hN n<|b7 p)<|b7 q).den=b7 q:=by rw[<-alg (mkRat _ _).den,(ali (X _ _) bT h)]
   refine Nat.le_antisymm (v7 λh=>?_)<|Ot _ R;have:=AB (qu jw) h;omega
 .grind [XN,sG,Hb]
def alk{n:Bool}(hp:hM p)(aj:¬(n=true/\p=[48])):kc (mkRat (hN n<|b7 p) 1)=(if n=true then[45]else[])++p:=by
 rw[XN (λh e=>aj ⟨h,sG hp e⟩) ai<|DO _,aD j,rP,Hb hp]
open Go.bC
set_option maxRecDepth 100000
set_option maxHeartbeats 4000000
variable{x:Rat}{k d:Nat}{y:Rat}{q:Nat}
def alm{W:Nat}(ay:(aU 1000000000 b).length=m+1)(E:b<=W)(aW:W<1000000000*b):
 0<b/1000000000^m/\b/1000000000^m<1000000000/\W/1000000000^m/(b/1000000000^m+1)<=W/b/\W/b<=min ((W/1000000000^m+1)/(b/1000000000^m)) 999999999/\W/1000000000^m<1000000000*1000000000/\0<W/b/\W<1000000000^(m+2):=by
 have M:0<b:=R
 have Z:0<1000000000^m:=sV ai;have Y:=(xz (b:=1000000000) (n:=b) (i:=m) ai).1 R;have G:=G9 ai<|Nat.le_of_eq ay;have H:b=b/1000000000^m*1000000000^m+b%1000000000^m:=by rw[gP];exact(qx _ _).symm
 have f:W=W/1000000000^m*1000000000^m+W%1000000000^m:=by rw[gP];exact(qx _ _).symm
 have F:W<1000000000^(m+2):=by
  rw[g6,gP];exact e2 aW<|mh _ R
 refine⟨qu Y,?_,ak5 H R f M,?_,?_,AH E M,F⟩
 .exact v3 R
 .have A:=ak6 H R f (qu Y) Z;have T:W/b<1000000000:=v3 R;omega
 .refine v3 ?_;rw[show m+2=m+(1+1)from rfl,iA,iA]at F;exact F
def xC(bX:d≠0)(h:d<1000000000):aU 1000000000 d=[d]:=by
 rw[nL ai bX,gR h,rR h,g1]
def MI{r:Nat}(h:d<1000000000):fg (d::aU 1000000000 r)=aU 1000000000 (d+1000000000*r):=by
 rw[xu (b:=1000000000) ai (λx O=>by
  rcases fh.1 O with rfl|O
  .exact h
  .exact hb ai r x O)]
 simp[val];rw[gx ai]
def XO:jf a b<=0↔a<=b:=by
 unfold jf;split
 .omega
 .split<;>omega
def aln{i:Nat}{jN:ac Nat}:(List.replicate (i+1) 0++jN).set i d=List.replicate i 0++d::jN:=by
 rw[List.replicate_succ'];simp
def MJ(xs jN:ac Nat)(b m i W:Nat)(e:bP):cb:=⟨[.a 2 false 1 Nat ga<|List.replicate (i+1) 0++jN],1,(0,dy xs)::(1,dy<|aU 1000000000 b)::(6,.aH 0 1 0 xs.length xs.length)::(7,.aa ((m+1:Nat):Int))::(8,dj W)::(9,.aa i)::e⟩
def CT:bl 202 (bV λ((a,b):Nat×Nat)=>([dj a,dj b],ej 268435456 a/\ej 268435456 b/\b≠0,.bc [dj<|a/b,dj<|a%b])):=by
 refine bL [pr,lJ,kN,vk] VP.1 ?_;intro⟨a,b⟩ ⟨(A:(aU _ a).length<=_),(C:(aU _ b).length<=_),(M:b≠0)⟩ H aq;have Y:=hb (b:=1000000000) ai a;have aX:=gx (b:=1000000000) ai a;obtain⟨m,hm⟩:∃m,(aU 1000000000 b).length=m+1:=⟨(aU 1000000000 b).length-1,by
  have:(aU 1000000000 b).length≠0:=λe=>M<|(oC ai).1<|nZ e;omega⟩
 have ar:=XA (b:=1000000000) ai hm;show bM.ok _ ⟨_,_,⟨_,_,[(0,dy<|aU 1000000000 a),(1,dy<|aU 1000000000 b)]⟩⟩;generalize a2:aU 1000000000 a=xs at *;refine I 10<|nF ga 0 ?_;refine st ?_;rw[hm];refine e5 8 (dy []) j bz.nl<|aJ 8 (dj 0) j (by unfold dj;rw[g1]) ?_;refine ea (L:=Nat×ac Nat×Nat) (λ(k,t,r)=>k+t.length=xs.length/\Ok 1000000000 t/\r<b/\val 1000000000 (xs.drop k)=val 1000000000 t*b+r)
  (λ((k:Nat),(t:ac Nat),(r:Nat))=>⟨[.a 2 false 1 Nat ga<|List.replicate k 0++t],1,[(0,dy xs),(1,dy<|aU 1000000000 b),(6,.aH 0 1 0 xs.length xs.length),(7,.aa ((m+1:Nat):Int)),(8,dj r),(9,.aa<|(k:Int)-1)]⟩)
  (λl=>l.1) [0] (xs.length,[],0) ⟨au,λx O=>by simp at O,R,by simp[val]⟩ apM ?_ ?_
 .exact ik ⟨j,j,j,j,j,kt,az⟩ ⟨_,j,au,λ_=>j⟩
 rintro⟨k,t,r⟩ ⟨a7,K,aw,S⟩;cases k with
 |zero=>
  refine I 16<|h5 99 ?_;refine aS pr t (by show t.length<=_;omega)<|I 6<|cC ?_;show ag.bc [dy<|fg t,dj r]=ag.bc [dj<|a/b,dj<|a%b];rw[iB,aX]at S;have aP:=Nat.div_mod_unique (qu M) (a:=a) (c:=r) (d:=val 1000000000 t);obtain⟨aF,z⟩:=aP.2 ⟨by rw[S,gP];exact ua _ _,aw⟩;rw[xu ai K,aF,z];rfl
 |succ i=>
  have O:i<xs.length:=R
  have an:=Y _<|dH O;obtain⟨W,E⟩:∃W,W=xs[i]+1000000000*r:=dN;have aK:W<1000000000*b:=R
  have ao:∀q ak:Nat,q*b+ak=W->val 1000000000 (xs.drop i)=val 1000000000 (q::t)*b+ak:=λq ak h=>by
   rw[fj O];simp only[val];rw[S,fb,iM,iZ];omega
  have al:=je ai<|Nat.lt_trans aw<|sE C;refine aJ 9 (.aa (i:Nat)) j fG<|I 16<|aJ 23 (.b true) j au<|gZ (L:=Unit) (λ_=>True) (λ_=>MJ xs t b m i W []) ?_ ?_
  .refine st ?_;refine eW xs[i] (aO O) j<|I 3<|ks 1 ga [xs[i]] ?_;by_cases ay:r=0
   .subst ay;refine aJ 31 (dy []) j (by unfold dj;rw[g1])<|xc (ah:=ga) atu ?_;refine h5 32 ?_;refine aS pr [xs[i]] (by show 1<=_;decide)<|I 2<|bB [0] () az (bk (aI:=⟨j,j,j,j,congrArg (λl=>some<|dy l) ?_,j,az⟩));have:=MI (d:=xs[i]) (r:=0) an;rw[g1]at this;rw[E];exact this
   .have ax:aU 1000000000 r≠[]:=λe=>ay<|(oC ai).1 e;have B:0<(aU 1000000000 r).length:=oV.2 ax;have al:(aU 1000000000 r).length<=268435456:=al;refine zr (ah:=ga) (aU 1000000000 r) atu (xs[i]::aU 1000000000 r) ?_ (bX:=ax);refine h5 32 ?_;refine aS pr (xs[i]::aU 1000000000 r) (by show(aU _ r).length+1<=_;omega)<|I 2<|bB [0] () az (bk (aI:=⟨j,j,j,j,congrArg (λl=>some<|dy l) ?_,j,az⟩));rw[E];exact MI an
  intro _ _;have aj:ej 268435457 W:=by
   have:=MI (d:=xs[i]) (r:=r) an;have G:=WG<|xs[i]::aU 1000000000 r;rw[this,<-E]at G;exact ch G<|Nat.succ_le_succ al
  refine I 5<|aS lJ (W,b) ⟨c7 aj,c7 C⟩<|I 3<|cT (λh=>?_) λh=>?_
  .have h:W<b:=zN h;refine I 9<|bB [0] (i,0::t,W) ⟨au,by simp;omega,?_,h,ao 0 W R⟩ (bk (aC:=⟨⟨_,j,by rw[List.replicate_succ',sY];rfl,λ_=>j⟩,az⟩));intro x O;rcases fh.1 O with rfl|O
   .decide
   .exact K x O
  have g:b<=W:=zO h;obtain⟨Q,a8,aA,aB,a9,b',aD⟩:=alm hm g aK;have Fo:m<(aU 1000000000 W).length:=(xz ai).2 (by have:=Nat.div_le_div_right (c:=1000000000^m) g;omega);have a3:=je (b:=1000000000) ai aD;have X:∃V:Nat,(aU 1000000000 W)[m]? =some V/\(((aU 1000000000 W).length=m+1/\V=W/1000000000^m)\/((aU 1000000000 W).length=m+2/\∃y:Nat,(aU 1000000000 W)[m+1]? =some y/\V+1000000000*y=W/1000000000^m)):=by
   rcases(show(aU 1000000000 W).length=m+1\/(aU 1000000000 W).length=m+2 by omega)with h|h
   .exact⟨_,XA ai h,.inl ⟨h,j⟩⟩
   .obtain⟨ab,ad,a0⟩:=ak7 (b:=1000000000) ai (show m+1<_ by omega) aD;exact⟨_,ab,.inr ⟨h,_,ad,a0⟩⟩
  generalize aZ:b/1000000000^m=v at *;generalize a5:W/1000000000^m=w at *;obtain⟨V,aE,X⟩:=X;refine I 7<|cj 40 (m:Nat)<|eW V aE j ?_;refine dW 10 ?_
  iterate 3 refine fE j ?_
  refine gZ (L:=Unit) (λ_=>True) (λ_=>MJ xs t b m i W [(10,.aa (w:Nat))]) ?_ ?_
  .refine I 8 ?_;rcases X with⟨ab,ad⟩|⟨ab,y,ad,a0⟩
   .exact aJ 46 (.b false) j (by rw[ab];simp)<|I 2<|bB [0] () az bk
   .refine aJ 46 (.b true) j (by rw[ab];simp)<|I 5<|eW y ad j<|I 5<|bB [0] () az (bk (aI:=⟨j,j,j,j,j,j,?_,az⟩));exact congrArg (λn=>some<|ag.aa n)<|by rw[gn (n:=1000000000*(y:Int)) R R,gn R R];omega
  intro _ _;refine I 6<|ww 57 (m:Nat)<|fy v ar j<|I 2 (ww 60 ((v+1:Nat):Int)<|RW ?_);refine I 2<|ww 63 ((w+1:Nat):Int)<|I 3 (ww 66 (m:Nat)<|fy v ar j<|I 1<|RW ?_);refine I 1 ?_;obtain⟨bm,T⟩:∃bm,bm=w/(v+1):=dN;obtain⟨af,N⟩:∃af,af=min ((w+1)/v) 999999999:=dN;rw[<-T]at aA;rw[<-N]at aB;refine dF 61 (.aa (bm:Nat)) j j (by rw[T])<|dF 70 (.aa (af:Nat)) j j (by rw[N];exact fG<|by generalize(w+1)/v=u;omega) ?_;have aG:af<=999999999:=by generalize(w+1)/v=u at *;omega
  have aR:∀d:Nat,d≠0->d<1000000000->ej 268435457 (b*d):=λd F h=>lK (k:=268435456) (l:=1) C (by show(aU _ d).length<=1;rw[xC F h];exact cf _);generalize o:W/b=q at *;have Z:0<b:=qu M;refine I 6<|eS (L:=Nat×Nat) (λ(l,h)=>l<=q/\q<=h/\h<=999999999) (λ((l:Nat),(h:Nat))=>MJ xs t b m i W [(11,.aa l),(12,.aa h)]) (λl=>l.2-l.1) [0] (bm,af) ⟨aA,aB,aG⟩ ?_;rintro⟨l,h⟩ ⟨ab,ad,a0⟩;refine I 8<|cT (λaW=>?_) λaW=>?_
  .have aW:l<h:=by omega
   obtain⟨f,aL⟩:∃f,f=(l+h+1)/2:=dN;refine I 8<|cj 76 ((l+h:Nat):Int)<|I 1<|cj 77 ((l+h+1:Nat):Int)<|I 1<|aJ 78 (.aa (f:Nat)) j (by rw[aL];show ag.i _ (IntKind.i64.wrap (((l+h+1)/2:Nat):Int))=_;exact eV j R R) ?_;have P:f≠0:=R
   have a':f<1000000000:=R
   refine I 8<|ks 1 ga [f] ?_;refine h5 81 ?_;refine aJ 81 (dj f) j (by unfold dj;rw[xC P a'];rfl)<|aS kN (b,f) ⟨c7 C,by show(aU _ f).length<=_;rw[xC P a'];exact ib j⟩<|I 1<|aS lJ (b*f,W) ⟨c7<|aR f P a',c7 aj⟩<|I 3 ?_;have av:b*f<=W↔f<=q:=by rw[<-o,vX Z,gP]
   refine cT (λae=>?_) λae=>?_
   .have ae:=av.1<|XO.1 ae;exact I 5<|iV [0] (f,h) ⟨ae,ad,a0⟩
   .have ae:q<f:=Nat.lt_of_not_le λD=>ae<|XO.2<|av.2 D;exact I 6<|bB [0] (l,f-1) ⟨by show f-1-l<h-l;omega,ab,by show q<=f-1;omega,by show f-1<=_;omega⟩ bk
  .have aT:l=q:=by omega
   subst aT;have a':l<1000000000:=R
   have P:l≠0:=R
   have J:b*l<=W:=by rw[<-o];exact Nat.mul_div_le W b
   refine I 10<|lF j j<|kI l ?_;refine I 7<|ks 1 ga [l] ?_;refine h5 96 ?_;refine aJ 96 (dj l) j (by unfold dj;rw[xC P a'];rfl)<|aS kN (b,l) ⟨c7 C,by show(aU _ l).length<=_;rw[xC P a'];exact ib j⟩<|aS vk (W,b*l) ⟨c7 aj,J⟩<|I 9 ?_;have aM:W-b*l=W%b:=by have:=qx W b;rw[o]at this;omega
   refine bB [0] (i,l::t,W-b*l) ⟨au,by simp;omega,?_,by rw[aM];exact eY _ Z,ao l _<|by rw[gP l b];omega⟩<|bk (aC:=⟨⟨_,j,by rw[aln],λ_=>j⟩,az⟩);intro x O;rcases fh.1 O with rfl|O
   .exact a'
   .exact K x O
def nQ(h:ej k b)(aB:a<=b):ej k a:=je ai<|mT aB<|sE h
def qg(h:ej k a):bG a<=30*k:=ch Xz.2<|mh _ h
def He:(aU 1000000000 n).length=0↔n=0:=by rw[IF];exact oC ai
def xD(x y t:Nat):cb:=⟨[],0,[(0,dj x),(1,dj y),(5,.aa t)]⟩
def XP:bl 201 (bV λ((a,b):Nat×Nat)=>([dj a,dj b],ej 268435456 a/\ej 268435456 b/\b≠0,dj<|Nat.gcd a b)):=by
 refine bL [CT,CS,CR,lJ,vk,zQ] UY.1 ?_;intro⟨a,b⟩ ⟨(ar:ej _ a),(C:ej _ b),(M:b≠0)⟩ H aq;refine st ?_;refine aS CT (a,b) ⟨ar,C,M⟩<|st ?_;have al:a%b<b:=eY _<|qu M;have O:Nat.gcd (a%b) b=Nat.gcd a b:=by rw[vY a b,Nat.gcd_rec b a]
 have ab:ej 268435456 (a%b):=nQ C<|pF al;generalize aw:a%b=V at *;refine cT (λh=>?_) λh=>?_
 .have h:V=0:=He.1 R;subst h;refine st ?_;exact cC<|by show dj b=dj (Nat.gcd a b);rw[<-O,IK]
 have h:V≠0:=λe=>h (by rw[e,g1];rfl);refine st ?_;refine iI (L:=Nat×Nat×Nat) (λ(x,y,t)=>x≠0/\y≠0/\ej 268435456 x/\ej 268435456 y/\t<=10000000000/\2^t*Nat.gcd x y=Nat.gcd a b/\Nat.gcd x y%2=1) (λ(x,y,t)=>xD x y t) ?_ ?_
 .refine ea (L:=Nat×Nat×Nat) (λ(x,y,t)=>x≠0/\y≠0/\ej 268435456 x/\ej 268435456 y/\t+bG x<=10000000000/\2^t*Nat.gcd x y=Nat.gcd a b) (λ(x,y,t)=>xD x y t) (λl=>bG l.1) [] (V,b,0) ⟨h,M,ab,C,by have:=qg ab;show 0+_<=_;omega,by rw[DM,sS,O]⟩ (by have:=qg ab;show bG V<bs+1;unfold bs;omega) bk ?_;rintro⟨x,y,t⟩ ⟨a',I,a0,cJ,c2,eC⟩;refine st ?_;refine aS CS x az<|st ?_;by_cases f:x%2=1
  .refine aJ 20 (.b false) j (by rw[cm f];rfl)<|st ?_;exact as7
  refine aJ 20 (.b true) j (by rw[cp f];rfl)<|st ?_;have f:x%2=0:=R
  refine aS CS y az<|st ?_;by_cases F:y%2=1
  .refine aJ 24 (.b false) j (by rw[cm F];rfl)<|st ?_;exact as7
  refine aJ 24 (.b true) j (by rw[cp F];rfl) ?_;have F:y%2=0:=R
  refine st ?_;refine aS CR x (c7 a0)<|st ?_;refine aS CR y (c7 cJ)<|st ?_;have aj:=ve (n:=x) R;have av:=gcd_both f F;exact bB [] (x/2,y/2,t+1) ⟨by show bG (x/2)<bG x;omega,by show x/2≠0;omega,by show y/2≠0;omega,nQ a0<|ki _ _,nQ cJ<|ki _ _,by show t+1+bG (x/2)<=_;omega,by rw[g6,iZ,av];exact eC⟩ bk
 rintro⟨X,v,t⟩ ⟨a',I,a0,cJ,c2,eC,fv⟩;obtain⟨g,P⟩:∃g,g=Nat.gcd X v:=dN;rw[<-P]at eC fv;refine st ?_;refine iI (L:=Unit) (λ_=>True) (λ_=>⟨[],0,[(1,dj g),(5,.aa t)]⟩) ?_ ?_
 .refine ea (L:=Nat×Nat) (λ(x,y)=>y≠0/\ej 268435456 x/\ej 268435456 y/\Nat.gcd x y=g) (λ(x,y)=>xD x y t) (λl=>2*(bG l.1+bG l.2)+l.1%2) [] (X,v) ⟨I,a0,cJ,P.symm⟩ (by have:=qg a0;have:=qg cJ;show 2*(bG X+bG v)+X%2<bs+1;unfold bs;omega) bk ?_;rintro⟨x,y⟩ ⟨Y,G,A,T⟩;refine st ?_;refine cT (λB=>?_) λB=>?_
  .have o:x≠0:=λe=>by rw[e,g1]at B;simp at B
   refine st ?_;refine iI (L:=Nat) (λS=>S%2=1/\ej 268435456 S/\Nat.gcd S y=g/\2*bG S<=2*bG x+x%2-1) (λS=>xD S y t) ?_ ?_
   .refine ea (L:=Nat) (λS=>S≠0/\ej 268435456 S/\Nat.gcd S y=g/\bG S<=bG x/\(S=x\/bG S<bG x)) (λS=>xD S y t) bG [] x ⟨o,G,T,cf _,.inl j⟩ (by have:=qg G;show bG x<bs+1;unfold bs;omega) bk ?_;rintro S ⟨bJ,K,Q,ak,z⟩;refine st ?_;refine aS CS S az<|st ?_;refine zq (λE=>?_) λE=>?_
    .have aj:=ve (n:=S) R;have E:S%2=0:=by omega
     refine st ?_;refine aS CR S (c7 K)<|st ?_;exact bB [] (S/2) ⟨by show bG (S/2)<bG S;omega,R,nQ K<|ki _ _,by rw[XB E<|by rw[Q];exact fv];exact Q,R,.inr R⟩ bk
    .refine st ?_;exact bB [] S ⟨E,K,Q,by rcases z with rfl|z<;>omega⟩ bk
   rintro S ⟨bJ,K,Q,ak⟩;refine st ?_;refine iI (L:=Nat) (λN=>N%2=1/\ej 268435456 N/\Nat.gcd S N=g/\bG N<=bG y) (λN=>xD S N t) ?_ ?_
   .refine ea (L:=Nat) (λN=>N≠0/\ej 268435456 N/\Nat.gcd S N=g/\bG N<=bG y) (λN=>xD S N t) bG [] y ⟨Y,A,Q,cf _⟩ (by have:=qg A;show bG y<bs+1;unfold bs;omega) bk ?_;rintro N ⟨an,c,w,ad⟩;refine st ?_;refine aS CS N az<|st ?_;refine zq (λE=>?_) λE=>?_
    .have aj:=ve (n:=N) R;have E:N%2=0:=by omega
     refine st ?_;refine aS CR N (c7 c)<|st ?_;exact bB [] (N/2) ⟨by show bG (N/2)<bG N;omega,R,nQ c<|ki _ _,by rw[ak8 E<|by rw[w];exact fv];exact w,R⟩ bk
    .refine st ?_;exact bB [] N ⟨E,c,w,ad⟩ bk
   rintro N ⟨an,c,w,ad⟩;refine st ?_;by_cases ao:N=1
   .subst ao;rw[DO]at w;refine aJ 1 (dy [1]) j (by unfold dj;rw[vl]) ?_;refine aJ 47 (.b true) j (by rw[vl];rfl)<|st ?_;refine l3 (J:=0) 1 j ?_;refine st ?_;exact bB [] () az<|k3 ⟨by rw[<-w];unfold dj;rw[vl];rfl,j,az⟩
   refine gZ (L:=Unit) (λ_=>True) (λ_=>⟨[],0,[(0,dj S),(1,dj N),(5,.aa t),(52,.b false)]⟩) ?_ ?_
   .by_cases ah:(aU 1000000000 N).length=1
    .have ae:N<1000000000:=sE (k:=1)<|Nat.le_of_eq ah;refine aJ 47 (.b true) j (by rw[ah];rfl) ?_;refine aJ 1 (dy [N]) j (by unfold dj;rw[xC R ae])<|st ?_;refine l3 (J:=0) N j ?_;refine st ?_;exact bB [] () az<|k3 ⟨j,by unfold dj;rw[xC R ae];rfl,j,congrArg (λb=>some<|ag.b b)<|cp R,az⟩
    .refine cI 47<|st ?_;exact bB [] () az bk
   intro _ _;refine st ?_;refine aS lJ (S,N) ⟨c7 K,c7 c⟩<|st ?_;have ax:=ve (n:=S) R;refine cT (λW=>?_) λW=>?_
   .have W:=zN W;refine st ?_;refine aS vk (N,S) ⟨c7 c,pF W⟩<|st ?_;have Z:=Mr<|ud N S;exact bB [] (N-S,S) ⟨by show 2*(bG (N-S)+bG S)+(N-S)%2<2*(bG x+bG y)+x%2;omega,by show S≠0;omega,nQ c<|ud _ _,K,by rw[XC<|pF W,vY];exact w⟩ bk
   .have W:=zO W;refine st ?_;refine aS vk (S,N) ⟨c7 K,W⟩<|st ?_;have Z:=Mr<|ud S N;exact bB [] (S-N,N) ⟨by show 2*(bG (S-N)+bG N)+(S-N)%2<2*(bG x+bG y)+x%2;omega,by show N≠0;omega,nQ K<|ud _ _,c,by rw[XC W];exact w⟩ bk
  .have o:x=0:=He.1 R;subst o;rw[IK]at T;refine st ?_;exact bB [] () az<|k3 ⟨by rw[<-T];rfl,j,az⟩
 intro _ _;refine st ?_;refine ea (L:=Nat) (λi=>i<=t) (λ(i:Nat)=>⟨[],0,[(1,dj<|2^i*g),(5,.aa t),(6,.aa i)]⟩) (λi=>t-i) [] 0 (c8 _) (by show t-0<bs+1;unfold bs;omega) (k3 ⟨by rw[DM,sS];rfl,j,j,az⟩) ?_;intro(i:Nat) af;refine st ?_;refine cT (λh=>?_) λh=>?_
 .have h:i<t:=by omega
  have D:2^i*g<=b:=ch (hV g<|j0 ai af) (by rw[eC];exact IG _<|qu M);refine st ?_;refine aS zQ (2^i*g,2^i*g) ⟨c7<|nQ C D,c7<|nQ C D⟩<|st ?_;exact bB [] (i+1) ⟨by show t-(i+1)<t-i;omega,h⟩<|k3 ⟨congrArg (λn=>some<|dj n)<|by rw[g6,gP (2^i) 2,iZ];omega,j,kt,az⟩
 .have au:i=t:=by omega
  subst au;refine st ?_;exact bn<|ep j j (.of<|by show dj _=dj _;rw[eC])
def XQ:bz (.agg [.aa 0,.nl,.nl]) (c0 0):=bz.agg ⟨.refl _,bz.nl.trans (.of<|by show dy []=dy (aU _ 0);rw[g1]),bz.nl,az⟩
def XR{n:Bool}{p:Nat}(hp:p≠0)(cD:q≠0):c0 (mkRat (if n then -(p:Int)else p) q)= .agg [.aa (if n then -1 else 1),dj<|p/p.gcd q,dj<|q/p.gcd q]:=by
 obtain⟨Y,G⟩:=W7 hp cD;have T:=AH (Nat.le_of_dvd R<|AI p q)<|IE _ R;rw[c0,Y,G];cases n
 .simp only[qp,if_false];rw[av R,sW R];rfl
 .simp only[if_true];rw[av R,yk R,II];rfl
def MK:df:=bV λ((s,p,q):Int×Nat×Nat)=>([.aa s,dj p,dj q],-1<=s/\s<=1/\ej 268435456 p/\ej 268435456 q/\q≠0,c0<|mkRat (s*p) q)
def alo{s:Int}{p:Nat}(aC: -1<=s)(aI:s<=1)(M:s≠0)(hp:p≠0)(cD:q≠0):c0 (mkRat (s*p) q)= .agg [.aa s,dj<|p/p.gcd q,dj<|q/p.gcd q]:=by
 rcases(show s=1\/s= -1 by omega)with rfl|rfl
 .have:=XR (n:=false) hp cD;rw[Int.one_mul];exact this
 .have:=XR (n:=true) hp cD;rw[AL,Int.one_mul];exact this
def zU:jf a b=0↔a=b:=by
 rw[jf];split
 .omega
 .split<;>omega
def CU:ej 1073741824 1:=aqQ
def l8:bl 117 MK:=by
 refine bL [ng,lJ,XP,CT] Tm.1 ?_;intro⟨s,p,q⟩ ⟨(Y: -1<=s),(G:s<=1),(hp:ej _ p),(E:ej _ q),(o:q≠0)⟩ H aq;have zero:s*(p:Int)=0->bz (.agg [.aa 0,.nl,.nl]) (MK.res (s,p,q)):=λh=>XQ.trans (.of<|by show c0 0=c0 (mkRat (s*p) q);rw[h,Rat.zero_mkRat]);refine I 12 ?_;by_cases t:p=0
 .exact aJ 11 (.b true) j (by show ag.b (decide (((aU 1000000000 p).length:Int)=0))=_;rw[cm (by have:=He.2 t;omega)])<|I 14<|bp (zero<|by rw[t];simp)
 refine aJ 11 (.b false) j (by show ag.b (decide (((aU 1000000000 p).length:Int)=0))=_;rw[cp (by have:=mt He.1 t;omega)])<|I 4 ?_;by_cases R:s=0
 .exact v1 13 R<|I 12<|bp (zero<|by rw[R];simp)
 refine v0 13 R ?_;have f:=alo Y G R t o;have fin:∀{D K:Nat},D=p/p.gcd q->K=q/p.gcd q->bz (.agg [.aa s,dj D,dj K]) (MK.res (s,p,q)):=λS z=>.of (by rw[S,z];exact f.symm);refine I 10<|aS ng () az<|aS lJ (p,1) ⟨c7 hp,CU⟩<|I 2 ?_;by_cases g:p=1
 .exact v1 20 (zU.2 g)<|I 19<|bn (ep j j (fin (by rw[g];simp)<|by rw[g];simp))
 refine v0 20 (mt zU.1 g)<|I 3<|aS ng () az<|I 1<|aS lJ (q,1) ⟨c7 E,CU⟩<|I 2 ?_;by_cases B:q=1
 .exact v1 24 (zU.2 B)<|I 15<|bn (ep j j (fin (by rw[B];simp)<|by rw[B];simp))
 refine v0 24 (mt zU.1 B) ?_;have O:0<p.gcd q:=Ot _<|qu o;have e:ej 268435456 (p.gcd q):=nQ E<|IG _<|qu o;refine I 10<|aS XP (p,q) ⟨hp,E,o⟩<|I 7<|aS ng () az<|aS lJ (p.gcd q,1) ⟨c7 e,CU⟩<|I 3<|gZ (L:=Nat×Nat) (λ(D,K)=>D=p/p.gcd q/\K=q/p.gcd q) (λ(D,K)=>⟨[.c 105 [.aa 0,.nl,.nl]],1,[(0,.aa s),(1,dj D),(2,dj K),(6,.p 0 0)]⟩) ?_ ?_
 .refine cT (λW=>?_) λW=>?_
  .exact I 4<|aS CT (p,p.gcd q) ⟨hp,e,by show p.gcd q≠0;omega⟩<|I 9<|aS CT (q,p.gcd q) ⟨E,e,by show p.gcd q≠0;omega⟩<|I 5<|dD [0] (p/p.gcd q,q/p.gcd q) fe
  .have W:p.gcd q=1:=zU.1<|Decidable.not_not.1 W;exact I 1<|dD [0] (p,q) ⟨by rw[W,yj],by rw[W,yj]⟩
 rintro⟨D,K⟩ ⟨S,z⟩;exact I 10<|bp (fin S z)
def XS(h:n<18446744073709551616):ej 3 n:=je ai R
def vm:bl 46 (bV λ(n:Int)=>([.aa n],-9223372036854775808<=n/\n<9223372036854775808,c0<|mkRat n 1)):=by
 refine bL [ME,ng,l8] Tb.1 ?_;intro(n:Int) ⟨Y,G⟩ H aq;have W:ej 268435456 1:=aqQ
 refine I 12<|cT (λh=>?_) λh=>?_
 .obtain⟨m,hm⟩:∃m:Nat,m=n.natAbs:=dN;refine I 4<|cj 6 (n+1)<|I 1<|cj 7 ↑(m-1)<|I 2 ?_;have v:((m-1)%18446744073709551616+1)%18446744073709551616=m:=by omega
  exact xq 9 .u64 v<|aS ME m (by show m<_;omega)<|aS ng () az<|aS l8 (-1,m,1) ⟨ai,ai,c7<|XS R,W,ai⟩<|I 5<|bn (ep j j (.of<|by show c0 _=c0 _;rw[show -1*m=n by omega]))
 .obtain⟨m,hm⟩:∃m:Nat,n=(m:Int):=⟨n.toNat,R⟩;subst hm;exact I 6<|aJ 14 (.i .u64 m) j fG<|aS ME m (by show m<_;omega)<|aS ng () az<|aS l8 (1,m,1) ⟨ai,ai,c7<|XS R,W,ai⟩<|I 4<|bn (ep j j (.of<|by show c0 _=c0 _;rw[Int.one_mul]))
def ML{s:Int}(h:s*(k:Int)=x.num*y.den+y.num*x.den):mkRat (s*k) (x.den*y.den)=x+y:=by rw[h,AK]
def XT(n:Int):n=n.sign*(n.natAbs:Int):=(AJ n).symm
def oF(x:Rat):ac ag:=[.aa x.num.sign,dj x.num.natAbs,dy (if x.num=0 then[]else aU 1000000000 x.den)]
def Hf:bl 200 (bV λ((x,y):Rat×Rat)=>([c0 x,c0 y],eT 67108864 x/\eT 67108864 y,c0<|x+y)):=by
 refine bL [la,kN,zQ,vk,lJ,l8] Ub.1 ?_;intro⟨x,y⟩ ⟨(O:eT _ x),(T:eT _ y)⟩ H aq;have Z:ej 134217728 (x.num.natAbs*y.den):=lK O.1 T.2;have R:ej 134217728 (y.num.natAbs*x.den):=lK T.1 O.2;have C:ej 134217728 (x.den*y.den):=lK O.2 T.2;have A:x.den*y.den≠0:=n6 x.den_nz y.den_nz;have z:=xA x.num;have S:=xA y.num;refine I 10<|ca la y az<|I 2<|ca kN (x.num.natAbs,y.den) ⟨c7 O.1,c7 T.2⟩<|I 1<|ca la x az<|I 2<|ca kN (y.num.natAbs,x.den) ⟨c7 T.1,c7 O.2⟩<|I 7<|ca la x az<|I 1<|ca la y az<|ca kN (x.den,y.den) ⟨c7 O.2,c7 T.2⟩<|I 10<|gZ (L:=Bool) (λt=>t=decide (x.num.sign=0\/y.num.sign=0\/x.num.sign=y.num.sign)) (λt=>⟨[.c 105<|oF x,.c 105<|oF y,.c 105 [.aa 0,.nl,.nl]],3,[(2,.p 0 0),(3,.p 1 0),(4,.p 2 0),(5,dj<|x.num.natAbs*y.den),(6,dj<|y.num.natAbs*x.den),(7,dj<|x.den*y.den),(38,.b t)]⟩) ?_ ?_
 .by_cases o:x.num.sign=0
  .exact v1 27 o<|I 12<|dD [0,1,2] true (by simp[o])
  refine v0 27 o<|I 8 ?_;by_cases V:y.num.sign=0
  .exact v1 32 V<|I 7<|dD [0,1,2] true (by simp[V])
  exact v0 32 V<|I 12<|dD [0,1,2] (decide (x.num.sign=y.num.sign)) (by simp only[o,V,false_or])
 intro t N;have ex:=XT x.num;have f:=XT y.num;by_cases W:x.num.sign=0\/y.num.sign=0\/x.num.sign=y.num.sign
 .refine aJ 38 (.b true) j (by rw[N,cm W])<|I 15<|gZ (L:=Int) (λs=> -1<=s/\s<=1/\s*((x.num.natAbs*y.den+y.num.natAbs*x.den:Nat):Int)=x.num*y.den+y.num*x.den) (λs=>⟨[.c 105<|oF x,.c 105<|oF y,.c 105 [.aa 0,.nl,.nl]],3,[(4,.p 2 0),(5,dj<|x.num.natAbs*y.den),(6,dj<|y.num.natAbs*x.den),(7,dj<|x.den*y.den),(8,.aa s)]⟩) ?_ ?_
  .refine cT (λh=>?_) λh=>?_
   .refine I 5<|dD [0,1,2] y.num.sign ⟨S.1,S.2,?_⟩;have F:x.num=0:=vZ.1 h
    conv=>rhs;rw[f]
    rw[F];simp[rS]
   .refine I 1<|dD [0,1,2] x.num.sign ⟨z.1,z.2,?_⟩;have M:y.num=x.num.sign*(y.num.natAbs:Int):=by
     rcases W with D|D|D
     .exact absurd D h
     .rw[vZ.1 D];simp
     .rw[D];exact f
    conv=>rhs;rw[ex,M]
    rw[Int.natCast_add,n1,n1,Int.mul_add,rS,rS]
  rintro s ⟨G,P,B⟩;exact I 5<|aS zQ (x.num.natAbs*y.den,y.num.natAbs*x.den) ⟨c7 Z,c7 R⟩<|I 1<|aS l8 (s,x.num.natAbs*y.den+y.num.natAbs*x.den,x.den*y.den) ⟨G,P,c7<|MD Z R,c7 C,A⟩<|I 5<|cC (congrArg c0<|ML B)
 .refine aJ 38 (.b false) j (by rw[N,cp W]) ?_;have e:y.num.sign= -x.num.sign:=by omega
  refine I 8<|aS lJ (x.num.natAbs*y.den,y.num.natAbs*x.den) ⟨c7 Z,c7 R⟩<|I 3 ?_;have key:∀(s:Int) (a b:Nat),b<=a->s*((a-b:Nat):Int)=s*a+(-s)*b:=λs a b h=>by rw[show((a-b:Nat):Int)=(a:Int)-b by omega,Int.mul_sub,AL];rfl
  refine cT (λh=>?_) λh=>?_
  .have aW:=zN h;refine I 4<|ca vk (y.num.natAbs*x.den,x.num.natAbs*y.den) ⟨c7 R,pF aW⟩<|I 3<|ca l8 (y.num.sign,y.num.natAbs*x.den-x.num.natAbs*y.den,x.den*y.den) ⟨S.1,S.2,c7<|nQ R<|ud _ _,c7 C,A⟩<|I 5<|cC (congrArg c0<|ML ?_);rw[key _ _ _<|pF aW]
   conv=>rhs;rw[ex,f]
   rw[e,n1,n1,Int.neg_neg,rS,rS,Int.add_comm]
  .have g:=zO h;refine I 6<|ca vk (x.num.natAbs*y.den,y.num.natAbs*x.den) ⟨c7 Z,g⟩<|I 3<|ca l8 (x.num.sign,x.num.natAbs*y.den-y.num.natAbs*x.den,x.den*y.den) ⟨z.1,z.2,c7<|nQ Z<|ud _ _,c7 C,A⟩<|I 4<|cC (congrArg c0<|ML ?_);rw[key _ _ _ g]
   conv=>rhs;rw[ex,f]
   rw[e,n1,n1,rS,rS]
def XU(h:eT k x):eT k (-x):=by
 rw[eT,DP,Rat.neg_den,II];exact h
def XV:bl 424 (bV λ((x,y):Rat×Rat)=>([c0 x,c0 y],eT 67108864 x/\eT 67108864 y,c0<|x-y)):=by
 apply bL [G4,Hf] V8.1;intro⟨x,y⟩ ⟨O,T⟩ H aq;exact I 10<|ca G4 y az<|I 1<|ca Hf (x,-y) ⟨O,XU T⟩<|I 4<|cC (by show c0 (x+ -y)=c0 (x-y);rw[DQ])
theorem Hg:bl 425 (bV λ((x,k):Rat×Int)=>([c0 x,.aa k],eT 67108864 x/\-100000000<=k/\k<=100000000,c0<|eQ x k)):=by
 refine bL [la,(434,(G6 1000000001).spec),kN,l8] V9.1 ?_;intro⟨x,k⟩ ⟨(O:eT _ x),(Y:_<=k),(G:k<=_)⟩ H aq;have z:=xA x.num;refine I 13<|cT (λh=>?_) λh=>?_
 .obtain⟨n,aj⟩:∃n:Nat,k= -(n:Int):=⟨(-k).toNat,R⟩;refine I 3<|ca la x az<|I 2 (ww 14 (n:Nat)<|ca (G7 1000000001) n ⟨by show n<_;omega,R⟩<|ca kN (x.den,2^n) ⟨c7 O.2,c7 (ry n) R⟩<|I 4<|ca l8 (x.num.sign,x.num.natAbs,x.den*2^n) ⟨z.1,z.2,c7 O.1,c7 (lK O.2<|ry n) R,n6 x.den_nz au⟩<|I 5<|cC (congrArg c0 ?_));unfold eQ
  grind
 .obtain⟨n,aj⟩:∃n:Nat,k=(n:Int):=⟨k.toNat,R⟩;subst aj;refine I 5<|ca (G7 1000000001) n ⟨by show n<_;omega,R⟩<|I 2<|ca kN (x.num.natAbs,2^n) ⟨c7 O.1,c7 (ry n) R⟩<|I 1<|ca la x az<|I 2<|ca l8 (x.num.sign,x.num.natAbs*2^n,x.den) ⟨z.1,z.2,c7 (lK O.1<|ry n) R,c7 O.2,x.den_nz⟩<|I 4<|cC (congrArg c0 ?_);unfold eQ
  grind
def zV:eT 1 (mkRat 1 1):=by
 show ej 1 1/\ej 1 1;rw[ej,vl];exact⟨cf _,cf _⟩
def jj{l:Nat}(h:eT k x)(aB:k<=l:=by decide):eT l x:=⟨c7 h.1 aB,c7 h.2 aB⟩
def sH:bl 411 (bV λ(k:Int)=>([.aa k],-100000000<=k/\k<=100000000,c0<|eQ (mkRat 1 1) k)):=by
 apply bL [vm,Hg] Vm.1;intro k ⟨Y,G⟩ H aq;exact I 7<|aS vm 1 aqq<|I 1<|aS Hg (mkRat 1 1,k) ⟨jj zV,Y,G⟩<|I 4<|eD
def XW:bl 206 (bV λ(x:Rat)=>([c0 x],eT 67108864 x,.b<|decide (x.den=1))):=by
 apply bL [la,ng,lJ] L5.1;intro x O N aq;exact I 9<|aS la x az<|aS ng () az<|aS lJ (x.den,1) ⟨c7 O.2,CU⟩<|I 5<|bn (ep j j (.of<|by congr 1;rw[decide_eq_decide];exact zU))
def xE(k:Int):(eQ (mkRat 1 1) k).num=2^k.toNat/\(eQ (mkRat 1 1) k).den=2^(-k).toNat:=by
 have v:(mkRat 1 1).num=1/\(mkRat 1 1).den=1:=fe;rw[eQ,v.1,v.2];split
 .have⟨Y,G⟩:=xv 1 (1*2^(-k).toNat) au;rw[Y,G,show k.toNat=0 by omega];simp
 .have⟨Y,G⟩:=xv (1*2^k.toNat) 1 ai;rw[Y,G,show(-k).toNat=0 by omega];simp
def MM{x:Rat}{k:Int}:jh x<eQ (mkRat 1 1) k↔x.num.natAbs*2^(-k).toNat<x.den*2^k.toNat:=by
 rw[Rat.lt_iff,(rp x).1,(rp x).2,(xE k).1,(xE k).2];rw[show x.num.natAbs*((2^(-k).toNat:Nat):Int)=↑(x.num.natAbs*2^(-k).toNat)from(n1 _ _).symm,show 2^k.toNat*(x.den:Int)=↑(x.den*2^k.toNat) by rw[n1,Int.mul_comm];rfl];exact Int.ofNat_lt
def MN(h:eT k x):eT k (jh x):=by
 rw[eT,(rp x).1,(rp x).2];exact h
def MO{c:Nat}{k:Int}(aC: -(c:Int)<=k)(aI:k<=c):eT (c+1) (eQ (mkRat 1 1) k):=by
 have⟨S,z⟩:=xE k;rw[eT,S,z,Int.natAbs_pow];exact⟨c7 (ry _) R,c7 (ry _) R⟩
theorem XX:ji x y<0↔x<y:=by
 grind [ji]
theorem XY:bl 412 (bV λ(x:Rat)=>([c0 x],eT 3000000 x/\x.num≠0,.aa<|kb x.num.natAbs x.den)):=by
 refine bL [MF,zS,sH,sF] UA.1 ?_;intro(x:Rat) ⟨(O:eT _ x),F⟩ H aq;have S:=qg O.1;have t:=qg O.2;refine I 14<|cT (λh=>?_) λh=>?_
 .grind
 refine I 6<|ca MF x.num.natAbs (c7 O.1)<|I 2<|dF 11 (dj x.den) j j (by rw[av F];rfl)<|ca MF x.den (c7 O.2) ?_;obtain⟨p,hp⟩:∃p,p=bG x.num.natAbs:=dN;obtain⟨q,E⟩:∃q,q=bG x.den:=dN;have B:kb x.num.natAbs x.den=if x.num.natAbs*2^((q:Int)-p).toNat<x.den*2^((p:Int)-q).toNat then(p:Int)-q-1 else(p:Int)-q:=by rw[hp,E];rfl
 refine I 1 ?_;obtain⟨k,N⟩:∃k:Int,k=(p:Int)-q:=dN;refine aJ 13 (.aa k) j (by rw[N,hp,E];exact eV j R R)<|I 7<|aS zS x az<|I 1<|aS sH k ary<|aS sF (jh x,eQ (mkRat 1 1) k) ⟨jj<|MN O,jj<|MO (c:=100000000) R R⟩ ?_;have v:ji (jh x) (eQ (mkRat 1 1) k)<0↔x.num.natAbs*2^((q:Int)-p).toNat<x.den*2^((p:Int)-q).toNat:=by
  rw[XX,MM,N,show -((p:Int)-q)=(q:Int)-p by omega]
 refine I 3<|cT (λW=>?_) λW=>?_
 .have W:=v.1 W;refine I 13 ?_;exact bn (ep j j (.of (by
   show ag.i _ _=ag.aa (kb _ _);exact eV)))
 .have W:=mt v.2 W;refine I 9 ?_;exact bn (ep j j (.of (by
   show ag.i _ _=ag.aa (kb _ _);rw[B,av W,N])))
def XZ:bl 410 (bV λ((e,p):Int×Int)=>([qf e p],hD e p,c0<|eQ (mkRat 1 1)<|2-g2 e-p)):=by
 refine bL [zR,sH] V6.1 ?_;intro⟨e,p⟩ Z H aq;obtain⟨Y,G,A,T,C⟩:=Z;obtain⟨S,t⟩:=rv Y G;exact I 9<|ca zR (e,p) ⟨Y,G,A,T,C⟩<|I 1<|cj 5 (2-g2 e)<|I 3<|cj 8 (2-g2 e-p)<|ca sH (2-g2 e-p) ary<|I 4<|eD
def X0:bl 427 (bV λ((e,p):Int×Int)=>([qf e p],hD e p,c0<|eQ (mkRat 1 1)<|1-g2 e)):=by
 apply bL [zR,sH] Vn.1;intro⟨e,p⟩ Z H aq;obtain⟨Y,G,A,T,C⟩:=Z;obtain⟨S,t⟩:=rv Y G;exact I 9<|aS zR (e,p) ⟨Y,G,A,T,C⟩<|I 1<|cj 5 (1-g2 e)<|aS sH (1-g2 e) ary<|I 4<|eD
def vn{n:Int}(aC:ej k n.natAbs)(aI:ej k d)(T:d≠0):eT k (mkRat n d):=by
 have⟨S,z⟩:=xv n d T;refine⟨nQ aC ?_,nQ aI ?_⟩
 .exact aq9
 .rw[z];exact ki _ _
def MP(c:Nat){k:Int}(h:eT a x)(aC: -(c:Int)<=k)(aI:k<=c):eT (a+c+1) (eQ x k):=by
 rw[eQ];split
 .exact vn (c7 h.1 R) (c7 (lK h.2<|ry _) R)<|n6 x.den_nz au
 .refine vn ?_ (c7 h.2 R) x.den_nz;rw[sX];exact c7 (lK h.1<|ry _) R
def alp(aC:eT a x)(aI:eT b y):eT (a+b+1) (x+y):=by
 rw[AK];have F:=lK aI.1 aC.2;refine vn (nQ (MD (lK aC.1 aI.2)<|c7 F R) ?_) (c7 (lK aC.2 aI.2) R)<|n6 x.den_nz y.den_nz;exact atU
def X1(aC:eT a x)(aI:eT b y):eT (a+b+1) (x-y):=by
 rw[DQ];exact alp aC<|XU aI
def alq{e p:Int}(h:hD e p):eT 2000 (nO e p):=by
 have⟨Y,G,A,T,C⟩:=h;have⟨S,t⟩:=rv Y G;exact jj<|MP 1200 (X1 (MP 120 zV R R) zV) R R
def X2:bl 407 (bV λ((e,p):Int×Int)=>([qf e p],hD e p,c0<|nO e p)):=by
 refine bL [sH,vm,XV,zR,Hg] Uz.1 ?_;intro⟨e,p⟩ Z H aq;obtain⟨Y,G,A,T,C⟩:=Z;obtain⟨S,t⟩:=rv Y G;have N:=MP (k:=p) 120 zV R R;exact I 10<|aS sH p ary<|aS vm (1:Int) aqq<|aS XV (eQ (mkRat 1 1) p,mkRat 1 1) ⟨jj N,jj zV⟩<|I 7<|ca zR (e,p) ⟨Y,G,A,T,C⟩<|I 4<|cj 14 (g2 e-p)<|I 1<|cj 15 (g2 e-p+1)<|ca Hg (eQ (mkRat 1 1) p-mkRat 1 1,g2 e-p+1) ⟨jj<|X1 N zV,R,R⟩<|I 4<|eD
def X3:bl 409 (bV λ((e,p,x):Int×Int×Rat)=>([qf e p,c0 x],hD e p/\eT 67108864 x,.b<|decide (jh x<eQ (mkRat 1 1) (1-g2 e)))):=by
 refine bL [zS,X0,sF] TF.1 ?_;intro⟨e,p,x⟩ ⟨Z,O⟩ H aq;have W:=Z;obtain⟨Y,G,A,T,C⟩:=W;obtain⟨S,t⟩:=rv Y G;exact I 10<|ca zS x az<|I 1<|ca X0 (e,p) Z<|ca sF (jh x,eQ (mkRat 1 1)<|1-g2 e) ⟨jj<|MN O,jj<|MO (c:=2000) R R⟩<|I 5<|bn (ep j j (.of<|by congr 1;rw[decide_eq_decide];exact XX))
def nh(e p:Int)(x:Rat):Int:=if jh x<eQ (mkRat 1 1) (1-g2 e)then 2-g2 e-p else kb x.num.natAbs x.den-p+1
def abs_zero(h:x.num=0)(k:Int):jh x<eQ (mkRat 1 1) k:=by
 rw[MM,h];simp;exact yi (qu x.den_nz)<|n4 _
def X4:bl 383 (bV λ((e,p,x):Int×Int×Rat)=>([qf e p,c0 x],hD e p/\eT 3000000 x,c0<|eQ (mkRat 1 1)<|nh e p x)):=by
 refine bL [X3,XZ,XY,sH] Vf.1 ?_;intro⟨e,p,x⟩ ⟨Z,O⟩ H aq;have W:=Z;obtain⟨Y,G,A,T,C⟩:=W;refine I 12<|aS X3 (e,p,x) ⟨Z,jj O⟩<|I 2<|cT (λh=>(I 3<|aS XZ (e,p) Z<|I 5<|bn (ep j j (.of<|by show c0 _=c0 _;unfold nh;rw[aD h])))) λh=>?_
 .have F:x.num≠0:=λD=>h<|abs_zero D _;have w:=G3 x.num.natAbs x.den;have o:=qg O.1;have g:=qg O.2;obtain⟨k,N⟩:∃k:Int,k=kb x.num.natAbs x.den:=dN;exact I 5<|ca XY x ⟨O,F⟩<|I 3<|aJ 14 (.aa<|k-p) j (by rw[N];exact eV j R R)<|I 1<|cj 15 (k-p+1)<|ca sH (k-p+1) ary<|I 4<|bn (ep j j (.of<|by show c0 _=c0 _;unfold nh;rw[av h,N]))
def X5{c:Int}:bz (.bc [.agg [.aa 0,.nl,.nl],.aa c]) (.bc [c0 0,.aa c]):=.bc ⟨XQ,.refl _,az⟩
def oG(p q:Nat)(k:Int):Prop:=q*2^k.toNat<=p*2^(-k).toNat
variable{i:Nat}
def alr{p:Nat}{k:Int}(h:oG p q (k+1)):oG p q k:=by
 unfold oG at *;rcases(show 0<=k\/k<0 by omega)with F|F
 .rw[show(k+1).toNat=k.toNat+1 by omega,show(-(k+1)).toNat=0 by omega,g6]at h;rw[show(-k).toNat=0 by omega];exact ch (mh q R) h
 .rw[show(k+1).toNat=0 by omega]at h;rw[show k.toNat=0 by omega,show(-k).toNat=(-(k+1)).toNat+1 by omega,g6];exact ch h<|mh p R
theorem Hh{p:Nat}{J k:Int}(N:J<=k)(h:oG p q k):oG p q J:=by
 obtain⟨n,rfl⟩:∃n:Nat,k=J+n:=⟨(k-J).toNat,R⟩
 induction n with
 |zero=>simpa using h
 |succ n I=>exact I R<|alr apt
theorem als{p:Nat}(hp:p≠0)(cD:q≠0)(k:Int):k<=kb p q↔oG p q k:=by
 obtain⟨B,K⟩:=rj hp;obtain⟨W,cA⟩:=rj cD;have c:=ve (n:=q) R;have e:kb p q=if p*2^((bG q:Int)-bG p).toNat<q*2^((bG p:Int)-bG q).toNat then(bG p:Int)-bG q-1 else(bG p:Int)-bG q:=rfl;obtain⟨a,A⟩:∃a,bG p=a+1:=⟨_,(ve (n:=p) R)⟩;obtain⟨b,C⟩:∃b,bG q=b+1:=⟨_,c⟩;rw[A,show a+1-1=a by omega]at B;rw[C,show b+1-1=b by omega]at W;rw[A]at K e;rw[C]at cA e;have bm:oG p q (a-b-1):=by
  unfold oG;rcases(show b+1<=a\/a<b+1 by omega)with h|h
  .rw[show(-((a:Int)-b-1)).toNat=0 by omega,oR];refine ch (hV _<|pF cA) ?_;rw[<-iA,show b+1+((a:Int)-b-1).toNat=a by omega];exact B
  .rw[show((a:Int)-b-1).toNat=0 by omega,oR];refine ch (pF cA)<|ch ?_ (hV _ B);rw[<-iA,show a+(-((a:Int)-b-1)).toNat=b+1 by omega];exact cf _
 have af:¬oG p q (a-b+1):=by
  rw[oG,Nat.not_le];rcases(show b<=a+1\/a+1<b by omega)with h|h
  .rw[show(-((a:Int)-b+1)).toNat=0 by omega,oR];refine e2 K<|ch ?_ (hV _ W);rw[<-iA,show b+((a:Int)-b+1).toNat=a+1 by omega];exact cf _
  .rw[show((a:Int)-b+1).toNat=0 by omega,oR];refine e2 (Oo K<|n4 _)<|ch ?_ W;rw[<-iA,show a+1+(-((a:Int)-b+1)).toNat=b by omega];exact cf _
 have z:(p*2^(↑(b+1)-((a+1:Nat):Int)).toNat<q*2^(↑(a+1)-((b+1:Nat):Int)).toNat)↔¬oG p q (a-b):=by
  grind [oG]
 by_cases hm:oG p q (a-b)
 .rw[av λh=>z.1 h hm]at e;exact⟨λh=>Hh R hm,λh=>DS.1 λD=>af<|Hh R h⟩
 .rw[aD<|z.2 hm]at e;exact⟨λh=>Hh R bm,λh=>DS.1 λD=>hm<|Hh R h⟩
theorem X6{e p:Int}(bX:x.num≠0):G2 e p x=nh e p x:=by
 have O:x.num.natAbs≠0:=R
 have Y:=als O x.den_nz<|1-g2 e;have G:= @MM x<|1-g2 e;unfold G2 nh
 grind [oG,jh,g2]
def alu(n i:Nat):n/10^i<=n:=ki _ _
def X7:bl 316 (bV λ(n:Nat)=>([.aa n],n<1000000000,.s<|hs (ix 9 n).reverse)):=by
 refine bL [] Up.1 ?_;intro(n:Nat) (aj:n<1000000000) H aq;refine I 17<|ea (λi=>i<=9) (λ(i:Nat)=>⟨[],0,[(0,.aa (n/10^i:Nat)),(3,.s<|hs (ix i n).reverse),(4,.aa i)]⟩) (λi=>9-i) [] 0 (c8 _) (by show 9-0<bs+1;unfold bs;omega) bk ?_;intro i af;have hm:=alu n i;have M:n/10^(i+1)=n/10^i/10:=by rw[g6,qz]
 have B:hs (ix (i+1) n).reverse=hs [n/10^i%10]++hs (ix i n).reverse:=by rw[XE,v8];rfl
 have G:(hs (ix i n).reverse).length=i:=by rw[tD,qA,xB]
 generalize E:n/10^i=m at *;refine I 7<|cT (λh=>?_) λh=>?_
 .have h:i<9:=by omega
  refine I 8<|aJ 10 (.aa ↑(m%10)) j j<|I 1<|cj 11 ↑(48+m%10)<|I 1<|aJ 12 (.i .u8 ((UInt8.ofNat<|48+m%10).toNat:Int)) j au<|I 1<|ks 0 k4 [UInt8.ofNat<|48+m%10] ?_;refine Lh (hs [m%10]) ?_;refine I 1<|sw ?_ (aB:=by rw[G];show 1+i<=_;omega);exact aJ 16 (.s<|hs (ix (i+1) n).reverse) j (by rw[B])<|I 15<|bB [] (i+1) ⟨R,h⟩ (k3 ⟨by rw[M];show some (ag.i _<|IntKind.i64.wrap ↑(m/10))=_;exact kt j R R,j,kt,az⟩)
 .have D:i=9:=by omega
  subst D;exact I 12<|eD
theorem X8(h:d<10):dec d=[d]:=by
 rw[dec]
 grind [nL,g1]
theorem MQ:∀l:ac Nat,(l.flatMap<|ix 9).length=9*l.length
 |[]=>rfl
 |x::l=>by rw[ub,me,MQ l,xB,hQ];omega
def MR:bl 205 (bV λ(n:Nat)=>([dj n],ej 1073741824 n,.s<|eA n)):=by
 refine bL [X7] Tv.1 ?_;intro(n:Nat) (aj:(aU _ n).length<=_) H aq;have Y:=hb (b:=1000000000) ai n;have xq:=gx (b:=1000000000) ai n;show bM.ok _ ⟨_,_,⟨_,_,[(0,dy<|aU 1000000000 n)]⟩⟩;generalize aU 1000000000 n=xs at *;refine I 20<|iI (L:=Unit) (λ_=>True) (λ_=>⟨[],0,[(3,.s<|hs (xs.flatMap<|ix 9).reverse)]⟩) ?_ ?_
 .refine ea (L:=Nat) (λk=>k<=xs.length) (λ(k:Nat)=>⟨[],0,[(0,dy xs),(3,.s<|hs ((xs.drop k).flatMap<|ix 9).reverse),(4,.aa<|(k:Int)-1)]⟩) id [] xs.length (cf _) apM (k3 ⟨j,by rw[sU];rfl,kt,az⟩) ?_;intro(k:Nat) N;cases k with
  |zero=>
   exact I 12<|dD [] () az
  |succ m=>
   have O:m<xs.length:=R
   have V:=MQ<|xs.drop<|m+1;refine aJ 4 (.aa (m:Nat)) j fG<|I 16<|aJ 9 (.b true) j au<|eW xs[m] (aO O) j<|I 1<|aS X7 xs[m] (Y _<|dH O)<|sw ?_ (aB:=by rw[tD,tD,qA,qA,V,xB,iX];omega);exact aJ 18 (.s<|hs ((xs.drop m).flatMap<|ix 9).reverse) j (by rw[fj O,ub,v8,MG])<|I 9<|bB [] m ⟨au,R⟩ bk
 intro _ _;have K:=BS xs;have c:=XH Y;have G:=MQ xs;rw[xq]at c;generalize xs.flatMap (ix 9)=P at *;refine I 2<|eS (L:=ac Nat) (λt=>Ok 10 t/\val 10 t=n/\t.length<=P.length) (λt=>⟨[],0,[(3,.s<|hs t.reverse)]⟩) List.length [] P ⟨K,c,cf _⟩ ?_;rintro t ⟨W,f,a0⟩;rcases pE t with rfl|⟨dw,d,rfl⟩
 .have w:n=0:=by rw[<-f];rfl
  refine I 38<|cC ?_;show ag.s [48]=ag.s (eA n);rw[w];rfl
 rw[rQ]at *;have T:d<10:=W d au;have M:hs (dw++[d]).reverse=UInt8.ofNat (48+d)::hs dw.reverse:=by rw[v8];rfl
 rw[l6]at f;simp only[val,yh,pD]at f;refine aJ 3 (.s<|UInt8.ofNat (48+d)::hs dw.reverse) j (by rw[M])<|I 7 ?_;have B:(hs dw.reverse).length=dw.length:=by rw[tD,qA]
 by_cases af:dw=[]
 .subst af;refine aJ 22 (.b false) j (by simp[hs])<|I 29<|cC ?_;show ag.s (hs [d])=ag.s (eA n);have:n=d:=by simp[val]at f;exact f.symm
  rw[this];congr 1;unfold eA;rw[X8 T]
 have o:0<dw.length:=oV.2 af;refine aJ 22 (.b true) j (by rw[hQ,B];simp;omega)<|I 3<|na (UInt8.ofNat<|48+d) (J:=0) j<|I 2 ?_;have F:=Ha T;by_cases z:d=0
 .exact aJ 25 (.b true) j (by rw[F,z];rfl)<|I 9<|q7 (p:=1) (hs dw.reverse) (I 3<|dD [] dw ⟨au,λx O=>W x<|by simp[O],by rw[z]at f;simpa using f,by simp at a0;omega⟩) (hp:=au) (cD:=au)
 .refine aJ 25 (.b false) j (by rw[F];exact congrArg ag.b<|cp R)<|I 26<|cC ?_;show ag.s (UInt8.ofNat (48+d)::hs dw.reverse)=ag.s (eA n);rw[<-M];have e:=zJ (b:=10) ai W (by rw[ri,av z]);rw[l6]at e;simp only[val,yh,pD]at e;rw[f]at e;unfold eA dec;rw[av λh=>by rw[h,g1]at e;simp at e,e]
def X9(h:ej k n):(eA n).length<=9*k+1:=by
 unfold eA dec;rw[tD];split
 .simp
 .rw[qA];refine sO<|je ai ?_;have:=sE h
  rwa [show(1000000000:Nat)=10^9 from rfl,<-qy]at this
theorem xF:bl 122 (bV λ(x:Rat)=>([c0 x],eT 67108864 x,.s<|kc x)):=by
 refine bL [MR,XW] UN.1 ?_;intro x O N aq;have Z:=X9 O.1;have R:=X9 O.2;refine I 10<|aS MR x.num.natAbs (c7 O.1)<|I 11 ?_;have f:x.num.sign<0↔x.num<0:=Int.sign_neg_iff;obtain⟨u,M⟩:∃u,u=(if x.num<0 then[45]else[])++eA x.num.natAbs:=dN;have o:u.length<=9*67108864+2:=by grind
 refine gZ (L:=Unit) (λ_=>True) (λ_=>⟨[.c 105<|oF x],1,[(1,.p 0 0),(3,.s u)]⟩) ?_ ?_
 .refine cT (λh=>?_) λh=>?_
  .exact I 2<|sw (I 2<|bB [0] () az (bk (aI:=⟨j,by rw[M,aD<|f.1 h];rfl,az⟩)))
  .exact I 1<|bB [0] () az (bk (aI:=⟨j,by rw[M,av λD=>h<|f.2 D];rfl,az⟩))
 intro _ _;refine I 4<|aS XW x O<|I 3<|zq (λh=>?_) λh=>?_
 .have F:x.num≠0:=λe=>h (by have:=x.reduced;rw[e]at this;simpa using this);refine I 2<|sw ?_;refine I 2<|aJ 18 (dj x.den) j (by rw[av F];rfl)<|aS MR x.den (c7 O.2)<|sw ?_;refine I 10<|cC ?_;show ag.s (u++[47]++eA x.den)=ag.s (kc x);rw[kc,<-M,av h,sY];rfl
 .refine I 9<|cC ?_;show ag.s u=ag.s (kc x);rw[kc,<-M,aD h,rP]
def Ya:df:=bV λ(s:ac ci)=>([.s s],s.length<=1073741824,.b<|decide (hM s))
def alv(h:i<s.length)(aC:jA (s.take i))(aI:48<=s[i].toNat/\s[i].toNat<=57):jA (s.take<|i+1):=by
 rw[hR h];intro c W;obtain W|W:=gA.1 W
 .exact aC c W
 .simp at W;subst W;exact aI
def Hi:bl 203 Ya:=by
 refine bL [] Uc.1 ?_;intro(s:ac ci) (M:s.length<=_) H aq;refine I 12<|iI (L:=Unit) (λ_=>jA s) (λ_=>⟨[],0,[(0,.s s)]⟩) ?_ ?_
 .refine eS (L:=Nat) (λi=>i<=s.length/\jA (s.take i)) (λ(i:Nat)=>⟨[],0,[(0,.s s),(3,.aa i)]⟩) (λi=>s.length-i) [] 0 ⟨c8 _,λc W=>by simp at W⟩ ?_;rintro(i:Nat) ⟨af,A⟩;refine I 9<|cT (λh=>?_) λh=>?_
  .have h:i<s.length:=by omega
   have hm:s[i]∈s:=dH h;refine I 8<|na s[i] (aO h)<|I 2 ?_;have bad:¬(48<=s[i].toNat/\s[i].toNat<=57)->bz (.b false) (Ya.res s):=λh=>.of (by show ag.b false=ag.b (decide _);rw[cp λC=>h<|C.2.1 _ hm]);by_cases Y:s[i].toNat<48
   .exact cM 14<|I 19<|bp (bad R)
   refine cI 14<|I 5<|na s[i] (aO h)<|I 5<|cT (λG=>?_) λG=>?_
   .exact I 11<|bp (bad R)
   .exact I 8<|bB [] (i+1) ⟨by show s.length-(i+1)<s.length-i;omega,h,alv h A R⟩ bk
  .have D:i=s.length:=by omega
   subst D;rw[mS]at A;exact I 4<|dD [] () A
 intro _ f;cases s with
 |nil=>
  exact I 6<|aJ 23 (.b false) j j<|I 12<|cC ase
 |cons c t=>
  refine I 6<|aJ 23 (.b true) j au<|I 6 ?_;by_cases C:c::t=[48]
  .exact aJ 26 (.b true) j atD<|I 10<|cC (by show ag.b true=ag.b (decide _);rw[cm ⟨au,f,.inl C⟩])
  refine aJ 26 (.b false) j (by rw[rT.2 C])<|I 3<|na c (J:=0) j<|I 9<|cC ?_;show ag.b (decide _)=ag.b (decide _);congr 1;rw[decide_eq_decide];constructor
  .intro h;refine⟨au,f,.inr λe=>h ?_⟩;have e:c=48:=by simpa using e
   rw[e];rfl
  .rintro⟨_,_,h|h⟩ e
   .exact C h
   .exact h ato
def xG(s:ac ci):ag:=
 match(cutAt (dk s).2).2 with
 |none=>.bc [.s (dk s).2,.s [49],.aa (if(dk s).1=true then -1 else 1),.b<|decide (hM (dk s).2/\¬((dk s).1=true/\(dk s).2=[48]))]
 |some q=>.bc [.s (cutAt (dk s).2).1,.s q,.aa (if(dk s).1=true then -1 else 1),.b<|decide (hM (cutAt (dk s).2).1/\hM q/\q≠[48]/\q≠[49]/\¬((dk s).1=true/\(cutAt (dk s).2).1=[48]))]
def Yb{p:Prop}[Decidable p]{b:Bool}:decide p=b↔(p↔b=true):=by cases b<;>simp
def MS:df:=bV λ(s:ac ci)=>([.s s],s.length<=1073741824,xG s)
def alw(h:i<s.length)(aC:(47:ci)∉s.take i)(aI:s[i]=47):cutAt s=(s.take i,some<|s.drop<|i+1):=by
 apply Hc aC;rw[<-aI,<-fj h,np]
def Hj:bl 120 MS:=by
 refine bL [Hi] Tn.1 ?_;intro(s:ac ci) (M:s.length<=_) H aq;have R:(dk s).2.length<=s.length:=by
  unfold dk;split
  .exact c8 _
  .split<;>simp
 refine dW 7 ?_
 iterate 3 refine fE j ?_
 refine gZ (L:=Unit) (λ_=>True) (λ_=>⟨[],0,[(6,.s (dk s).2),(7,.aa (if(dk s).1=true then -1 else 1))]⟩) ?_ ?_
 .cases s with
  |nil=>
   exact I 14<|dD [] () az
  |cons c t=>
   refine I 6<|aJ 15 (.b true) j au<|I 3<|na c (J:=0) j<|I 5 ?_;by_cases W:c=45
   .subst W;refine aJ 19 (.b true) j j<|I 3<|q7 (p:=1) t ?_ (hp:=au) (cD:=au);exact I 3<|dD [] () az
   .have O:dk (c::t)=(false,c::t):=av W;refine aJ 19 (.b false) j (congrArg ag.b<|cp λe=>W<|vO.1 (show c.toNat=45 by omega)) ?_;exact I 2<|bB [] () az (k3 ⟨by rw[O];rfl,by rw[O];rfl,az⟩)
 intro _ _;obtain⟨⟨n,t⟩,O⟩:∃g,g=dk s:=dN;rw[<-O]at R;have fin:∀{r},xG s=r->bz r (MS.res s):=λh=>.of h.symm;unfold xG at fin;rw[<-O]at fin⊢;simp only at fin R;obtain⟨bF,V⟩:∃bF:Int,bF=if n=true then -1 else 1:=dN;have f:decide (bF>0)= !n:=by rw[V];cases n<;>rfl
 refine aJ 7 (.aa bF) j (by rw[V]) ?_;rw[<-V]at fin;refine I 7<|iI (L:=Unit) (λ_=>(47:ci)∉t) (λ_=>⟨[],0,[(6,.s t),(7,.aa bF)]⟩) ?_ ?_
 .refine eS (L:=Nat) (λi=>i<=t.length/\(47:ci)∉t.take i) (λ(i:Nat)=>⟨[],0,[(6,.s t),(7,.aa bF),(8,.aa i)]⟩) (λi=>t.length-i) [] 0 ⟨c8 _,λhm=>by simp at hm⟩ ?_;rintro(i:Nat) ⟨af,E⟩;refine I 9<|cT (λh=>?_) λh=>?_
  .have h:i<t.length:=by omega
   refine I 8<|na t[i] (aO h)<|I 3<|cT (λW=>?_) λW=>?_
   .have W:t[i]=47:=vO.1 (show t[i].toNat=47 by omega);have K:=alw h E W;rw[K]at fin;simp only at fin;generalize Z:t.take i=P at *;generalize o:t.drop (i+1)=Q at *;have v:P.length<=t.length:=by rw[<-Z];simp;omega
    have B:Q.length<=t.length:=by rw[<-o];simp
    refine I 4<|F1 P ?_ (aB:=by rw[<-Z];simp);refine I 3<|ww 37 ((i+1:Nat):Int)<|F1 Q ?_ (aB:=by rw[<-o];exact gB au);refine I 10 ?_;have bad:¬(hM P/\hM Q/\Q≠[48]/\Q≠[49]/\¬(n=true/\P=[48]))->bz (.bc [.s P,.s Q,.aa bF,.b false]) (MS.res s):=λh=>fin (by rw[cp h]);refine aS Hi P (by show P.length<=_;omega)<|I 1 ?_;by_cases Y:hM P
    .refine v1 44 Y<|I 3<|aS Hi Q (by show Q.length<=_;omega)<|I 2 ?_;by_cases G:hM Q
     .refine v1 48 G<|I 6 ?_;by_cases A:Q=[48]
      .exact aJ 52 (.b false) j (by rw[A];rfl)<|I 23<|bp (bad λh=>h.2.2.1 A)
      refine aJ 52 (.b true) j (by rw[rT.2 A];rfl)<|I 6 ?_;by_cases T:Q=[49]
      .exact aJ 56 (.b false) j asU<|I 19<|bp (bad λh=>h.2.2.2.1 T)
      refine aJ 56 (.b true) j (by rw[rT.2 T];rfl)<|I 6 ?_;by_cases C:P=[48]
      .refine aJ 59 (.b false) j atD<|I 19<|bp (fin ?_);rw[f];refine congrArg (λb=>ag.bc [.s P,.s Q,.aa bF,.b b]) ?_;rw[Yb];simp[G,A,T,C];exactλ_=>C▸Y
      .exact aJ 59 (.b true) j (by rw[rT.2 C];rfl)<|I 17<|bp (fin<|by rw[cm ⟨Y,G,A,T,λh=>C h.2⟩])
     .exact v0 48 G<|I 27<|bp (bad λh=>G h.2.1)
    .exact v0 44 Y<|I 31<|bp (bad λh=>Y h.1)
   .have W:t[i]≠47:=λe=>W asT;refine I 8<|bB [] (i+1) ⟨by show t.length-(i+1)<t.length-i;omega,h,?_⟩ bk;rw[hR h];intro hm;rcases gA.1 hm with hm|hm
    .exact E hm
    .simp at hm;exact W hm.symm
  .have D:i=t.length:=by omega
   subst D;rw[mS]at E;exact I 4<|dD [] () E
 intro _ z;rw[XL z]at fin;simp only at fin;refine I 5<|aS Hi t (by show t.length<=_;omega)<|I 1 ?_;by_cases w:hM t
 .refine v1 68 w<|I 6 ?_;by_cases F:t=[48]
  .refine aJ 71 (.b false) j (by rw[F];rfl)<|I 14<|bp (fin ?_);rw[f];refine congrArg (λb=>ag.bc [.s t,.s [49],.aa bF,.b b]) ?_;rw[Yb];simp[F];exactλ_=>F▸w
  .refine aJ 71 (.b true) j (by rw[rT.2 F];rfl)<|I 12<|bp (fin ?_);rw[cm ⟨w,λh=>F h.2⟩]
 .refine v0 68 w<|I 14<|bp (fin ?_);rw[cp λh=>w h.1]
theorem Yc(u v:ac ci):b7 (u++v)=b7 v+10^v.length*b7 u:=by
 unfold b7 ps
 grind [l6]
def Yd(w:ac ci)(c:ci):b7 (w++[c])=(c.toNat-48)+10*b7 w:=by
 simp[b7,ps,val]
def mH(h:jA s):b7 s<10^s.length:=by
 have:=ku λd T=>XJ h d<|AM.1 T;rw[qA]at this;rw[ps]at this
 rwa [hI]at this
def alx(s:ac ci)(i:Int):ac Nat->cb
 |[]=>⟨[],0,[(0,.s s),(3,.nl),(4,.aa i)]⟩
 |d::aM=>⟨[.a 2 true 1 Nat ga<|d::aM],1,[(0,.s s),(3,.aH 0 1 0 (d::aM).length (d::aM).length),(4,.aa i)]⟩
def aly{es:ac Nat}{r bm:Nat}(h:b7 s=val 1000000000 es+1000000000^es.length*b7 (s.take r))(I:r<=s.length)(T:bm=r-9):
 b7 s=val 1000000000 (es++[b7<|(s.take r).drop bm])+1000000000^(es++[b7<|(s.take r).drop bm]).length*b7 (s.take bm):=by
 have e:s.take r=s.take bm++(s.take r).drop bm:=by
  conv=>lhs;rw[<-np bm (s.take r)]
  rw[x9,kh R]
 have z:b7 (s.take r)=b7 ((s.take r).drop bm)+1000000000*b7 (s.take bm):=by
  conv=>lhs;rw[e,Yc]
  congr 1;rcases(show bm=0\/r=bm+9 by omega)with F|F
  .subst F;simp[b7,ps,val]
  .rw[iX,gQ,kh I,F,Ou]
 rw[h,z,l6,me,iA];simp[val,hQ,Az,yh,pD,hU,Nat.pow_one];rw[iM,iZ];omega
def zW:bl 121 (bV λ(s:ac ci)=>([.s s],jA s/\s.length<=1073741824,dj<|b7 s)):=by
 refine bL [pr] To.1 ?_;intro(s:ac ci) ⟨(B:jA s),(M:s.length<=_)⟩ H aq;refine I 19<|eS (L:=Int×ac Nat) (λ(i,t)=>i<=s.length/\-9<=i/\t.length+i.toNat<=s.length/\Ok 1000000000 t/\b7 s=val 1000000000 t+1000000000^t.length*b7 (s.take i.toNat)) (λ(i,t)=>alx s i t) (λl=>l.1.toNat) [] ((s.length:Int),[]) ⟨Int.le_refl _,by show -9<=(s.length:Int);omega,au,λx O=>by simp at O,by simp[val]⟩ ?_;rintro⟨i,t⟩ ⟨Y,G,A,T,C⟩;obtain⟨r,E⟩:∃r,r=i.toNat:=dN;rw[<-E]at A C;obtain⟨bm,S⟩:∃bm,bm=r-9:=dN;have g:=aly C R S;have F:jA ((s.take r).drop bm):=λc W=>B c<|mR<|yg W;have aW:=mH F;have o:b7 ((s.take r).drop bm)<1000000000:=e2 aW<|j0 (n:=10) ai (show _<=9 by simp;omega);have w:¬0<i->aU 1000000000 (b7 s)=fg t:=λh=>by
  have:r=0:=R
  rw[this]at C;rw[xu (b:=1000000000) ai T,C];simp[b7,ps,val]
 have Q:∀k:Nat,bm<=k->k<=r->b7 ((s.take k).drop bm)<10^(k-bm):=λk Z V=>by
  have h:=mH (s:=(s.take k).drop bm) λc W=>B c<|mR<|yg W
  rwa [iX,gQ,kh R]at h
 rcases t with _|⟨d,z⟩
 all_goals
  refine I 7<|cT (λaf=>?_) (λaf=>?_)
  rotate_left
  .first
   |have:=z
    refine I 8<|h5 33 ?_;exact aS pr (d::z) (by show(d::z).length<=_;omega)<|I 4<|cC (by show dy (fg<|d::z)=dy _;rw[<-w af])
   |exact I 8<|e5 33 (dy []) j bz.nl<|aS pr [] (by show 0<=_;decide)<|I 4<|cC (by show dy (fg [])=dy _;rw[<-w af])
  have e:i=(r:Int):=R
  subst e
  first
  |refine I 14<|cj 14 ((r:Int)-9)<|I 1<|aJ 15 (.aa (bm:Nat)) j fG<|I 4<|iI (L:=Unit) (λ_=>True) (λ_=>⟨[.a 2 true 1 Nat ga<|d::z],1,[(0,.s s),(3,.aH 0 1 0 (d::z).length (d::z).length),(4,.aa (r:Int)),(5,.aa (b7 ((s.take r).drop bm):Nat))]⟩) ?_ ?_
  |refine I 14<|cj 14 ((r:Int)-9)<|I 1<|aJ 15 (.aa (bm:Nat)) j fG<|I 4<|iI (L:=Unit) (λ_=>True) (λ_=>⟨[],0,[(0,.s s),(3,.nl),(4,.aa (r:Int)),(5,.aa (b7 ((s.take r).drop bm):Nat))]⟩) ?_ ?_
  .first
   |refine ea (L:=Nat) (λk=>bm<=k/\k<=r) (λ(k:Nat)=>⟨[.a 2 true 1 Nat ga<|d::z],1,[(0,.s s),(3,.aH 0 1 0 (d::z).length (d::z).length),(4,.aa (r:Int)),(5,.aa (b7 ((s.take k).drop bm):Nat)),(6,.aa k)]⟩) (λk=>r-k) [0] bm ⟨cf _,R⟩ atM (bk (aI:=⟨j,j,j,by rw[kX dM];rfl,j,az⟩)) ?_
   |refine ea (L:=Nat) (λk=>bm<=k/\k<=r) (λ(k:Nat)=>⟨[],0,[(0,.s s),(3,.nl),(4,.aa (r:Int)),(5,.aa (b7 ((s.take k).drop bm):Nat)),(6,.aa k)]⟩) (λk=>r-k) [] bm ⟨cf _,R⟩ atM (k3 ⟨j,j,j,by rw[kX dM];rfl,j,az⟩) ?_
   rintro(k:Nat) ⟨bJ,K⟩;refine I 8<|cT (λN=>?_) λN=>?_
   .have N:k<r:=by omega
    have X:k<s.length:=R
    have hp:=Q k bJ R;have P:(10:Nat)^(k-bm)<=10^9:=j0 ai R;have W:=B _<|dH X;have f:b7 ((s.take<|k+1).drop bm)=(s[k].toNat-48)+10*b7 ((s.take k).drop bm):=by
     rw[hR X,List.drop_append_of_le_length dM,Yd]
    generalize aj:b7 ((s.take k).drop bm)=n at *;have J:n<1000000000:=R
    refine I 9<|na s[k] (aO X)<|I 1 ?_;have v:(s[k].toNat+(256*48-48))%256=s[k].toNat-48:=R
    refine xq 26 .u8 v ?_
    first
    |(have:=z;refine I 11<|bB [0] (k+1) ⟨by show r-(k+1)<r-k;omega,R,N⟩ (bk (aI:=⟨j,j,j,?_,kt,az⟩)))
    |refine I 11<|bB [] (k+1) ⟨by show r-(k+1)<r-k;omega,R,N⟩ (k3 ⟨j,j,j,?_,kt,az⟩)
    rw[f];exact congrArg (λn=>some<|ag.aa n)<|by rw[gn (n:=10*(n:Int)) R R,gn (n:=((s[k].toNat-48:Nat):Int)) R R,gn R R];omega
   .have D:k=r:=by omega
    subst D
    first|(have:=z;exact I 4<|dD [0] () az)|exact I 4<|dD [] () az
  intro _ _;generalize aj:b7 ((s.take r).drop bm)=n at *
 .refine I 4<|w8 ga [n] (iH (ah:=ga) [n] j) ?_;exact I 9<|bB [1] ((r:Int)-9,[n]) ⟨by show((r:Int)-9).toNat<((r:Int)).toNat;omega,R,R,by simp;omega,λx O=>by simp at O;omega,by rw[show((r:Int)-9).toNat=bm by omega];exact g⟩ bk
 .refine I 4 ?_;have a':z.length<=1073741824:=by simp at A;omega
  refine q6 (ah:=ga) [n] (iH (ah:=ga) [n] j) ?_;refine I 9<|bB [2] ((r:Int)-9,d::(z++[n])) ⟨by show((r:Int)-9).toNat<((r:Int)).toNat;omega,R,R,by simp at A ⊢;omega,?_,by rw[show((r:Int)-9).toNat=bm by omega];exact g⟩ (bk (aI:=⟨j,congrArg (λk=>some<|ag.aH 2 1 0 k k) au,kt,az⟩));intro x O;rcases gA.1 (show x∈(d::z)++[n]from O)with h|h
  .exact T x h
  .simp at h;omega
def Ye(s:ac ci):s=(if(dk s).1=true then[45]else[])++(dk s).2:=by
 unfold dk;split
 .rfl
 .split
  .rename_i c t h;rw[h];rfl
  .rfl
def Hk(h:jA s)(aB:s.length<=9*k):ej k (b7 s):=je ai (by
 refine e2 (mH h)<|ch (j0 ai aB) ?_;rw[qy];exact cf _)
def mI(s:ac ci):ag:=match dK s with
 |some x=>.bc [c0 x,.aa 0]
 |none=>.bc [c0 0,.aa 6]
def MT:df:=bV λ(s:ac ci)=>([.s s],s.length<=2000,mI s)
def Yf(n:Bool)(p:Nat):(if n=true then(-1:Int)else 1)*(p:Int)=hN n p:=by cases n<;>simp[hN]
theorem Yg{N:Nat}(e:1<=N)(M:s.length<=N):∃P Q b,xG s= .bc [.s P,.s Q,.aa (if(dk s).1=true then -1 else 1),.b b]/\(b=false->dK s=none)/\
 (b=true->hM P/\hM Q/\P.length<=N/\Q.length<=N/\b7 Q≠0/\(kc (mkRat (hN (dk s).1<|b7 P)<|b7 Q)=s->dK s=some (mkRat (hN (dk s).1<|b7 P)<|b7 Q))/\(kc (mkRat (hN (dk s).1<|b7 P)<|b7 Q)≠s->dK s=none)):=by
 have c:=Ye s;unfold dK xG;obtain⟨⟨n,t⟩,O⟩:∃g,g=dk s:=dN;rw[<-O]at c⊢;have S:t.length<=N:=by grind
 obtain⟨o,V,oB⟩:=Hd t;obtain⟨⟨P,Q⟩,E⟩:∃g,g=cutAt t:=dN;rw[<-E]at o V oB⊢;cases Q with
 |none=>
  obtain rfl:=oB j;refine⟨t,[49],_,j,λh=>av<|of_decide_eq_false h,λh=>?_⟩;have F:=iY h;exact arp arp
 |some q=>
  have f:=V q j;have v:P.length+q.length<=N:=by grind
  refine⟨P,q,_,j,λh=>?_,λh=>?_⟩
  .grind [hM]
  .grind [alj,sG]
theorem vo:bl 47 MT:=by
 refine bL [Hj,zW,l8,xF] LR.1 ?_;intro s (M:s.length<=2000) H aq;have hp:∀{r},dK s=r->bz (match r with|some x=>.bc [c0 x,.aa 0]|none=>.bc [c0 0,.aa 6]) (MT.res s):=λh=>.of (by subst h;rfl);have fail:dK s=none->bz (.bc [.agg [.aa 0,.nl,.nl],.aa 6]) (MT.res s):=λh=>X5.trans<|hp h;obtain⟨P,Q,b,D,Z,A⟩:=Yg ai M;obtain⟨n,aj⟩:∃n,n=(dk s).1:=dN;rw[<-aj]at D A;have f: -1<=(if n=true then(-1:Int)else 1)/\(if n=true then(-1:Int)else 1)<=1:=R
 refine I 9<|aS Hj s asA<|aJ 11 _ j D<|I 18 ?_;cases b with
 |false=>
  exact I 10<|bp (fail<|Z j)
 |true=>
  obtain⟨S,t,v,B,jw,w,o⟩:=A j;have X:=Hk (k:=223) S.2.1 R;have e:=Hk (k:=223) t.2.1 R;refine I 10<|cI 22<|I 9<|cT (λh=>?_) λh=>?_
  .omega
  refine I 6<|aS zW P ⟨S.2.1,R⟩<|I 1<|aS zW Q ⟨t.2.1,R⟩<|aS l8 (if n=true then -1 else 1,b7 P,b7 Q) ⟨f.1,f.2,c7 X,c7 e,jw⟩<|aJ 33 (c0<|mkRat (hN n<|b7 P)<|b7 Q) j (by show c0 _=_;rw[Yf])<|I 8<|aS xF (mkRat (hN n<|b7 P)<|b7 Q) (jj<|vn (by rw[nP];exact X) e jw)<|I 2 ?_;by_cases N:kc (mkRat (hN n<|b7 P)<|b7 Q)=s
  .exact aJ 37 (.b false) j apt<|I 13<|bp (hp<|w N)
  .exact aJ 37 (.b true) j apt<|I 12<|bp (fail<|o N)
def Hl(b:Bool):ac ag:=[.b b]
def kv(c:ci):Bool:=decide (48<=c.toNat/\c.toNat<=57)
def zX:ac Bool:=(List.range 256).map λJ=>decide (48<=J/\J<=57)
def qh:ac ag:=zX.flatMap Hl
def alz{J:Nat}(h:J<256):qh.drop J= .b (decide (48<=J/\J<=57))::qh.drop (J+1):=by
 have e:qh=zX.map ag.b:=by rw[qh];rfl
 have B:J<zX.length:=by rw[zX];exact h
 rw[e,<-Iy,<-Iy,fj B];congr 2;simp[zX]
def Hm:bl 321 (bV λ(c:ci)=>([.ip qh,.i .u8 (c.toNat:Int)],True,.b<|kv c)):=by
 apply bL [] Uq.1;intro c _ N aq;have W:=c.toNat_lt;exact I 10<|e0 (ae2 j j W) (aJ 8 (.ip<|.b (kv c)::qh.drop (c.toNat+1)) j (by rw[oR,alz W];rfl)<|I 5<|eD)
theorem Yh:bl 212 (bV λ(s:ac ci)=>([.s s,.ip qh],s.length<=1073741824,.s<|s.dropWhile kv)):=by
 refine bL [Hm] VQ.1 ?_;intro s M N aq;refine I 7<|eS (λt=>t.dropWhile kv=s.dropWhile kv/\t.length<=s.length) (λt=>⟨[],0,[(0,.s t),(1,.ip qh)]⟩) List.length [] s ⟨j,cf _⟩ ?_;rintro t ⟨Y,G⟩;cases t with
 |nil=>
  exact atw
 |cons c t=>
  refine I 6<|aJ 7 (.b true) j au<|I 11<|na c j<|aS Hm c az<|I 3 ?_;by_cases W:kv c=true
  .exact aJ 12 (.b false) j (by show ag.b (!kv c)=_;rw[W];rfl)<|I 5<|q7 (p:=1) t (I 3<|dD [] t ⟨au,by rw[<-Y,DT,aD W],by simp at G;omega⟩) (hp:=au) (cD:=au)
  .have W:kv c=false:=by grind
   exact aJ 12 (.b true) j apt<|I 14<|cC (by show ag.s (c::t)=ag.s _;rw[<-Y,DT,av R])
def nR(s:ac ci):ac ci:=(s.reverse.dropWhile kv).reverse
def Yi(t:ac ci)(c:ci):nR (t++[c])=if kv c=true then nR t else t++[c]:=by
 rw[nR,v8];show((c::t.reverse).dropWhile kv).reverse=_;rw[DT];split
 .rfl
 .simp
theorem Yj:bl 213 (bV λ(s:ac ci)=>([.s s,.ip qh],s.length<=1073741824,.s<|nR s)):=by
 refine bL [Hm] UZ.1 ?_;intro s M N aq;refine I 7<|eS (λt=>nR t=nR s/\t.length<=s.length) (λt=>⟨[],0,[(0,.s t),(1,.ip qh)]⟩) List.length [] s ⟨j,cf _⟩ ?_;rintro t ⟨Y,G⟩;rcases pE t with rfl|⟨t,c,rfl⟩
 .exact atw
 .rw[rQ]at *;have B:(t++[c]).length=t.length+1:=by simp
  refine I 6<|aJ 7 (.b true) j au<|I 14<|aJ 12 (.aa t.length) j (by exact eV)<|na c (show(t++[c])[t.length]? =some c by simp)<|aS Hm c az<|I 3 ?_;by_cases W:kv c=true
  .exact aJ 15 (.b false) j (by show ag.b (!kv c)=_;rw[W];rfl)<|I 8<|aJ 19 (.aa (t.length:Nat)) j (by rw[B];exact eV)<|q7 (p:=0) t (I 3<|dD [] t ⟨au,by rw[<-Y,Yi,aD W],R⟩) (hp:=c8 _) (cD:=au)
  .exact aJ 15 (.b true) j apt<|I 14<|cC (by show ag.s (t++[c])=ag.s _;rw[<-Y,Yi,av W])
def CV:Nat->ac Bool
 |0=>List.replicate 256 false
 |n+1=>(CV n).set (48+n) true
theorem Yk:∀n,(CV n).length=256
 |0=>qt
 |n+1=>by rw[CV];rw[sT];exact Yk n
def CW:ac ci:=[48,49,50,51,52,53,54,55,56,57]
def alA(h:i<10):CW[i]? =some (UInt8.ofNat<|48+i):=by
 rcases(show i=0\/i=1\/i=2\/i=3\/i=4\/i=5\/i=6\/i=7\/i=8\/i=9 by omega)with rfl|rfl|rfl|rfl|rfl|rfl|rfl|rfl|rfl|rfl<;>rfl
def Yl:bl 211 (bV λ(_:Unit)=>([.s CW],True,.bc [.agg qh,.b true])):=by
 refine bL [] Tw.1 ?_;intro _ _ N aq;refine I 4<|ks 0 Hl (CV 0) ?_;refine I 9<|eS (L:=Nat) (λi=>i<=10) (λ(i:Nat)=>⟨[.a 309 false 1 Bool Hl<|CV i],1,[(0,.s CW),(2,.p 0 0),(4,.aa i)]⟩) (λi=>10-i) [0] 0 (c8 _) ?_;intro(i:Nat) af;refine I 9 ?_;have B:((CW.length:Nat):Int)=10:=rfl;refine cT (λh=>?_) λh=>?_
 .have h:i<10:=by omega
  refine I 8<|na (UInt8.ofNat<|48+i) (alA h)<|aJ 14 (.i .u8 ((48+i:Nat):Int)) j (by rw[(Ha h)])<|I 10<|cT (λD=>?_) λD=>?_
  .omega
  refine I 4<|F2 ?_;refine kI true ?_ (ba:=by rw[Yk];omega);exact I 8<|bB [0] (i+1) ⟨R,h⟩ bk
 .have c:i=10:=by omega
  subst c;refine I 7<|R0 0 ?_;exact I 6<|cC j
def Ym:df where
 L:=ac ci
 args:=λs=>[.s s,.s CW]
 pre:=λs=>s.length<=1073741824
 res:=λs=>.s<|(nR s).dropWhile kv
theorem alB:et b5.ctx 125 Ym.spec:=by
 refine bL [Yl,Yj,Yh] T5.1 ?_;intro(s:ac ci) M H aq;refine I 11 ?_;by_cases h:s=[]
 .subst h;exact I 14<|eD
 refine aJ 9 (.b false) j apt<|I 30<|aS Yl () az<|I 17<|ks 0 Hl zX ?_;refine ae8 5 ?_;exact aJ 5 (.ip qh) j j<|aS Yj s M<|aS Yh (nR s) (ch (by
  rw[nR,qA,<-(qA:s.reverse.length=s.length)];exact(List.dropWhile_sublist _).length_le) M)<|I 5<|eD
theorem drop_nil:∀{s:ac ci},s.dropWhile kv=[]↔∀c∈s,kv c=true
 |[]=>by simp
 |c::s=>by
  rw[DT];by_cases h:kv c=true
  .rw[aD h,drop_nil];simp[h]
  .rw[av h];simp[h]
def Yn{c:ci}:kv c=true↔48<=c.toNat/\c.toNat<=57:=by rw[kv];rw[decide_eq_true_iff]
theorem strip_nil:(nR s).dropWhile kv=[]↔jA s:=by
 rw[drop_nil];rw[jA];constructor
 .intro h;have Y:nR s=[]:=by
   obtain F|⟨t,c,F⟩:=pE<|nR s
   .exact F
   .rw[rQ]at F;have e:s.reverse.dropWhile kv=c::t.reverse:=by
     grind [nR]
    have:=List.head_dropWhile_not kv<|by rw[e];simp
    grind
  rw[nR]at Y;exactλc W=>Yn.1<|(drop_nil.1<|Oq.1 Y) c<|AM.2 W
 .intro h;unfold nR;rw[(drop_nil.2 λc W=>Yn.2<|h c<|AM.1 W)];intro c W;simp at W
theorem MU:bl 53 (bV λ(s:ac ci)=>([.s s],s.length<=1073741824,.b<|decide (hM s))):=by
 refine bL [(125,Ym.spec)] TU.1 ?_;intro s M N aq;refine I 10 ?_;cases s with
 |nil=>
  exact aJ 5 (.b false) j j<|I 17<|cC ase
 |cons c t=>
  refine aJ 5 (.b true) j j<|I 3<|aS alB (c::t) M<|I 4 ?_;by_cases R:jA (c::t)
  .refine aJ 10 (.b true) j (by rw[strip_nil.2 R];rfl)<|I 6 ?_;by_cases C:c::t=[48]
   .exact aJ 13 (.b true) j atD<|I 10<|cC (by show ag.b true=ag.b (decide _);rw[cm ⟨au,R,.inl C⟩])
   refine aJ 13 (.b false) j apt<|I 3<|na c j<|I 9<|cC ?_;congr 1;rw[decide_eq_decide];constructor
   .intro h;refine⟨au,R,.inr λe=>h ?_⟩
    simp_all
   .rintro⟨_,_,h|h⟩ e
    .exact C h
    .exact h ato
  .exact aJ 10 (.b false) j (by rw[rT.2<|mt strip_nil.1 R])<|I 12<|cC (by show ag.b false=ag.b (decide _);rw[cp λC=>R C.2.1])
theorem Yo:∀s:ac ci,(match r2 47 s with
 |none=>cutAt s=(s,none)
 |some i=>i<s.length/\cutAt s=(s.take i,some<|s.drop<|i+1))
 |[]=>rfl
 |c::s=>by
  have I:=Yo s;have e:r2 47 (c::s)=cond (Nat.beq c.toNat (47:ci).toNat) (some 0) (bq (r2 47 s) (λi=>some<|Nat.succ i) none):=rfl;by_cases W:c=47
  .subst W;exact⟨Nat.succ_pos _,j⟩
  .have C:Nat.beq c.toNat (47:ci).toNat=false:=by
    simpa[x3]using λh=>W<|vO.1<|dB h
   have z:cutAt (c::s)=(c::(cutAt s).1,(cutAt s).2):=av W;rw[e,C];cases h:r2 47 s with
   |none=>
    rw[h]at I;show cutAt (c::s)=_;rw[z,show cutAt s=(s,none)from I]
   |some i=>
    rw[h]at I;obtain⟨Y,G⟩:=I;show i+1<s.length+1/\cutAt (c::s)=_;rw[z,G];exact⟨R,j⟩
def Yp:bl 207 (bV λ(s:ac ci)=>([.s s,.s [45]],s.length<=1073741824,.b (dk s).1)):=by
 apply bL [] LV.1;intro s M N aq;apply I 13;cases s with
 |nil=>
  exact aJ 10 (.b false) j j<|I 11<|eD
 |cons c t=>
  refine aJ 10 (.b true) j dM<|I 7<|q7 [c] ?_;refine I 9<|cC ?_;show ag.b ([c]==[45])=ag.b (dk<|c::t).1;by_cases W:c=45
  .subst W;rfl
  .rw[show dk (c::t)=(false,c::t)from av W,rT.2<|by simpa using W]
def MV:df:=bV λ(s:ac ci)=>([.s s,.s [45]],s.length<=1073741824,.bc [.s (dk s).2,.b (dk s).1])
theorem alC:bl 51 MV:=by
 refine bL [(123,MV)] TS.1 ?_;intro s M N aq;exact I 10<|aS (by
  refine bL [Yp] VG.1 ?_;intro s M N aq;refine I 11<|aS Yp s M<|I 3 ?_;cases s with
  |nil=>
   exact I 10<|eD
  |cons c t=>
   by_cases W:c=45
   .subst W;exact aJ 9 (.b false) j j<|I 8<|q7 t (I 5<|eD) (hp:=au)
   .have O:dk (c::t)=(false,c::t):=av W;exact aJ 9 (.b true) j apt<|I 10<|bn (ep j j (.of<|by show ag.bc _=ag.bc [.s (dk<|c::t).2,.b (dk<|c::t).1];rw[O]))) s M<|I 7<|eD
def Yq:bl 317 (bV λ(s:ac ci)=>([.s s,.i .u8 47],s.length<=1073741824,.aa<|uW 47 s)):=by
 apply bL [] TA.1;intro s M N aq;exact I 9<|e0 (ae6 (c:=47) j j) (I 4<|eD)
theorem Yr:bl 208 (bV λ(s:ac ci)=>([.s s,.s [47]],s.length<=1073741824,.aa<|uW 47 s)):=by
 refine bL [Yq] Ue.1 ?_;intro s M N aq;refine I 29 ?_;by_cases h:[47]=s
 .exact aJ 16 (.b true) j apJ<|I 9<|bn (ep j j<|.of apJ)
 exact aJ 16 (.b false) j apt<|I 13<|na 47 j<|aS Yq s M<|I 6<|eD
def nS(s:ac ci):ag:=match(cutAt s).2 with
 |none=>.bc [.s s,.s [],.b false]
 |some q=>.bc [.s (cutAt s).1,.s q,.b true]
def CX:df where
 L:=ac ci
 args:=λs=>[.s s,.s [47]]
 pre:=λs=>s.length<=1073741824
 res:=λs=>nS s
def alD:et b5.ctx 124 CX.spec:=by
 refine bL [Yr] Tp.1 ?_;intro(s:ac ci) (M:s.length<=_) H aq;have af:=Yo s;have fin:∀{r},nS s=r->bz r (CX.res s):=λh=>.of h.symm;unfold nS at fin;refine I 12<|aS Yr s M ?_;cases O:r2 47 s with
 |none=>
  rw[O]at af;rw[af]at fin;exact aJ 10 (.aa<|-1) j as3<|I 21<|bp (fin j)
 |some i=>
  rw[O]at af;obtain⟨Y,G⟩:i<s.length/\cutAt s=(s.take i,some<|s.drop<|i+1):=af;rw[G]at fin;refine aJ 10 (.aa i) j as3<|I 14<|F1 (s.take i) ?_;refine I 5<|dF 20 (.aa ↑(i+1)) j j (eV au R dM)<|F1 (s.drop<|i+1) ?_ (aB:=gB au);exact I 7<|bp (fin j)
def alE:et b5.ctx 52 CX.spec:=by
 apply bL [(124,CX.spec)] TT.1;intro s M N aq;refine I 11<|aS alD s M ?_;cases O:(cutAt s).2 with
 |none=>
  exact aJ 9 (.bc [.s s,.s [],.b false]) j (by show nS s=_;unfold nS;rw[O])<|I 9<|cC (by show _=nS s;unfold nS;rw[O])
 |some q=>
  exact aJ 9 (.bc [.s (cutAt s).1,.s q,.b true]) j (by show nS s=_;unfold nS;rw[O])<|I 9<|cC (by show _=nS s;unfold nS;rw[O])
def xH:ac ag:=(List.range 20).map λk=>.i .u64 ((10^k:Nat):Int)
def ni(H:bb):Prop:=∃V el I aR,H 5=some (.cells V el I aR)/\∀B,cG B xH [] V
def ni.up{H B:bb}(h:cH H B):ni H->ni B:=λ⟨V,el,I,aR,Y,G⟩=>⟨V,el,I,aR,h _ _ Y,G⟩
def alF{J:Nat}(h:J<20):xH.drop J= .i .u64 ((10^J:Nat):Int)::xH.drop (J+1):=by
 have B:J<xH.length:=by rw[xH];exact h
 rw[fj B];congr 1;simp[xH]
def xI:df:=bV λ(n:Nat)=>([.i .u64 n],n<4294967296,.aa (bG n:Nat))
def alG:ac ci:=[0,1,2,2,3,3,3,3,4,4,4,4,4,4,4,4,5,5,5,5,5,5,5,5,5,5,5,5,5,5,5,5,6,6,6,6,6,6,6,6,6,6,6,6,6,6,6,6,6,6,6,6,6,6,6,6,6,6,6,6,6,6,6,6,7,7,7,7,7,7,7,7,7,7,7,7,7,7,7,7,7,7,7,7,7,7,7,7,7,7,7,7,7,7,7,7,7,7,7,7,7,7,7,7,7,7,7,7,7,7,7,7,7,7,7,7,7,7,7,7,7,7,7,7,7,7,7,7,8,8,8,8,8,8,8,8,8,8,8,8,8,8,8,8,8,8,8,8,8,8,8,8,8,8,8,8,8,8,8,8,8,8,8,8,8,8,8,8,8,8,8,8,8,8,8,8,8,8,8,8,8,8,8,8,8,8,8,8,8,8,8,8,8,8,8,8,8,8,8,8,8,8,8,8,8,8,8,8,8,8,8,8,8,8,8,8,8,8,8,8,8,8,8,8,8,8,8,8,8,8,8,8,8,8,8,8,8,8,8,8,8,8,8,8,8,8,8,8,8,8,8,8,8,8,8,8]
def alH:∀m,m<256->alG[m]? =some (UInt8.ofNat<|bG m)/\bG m<=8:=by decide +kernel
def Ys:bl 305 xI:=by
 refine bL [] V1.1 ?_;intro(n:Nat) (aj:n<4294967296) H aq;refine I 12<|cT (λh=>?_) λh=>?_
 .omega
 refine I 9<|gZ (λ(m,k)=>m<65536/\k<=16/\bG n=bG m+k) (λ(m,k)=>⟨[],0,[(0,.i .u64 m),(2,.aa k)]⟩) ?_ ?_
 .refine cT (λh=>?_) λh=>?_
  .exact I 12<|bB [] (n/65536,16) ⟨R,ai,CG 16 n R⟩ bk
  .exact I 1<|bB [] (n,0) ⟨R,ai,j⟩ bk
 rintro⟨m,k⟩ ⟨hm,N,C⟩;refine I 7<|gZ (λ(m,k)=>m<256/\k<=24/\bG n=bG m+k) (λ(m,k)=>⟨[],0,[(0,.i .u64 m),(2,.aa k)]⟩) ?_ ?_
 .refine cT (λh=>?_) λh=>?_
  .exact I 12<|bB [] (m/256,k+8) ⟨R,R,by rw[C,CG 8 m R,show 2^8=256 from rfl];omega⟩ bk
  .exact I 1<|iV [] (m,k) ⟨R,C⟩
 rintro⟨m,k⟩ ⟨hm,N,C⟩;refine I 5<|aJ 21 (.i .u8 m) j fG ?_;obtain⟨Q,K⟩:=alH m hm;refine na _ Q<|I 6 ?_;have e:(UInt8.ofNat<|bG m).toNat=bG m:=by simp;omega
 rw[e];refine cC ?_;show ag.i _ _=ag.aa (bG n:Nat);rw[C,gn (n:=↑(bG m)) R R];exact eV
def Yt:bl 399 (bV λ(b:Nat)=>([.aa b],b<=64,.aa ((b*78913/262144:Nat):Int))):=by
 apply bL [] Vh.1;intro(b:Nat) (C:b<=64) H aq;exact I 9<|cj 4 ↑(b*78913)<|I 5<|eD
def Yu:bl 400 (bV λ(b:Bool)=>([.b b],True,.aa (if b=true then 1 else 0))):=by
 apply bL [] TE.1;intro b _ N aq;apply I 11;cases b with
 |true=>
  exact I 8<|eD
 |false=>
  exact I 9<|eD
def alI:∀b,b<31->(b*78913/262144=0\/10^(b*78913/262144-1)<=2^(b-1))/\2^b<=10^(b*78913/262144+1)/\b*78913/262144<10:=by decide +kernel
def alJ(bX:n≠0)(aj:n<1000000000):(aU 10 n).length=bG n*78913/262144+(if 10^(bG n*78913/262144)<=n then 1 else 0)/\bG n*78913/262144<10/\bG n<=30:=by
 obtain⟨Y,G⟩:=rj bX;have C:bG n<=30:=G8.1 R;obtain⟨Q,K,e⟩:=alI (bG n) R;generalize bG n*78913/262144=l at *;have M:=je (b:=10) (n:=n) (k:=l+1) ai R;refine⟨?_,e,C⟩;split
 .rename_i h;have:=CF ai h;omega
 .rename_i h;have A:=je (b:=10) (n:=n) (k:=l) ai R;rcases Q with Q|Q
  .omega
  .rcases AG l with T|T
   .omega
   .have:=CF (b:=10) (n:=n) (k:=l-1) ai R;omega
theorem Yv:bl 366 (q5 ni ni.up λ(n:Nat)=>([.i .u64 n],n≠0/\n<1000000000,.aa ((aU 10 n).length:Nat))):=by
 refine sC [(305,xI),Yt,Yu] Vc.1 ?_;intro(n:Nat) ⟨F,aj⟩ H aq ⟨V,el,c,aR,O,T⟩;obtain⟨S,z,e⟩:=alJ F aj;refine I 8<|aS Ys n (by show n<_;omega)<|aS Yt (bG n) (by show bG n<=_;omega) ?_;generalize B:bG n*78913/262144=l at *;refine aJ 6 (.aa l) j (by rw[<-B])<|I 8<|afb O T ?_;refine aJ 10 (.ip<|.i .u64 ((10^l:Nat):Int)::xH.drop (l+1)) j (by rw[alF R])<|I 2<|aJ 12 (.b<|decide (10^l<=n)) j (congrArg ag.b apt)<|aS Yu (decide (10^l<=n)) az ?_;obtain⟨q,E⟩:∃q:Nat,q=if 10^l<=n then 1 else 0:=dN;have f:q<=1:=by grind
 refine aJ 13 (.aa q) j (by show ag.i _ (if decide _=true then 1 else 0)=_;rw[E];by_cases h:10^l<=n<;>simp[h])<|I 5 ?_;exact bn (ep j j (.of (by
  show ag.i _ _=ag.aa ((aU 10 n).length:Nat);exact eV)))
def mJ:ac ci:=[48,48,48,49,48,50,48,51,48,52,48,53,48,54,48,55,48,56,48,57,49,48,49,49,49,50,49,51,49,52,49,53,49,54,49,55,49,56,49,57,50,48,50,49,50,50,50,51,50,52,50,53,50,54,50,55,50,56,50,57,51,48,51,49,51,50,51,51,51,52,51,53,51,54,51,55,51,56,51,57,52,48,52,49,52,50,52,51,52,52,52,53,52,54,52,55,52,56,52,57,53,48,53,49,53,50,53,51,53,52,53,53,53,54,53,55,53,56,53,57,54,48,54,49,54,50,54,51,54,52,54,53,54,54,54,55,54,56,54,57,55,48,55,49,55,50,55,51,55,52,55,53,55,54,55,55,55,56,55,57,56,48,56,49,56,50,56,51,56,52,56,53,56,54,56,55,56,56,56,57,57,48,57,49,57,50,57,51,57,52,57,53,57,54,57,55,57,56,57,57]
def nT:∀k,k<100->mJ[2*k]? =some (UInt8.ofNat<|48+k/10)/\mJ[2*k+1]? =some (UInt8.ofNat<|48+k%10)/\(mJ.drop<|2*k).take 2=[UInt8.ofNat<|48+k/10,UInt8.ofNat<|48+k%10]:=by decide +kernel
def d36:ac ci:=[48,49,50,51,52,53,54,55,56,57,97,98,99,100,101,102,103,104,105,106,107,108,109,110,111,112,113,114,115,116,117,118,119,120,121,122]
def alK:∀k,k<10->(d36.drop k).take 1=[UInt8.ofNat<|48+k]:=by decide +kernel
def alL(aC:10<=n)(aI:n<100):dec n=[n/10,n%10]:=by
 unfold dec;rw[av R,nL ai R,nL ai R,show n/10/10=0 by omega,g1,show n/10%10=n/10 by omega];rfl
def Yw:bl 365 (bV λ(n:Nat)=>([.aa n],n<100,.s<|eA n)):=by
 refine bL [] TC.1 ?_;intro(n:Nat) (aj:n<100) H aq;refine I 12<|cT (λh=>?_) λh=>?_
 .have h:n<10:=by omega
  refine I 5<|cj 7 ((n+1:Nat):Int)<|q7 [UInt8.ofNat<|48+n] ?_ (aB:=by rw[show n+1-n=1 by omega];exact alK n h) (cD:=by show n+1<=36;omega);exact I 5<|bn (ep j j (.of<|by show ag.s _=ag.s (eA n);unfold eA;rw[X8 h];rfl))
 .refine I 6<|cj 10 ((2*n:Nat):Int)<|I 2<|cj 12 ((2*n:Nat):Int)<|I 1<|cj 13 ((2*n+2:Nat):Int)<|q7 [UInt8.ofNat<|48+n/10,UInt8.ofNat<|48+n%10] ?_ (aB:=by rw[show 2*n+2-2*n=2 by omega];exact(nT n aj).2.2) (cD:=by show 2*n+2<=200;omega);exact I 4<|bn (ep j j (.of<|by show ag.s _=ag.s (eA n);unfold eA;rw[alL R aj];rfl))
def Hn(n cY J:Nat):ci:=UInt8.ofNat<|48+n/10^(cY-1-J)%10
structure kd(n cY i:Nat)(l:ac ci)(u:Nat):Prop where
 u:u=n/10^(cY-i)
 len:l.length=24
 le:i<=cY
 nd:∀J,i<=J->J<cY->l[J]? =some (Hn n cY J)
variable{u r cY:Nat}
def kd.two{l:ac ci}(h:kd n cY (i+2) l u)(e:cY<=24):kd n cY i ((l.set (i+1)<|UInt8.ofNat<|48+u%100%10).set i<|UInt8.ofNat<|48+u%100/10) (u/100):=by
 obtain⟨Y,G,A,T⟩:=h;have S:cY-(i+2)=cY-1-(i+1):=R
 have z:cY-1-i=cY-(i+2)+1:=R
 refine⟨?_,by simp[G],R,λJ c o=>?_⟩
 .rw[Y,show cY-i=cY-(i+2)+2 by omega,iA,qz]
 .rcases(show J=i\/J=i+1\/i+2<=J by omega)with rfl|rfl|h
  .rw[AA dM];unfold Hn;rw[z,g6,<-qz];congr 2;omega
  .rw[nq R,AA R];unfold Hn;rw[<-S];congr 2;omega
  .rw[nq R,nq R];exact T J h o
def kd.one{l:ac ci}(h:kd n cY 1 l u)(M:u<10):kd n cY 0 (l.set 0<|UInt8.ofNat<|48+u) 0:=by
 obtain⟨Y,G,A,T⟩:=h;refine⟨?_,by simp[G],R,λJ c o=>?_⟩
 .rw[show cY-0=cY-1+1 by omega,g6,<-qz];omega
 .rcases(show J=0\/1<=J by omega)with rfl|h
  .rw[AA R];unfold Hn;rw[show cY-1-0=cY-1 by omega,<-Y,gR M]
  .rw[nq R];exact T J h o
def kd.fin{l:ac ci}(h:kd n cY 0 l u)(bX:n≠0)(j:cY=(aU 10 n).length)(e:cY<=24):l.take cY=eA n:=by
 obtain⟨Y,G,A,T⟩:=h;unfold eA dec;rw[av bX];apply nY;intro J;by_cases V:J<cY
 .rw[nn,aD V,T J (c8 _) V];unfold hs;rw[x8,List.getElem?_reverse R,<-j,tC ai R];rfl
 .rw[yc dM,yc<|by rw[tD,qA];omega]
def xJ(x:Nat):(2*(x%100)+1)%4294967296=2*(x%100)+1:=R
def vp(h:u<1000000000):(u%100000000%4294967296=u%100000000)/\(u/100000000%18446744073709551616=u/100000000)/\(u%100000000/10000%4294967296=u/10000%10000)/\(u%100000000%10000=u%10000)/\(u%10000/100%4294967296*2%4294967296=2*(u/100%100))/\(u%10000%100*2%4294967296=2*(u%100))/\(u/10000%10000/100%4294967296*2%4294967296=2*(u/100/100/100%100))/\(u/10000%10000%100*2%4294967296=2*(u/100/100%100)):=by
 have O:u/10000=u/100/100:=R
 have T:u%100000000/10000=u/10000%10000:=R
 have f:∀x:Nat,x%10000/100%4294967296*2%4294967296=2*(x/100%100)/\x%10000%100*2%4294967296=2*(x%100):=λx=>R
 refine⟨R,R,?_,R,(f u).1,(f u).2,?_,?_⟩
 .rw[T];omega
 .rw[O];exact(f _).1
 .rw[O];exact(f _).2
def MW(h:u<1000000000):u/10000%4294967296=u/10000/\u%10000/100%4294967296*2%4294967296=2*(u/100%100)/\u%10000%100*2%4294967296=2*(u%100):=R
def Yx(h:u<1000000000):u%100*2%4294967296=2*(u%100)/\u/100%4294967296=u/100:=R
def oH{M:eR}{K:ac dA}{own a9:ac aZ}{ax aT F back:Nat}{e E:bP}{d:Tmp}{aA:ac Tmp}{xs:ac (bj×cn)}{x i:ce}{l:ac ci}{J:Nat}{bD:f6}(ff:ci)(ba:l[J]? =some ff)(k:bM.ok M ⟨K,.d xs a9 ((d,.i .u8 (ff.toNat:Int))::E) aT F,⟨own,ax,(d,.i .u8 (ff.toNat:Int))::e⟩⟩)(O:a5 (dZ aA E) x=some (.s l):=by rfl)(af:a5 (dZ aA E) i=some (.i bD (J:Int)):=by rfl)(ay:back<aT:=by decide):bM.ok M ⟨K,.d ((⟨some d,.uk x i,none⟩,.read back aA)::xs) a9 E aT F,⟨own,ax,e⟩⟩:=
 l2 (a:=.i .u8 ff.toNat) ay (λN c st o D _ _=>⟨.int .u8 (ff.toNat:Int),j,λL _ _=>by
  have Y:=D.ar O;have G:=D.ar af;obtain⟨aW,S⟩:=dP.1 ba;show hX (o.ar x) (λs=>fX (o.ar i) (λ_ J=>hJ J (λJ=>hK s.data.toList J 1 (λb2=>one b2 (λb=>a2.ok (.int .u8<|.ofNat b.toNat) o L) a2.no) a2.no) a2.no) a2.no) a2.no=_;rw[Y,Sym.y9,G];show hK l J 1 _ _=_;rw[Sym.za R,fj aW,S];rfl⟩) k
def Ho:df:=q5 ni ni.up λ(n:Nat)=>([.i .u64 n,.aa 10],n<1000000000,.s<|eA n)
def alM:bl 283 Ho:=by
 refine sC [Yw,Yv] Ug.1 ?_;intro(n:Nat) (aj:n<1000000000) H aq g;refine I 20<|cT (λh=>?_) λh=>?_
 .have h:n<100:=by omega
  exact I 4<|cj 14 (n:Nat)<|aS Yw n h<|I 6<|eD
 have w:n≠0:=R
 obtain⟨cY,A⟩:∃cY,cY=(aU 10 n).length:=dN;have P:cY<=9:=by rw[A];exact je ai aj
 have v:2<cY:=by rw[A];exact CF ai R
 refine I 10<|aS Yv n ⟨w,aj⟩ (aJ 17 (.aa (cY:Nat)) j (by rw[A])<|I 6<|ks 0 k4 (List.replicate 24 0) ?_) (cK:=g);refine e0 arI ?_;refine aJ 19 (.aH 0 1 0 cY 24) j au<|I 1<|xd TD.1 bu ?_;intro t S B af _;have af:S.length=1:=af;refine I 9<|iI (L:=Nat×ac ci×Nat) (λ(i,l,u)=>kd n cY i l u/\i<8) (λ(i,l,u)=>⟨[.a 403 false 1 ci k4 l],1,[(0,.aH 0 1 0 cY 24),(1,.i .u64 (u:Nat)),(4,.aa (i:Nat))]⟩) ?_ ?_
 .refine ea (L:=Nat×ac ci×Nat) (λ(i,l,u)=>kd n cY i l u) (λ(i,l,u)=>⟨[.a 403 false 1 ci k4 l],1,[(0,.aH 0 1 0 cY 24),(1,.i .u64 (u:Nat)),(4,.aa (i:Nat))]⟩) (λl=>l.1) [0] (cY,List.replicate 24 0,n) ⟨au,au,cf _,λz Y G=>R⟩ (by show cY<4611686018427387904;omega) apx ?_;rintro⟨i,l,u⟩ o;have o:kd n cY i l u:=o;have c:=o.le;have M:u<=n:=by rw[o.u];exact ki _ _
  refine I 7<|cT (λW=>?_) λW=>?_
  .obtain⟨aa,rfl⟩:∃aa,i=aa+8:=⟨i-8,R⟩;have e:u<1000000000:=by omega
   have O:=kd.two (i:=aa+6) o R;have N:=kd.two (i:=aa+4) O R;have Q:=kd.two (i:=aa+2) N R;have F:=kd.two (i:=aa) Q R;have f:=o.len;refine I 8<|aJ 23 (.i .u32 ((u%100000000:Nat):Int)) j (congrArg (λn:Nat=>ag.i .u32 (n:Int)) (vp e).1) ?_;refine I 7<|aJ 25 (.i .u64 ((u/100000000:Nat):Int)) j (congrArg (λn:Nat=>ag.i .u64 (n:Int)) (vp e).2.1) ?_;refine I 7<|aJ 27 (.i .u32 ((u/10000%10000:Nat):Int)) j (congrArg (λn:Nat=>ag.i .u32 (n:Int)) (vp e).2.2.1) ?_;refine I 2<|aJ 29 (.i .u32 ((u%10000:Nat):Int)) j (congrArg (λn:Nat=>ag.i .u32 (n:Int)) (vp e).2.2.2.1) ?_;refine I 9<|aJ 32 (.i .u32 ((2*(u/100%100):Nat):Int)) j (congrArg (λn:Nat=>ag.i .u32 (n:Int)) (vp e).2.2.2.2.1) ?_;refine I 3<|aJ 35 (.i .u32 ((2*(u%100):Nat):Int)) j (congrArg (λn:Nat=>ag.i .u32 (n:Int)) (vp e).2.2.2.2.2.1) ?_;refine I 9<|aJ 38 (.i .u32 ((2*(u/100/100/100%100):Nat):Int)) j (congrArg (λn:Nat=>ag.i .u32 (n:Int)) (vp e).2.2.2.2.2.2.1) ?_;refine I 3<|aJ 41 (.i .u32 ((2*(u/100/100%100):Nat):Int)) j (congrArg (λn:Nat=>ag.i .u32 (n:Int)) (vp e).2.2.2.2.2.2.2) ?_;refine I 9<|dF 44 (.aa (((aa+6)+1:Nat):Int)) j j eV<|I 2<|dF 49 (.i .u32 ((2*(u%100)+1:Nat):Int)) j j aq5 ?_;refine oH (l:=mJ) _ (nT _<|eY u ai).2.1 ?_;refine cP j j<|nG (UInt8.ofNat<|48+u%100%10) ?_;refine I 3<|dF 47 (.aa ((aa+6):Nat)) j j eV<|I 1<|oH (l:=mJ) _ (nT _<|eY u ai).1 ?_;refine cP j j<|nG (UInt8.ofNat<|48+u%100/10) ?_;refine I 7<|dF 57 (.aa (((aa+4)+1:Nat):Int)) j j eV<|I 2<|dF 62 (.i .u32 ((2*((u/100)%100)+1:Nat):Int)) j j as6 ?_;refine oH (l:=mJ) _ (nT _<|eY (u/100) ai).2.1 ?_;refine cP j j<|nG (UInt8.ofNat<|48+(u/100)%100%10) ?_;refine I 3<|dF 60 (.aa ((aa+4):Nat)) j j eV<|I 1<|oH (l:=mJ) _ (nT _<|eY (u/100) ai).1 ?_;refine cP j j<|nG (UInt8.ofNat<|48+(u/100)%100/10) ?_;refine I 7<|dF 70 (.aa (((aa+2)+1:Nat):Int)) j j eV<|I 2<|dF 75 (.i .u32 ((2*((u/100/100)%100)+1:Nat):Int)) j j (congrArg (λn:Nat=>ag.i .u32 (n:Int))<|xJ<|u/100/100) ?_;refine oH (l:=mJ) _ (nT _<|eY (u/100/100) ai).2.1 ?_;refine cP j j<|nG (UInt8.ofNat<|48+(u/100/100)%100%10) ?_;refine I 3<|dF 73 (.aa ((aa+2):Nat)) j j eV<|I 1<|oH (l:=mJ) _ (nT _<|eY (u/100/100) ai).1 ?_;refine cP j j<|nG (UInt8.ofNat<|48+(u/100/100)%100/10) ?_;refine I 7<|dF 83 (.aa ((aa+1:Nat):Int)) j j eV<|I 2<|dF 88 (.i .u32 ((2*((u/100/100/100)%100)+1:Nat):Int)) j j (congrArg (λn:Nat=>ag.i .u32 (n:Int))<|xJ<|u/100/100/100) ?_;refine oH (l:=mJ) _ (nT _<|eY (u/100/100/100) ai).2.1 ?_;refine cP j j<|nG (UInt8.ofNat<|48+(u/100/100/100)%100%10) ?_;refine I 3<|dF 86 (.aa (aa:Nat)) j j eV<|I 1<|oH (l:=mJ) _ (nT _<|eY (u/100/100/100) ai).1 ?_;refine cP j j<|nG (UInt8.ofNat<|48+(u/100/100/100)%100/10) ?_;exact I 8<|bB [0] (aa,_,u/100/100/100/100) ⟨by show aa<aa+8;omega,F⟩ apx
  .exact I 4<|bB [0] (i,l,u) ⟨o,R⟩ apx
 rintro⟨i,l,u⟩ ⟨o,W⟩;have o:kd n cY i l u:=o;have W:i<8:=W;have M:u<=n:=by rw[o.u];exact ki _ _
 refine I 14<|aJ 12 (.i .u32 (u:Nat)) j fG<|gZ (L:=Nat×ac ci×Nat) (λ(i,l,u)=>kd n cY i l u/\i<4/\u<=n) (λ(i,l,u)=>⟨[.a 403 false 1 ci k4 l],1,[(0,.aH 0 1 0 cY 24),(12,.i .u32 (u:Nat)),(4,.aa (i:Nat))]⟩) ?_ ?_
 .refine cT (λT=>?_) λT=>?_
  .obtain⟨aa,rfl⟩:∃aa,i=aa+4:=⟨i-4,R⟩;have O:=kd.two (i:=aa+2) o R;have N:=kd.two (i:=aa) O R;have f:=o.len;have e:u<1000000000:=by omega
   have c:=o.le;refine I 11<|aJ 103 (.i .u32 ((u/10000:Nat):Int)) j (congrArg (λn:Nat=>ag.i .u32 (n:Int)) (MW e).1) ?_;refine I 8<|aJ 106 (.i .u32 ((2*(u/100%100):Nat):Int)) j (congrArg (λn:Nat=>ag.i .u32 (n:Int)) (MW e).2.1) ?_;refine I 3<|aJ 109 (.i .u32 ((2*(u%100):Nat):Int)) j (congrArg (λn:Nat=>ag.i .u32 (n:Int)) (MW e).2.2) ?_;refine I 9<|dF 112 (.aa (((aa+2)+1:Nat):Int)) j j eV<|I 2<|dF 117 (.i .u32 ((2*(u%100)+1:Nat):Int)) j j aq5 ?_;refine oH (l:=mJ) _ (nT _<|eY u ai).2.1 ?_;refine cP j j<|nG (UInt8.ofNat<|48+u%100%10) ?_;refine I 3<|dF 115 (.aa ((aa+2):Nat)) j j eV<|I 1<|oH (l:=mJ) _ (nT _<|eY u ai).1 ?_;refine cP j j<|nG (UInt8.ofNat<|48+u%100/10) ?_;refine I 7<|dF 125 (.aa ((aa+1:Nat):Int)) j j eV<|I 2<|dF 130 (.i .u32 ((2*((u/100)%100)+1:Nat):Int)) j j as6 ?_;refine oH (l:=mJ) _ (nT _<|eY (u/100) ai).2.1 ?_;refine cP j j<|nG (UInt8.ofNat<|48+(u/100)%100%10) ?_;refine I 3<|dF 128 (.aa (aa:Nat)) j j eV<|I 1<|oH (l:=mJ) _ (nT _<|eY (u/100) ai).1 ?_;refine cP j j<|nG (UInt8.ofNat<|48+(u/100)%100/10) ?_;exact I 7<|bB [0] (aa,_,u/100/100) ⟨N,by show aa<4;omega,ch (ki _ _)<|ch (ki _ _) M⟩ apx
  .exact I 1<|bB [0] (i,l,u) ⟨o,by show i<4;omega,M⟩ apx
 rintro⟨i,l,u⟩ ⟨o,T,M⟩;have o:kd n cY i l u:=o;have T:i<4:=T;refine I 7<|gZ (L:=Nat×ac ci×Nat) (λ(i,l,u)=>kd n cY i l u/\i<2/\u<=n) (λ(i,l,u)=>⟨[.a 403 false 1 ci k4 l],1,[(0,.aH 0 1 0 cY 24),(12,.i .u32 (u:Nat)),(4,.aa (i:Nat))]⟩) ?_ ?_
 .refine cT (λG=>?_) λG=>?_
  .obtain⟨aa,rfl⟩:∃aa,i=aa+2:=⟨i-2,R⟩;have O:=kd.two (i:=aa) o R;have f:=o.len;have e:u<1000000000:=by omega
   have c:=o.le;refine I 5<|aJ 142 (.i .u32 ((2*(u%100):Nat):Int)) j (congrArg (λn:Nat=>ag.i .u32 (n:Int)) (Yx e).1) ?_;refine I 7<|aJ 144 (.i .u32 ((u/100:Nat):Int)) j (congrArg (λn:Nat=>ag.i .u32 (n:Int)) (Yx e).2) ?_;refine I 8<|dF 147 (.aa ((aa+1:Nat):Int)) j j eV<|I 2<|dF 152 (.i .u32 ((2*(u%100)+1:Nat):Int)) j j aq5 ?_;refine oH (l:=mJ) _ (nT _<|eY u ai).2.1 ?_;refine cP j j<|nG (UInt8.ofNat<|48+u%100%10) ?_;refine I 3<|dF 150 (.aa (aa:Nat)) j j eV<|I 1<|oH (l:=mJ) _ (nT _<|eY u ai).1 ?_;refine cP j j<|nG (UInt8.ofNat<|48+u%100/10) ?_;exact I 7<|bB [0] (aa,_,u/100) ⟨O,by show aa<2;omega,ch (ki _ _) M⟩ apx
  .exact I 1<|bB [0] (i,l,u) ⟨o,by show i<2;omega,M⟩ apx
 rintro⟨i,l,u⟩ ⟨o,G,M⟩;have o:kd n cY i l u:=o;have G:i<2:=G;have f:=o.len;refine I 6<|cT (λY=>?_) λY=>?_
 .have D:i=1:=by omega
  subst D;have e:u<10:=by
   rw[o.u];refine v3 ?_;have:=G9 (b:=10) (n:=n) (k:=cY) ai R
   rwa [show cY=(cY-1)+1 by omega,g6]at this
  have Z:=o.one e;refine I 4<|aJ 164 (.i .u32 ((48+u:Nat):Int)) j (congrArg (λn:Nat=>ag.i .u32 (n:Int)) (show(48+u)%4294967296=48+u by omega)) ?_;refine I 1<|aJ 165 (.i .u8 ((UInt8.ofNat<|48+u).toNat:Int)) j (by rw[UInt8.toNat_ofNat'])<|lF (J:=0) j j<|kI (UInt8.ofNat<|48+u) ?_;refine I 1 ?_;exact bn ⟨.inl j,_,j,by
   refine I 5<|e0 arI ?_;refine aJ 23 (.aH 0 1 0 cY 24) j au<|Lh (eA n) ?_ (aj:=by rw[Z.len];omega) (aB:=Z.fin w A R);refine I 5 ?_;exact eD⟩
 .have D:i=0:=by omega
  subst D;have Z:=o;refine I 1 ?_;exact bn ⟨.inl j,_,j,by
   refine I 5<|e0 arI ?_;refine aJ 23 (.aH 0 1 0 cY 24) j au<|Lh (eA n) ?_ (aj:=by rw[Z.len];omega) (aB:=Z.fin w A R);refine I 5 ?_;exact eD⟩
def Hp:df where
 L:=Nat
 args:=λk=>[.i .u64 1,.i .u64 k]
 pre:=λk=>k<9
 res:=λk=>.bc [.i .u64 0,.i .u64 k]
def Yy(h:k<9):k=0\/k=1\/k=2\/k=3\/k=4\/k=5\/k=6\/k=7\/k=8:=R
def alN:et b5.ctx 370 Hp.spec:=by
 refine bL [] Us.1 ?_;intro(k:Nat) (N:k<9) H aq;rcases Yy N with rfl|rfl|rfl|rfl|rfl|rfl|rfl|rfl|rfl
 all_goals
  exact I 99<|eD
def alO:et b5.ctx 284 Hp.spec:=by
 apply bL [(370,Hp.spec)] VV.1;intro(k:Nat) N H aq;exact I 14<|aS alN k N<|I 16<|eD
def Hq:df:=bV λ((a,t,c):ci×ac ci×ci)=>([.s<|a::t,.s [c]],t.length<=1073741824,.b<|[a]==[c])
def alP:bl 207 Hq:=by
 apply bL [] LV.1;intro⟨a,t,c⟩ N H aq;exact I 13<|aJ 10 (.b true) j dM<|I 7<|q7 (p:=0) (q:=1) [a] (I 9<|eD) (cD:=au)
def MX:bl 233 Hq:=by
 apply bL [(207,Hq)] Uf.1;intro⟨a,t,c⟩ N H aq;exact I 9<|aS alP (a,t,c) N<|I 4<|eD
def MY:bl 174 (bV λ(k:Nat)=>([.s [48],.aa k],k<9,.s<|List.replicate k 48)):=by
 refine bL [(284,Hp.spec),(233,Hq)] Tr.1 ?_;intro(k:Nat) (N:k<9) H aq;rcases Yy N with rfl|rfl|rfl|rfl|rfl|rfl|rfl|rfl|rfl
 .exact I 27<|eD
 .exact I 35<|eD
 all_goals
  refine I 46<|aS alO _ N<|I 45<|na 48 (J:=0) j<|I 37<|aS MX (32,List.replicate 127 32,48) (ib j)<|I 13<|aS MX (45,List.replicate 127 45,48) (ib j)<|I 13<|aS MX (48,List.replicate 63 48,48) (ib j)<|I 8<|q7 (p:=0) (l:=List.replicate 64 48) _ ?_ (aB:=j) (cD:=ai);exact I 7<|eD
def alQ:bl 173 Ho:=by
 refine sC [(283,Ho)] UR.1 ?_;intro n aj N aq T;exact I 9<|aS alM n aj (I 4<|eD) (cK:=T)
def alR(I:r<1000000000)(cD:q≠0):aU 10 (r+1000000000*q)=ix 9 r++aU 10 q:=by
 have ok:=λd T=>(gA.1 T).elim ((XF 9 r) d)<|(hb ai q) d;have S:val 10 (ix 9 r++aU 10 q)=r+1000000000*q:=by
  rw[l6,XG,xB,gx ai];have:=gR R;rw[this]
 have N:fg (ix 9 r++aU 10 q)=ix 9 r++aU 10 q:=by
  have h:=va (b:=10) ai q;rcases pE (aU 10 q)with F|⟨dw,d,F⟩
  .exact absurd ((oC ai).1 F) cD
  .rw[rQ]at F;have T:d≠0:=by rw[F]at h;exact(CE (b:=10) h).2
   rw[F,<-sY,ri,av T]
 rw[<-S];exact zJ ai ok N
def alS(I:r<1000000000):(ix 9 r).reverse=List.replicate (9-(dec r).length) 0++dec r:=by
 have B:(aU 10 r).length<=9:=je ai R;by_cases F:r=0
 .subst F;decide +kernel
 have e:ix 9 r=aU 10 r++List.replicate (9-(aU 10 r).length) 0:=by
  apply nY;intro J;have g:∀J,J<9->(ix 9 r)[J]? =some (r/10^J%10):=λJ V=>by simp[ix,V]
  by_cases V:J<9
  .rw[g J V];by_cases Y:J<(aU 10 r).length
   .rw[oQ Y,tC ai Y]
   .have Z:=Decidable.not_not.1 λh=>Y<|(xz ai).2 h;rw[qw R,AE,aD R,Z]
  .rw[yc<|by rw[xB];omega,yc dM]
 have z:dec r=(aU 10 r).reverse:=by unfold dec;rw[av F]
 rw[e,v8,List.reverse_replicate,z,qA]
def Yz(I:r<1000000000)(cD:q≠0):eA (r+1000000000*q)=eA q++(List.replicate (9-(eA r).length) 48++eA r):=by
 have e:dec (r+1000000000*q)=dec q++(List.replicate (9-(dec r).length) 0++dec r):=by
  rw[<-alS I];have Y:dec (r+1000000000*q)=(aU 10<|r+1000000000*q).reverse:=by unfold dec;rw[av R]
  have G:dec q=(aU 10 q).reverse:=by unfold dec;rw[av cD]
  rw[Y,G,alR I cD,v8]
 unfold eA;rw[e,MG,MG,tD];congr 2;unfold hs;rw[List.map_replicate];rfl
def tE(s:ac ci):ac ag:=[.s s]
def mK(a7:ac (ac ci)):ac ci:=a7.reverse.flatten
def YA(a7:ac (ac ci))(s:ac ci):mK (a7++[s])=s++mK a7:=by unfold mK;rw[v8];rfl
def alT{a7:ac (ac ci)}(h:k<a7.length):mK (a7.drop k)=mK (a7.drop<|k+1)++a7[k]:=by
 unfold mK;rw[fj h,List.reverse_cons];simp
def alU(m:Nat):ac (ac ci)->cb
 |[]=>⟨[],0,[(0,dt m),(3,.nl)]⟩
 |p::a7=>⟨[.a 9 true 1 (ac ci) tE<|p::a7],1,[(0,dt m),(3,.aH 0 1 0 (p::a7).length (p::a7).length)]⟩
def alV(a7:ac (ac ci))(k:Nat):ac ci->cb
 |[]=>⟨[.c 274 [.v<|.pointer none,.nl]],1,[(3,.b6 1 (ac ci) tE a7),(7,.p 0 0),(8,.aa<|(k:Int)-1)]⟩
 |c::cs=>⟨[.c 274 [.p 0 0,.aH 1 1 0 (c::cs).length (c::cs).length],.a 5 true 1 ci k4<|c::cs],2,[(3,.b6 1 (ac ci) tE a7),(7,.p 0 0),(8,.aa<|(k:Int)-1)]⟩
def alW:∀{a7:ac (ac ci)},(∀p∈a7,p.length<=9)->(mK a7).length<=9*a7.length:=λ{a7} h=>by
 unfold mK
 induction a7 with
 |nil=>simp
 |cons p a7 I=>
  have Y:=h p au;have G:=I λq E=>h q<|fq _ E;simp at G⊢;omega
def MZ(h:ei k n):(aU 10 n).length<=10*k:=je ai (by
 refine e2 (tz h) ?_;rw[qy];exact v5 ai k)
def alX(h:m≠0):(aU 10<|m/1000000000).length<(aU 10 m).length:=by
 rw[nL ai h];refine Nat.lt_succ_of_le<|je ai<|mT ?_ (G9 ai<|cf _);omega
def alY(h:r<1000000000):(eA r).length<=9:=by
 unfold eA dec;rw[tD];split
 .simp
 .rw[qA];exact je ai R
def M0:bl 86 (q5 ni ni.up λ(n:Nat)=>([dt n],ei 1073741823 n,.s<|eA n)):=by
 refine sC [GL,(173,Ho),MY] Vw.1 ?_;intro(n:Nat) (aj:ei _ n) H aq T;refine I 13<|cT (λh=>?_) λh=>?_
 .have F:n=0:=tA.1 R;subst F;exact I 7<|eD
 have w:n≠0:=λe=>h (by rw[e,g1];rfl);refine I 9<|iI (L:=ac<|ac ci) (λg=>mK g=eA n/\g≠[]/\g.length<=10737418230/\∀p∈g,p≠[]/\p.length<=9) (λg=>⟨[],0,[(3,.b6 1 (ac ci) tE g)]⟩) ?_ ?_
 .refine ea (L:=Nat×ac (ac ci)) (λ(m,g)=>ei 1073741823 m/\g.length+(aU 10 m).length<=10737418230/\eA n=(if m=0 then[]else eA m)++mK g/\(m=0->g≠[])/\∀p∈g,p≠[]/\p.length<=9) (λ(m,g)=>alU m g) (λl=>(aU 10 l.1).length) [] (n,[]) ?_ ?_ bk ?_
  .exact aql aql
  .show(aU 10 n).length<bs+1;have:=MZ aj;unfold bs;omega
  rintro⟨m,g⟩ ⟨W,a',a0,cJ,c2⟩;rcases g with _|⟨p,g⟩
  all_goals
   refine I 8<|cT (λhm=>?_) (λhm=>?_)
   rotate_left
   .have hm:m=0:=tA.1 R;subst hm
    first
    |exact absurd j (cJ j)
    |refine Lf 3 ?_
     exact I 4<|dD [] (p::g) ⟨by rw[a0,aD j];rfl,au,by simp at a' ⊢;omega,c2⟩
   have hm:m≠0:=λe=>by rw[e,g1]at hm;simp at hm
   have ab:m%1000000000<1000000000:=eY _ ai;have v:=alX hm;have t:=alY ab;have an:0<(eA<|m%1000000000).length:=oV.2<|zT _;refine I 6<|aS GL (m,1000000000) ⟨dq W,by show 0<1000000000;decide,by show 1000000000<4294967296;decide⟩<|I 11<|aJ 21 (.i .u64 ((m%1000000000:Nat):Int)) j (congrArg (λn:Nat=>ag.i .u64 (n:Int))<|gR<|Nat.lt_trans ab ai) ?_;refine aS alQ (m%1000000000) ab ?_ (cK:=T);have X:m%1000000000+1000000000*(m/1000000000)=m:=AD _ _;generalize m%1000000000=r at *;generalize E:m/1000000000=q at *;refine dW 6 ?_
   iterate 3 refine fE j ?_
  .refine gZ (L:=ac ci) (λD=>D≠[]/\D.length<=9/\eA m=(if q=0 then[]else eA q)++D) (λD=>⟨[],0,[(3,.nl),(4,dt q),(6,.s D)]⟩) ?_ ?_
   .refine I 7<|cT (λo=>?_) λo=>?_
    .have o:q≠0:=λe=>by rw[e,g1]at o;simp at o
     obtain⟨z,Z⟩:∃z:Nat,z=9-(eA r).length:=dN;refine I 4<|cj 28 (z:Nat)<|aS MY z (by show z<9;omega)<|I 1<|sw ?_ (aB:=by rw[qt];omega);refine I 2 ?_;refine bB [] (List.replicate z 48++eA r) ar0 bk
    .have o:q=0:=tA.1 R;exact I 1<|dD [] (eA r) ⟨zT _,t,by rw[aD o,<-X,o];rfl⟩
   rintro D ⟨bJ,K,Q⟩;refine I 5<|w8 tE [D] (iH (ah:=tE) [D] j) ?_;refine I 8<|dD [1] (q,[D]) ⟨by show(aU 10 q).length<(aU 10 m).length;exact v,tx W<|by rw[<-E];exact ki _ _,by show 1+(aU 10 q).length<=_;simp at a';omega,by rw[a0,av hm,Q,sY,show mK [D]=D++mK []from YA [] D],λ_=>au,?_⟩;intro x O;have:x=D:=by simpa using O
   subst this;exact⟨bJ,K⟩
  .refine gZ (L:=ac ci) (λD=>D≠[]/\D.length<=9/\eA m=(if q=0 then[]else eA q)++D) (λD=>⟨[.a 9 true 1 (ac ci) tE<|p::g],1,[(3,.aH 0 1 0 (p::g).length (p::g).length),(4,dt q),(6,.s D)]⟩) ?_ ?_
   .refine I 7<|cT (λo=>?_) λo=>?_
    .have o:q≠0:=λe=>by rw[e,g1]at o;simp at o
     obtain⟨z,Z⟩:∃z:Nat,z=9-(eA r).length:=dN;refine I 4<|cj 28 (z:Nat)<|aS MY z (by show z<9;omega)<|I 1<|sw ?_ (aB:=by rw[qt];omega);refine I 2 ?_;refine bB [0] (List.replicate z 48++eA r) ar0 bk
    .have o:q=0:=tA.1 R;exact I 1<|dD [0] (eA r) ⟨zT _,t,by rw[aD o,<-X,o];rfl⟩
   rintro D ⟨bJ,K,Q⟩;refine I 5 ?_;have A:g.length<=10737418230:=by simp at a';omega
   refine q6 (ah:=tE) [D] (iH (ah:=tE) [D] j) ?_;refine I 8<|bB [2] (q,p::(g++[D])) ⟨by show(aU 10 q).length<(aU 10 m).length;exact v,tx W<|by rw[<-E];exact ki _ _,by simp at a' ⊢;omega,by rw[a0,av hm,Q,sY,show mK (p::(g++[D]))=D++mK (p::g)from YA (p::g) D],λ_=>au,?_⟩ (bk (aI:=⟨j,congrArg (λk=>some<|ag.aH 2 1 0 k k) au,az⟩));intro x O;rcases gA.1 (show x∈(p::g)++[D]from O)with h|h
   .exact c2 x h
   .have:x=D:=by simpa using h
    subst this;exact⟨bJ,K⟩
 rintro g ⟨W,a',a0,cJ⟩;have c2:0<g.length:=oV.2 a';have f:∀k,(mK<|g.drop k).length<=9*g.length:=λk=>ch (alW λp hp=>(cJ p<|yg hp).2)<|mh _ au;refine I 15<|ea (L:=Nat×ac ci) (λ(k,b2)=>k<=g.length/\mK (g.drop k)=b2) (λ(k,b2)=>alV g k b2) (λl=>l.1) [0] (g.length,[]) ⟨cf _,by rw[sU];rfl⟩ (by show g.length<bs+1;unfold bs;omega) bk ?_;rintro⟨k,b2⟩ ⟨ak,C⟩;cases k with
 |zero=>
  rw[iB,W]at C;cases b2 with
  |nil=>exact absurd C (zT n)
  |cons c cs=>
   have B:=f 0;rw[iB,W,C]at B;refine I 15<|xd T6.1 bu ?_;intro M S G _ _;refine I 11<|afe ?_ (aQ:=au);refine I 5<|aff ?_ (bX:=au) (ay:=R);refine I 4<|bn ⟨.inr j,_,j,?_⟩;exact I 4<|cC (by show ag.s (c::cs)=ag.s (eA n);rw[C])
 |succ m=>
  have hm:m<g.length:=R
  obtain⟨bJ,K⟩:=cJ _<|dH hm;have V:=alT hm;rw[C]at V;have B:=f<|m+1;rw[C]at B;have ad:g[m]? =some g[m]:=aO hm;generalize g[m]=s at *;cases b2 with
  |nil=>
   obtain⟨c,cs,rfl⟩:∃c cs,s=c::cs:=by cases s with
    |nil=>exact absurd j bJ
    |cons c cs=>exact⟨c,cs,j⟩
   refine aJ 8 (.aa (m:Nat)) j fG<|I 15<|aJ 41 (.b true) j au<|eW (c::cs) ad j<|I 1<|xd L0.1 bu ?_;intro M S G _ _;refine I 9<|xd LW.1 bu ?_;intro Y J P _ _;refine I 6<|e0 (afc j j) ?_;refine I 6<|e0 (ae3 j j ai) ?_;refine I 1<|e0 (ae4 j j j) ?_;refine I 4<|bn ⟨.inl j,_,j,?_⟩;refine I 10<|ae9 ?_;refine I 14<|bn ⟨.inr j,_,j,?_⟩;exact I 8<|bB [0,1] (m,c::cs) ⟨au,R,V⟩ bk
  |cons N b2=>
   have al:b2.length<=96636764070:=by simp at B;omega
   have ae:s.length<=9:=K;refine aJ 8 (.aa (m:Nat)) j fG<|I 15<|aJ 41 (.b true) j au<|eW s ad j<|I 1<|xd L0.1 bu ?_;intro M S G _ _;refine I 9<|xd LW.1 bu ?_;intro Y J P _ _;refine I 17<|e0 (afd j j) ?_;refine I 4<|bn ⟨.inl j,_,j,?_⟩;refine I 10<|afa ?_ (bX:=bJ);refine I 14<|bn ⟨.inr j,_,j,?_⟩;exact I 8<|bB [0,2] (m,N::(b2++s)) ⟨au,R,V⟩ (bk (aC:=⟨⟨_,j,congrArg (λk=>aZ.c 274 [.p 0 0,.aH 2 1 0 k k]) dM⟩,jS,az⟩))
theorem YB(h:ei k n):(eA n).length<=10*k+1:=by
 have:=MZ h;unfold eA dec;rw[tD]
 grind
theorem M1:bl 26 (q5 ni ni.up λ(x:Rat)=>([cU x],cq 268435456 x,.s<|kc x)):=by
 refine sC [M0] TN.1 ?_;intro x O N aq f;have Z:=YB O.1;have R:=YB O.2;refine I 10<|aS M0 x.num.natAbs (dq O.1) ?_ (cK:=f);refine dW 3 ?_
 iterate 3 refine fE j ?_
 obtain⟨u,M⟩:∃u,u=(if x.num<0 then[45]else[])++eA x.num.natAbs:=dN;have o:u.length<=10*268435456+2:=by
  grind
 refine gZ (L:=Unit) (λ_=>True) (λ_=>⟨[.c 45<|jU x],1,[(1,.p 0 0),(3,.s u)]⟩) ?_ ?_
 .refine I 6<|cT (λh=>?_) λh=>?_
  .exact I 2<|sw (I 2<|bB [0] () az (bk (aI:=⟨j,by rw[M,aD h];rfl,az⟩))) (aB:=by show 1+(eA _).length<=_;omega)
  .exact I 1<|bB [0] () az (bk (aI:=⟨j,by rw[M,av h];rfl,az⟩))
 intro _ _;refine I 5 ?_;by_cases T:x.den=1
 .refine aJ 12 (.hq 1 Nat fV []) j asU<|I 13<|cC ?_;show ag.s u=ag.s (kc x);rw[kc,<-M,aD T,rP]
 .refine cl 12 (CL T) ?_;refine I 3<|Rx j (by show m6 true _=true;rw[(IH.2 asY)];rfl) ?_;refine I 4<|e5 16 (dt x.den) j (W6 T)<|aS M0 x.den (dq O.2) (sw ?_) (cK:=f);refine sw ?_;refine I 10<|cC ?_;show ag.s (u++([47]++eA x.den))=ag.s (kc x);rw[kc,<-M,av T];rfl
def CY(v:Nat)(rest:ac ci):ac aZ:=[.c 43 [dt v],.c 9 [.s rest]]
def CZ{v K:Nat}(h:v<10^k)(aw:k<=K):ei K v:=rl<|e2 h<|ch (v5 ai k)<|j0 ai aw
def tF:d7->dV:=bD [oD,vc,GH]
def Hr:bl 55 (bV λ(s:ac ci)=>([.s s],jA s/\s.length<=2100,dt<|b7 s)):=by
 refine afk b5.eh ez tF (a4:=TV.1) bu (λl V st ⟨_,_,_,d⟩=>by rw[gq d];exact ib j) ?_;rintro⟨s,aB⟩ V st ⟨⟨ay,aN⟩,_,Z,T⟩;have ay:jA s:=ay;have aN:s.length<=2100:=aN;have Z:Fit aB [] st [] 0:=Z;have T:cG aB [.s s] [] V:=T;have bf:=cS.zero T;obtain⟨cz,cv,aw,cu,bb,aC,b',bI,eG⟩:=Lt (call:=cg aL (cw b5.ctx tF)<|bs+1) (a6:=bs+1) (fn:=55) (ops:=[C.m 2 C.bT]) (s:=⟨[],0,iT 0 [.s s]⟩) (t:=⟨[],0,[(2,.nl),(0,.s s)]⟩) j (by
  intro aw S aA _ _;refine I 2 ?_;exact bn fe) Z bf
 obtain⟨cB,cx,Y,cn,z,aE,jv,bL,fD⟩:=Lt (call:=cg aL (cw b5.ctx tF)<|bs+1) (a6:=bs+1) (fn:=55) (ops:=[C.hx 3 [C.N] 43]) (s:=⟨[],0,[(2,.nl),(0,.s s)]⟩) (t:=⟨[.c 43 [dt 0]],1,[(3,.p 0 0),(2,.nl),(0,.s s)]⟩) j (by
  intro aw S aA _ _
  iterate 1 refine fE j ?_
  refine afm 0 (cs:=[.nl]) [dt 0] ⟨bz.nl.trans (.of<|by show ds []=ds (aU _ 0);rw[g1]),az⟩ ?_;refine I 1 ?_;exact bn fe) b' bI
 obtain⟨A,M,ck,aj,H,aF,bg,aq,m5⟩:=Lt (call:=cg aL (cw b5.ctx tF)<|bs+1) (a6:=bs+1) (fn:=55) (ops:=[C.m 6 0,C.c 7 127 [6]]) (s:=⟨[.c 43 [dt 0]],1,[(3,.p 0 0),(2,.nl),(0,.s s)]⟩) (t:=⟨CY 0 s,2,[(7,.fn (.func 221) [] [.p 1 0]),(6,.s s),(3,.p 0 0),(2,.nl),(0,.s s)]⟩) j (by
  intro aw S aA _ _;refine I 1<|xd UP.1 bu ?_;intro Y cA cC _ _;refine I 13<|bn ⟨.inr j,_,j,?_⟩;refine I 1 ?_;exact bn fe) jv bL
 have b1:A.b4=none:=m5.trans<|fD.trans eG;obtain⟨Cz,ad,bh,ct,cr,aW,aG,aH,⟨bS,bD⟩,cJ,aZ,bm,a5⟩:=afJ (X:=b5.ctx) (aL:=aL) (br:=tF) (a6:=bs+1) (n:=4611686018427387902) (fn:=55) b1 bg aq (f:=7) (a7:=[8,9]) (ec:=C.q (C.ah [C.m 4 8])<|C.ah [C.m 5 9]) (body:=C.K 1<|.qE [C.D (C.m 11 5) [5],C.D (C.jO 12 .u64 11) [11],C.E<|C.c 13 56 [12],C.Kj (C.l 10 3) 1 [3],C.E<|C.c 14 61 [10,13],C.Kj (C.m 15 4) 2 [4],C.Kj (C.jO 16 .u64 15) 2 [15],C.E<|C.c 17 56 [16],C.E<|C.c 18 63 [14,17],C.E<|C.st 1 3 18] [1,2,3,0,4,5,6,7,8,9] [10,15,16] [0,1,3,0,15,0,32,127,255,511]) (g:=221) (a4:=VT.1) (q9:=[.p 1 0]) (λr U=>r=none/\U=CY (b7 s) []) bu j j (ib j) (by
  intro aA l G bO;have G:aj.length=2:=G;refine I 1<|ea (L:=ac ci×Nat) (λ(a',v)=>jA a'/\a'.length<=s.length/\v<10^(s.length-a'.length)/\b7 s=b7 a'+10^a'.length*v) (λ(a',v)=>⟨CY v a',2,[(0,.v<|.func (.yield l) #[] #[]),(1,.p 1 0)]⟩) (λl=>l.1.length) [0,1] (s,0) ⟨ay,cf _,au,au⟩ (by show List.length s<4611686018427387904;omega) apO ?_;rintro⟨a',v⟩ ⟨ar,cl,a0,cJ⟩;refine I 8<|cT (λak=>?_) λak=>?_
  .have ak:0<a'.length:=by omega
   refine I 16<|iI (L:=ac ci×ac ci) (λ(w,O)=>a'=w++O/\w.length<=9/\w≠[]) (λ(w,O)=>⟨CY v O,2,[(0,.v<|.func (.yield l) #[] #[]),(1,.p 1 0),(3,.i .u32 (b7 w:Nat)),(4,.i .u32 ((10^w.length:Nat):Int))]⟩) ?_ ?_
   .refine ea (L:=ac ci×ac ci) (λ(w,O)=>a'=w++O/\w.length<=9) (λ(w,O)=>⟨CY v O,2,[(0,.v<|.func (.yield l) #[] #[]),(1,.p 1 0),(3,.i .u32 (b7 w:Nat)),(4,.i .u32 ((10^w.length:Nat):Int)),(5,.aa (w.length:Nat))]⟩) (λl=>9-l.1.length) [0,1] ([],a') ⟨j,ai⟩ (by show 9-0<4611686018427387904;decide) apO ?_;rintro⟨w,O⟩ ⟨bJ,ao⟩;have F:jA w:=λc W=>ar c (by rw[bJ];exact n5 _ W);have an:=mH F;refine I 6 ?_;by_cases B:w.length<9
    .refine aJ 11 (.b true) j (congrArg ag.b<|cm R) ?_;cases O with
     |nil=>
      exact I 14<|bB [0,1] (w,[]) ⟨bJ,ao,λe=>by rw[e]at bJ;rw[bJ]at ak;simp at ak⟩ apO
     |cons c O=>
      have W:=ar c (by rw[bJ];simp);have al:10^w.length<=100000000:=ch (j0 ai (show w.length<=8 by omega)) ai;have c':=Yd w c;have bX:10^(w++[c]).length=10*10^w.length:=by rw[me,List.length_singleton,g6,gP]
      refine I 7<|aJ 15 (.b true) j au<|I 12<|na c (J:=0) j ?_;have bo:(c.toNat+(256*48-48))%256=c.toNat-48:=R
      have bp:(10*b7 w%4294967296+(c.toNat-48)%4294967296)%4294967296=b7 (w++[c]):=by rw[c'];generalize b7 w=x at *;generalize 10^w.length=P at *;omega
      have a8:10*10^w.length%4294967296=10^(w++[c]).length:=by rw[bX];generalize 10^w.length=P at *;omega
      refine I 1<|xq 22 .u8 bo ?_;refine I 2<|xq 24 .u32 bp ?_;refine I 2<|xq 26 .u32 a8 ?_;refine I 6<|q7 (p:=1) O ?_ (hp:=au) (cD:=au);exact I 9<|bB [0,1] (w++[c],O) ⟨by simp;omega,by rw[bJ];simp,by simp;omega⟩ (bk (aI:=⟨j,j,j,j,congrArg (λn=>some<|ag.aa n)<|tv au R R,az⟩) (hp:=by show pinned aj.length _ _=_;rw[G];rfl))
    .exact aJ 11 (.b false) j (congrArg ag.b<|cp R)<|I 11<|bB [0,1] (w,O) ⟨bJ,ao,λe=>by rw[e]at B;simp at B⟩ apO
   rintro⟨w,O⟩ ⟨bJ,ao,Q⟩;refine I 5 ?_;have F:jA w:=λc W=>ar c (by rw[bJ];exact n5 _ W);have an:=mH F;have al:10^w.length<=1000000000:=ch (j0 ai ao) ai;have aP:a'.length=w.length+O.length:=by rw[bJ,me]
   have b2:b7 a'=b7 O+10^O.length*b7 w:=by rw[bJ,Yc]
   have a3:v*10^w.length+b7 w<10^(s.length-O.length):=by
    rw[show s.length-O.length=(s.length-a'.length)+w.length by omega,iA];refine e2 (Nat.add_lt_add_left an _) ?_;rw[<-Dt];exact hV _ a0
   have cc:b7 s=b7 O+10^O.length*(v*10^w.length+b7 w):=by
    rw[cJ,b2,aP,iA,iM];rw[gP (10^w.length)<|10^O.length,iZ,gP (10^w.length) v];omega
   have aT:ei 2100 v:=CZ a0 R;have aS:ei 2100 (10^w.length):=CZ (k:=w.length+1) (Nat.pow_lt_pow_right ai<|yb _) R;have bQ:ei 2100 (b7 w):=CZ an R;have cj:10^w.length%18446744073709551616=10^w.length:=gR<|mT al ai;have b6:b7 w%18446744073709551616=b7 w:=gR<|e2 an<|ch al ai;refine afH bO (jt:=[(5,.i .u32 ((10^w.length:Nat):Int)),(4,.i .u32 (b7 w:Nat)),(9,.i .u32 ((10^w.length:Nat):Int)),(8,.i .u32 (b7 w:Nat)),(7,.fn (.func 221) [] [.p 1 0]),(6,.s s),(3,.p 0 0),(2,.nl),(0,.s s)]) ?_ ?_
   .intro bj aX ba;exact I 8<|bn fe
   .intro bj aX ba aO _;have aO:aX.length=2:=aO;refine I 4<|wn 12 .u64 cj ?_;refine ca oD (10^w.length:Nat) (mT al ai)<|I 1<|ca vc (v,10^w.length) ⟨dq aT,dq aS⟩<|I 2<|wn 16 .u64 b6 ?_;refine ca oD (b7 w) (e2 an<|ch al ai)<|ca GH (v*10^w.length,b7 w) ⟨dq<|lI aT aS,dq bQ⟩<|I 3<|bn ⟨j,?_⟩;exact I 6<|bB [0,1] (O,v*10^w.length+b7 w) ⟨by rw[aP];have:=oV.2 Q;show O.length<_;omega,λc W=>ar c<|by rw[bJ];exact Ix _ W,R,a3,cc⟩ apO
  .have ak:a'=[]:=IF.1 R;subst ak;have bA:b7 s=v:=by rw[cJ];simp[b7,ps,val]
   refine I 4 ?_;exact bn<|.inl ⟨.inl j,dN,j,by rw[bA]⟩)
 subst bS;subst bD;obtain⟨ab,av⟩:∃bN,bN=(⟨A.t,{target:=.collected M.ae,args:= #[]}::A.dd,A.aV,A.cQ,A.b4⟩:aK):=dN;rw[<-av]at aW;have bY:ab.t=A.t:=by rw[av]
 have bF:ab.dd={target:=.collected M.ae,args:= #[]}::A.dd:=by rw[av]
 have aY:ab.cQ=A.cQ:=by rw[av]
 obtain⟨b,bM,bP⟩:=aq.get 3 (.p 0 0) j;have bx:ab.tmp 3= .pointer (some ⟨b,0,none⟩):=by
  have e:ab.tmp 3=A.tmp 3:=by unfold aK.tmp;rw[bY]
  rw[e];exact bP
 obtain⟨⟨cE,bE,v,b3,rfl,bG,ax⟩,_⟩:=aH.own 0 (.c 43 [dt<|b7 s]) b j<|aG.jx 0 b bM;have ax:b3=[]:=ax;subst ax;have bW:bw (cg aL (cw b5.ctx tF)<|bs+1) (.iv<|.tmp 3) ab ad= .ok v ab ad:=zh (by show ab.tmp 3=_;exact bx) bE j;have bc:=((aC.trans aE).trans aF).trans aG;have bU:st.ae<=M.ae:=((aC.trans aE).trans aF).ae;refine F3 bb<|F3 z<|F3 (afi H<|afj aW) ?_;refine F3 (e6:=(ab.put (some 19) v).put (some 2) v) (b8:=ad) ?_ ?_
 .show gh (cg aL (cw b5.ctx tF)<|bs+1) (⟨some 19,.iv<|.tmp 3,none⟩::[⟨some 2,.jF<|.tmp 19,none⟩]) ab ad=_;rw[Sym.tj,bW,Sym.wW,Sym.tj];show gh (cg aL (cw b5.ctx tF)<|bs+1) [] ((ab.put (some 19) v).put (some 2)<|(ab.put (some 19) v).tmp 19) ad=_;rw[r4,aD j];rfl
 .refine⟨.ret,(ab.put (some 19) v).put (some 2) v,ad,j,.inr j,v,⟨ad.h.set M.ae<|.j1 none,ad.ae⟩,?_,bh,?_,?_,?_⟩
  .have a9:((ab.put (some 19) v).put (some 2) v).dd=[{target:=.collected M.ae,args:= #[]}]:=by
    rw[(qJ _ _ _).1,(qJ _ _ _).1,bF,aq.pl.dd]
   have bq:((ab.put (some 19) v).put (some 2) v).cQ=false:=by
    rw[(qJ _ _ _).2.2.1,(qJ _ _ _).2.2.1,aY,aq.pl.cQ]
   have:=afl (call:=cg aL (cw b5.ctx tF)<|bs+1) (t:=2) a9 bq cJ;rw[r4,aD j]at this;exact this
  .exact(aH.other aZ a5 bm<|.j1 none).less
  .exact(bc.other bU<|.j1 none).less
  .exact tk _ j bG _
def jV(n:Bool)(P q:ac ci)(e:Bool):Prop:=hM P/\¬(n=true/\P=[48])/\(e=true->hM q/\q≠[48]/\q≠[49])
instance(n:Bool)(P q:ac ci)(e:Bool):Decidable (jV n P q e):=by unfold jV;infer_instance
theorem C0{N:Nat}(M:s.length<=N):∃P q w,nS (dk s).2= .bc [.s P,.s q,.b w]/\(dk s).2.length<=N/\P.length<=N/\q.length<=N/\(¬jV (dk s).1 P q w->dK s=none)/\
 (jV (dk s).1 P q w->w=false->dK s=some (mkRat (hN (dk s).1<|b7 P) 1))/\(jV (dk s).1 P q w->w=true->dK s=if Nat.gcd (b7 P) (b7 q)=1 then some (mkRat (hN (dk s).1<|b7 P)<|b7 q)else none):=by
 have c:=Ye s;unfold dK nS;obtain⟨⟨n,t⟩,O⟩:∃g,g=dk s:=dN;rw[<-O]at c⊢;have S:t.length<=N:=by grind
 obtain⟨o,V,oB⟩:=Hd t;obtain⟨⟨P,Q⟩,E⟩:∃g,g=cutAt t:=dN;rw[<-E]at o V oB⊢;simp only at o V oB⊢;cases Q with
 |none=>
  cases oB j;refine⟨t,[],false,j,S,S,by exact c8 _,λh=>av λD=>h ⟨D.1,D.2,λe=>by cases e⟩,λh _=>aD ⟨h.1,h.2.1⟩,λ_ h=>by cases h⟩
 |some q=>
  have v:P.length+q.length<=N:=by have:=congrArg List.length<|V q j;rw[me,hQ]at this;omega
  refine⟨P,q,true,j,S,R,R,λh=>?_,(λ_ h=>by cases h),λh _=>?_⟩
  .by_cases Y:hM P/\¬(n=true/\P=[48])
   .rw[aD Y];exact av λD=>h ⟨Y.1,Y.2,λ_=>⟨D.1,D.2.1,D.2.2.1⟩⟩
   .rw[av Y]
  .obtain⟨Y,G,A⟩:=h
   grind
def lL(s:ac ci):ag:=match dK s with
 |some x=>.bc [cU x,.aa 0]
 |none=>.bc [cU 0,.aa 6]
def YC{v:Nat}(h:v<10^k)(aw:k<=2000):ei 250 v:=rl atI
def xK(s:ac ci):ac ci:=(cutAt (dk s).2).1
def vq(s:ac ci):be (ac ci):=(cutAt (dk s).2).2
def tG(s:ac ci):Prop:=hM (xK s)/\¬((dk s).1=true/\xK s=[48])/\∀q,vq s=some q->hM q/\q≠[48]/\q≠[49]
def vr(s:ac ci):Prop:=2000<(xK s).length\/∃q,vq s=some q/\2000<q.length
open Classical in
def fA(s:ac ci):Int:=if tG s then(if vr s then 3 else if(dK s).isSome then 0 else 6)else 6
def pt(s:ac ci):Rat:=if fA s=0 then(dK s).getD 0 else 0
theorem YD(h:¬tG s):fA s=6:=av h
theorem YE(h:tG s)(aB:vr s):fA s=3:=(aD h).trans<|aD aB
theorem YF(h:tG s)(aB:¬vr s)(hp:dK s=some x):fA s=0/\pt s=x:=by
 have e:fA s=0:=(aD h).trans ((av aB).trans<|by rw[hp];rfl);exact⟨e,(aD e).trans<|by rw[hp];rfl⟩
theorem YG(h:tG s)(aB:¬vr s)(hp:dK s=none):fA s=6:=(aD h).trans ((av aB).trans<|by rw[hp];rfl)
def zY(h:fA s≠0):pt s=0:=av h
def alZ(s:ac ci):cq 250 (pt s):=by
 rw[pt];split
 case isFalse=>exact eL<|MB 0 ai ai
 rename_i h;rw[fA]at h;split at h
 case isFalse=>cases h
 rename_i N;split at h
 case isTrue=>cases h
 rename_i B;split at h
 case isFalse=>cases h
 rename_i M;have⟨x,O⟩:=Ao.1 M;rw[O];have v:=YC (mH N.1.2.1)<|v7 λh=>B<|.inl h;rw[dK]at O;split at O
 case isFalse=>cases O
 split at O
 .cases O;exact pq (by rwa [nP]) (dq<|iW ai) ai
 .rename_i q E;have R:=v7 λh=>B<|.inr ⟨q,E,h⟩;obtain⟨S,t,w⟩:=N.2.2 q E;split at O
  .cases O;exact pq (by rw[nP];exact v) (YC (mH S.2.1) R) λF=>t<|sG S F
  .cases O
theorem YH{N:Nat}(M:s.length<=N):∃P q w,nS (dk s).2= .bc [.s P,.s q,.b w]/\(dk s).2.length<=N/\P.length<=N/\q.length<=N/\(¬jV (dk s).1 P q w->fA s=6/\dK s=none)/\
 (jV (dk s).1 P q w->2000<P.length\/2000<q.length->fA s=3)/\
 (jV (dk s).1 P q w->¬(2000<P.length\/2000<q.length)->∀x,dK s=some x->fA s=0/\pt s=x)/\(jV (dk s).1 P q w->¬(2000<P.length\/2000<q.length)->dK s=none->fA s=6)/\
 (jV (dk s).1 P q w->w=false->dK s=some (mkRat (hN (dk s).1<|b7 P) 1))/\(jV (dk s).1 P q w->w=true->dK s=if Nat.gcd (b7 P) (b7 q)=1 then some (mkRat (hN (dk s).1<|b7 P)<|b7 q)else none):=by
 have⟨P,q,w,Y,G,A,T,C,e,f⟩:=C0 M;have key:P=xK s/\((w=false/\vq s=none/\q=[])\/(w=true/\vq s=some q)):=by
  grind [nS,xK,vq,Hd]
 have⟨bJ,K⟩:=key;have c:jV (dk s).1 P q w↔tG s:=by
  unfold jV tG;rw[bJ];obtain⟨S,z,H⟩|⟨S,z⟩:=K
  .rw[S,z];exact arv arv
  .rw[S,z];exact⟨λh=>⟨h.1,h.2.1,λ_ D=>by cases D;exact h.2.2 j⟩,λh=>⟨h.1,h.2.1,λ_=>h.2.2 _ j⟩⟩
 have g:(2000<P.length\/2000<q.length)↔vr s:=by
  rw[vr,bJ];obtain⟨S,z,H⟩|⟨S,z⟩:=K
  .rw[z,H];exact apy apy
  .rw[z];exact apw apw
 grind [YD,YE,YF,YG]
theorem al0{N:Nat}(e:1<=N)(M:s.length<=N):∃P Q b,xG s= .bc [.s P,.s Q,.aa (if(dk s).1=true then -1 else 1),.b b]/\(b=false->fA s=6)/\
 (b=true->hM P/\hM Q/\P.length<=N/\Q.length<=N/\b7 Q≠0/\(2000<P.length\/2000<Q.length->fA s=3)/\(¬(2000<P.length\/2000<Q.length)->(kc (mkRat (hN (dk s).1<|b7 P)<|b7 Q)=s->fA s=0/\pt s=mkRat (hN (dk s).1<|b7 P) (b7 Q))/\(kc (mkRat (hN (dk s).1<|b7 P)<|b7 Q)≠s->fA s=6))):=by
 have⟨P,Q,b,Y,G,A⟩:=Yg e M;have key:(P=xK s/\((vq s=none/\Q=[49])\/vq s=some Q))/\(b=true↔tG s):=by
  grind [xG,tG,xK,vq,Hd]
 have⟨⟨bJ,K⟩,c⟩:=key;have g:(2000<P.length\/2000<Q.length)↔vr s:=by
  rw[vr,bJ];obtain⟨z,H⟩|z:=K
  .rw[z,H];exact apy apy
  .rw[z];exact apw apw
 refine⟨P,Q,b,Y,λh=>YD λf=>?_,λC=>?_⟩
 .rw[c.2 f]at h;cases h
 .grind [YE,YF,YG]
def qi(s:ac ci):ag:=.bc [cU<|pt s,.aa<|fA s]
def M3:df:=bV λ(s:ac ci)=>([.s s],s.length<=1073741824,qi s)
def YI:bl 11 M3:=by
 refine bL [(51,MV),(52,CX.spec),MU,Hr,oD,oE,GR,zL] uE.1 ?_;intro(s:ac ci) (M:s.length<=1073741824) H aq;have fail:∀c,c≠0->fA s=c->bz (.bc [.agg [.b false,.nl,.nl],.aa c]) (M3.res s):=λc F h=>akS.trans (.of<|by show _=qi s;unfold qi;rw[zY R,h]);have hp:∀{x},fA s=0/\pt s=x->bz (.bc [cU x,.aa 0]) (M3.res s):=λ⟨Y,G⟩=>.of (by show _=qi s;unfold qi;rw[Y,G]);obtain⟨P,q,w,ak,N,Z,E,o,Q,v,nw,X,V⟩:=YH M;obtain⟨n,aj⟩:∃n,n=(dk s).1:=dN;rw[<-aj]at o Q v nw X V;refine I 9<|aS alC s asA<|aJ 13 (.bc [.s (dk s).2,.b n]) j (by rw[aj];rfl)<|I 10<|aS alE (dk s).2 (by show(dk s).2.length<=_;omega)<|aJ 18 _ j ak<|I 14<|gZ (L:=Bool) (λb=>b= !decide (jV n P q w)) (λb=>⟨[.c 45 [.b false,.nl,.nl]],1,[(2,.p 0 0),(3,.aa 0),(5,.b n),(6,.s P),(7,.s q),(8,.b w),(22,.b b)]⟩) ?_ ?_
 .have bad:¬jV n P q w->true= !decide (jV n P q w):=λh=>by rw[cp h];rfl
  have eh:jV n P q w->false= !decide (jV n P q w):=λh=>by rw[cm h];rfl
  refine aS MU P (by show P.length<=_;omega)<|I 2 ?_;by_cases Y:hM P
  .refine aJ 26 (.b false) j (by show ag.b (!decide _)=_;rw[cm Y];rfl)<|I 4 ?_;by_cases G:n=true/\P=[48]
   .obtain⟨rfl,rfl⟩:=G;exact I 25<|dD [0] true (bad λh=>h.2.1 fe)
   .cases n
    rotate_left
    have t:P≠[48]:=λe=>G ⟨j,e⟩;refine I 4<|aJ 30 (.b false) j (by rw[rT.2 t]) ?_
    all_goals
     cases w with
     |false=>
      refine zB [0] false (eh ⟨Y,G,λe=>by cases e⟩)
     |true=>
      refine st ?_;refine aS MU q (by show q.length<=_;omega)<|I 4 ?_;by_cases A:hM q
      .refine aJ 39 (.b false) j (by show ag.b (!decide _)=_;rw[cm A];rfl)<|I 8 ?_;by_cases T:q=[48]
       .exact aJ 43 (.b true) j asU<|zB [0] true (bad λh=>(h.2.2 j).2.1 T)
       refine aJ 43 (.b false) j (by rw[rT.2 T])<|I 4 ?_;by_cases C:q=[49]
       .exact aJ 45 (.b true) j atD<|zB [0] true (bad λh=>(h.2.2 j).2.2 C)
       exact aJ 45 (.b false) j (by rw[rT.2 C])<|zB [0] false (eh ⟨Y,G,λ_=>⟨A,T,C⟩⟩)
      .exact aJ 39 (.b true) j (by show ag.b (!decide _)=_;rw[cp A];rfl)<|zB [0] true (bad λh=>A (h.2.2 j).1)
  .exact aJ 26 (.b true) j (by show ag.b (!decide _)=_;rw[cp Y];rfl)<|zB [0] true (bad λh=>Y h.1)
 intro b a';by_cases D:jV n P q w
 .have a':b=false:=by rw[a',cm D];rfl
  subst a';by_cases B:2000<P.length\/2000<q.length
  .exact I 9<|aJ 56 (.b true) j (congrArg ag.b<|cm R)<|k5 (fail 3 ai<|Q D B)
  have f:=v D B;have J:=nw D B;obtain⟨W,ad,a0⟩:=D;have ah:=CZ (K:=2000) (mH W.2.1) R;refine I 9<|aJ 56 (.b false) j (congrArg ag.b<|cp R)<|I 14 ?_;cases w with
  |false=>
   exact I 5<|aS Hr P ⟨W.2.1,by show P.length<=_;omega⟩<|aS oD (1:Nat) ass<|aS oE (n,b7 P,1) ⟨dq ah,dq<|iW ai,ai⟩<|k5 (hp<|f _<|X ⟨W,ad,a0⟩ j)
  |true=>
   obtain⟨A,T,C⟩:=a0 j;have g:=CZ (K:=2000) (mH A.2.1) R;have jw:b7 q≠0:=λh=>T<|sG A h;have ae:b7 q≠1:=λh=>C<|XM A h;have ab:=V ⟨W,ad,a0⟩ j;refine I 6<|aS Hr P ⟨W.2.1,by show P.length<=_;omega⟩<|I 1<|aS Hr q ⟨A.2.1,by show q.length<=_;omega⟩<|I 9<|aS GR (b7 P,b7 q) ⟨dq ah,dq g⟩<|aS zL (Nat.gcd (b7 P)<|b7 q) az<|I 3<|zq (λO=>?_) λO=>?_
   .exact k5<|fail 6 ai<|J<|by rw[ab,av O]
   .refine st ?_;rw[aD O]at ab;obtain⟨S,z⟩:=MH (hN n<|b7 P) (b7 q) jw;rw[nP,O]at S z;have hle:bz (.agg [.b n,dt<|b7 P,dt<|b7 q]) (cU<|mkRat (hN n<|b7 P)<|b7 q):=Ms (q:=b7 q) (by rw[S];exact Int.ediv_one _) (by rw[z,yj]) (λh=>ae<|by rw[h,IK]at O;exact O)<|W5 ae jw;exact bp<|(show bz (.bc [.agg [.b n,dt<|b7 P,dt<|b7 q],.aa 0]) (.bc [cU<|mkRat (hN n<|b7 P)<|b7 q,.aa 0])from .bc ⟨hle,.refl _,az⟩).trans<|hp<|f _ ab
 .have a':b=true:=by rw[a',cp D];rfl
  subst a';exact k5<|fail 6 ai<|(o D).1
def et.pre{X:Ctx}{f:d7}{L:Type}{args:L->ac ag}{res j:L->ag}{p D:L->Prop}{hp:bb->Prop}{hm:∀{H B:bb},cH H B->hp H->hp B}(e:∀l,D l->p l)(h:et X f (df.mk L args p res hp hm).spec)(I:∀l,D l->res l=j l:=by intros;rfl):et X f (df.mk L args D j hp hm).spec:=λO st ⟨l,Y,G⟩=>
 let⟨v,al,A,T⟩:=h O st ⟨l,e _ Y,G⟩
 ⟨v,al,λl g=>let⟨B,a,b,c⟩:=A l ⟨e _ g.1,g.2⟩;⟨B,a,b,by show den _ (j l.1) _ _;rw[<-I l.1 g.1];exact c⟩,T⟩
def al1(M:s.length<=2000):qi s=lL s:=by
 obtain⟨P,q,w,-,-,Z,E,o,-,v,nw,-⟩:=YH M;unfold qi lL;by_cases D:jV (dk s).1 P q w
 .cases h:dK s with
  |none=>rw[zY<|by rw[nw D R h];decide,nw D R h]
  |some x=>rw[(v D R x h).1,(v D R x h).2]
 .rw[zY<|by rw[(o D).1];decide,(o D).1,(o D).2]
def vs:bl 11 (bV λ(s:ac ci)=>([.s s],s.length<=2000,lL s)):=et.pre (λ_ (h:_<=2000)=>ch h ai) YI λ_=>al1
def M4:bl 11 (bV λ(s:ac ci)=>([.s s],s.length<=1048576,qi s)):=et.pre (λ_ (h:_<=1048576)=>ch h ai) YI
def tH(s:ac ci):ag:=.bc [c0<|pt s,.aa<|fA s]
def M5:df:=bV λ(s:ac ci)=>([.s s],s.length<=1048576,tH s)
theorem vt:bl 47 M5:=by
 refine bL [Hj,zW,l8,xF] LR.1 ?_;intro(s:ac ci) (M:s.length<=1048576) H aq;have fail:∀c,c≠0->fA s=c->bz (.bc [.agg [.aa 0,.nl,.nl],.aa c]) (M5.res s):=λc F h=>X5.trans (.of<|by show _=tH s;unfold tH;rw[zY R,h]);have hp:∀{x},fA s=0/\pt s=x->bz (.bc [c0 x,.aa 0]) (M5.res s):=λ⟨Y,G⟩=>.of (by show _=tH s;unfold tH;rw[Y,G]);obtain⟨P,Q,b,D,Z,A⟩:=al0 ai M;obtain⟨n,aj⟩:∃n,n=(dk s).1:=dN;rw[<-aj]at D A;have f: -1<=(if n=true then(-1:Int)else 1)/\(if n=true then(-1:Int)else 1)<=1:=by cases n<;>decide
 refine I 9<|aS Hj s asA<|aJ 11 _ j D<|I 18 ?_;cases b with
 |false=>
  exact k5 (fail 6 ai<|Z j)
 |true=>
  obtain⟨S,t,v,B,jw,bG,g⟩:=A j;by_cases C:2000<P.length
  .exact I 10<|aJ 22 (.b true) j (congrArg ag.b<|cm R)<|k5 (fail 3 ai<|bG<|.inl C)
  refine I 10<|aJ 22 (.b false) j (congrArg ag.b<|cp R)<|zC (λh=>?_) λh=>?_
  .exact k5<|fail 3 ai<|bG<|.inr R
  have X:=Hk (k:=223) S.2.1 R;have e:=Hk (k:=223) t.2.1 R;obtain⟨w,o⟩:=g R;refine I 6<|aS zW P ⟨S.2.1,by show P.length<=_;omega⟩<|I 1<|aS zW Q ⟨t.2.1,by show Q.length<=_;omega⟩<|aS l8 (if n=true then -1 else 1,b7 P,b7 Q) ⟨f.1,f.2,c7 X,c7 e,jw⟩<|aJ 33 (c0<|mkRat (hN n<|b7 P)<|b7 Q) j (by show c0 _=_;rw[Yf])<|I 8<|aS xF (mkRat (hN n<|b7 P)<|b7 Q) (jj<|vn (by rw[nP];exact X) e jw)<|I 2 ?_;by_cases N:kc (mkRat (hN n<|b7 P)<|b7 Q)=s
  .exact aJ 37 (.b false) j (by show ag.b (!(kc _==s))=_;rw[N];simp)<|k5 (hp<|w N)
  .exact aJ 37 (.b true) j apt<|k5 (fail 6 ai<|o N)
structure g3 where
 op:Int
 a:Int
 b:Int
 c:Int
 d:Int
 f:Int
 v:ac ci
structure oI where
 f:Int
 bm:ac ci
 af:ac ci
structure xL where
 i:Int
 n:Int
structure dX where
 bS:ac (Int×Int)
 mode:Int
 ins:ac oI
 bT:ac g3
 head:Int
 tail:Int
 hc:ac xL
 out:Int
def lb(n:g3):ac ag:=[.aa n.op,.aa n.a,.aa n.b,.aa n.c,.aa n.d,.aa n.f,.s n.v]
def Hs(x:oI):ac ag:=[.aa x.f,.s x.bm,.s x.af]
def YJ(x:Int×Int):ac ag:=[.aa x.1,.aa x.2]
def YK(x:xL):ac ag:=[.aa x.i,.aa x.n]
def g4(p:dX):ac ag:=[.b6 2 (Int×Int) YJ p.bS,.aa p.mode,.b6 3 oI Hs p.ins,.b6 7 g3 lb p.bT,.aa p.head,.aa p.tail,.b6 2 xL YK p.hc,.aa p.out]
def iy(p:dX):ag:=.agg<|g4 p
def bK{a b:Bool}(h:a=b):ag.b a=ag.b b:=by rw[h]
def YL:bl 293 (bV λ(x:Rat)=>([cU x],True,.b<|decide (x.den=1))):=by
 apply bL [] U5.1;intro x _ N aq;apply I 10;by_cases T:x.den=1
 .exact aJ 4 (.hq 1 Nat fV []) j asU<|I 5<|cC (bK (cm T).symm)
 .apply cl 4 (CL T);exact I 5<|bn (ep j j<|.of (bK<|by rw[cp T];rw[(IH.2 asY)];rfl))
def rz(s:ac ci):Int:=if(dK s).isSome then 0 else 6
def YM:bl 50 (bV λ(s:ac ci)=>([.s s],s.length<=2000,.aa<|rz s)):=by
 apply bL [vs] UH.1;intro s M N aq;refine I 8<|aS vs s M ?_;cases h:dK s with
 |some x=>
  exact aJ 7 (.bc [cU x,.aa 0]) j aqG<|I 15<|bn apU
 |none=>
  exact aJ 7 (.bc [cU 0,.aa 6]) j aqG<|I 15<|bn apU
def sI:df:=bV λ((n,m):Int×Int)=>([.aa n,.aa m],True,.b<|decide (0<=n/\n<m))
def xM:bl 96 sI:=by
 apply bL [] Vz.1;intro⟨n,m⟩ _ H aq;apply I 9;by_cases h:0<=n
 .exact cl 6 (bK<|cm h)<|I 12<|cC (bK (decide_eq_decide.2 ⟨λD=>⟨h,D⟩,λD=>D.2⟩))
 .exact cl 6 (bK<|cp h)<|I 9<|cC ate
def Ht:bl 180 (bV λ(n:Int)=>([.aa n],True,.b<|decide (1<=n/\n<=15))):=by
 apply bL [] T7.1;intro(n:Int) _ H aq;apply I 9;by_cases h:1<=n
 .exact cl 4 (bK<|cm h)<|I 10<|cC (bK (decide_eq_decide.2 ⟨λD=>⟨h,D⟩,λD=>D.2⟩))
 .exact cl 4 (bK<|cp h)<|I 8<|cC ate
def hd(p:dX)(i:Int):Int:=if i<p.head then 0 else if i<p.tail then 1 else 2
def vu:df:=bV λ((p,i):dX×Int)=>([iy p,.aa i],True,.aa<|hd p i)
def M6:bl 97 vu:=by
 refine bL [] VA.1 ?_;intro⟨p,i⟩ _ H aq;have S:∀{c:Int},hd p i=c->bz (.aa c) (vu.res (p,i)):=λh=>.of apJ;refine I 16 ?_;by_cases h:i<p.head
 .exact cl 5 (bK<|cm h)<|I 11<|bp (S<|aD h)
 refine cl 5 (bK<|cp h)<|I 11 ?_;by_cases G:i<p.tail
 .exact cl 11 (bK (cm G))<|I 11<|bp (S<|(av h).trans<|aD G)
 exact cl 11 (bK (cp G))<|I 12<|bp (S<|(av h).trans<|av G)
def vv(p:dX)(i k:Int):Bool:=decide (0<=k/\k<i/\(hd p k=0\/hd p k=hd p i))
def vw:df:=bV λ((p,i,k):dX×Int×Int)=>([iy p,.aa i,.aa k],True,.b<|vv p i k)
def al2:bl 183 vw:=by
 refine bL [(97,vu)] UT.1 ?_;intro⟨p,i,k⟩ _ H aq;have no:¬(0<=k/\k<i/\(hd p k=0\/hd p k=hd p i))->bz (.b false) (vw.res (p,i,k)):=λh=>.of<|bK (cp h).symm;have E:(0<=k/\k<i/\(hd p k=0\/hd p k=hd p i))->bz (.b true) (vw.res (p,i,k)):=λh=>.of<|bK (cm h).symm;refine I 11 ?_;by_cases h:k<0
 .exact cl 9 (bK<|cm h)<|I 15<|bp (no R)
 refine cl 9 (bK<|cp h)<|I 7 ?_;by_cases G:i<=k
 .exact cl 13 (bK (cm G))<|I 11<|bp (no R)
 refine cl 13 (bK (cp G))<|I 10<|aS M6 (p,k) az<|aJ 17 (.aa<|hd p k) j j<|I 7 ?_;by_cases A:hd p k=0
 .exact cl 19 (bK (cm A))<|I 11<|bp (E ⟨R,R,.inl A⟩)
 refine cl 19 (bK (cp A))<|I 8<|aS M6 (p,i) az<|aJ 24 (.aa<|hd p i) j j<|I 2 ?_;by_cases T:hd p k=hd p i
 .exact cl 25 (bK<|cm T)<|I 5<|bp (E ⟨R,R,.inr T⟩)
 exact cl 25 (bK<|cp T)<|I 5<|bp (no λh=>h.2.2.elim A T)
def rA(e p:Int)(x:Rat):Int:=max (kb x.num.natAbs x.den) (1-g2 e)-p+1
def kO(e p:Int)(x:Rat):Prop:=hD e p/\(x.num=0\/(eQ x<|-rA e p x).den=1/\¬nO e p<jh x)
instance(e p:Int)(x:Rat):Decidable (kO e p x):=by unfold kO;infer_instance
def hasB(e p:Int)(x:Rat):Bool:=decide (kO e p x)
def al3{e p:Int}(h:hD e p)(O:cq 250 x): -9000<=rA e p x/\rA e p x<=9000:=by
 have S:=G3 x.num.natAbs x.den;have t:=CK O.1;have⟨Y,G,A,T,C⟩:=h;have:=rv Y G;rw[rA];omega
def M7:df:=bV λ((e,p,x):Int×Int×Rat)=>([qf e p,cU x],cq 250 x,.b<|hasB e p x)
def M8:bl 179 M7:=by
 refine bL [Xq,rn,Xs,Xw,G0,YL,W9,Xv,zM] VJ.1 ?_;intro⟨e,p,x⟩ (O:cq 250 x) H aq;have no:¬kO e p x->bz (.b false) (M7.res (e,p,x)):=λh=>.of (bK<|by unfold hasB;exact(cp h).symm);have E:kO e p x->bz (.b true) (M7.res (e,p,x)):=λh=>.of (bK<|by unfold hasB;exact(cm h).symm);refine I 10<|aS Xq (e,p) az ?_;by_cases h:hD e p
 .refine aJ 9 (.bc [vj e p 0<|g2 e,.aa 0]) j (aD h)<|I 21<|aS rn x az<|I 4<|cT (λF=>?_) λF=>?_
  .have F:x.num=0:=vZ.1 F;exact I 8<|bp (E ⟨h,.inl F⟩)
  have F:x.num≠0:=λe=>F asT;have S:=G3 x.num.natAbs x.den;have t:=CK O.1;have w:=CK O.2;obtain⟨G,P⟩:=al3 h O;refine I 6<|ca Xs x ⟨eL O,F⟩<|I 1<|ca Xw (e,p,kb x.num.natAbs x.den,0) ⟨h,by show _<=kb _ _;omega,by show kb _ _<=_;omega⟩<|I 2<|aJ 24 (.aa<|-rA e p x) j (by show ag.aa (IntKind.i64.wrap<|-rA e p x)=_;exact eV j R R)<|ca G0 (x,-rA e p x) ⟨eL O,by show _<= -rA e p x;omega,by show -rA e p x<=_;omega⟩<|ca YL (eQ x<|-rA e p x) az ?_;by_cases T:(eQ x<|-rA e p x).den=1
  .refine cl 26 (bK<|cm T)<|I 4<|ca W9 x az<|I 3<|ca Xv (e,p,0) h<|I 1<|ca zM (jh x,nO e p) ⟨eL (by
    unfold jh;split
    .exact GW O
    .exact O),eL<|akT h⟩<|I 2 ?_
   by_cases c:nO e p<jh x
   .have W:=xy.2 c;exact cI 33<|I 5<|bp (no λD=>D.2.elim F λD=>D.2 c)
   .have W:¬0<ji (jh x) (nO e p):=λh=>c<|xy.1 h;exact cM 33<|I 5<|bp (E ⟨h,.inr ⟨T,c⟩⟩)
  .exact cl 26 (bK<|cp T)<|I 12<|bp (no λD=>D.2.elim F λD=>T D.1)
 .exact cl 9 (av h)<|I 26<|bn (ep j j<|no λD=>h D.1)
def qj(p:dX):Int:=
 if(6<(p.bS.length:Int)\/6<(p.ins.length:Int)\/64<(p.bT.length:Int)\/4<(p.hc.length:Int))then 3
 else if((p.bS.length:Int)=0\/(p.bT.length:Int)=0\/p.mode<0\/4<p.mode)then 2
 else if(p.head<0\/p.tail<p.head\/(p.bT.length:Int)<p.tail)then 2
 else if((p.hc.length:Int)=0/\p.head≠(p.bT.length:Int))then 2 else 0
def zZ:df:=bV λ(p:dX)=>([iy p],True,.aa<|qj p)
def al4:bl 91 zZ:=by
 refine bL [] UK.1 ?_;intro(p:dX) _ H aq;have E:∀{c:Int},qj p=c->bz (.aa c) (zZ.res p):=λh=>.of apJ;refine I 25 ?_;by_cases Y:6<(p.bS.length:Int)
 .exact cl 13 (bK<|cm Y)<|I 15<|bp (E<|aD as4)
 refine cl 13 (bK<|cp Y)<|I 11 ?_;by_cases G:6<(p.ins.length:Int)
 .exact cl 18 (bK (cm G))<|I 15<|bp (E<|aD<|.inr<|.inl G)
 refine cl 18 atd<|I 8 ?_;by_cases A:64<(p.bT.length:Int)
 .exact cl 20 (bK (cm A))<|I 15<|bp (E<|aD<|.inr<|.inr<|.inl A)
 refine cl 20 asJ<|I 10 ?_;by_cases T:4<(p.hc.length:Int)
 .exact cl 25 (bK<|cm T)<|I 12<|bp (E<|aD<|.inr<|.inr<|.inr T)
 refine cl 25 (bK<|cp T) ?_;have N:¬(6<(p.bS.length:Int)\/6<(p.ins.length:Int)\/64<(p.bT.length:Int)\/4<(p.hc.length:Int)):=λh=>h.elim Y λh=>h.elim G λh=>h.elim A T;have S:=λ{c} h=> @E c<|(av N).trans h;refine I 12 ?_;by_cases W:(p.bS.length:Int)=0
 .exact cl 31 (bK<|cm W)<|I 15<|bp (S<|aD<|.inl W)
 refine cl 31 (bK<|cp W)<|I 8 ?_;by_cases e:(p.bT.length:Int)=0
 .exact cl 33 (bK<|cm e)<|I 15<|bp (S<|aD<|.inr<|.inl e)
 refine cl 33 (bK<|cp e)<|I 10 ?_;by_cases a0:p.mode<0
 .exact cl 37 (bK<|cm a0)<|I 15<|bp (S<|aD<|.inr<|.inr<|.inl a0)
 refine cl 37 (bK<|cp a0)<|I 9 ?_;by_cases cJ:4<p.mode
 .exact cl 41 (bK<|cm cJ)<|I 12<|bp (S<|aD<|.inr<|.inr<|.inr cJ)
 refine cl 41 (bK<|cp cJ) ?_;have iG:¬((p.bS.length:Int)=0\/(p.bT.length:Int)=0\/p.mode<0\/4<p.mode):=λh=>h.elim W λh=>h.elim e λh=>h.elim a0 cJ;have z:=λ{c} h=> @S c<|(av iG).trans h;refine I 11 ?_;by_cases bJ:p.head<0
 .exact cl 46 (bK<|cm bJ)<|I 15<|bp (z<|aD<|.inl bJ)
 refine cl 46 (bK<|cp bJ)<|I 13 ?_;by_cases K:p.tail<p.head
 .exact cl 53 (bK<|cm K)<|I 15<|bp (z<|aD<|.inr<|.inl K)
 refine cl 53 (bK<|cp K)<|I 10 ?_;by_cases Q:(p.bT.length:Int)<p.tail
 .exact cl 58 (bK<|cm Q)<|I 12<|bp (z<|aD<|.inr<|.inr Q)
 refine cl 58 (bK<|cp Q) ?_;have v:¬(p.head<0\/p.tail<p.head\/(p.bT.length:Int)<p.tail):=λh=>h.elim bJ λh=>h.elim K Q;have f:=λ{c} h=> @z c<|(av v).trans h;refine I 11 ?_;by_cases Z:(p.hc.length:Int)=0
 .refine cl 64 (bK<|cm Z)<|I 11 ?_;by_cases F:p.head≠(p.bT.length:Int)
  .exact cl 70 (bK<|cm F)<|I 13<|bp (f<|aD ⟨Z,F⟩)
  .exact cl 70 (bK<|cp F)<|I 14<|bp (f<|av λh=>F h.2)
 .exact cl 64 (bK<|cp Z)<|I 20<|bp (f<|av λh=>Z h.1)
def YN:bl 92 (bV λ((p,J,e,q):dX×Nat×Int×Int)=>([iy p,.aa (J:Int)],p.bS[J]? =some (e,q),.aa (if hD e q then 0 else 2))):=by
 apply bL [GZ] Th.1;intro⟨p,J,e,q⟩ V H aq;exact I 12<|eW (e,q) V j<|I 1<|aS GZ (e,q) az<|I 4<|eD
def Hu:ac (Nat×Nat):=[(0,0),(0,1),(0,1),(0,0),(1,1),(1,1),(1,1),(1,1),(2,2),(2,2),(2,2),(2,2),(2,2),(2,2),(3,3),(4,4)]
def C1:ac ag:=Hu.flatMap λp=>[.aa (p.1:Int),.aa (p.2:Int)]
def nU(U:Nat):Nat:=(Hu.getD U (0,0)).1
def tI(U:Nat):Nat:=(Hu.getD U (0,0)).2
def YO:∀U,U<16->C1.drop (U*2)= .aa (nU U:Int):: .aa (tI U:Int)::C1.drop (U*2+2):=by
 intro U h;rcases(show U=0\/U=1\/U=2\/U=3\/U=4\/U=5\/U=6\/U=7\/U=8\/U=9\/U=10\/U=11\/U=12\/U=13\/U=14\/U=15 by omega)with h|h|h|h|h|h|h|h|h|h|h|h|h|h|h|h<;>subst h<;>rfl
def Hv:∀U,U<16->nU U<=4/\tI U<=4:=by decide +kernel
def oJ(H:bb):Prop:=∃V el I aR,H 3=some (.cells V el I aR)/\∀B,cG B C1 [] V
def oJ.up{H B:bb}(h:cH H B):oJ H->oJ B:=λ⟨V,el,I,aR,Y,G⟩=>⟨V,el,I,aR,h _ _ Y,G⟩
def er(n:Int):ac ag:=[.aa n]
def fa(n:g3):ac Int:=[n.a,n.b,n.c,n.d]
def rB(n:g3):Bool:=((fa n).drop<|tI n.op.toNat).all (λx=>x==0)&&(n.v.isEmpty||decide (n.op=3))
def YP{l:ac Int}(aw:k<l.length)(h:(l.take k).all (λx=>x==0)=true)(aI:l[k]=0):(l.take<|k+1).all (λx=>x==0)=true:=by
 rw[hR aw,yl,h,aI];rfl
def YQ:bl 181 (q5 oJ oJ.up λ(n:g3)=>([.agg<|lb n],1<=n.op/\n.op<=15,.b<|rB n)):=by
 refine sC [] US.1 ?_;intro(n:g3) ⟨(Y:1<=n.op),(w:n.op<=15)⟩ H aq ⟨V,el,t,aR,e,T⟩;obtain⟨U,E⟩:∃U:Nat,n.op=(U:Int):=atb;have D:n.op.toNat=U:=R
 have aW:U<16:=R
 obtain⟨_,M⟩:=Hv U aW;have N:=YO U aW;have F:rB n=(((fa n).drop<|tI U).all (λx=>x==0)&&(n.v.isEmpty||decide (n.op=3))):=by unfold rB;rw[D]
 generalize tI U=u at *;refine I 26<|aJ 16 (.aa (U:Int)) j (by rw[<-E])<|R5 e T (J:=U) ?_;refine aJ 17 (.ip<|.aa (nU U:Int):: .aa (u:Int)::C1.drop (U*2+2)) j (by rw[N])<|I 2<|ks 1 er (fa n) ?_;refine e0 (afn (p:=u) (q:=4) j j dN j R ai) ?_;obtain⟨W,C⟩:∃W,W=if 4=u then 0 else u:=dN;rw[<-C];refine I 5<|eS (L:=Nat) (λk=>k<=4-u/\(((fa n).drop u).take k).all (λx=>x==0)=true) (λ(k:Nat)=>⟨[.c 172<|lb n,.a 368 false 1 Int er<|fa n],2,[(1,.p 0 0),(2,.b false),(20,.aH 1 1 W (4-u)<|4-u),(21,.aa ((4-u:Nat):Int)),(22,.aa (k:Int))]⟩) (λk=>4-u-k) [0,1] 0 apR ?_;rintro(k:Nat) ⟨z,Z⟩;have G:((fa n).drop u).length=4-u:=by rw[iX];rfl
 refine I 3 ?_;by_cases B:k<4-u
 .refine cM 23<|I 10<|nE ?_;rw[av R]at C;have C:=C.symm;subst C;have g:(fa n)[u+k]? =some ((fa n).drop u)[k]:=by rw[<-n2,vK R]
  refine oy ((fa n).drop u)[k] g ?_;refine I 7 ?_;by_cases O:((fa n).drop u)[k]=0
  .exact cI 27<|I 8<|cj 28 ((k+1:Nat):Int)<|I 2<|bB [0,1] (k+1) ⟨R,R,YP R Z O⟩ bk
  .refine cl 27 (bK<|cm O)<|I 14<|cC (bK ?_);rw[F];have:((fa n).drop u).all (λx=>x==0)=false:=by
    rw[DU];exact asp asp
   rw[this];rfl
 .refine cI 23 ?_;have h:((fa n).drop u).all (λx=>x==0)=true:=by
   exact arD
  rw[h,Bool.true_and]at F;refine I 14 ?_;by_cases S:n.v=[]
  .exact aJ 31 (.b true) j (by rw[S];rfl)<|I 9<|bn (ep j j<|.of (bK<|by rw[F,S];rfl))
  .exact aJ 31 (.b false) j (bK<|by simpa using S)<|I 12<|bn (ep j j<|.of<|bK (by rw[F];cases f:n.v with|nil=>exact absurd f S|cons a l=>rfl))
structure cV where
 b3:ac ci
 dO:ac Int
def h7(t:cV):ac ag:=[.s t.b3,.cd 1 Int er t.dO]
structure dz where
 b3:ac ci
 gL:Int
 cr:ac cV
def ht(s:dz):ac ag:=[.s s.b3,.aa s.gL,.cd 2 cV h7 s.cr]
structure M9 where
 YR:Int
 bm:ac ci
 af:ac ci
 err:ac ci
 low:ac dz
 high:ac dz
structure al5 where
 kind:Int
 gL:Int
 cut:ac ci
 fM:ac M9
 st:ac M9
def tJ:Nat:=140737488355328
def xN{j:Type}(f:j->j->Bool):ac j->ac j->Bool
 |[],[]=>true
 |x::a,y::b=>f x y&&xN f a b
 |_,_=>false
def al6(m n:Int):Bool:=decide (m=n)
def Gj(s t:cV):Bool:=decide (s.b3=t.b3)&&xN al6 s.dO t.dO
def YS(s t:dz):Bool:=decide (s.b3=t.b3)&&(decide (s.gL=t.gL)&&xN Gj s.cr t.cr)
def YT(x y:M9):Bool:=decide (x.YR=y.YR)&&(decide (x.bm=y.bm)&&(decide (x.af=y.af)&&(decide (x.err=y.err)&&(xN YS x.low y.low&&xN YS x.high y.high))))
def uT(x y:al5):Bool:=decide (x.kind=y.kind)&&(decide (x.gL=y.gL)&&(decide (x.cut=y.cut)&&(xN YT x.fM y.fM&&xN YT x.st y.st)))
abbrev e1:=ac ci×ac ci
def mL(x:e1):ac ag:=[.s x.1,.s x.2]
