/- What the functions of the program and of the document compute, for every input, and the plain laws of it (part 2); conditions as in the statements. -/
import Derived.Test.YtnbgimpdclpgbaaGreatDoorC1
import Derived.Test.YtnbgimpdclpgbaaGreatDoorS3
import Derived.Test.YtnbgimpdclpgbaaGreatDoorS1
import Derived.Test.YtnbgimpdclpgbaaGreatDoorS2
import Derived.Test.YtnbgimpdclpgbaaGreatDoorX
noncomputable section
set_option linter.all false
namespace Go.bA.c3
open Go.bA
set_option maxRecDepth 100000
set_option maxHeartbeats 4000000
variable{V v w P nb pK k:Nat}
def alO{W:Nat}(E:V=v*P+nb)(j:nb<P)(D:W=w*P+pK)(e:0<V):w/(v+1)<=W/V:=by
 rw[tB e];have c:w/(v+1)*(v+1)<=w:=H6 _ _;have f:V<=(v+1)*P:=by rw[e2];omega
 calc w/(v+1)*V<=w/(v+1)*((v+1)*P):=lK _ f
  _=w/(v+1)*(v+1)*P:=(h9 _ _ _).symm
  _<=w*P:=hA _ c
  _<=W:=by omega
def alP{W:Nat}(E:V=v*P+nb)(F:pK<P)(D:W=w*P+pK)(e:0<v)(j:0<P):W/V<=(w+1)/v:=by
 have h:0<V:=by have:=vz e j;omega
 rw[tB e];have f:W/V*V<=W:=H6 _ _;have g:W/V*(v*P)<=W/V*V:=lK _ R;have c:W/V*v*P<(w+1)*P:=by rw[h9,e2];omega
 exact og<|Ag c
def GL:bl:=b3 λ((e,p):Int×Int)=>([pM e p],True,.aa (if fJ e p then 0 else 2))
def WZ:bt 191 GL:=by
 refine bR [] TB.1 ?_;intro⟨e,p⟩ _ H au;have bad:¬fJ e p->bJ (.aa 2) (GL.res (e,p)):=λh=>.of (by show _=ag.aa (if _ then _ else _);rw[aw h]);refine I 12 ?_;by_cases o:e<2
 ·exact v1 5 o<|I 33<|an (az j j (bad<|by unfold fJ;omega))
 refine v0 5 o<|I 7 ?_;by_cases t:11<e
 ·exact v1 9 t<|I 29<|an (az j j (bad<|by unfold fJ;omega))
 refine v0 9 t<|I 8 ?_;by_cases f:p<2
 ·exact v1 14 f<|I 24<|an (az j j (bad<|by unfold fJ;omega))
 refine v0 14 f<|I 8 ?_;by_cases c:113<p
 ·exact v1 19 c<|I 19<|an (az j j (bad<|by unfold fJ;omega))
 refine v0 19 c<|I 12<|cd 26 (e+p)<|I 2 ?_;by_cases g:e+p<5
 ·exact v1 27 g<|I 11<|an (az j j (bad<|by unfold fJ;omega))
 exact v0 27 g<|I 12<|an (az j j (.of<|by show _=ag.aa (if _ then _ else _);rw[aE<|by unfold fJ;omega]))
def GM:bl:=b3 λ((e,p):Int×Int)=>([pM e p],fJ e p,.aa<|gC e)
def Ml:bt 426 GM:=by
 refine bR [] T5.1 ?_;intro⟨e,p⟩ ⟨A,B,t,o,z⟩ H au;obtain⟨n,ah⟩:∃n:Nat,e=(n:Int)+1:=⟨(e-1).toNat,R⟩;subst ah;have f:∀i:Nat,i<=10->1<=2^i/\2^i<=1024:=λi af=>⟨la i,jG al af⟩;refine I 18<|eA (L:=Nat) (λi=>i<=n) (λ(i:Nat)=>⟨[.c 267 [.aa<|(n:Int)+1,.aa p]],1,[(1,.p 0 0),(3,.aa ((2^i:Nat):Int)),(4,.aa<|(i:Int)+1)]⟩) (λi=>n-i) [0] 0 (dw _) ?_;intro(i:Nat) af;have hp:=f i R;refine I 9<|cG (λh=>?_) λh=>?_
 ·refine I 16<|bW [0] (i+1) ⟨by show n-(i+1)<n-i;omega,by show i+1<=n;omega⟩ (bB (aL:=⟨j,?_,?_,aC⟩))
  ·exact congrArg (λn=>some<|ag.aa n)<|sX (by rw[fD];omega) R R
  ·exact congrArg (λn=>some<|ag.aa n)<|sX R R R
 ·have g:i=n:=by omega
  subst g;refine I 13<|an (az j j<|.of<|congrArg (ag.aa)<|sX ?_ R R);unfold gC;rw[show((i:Int)+1-1).toNat=i by omega,Ie];rfl
def qU(n:Nat):dW (n+1) (2^n):=je al<|eR (Nat.pow_lt_pow_right al<|vw n)<|xY al<|n+1
def db{l a:Nat}(h:dW k a)(aD:k<=l:=by decide):dW l a:=cC h aD
def GN(k:Nat):bl:=b3 λ(n:Nat)=>([.aa n],n<k/\n<=1000000000,c9<|2^n)
theorem GO:∀k:Nat,dY bS.ctx 434 (GN k).spec
 |0=>by
  refine bR [(119,uY)] Lr.1 ?_;intro(n:Nat) h H au;exact absurd h.1 (p2 _)
 |k+1=>by
  have g:=GO k;refine bR [(119,uY),(434,(GN k).spec),(198,w8),(312,GH)] Lr.1 ?_;intro(n:Nat) ⟨(o:n<k+1),(t:n<=1000000000)⟩ H au;refine I 12<|cG (λh=>?_) λh=>?_
  ·have h:n=0:=by omega
   subst h;exact I 2<|aV s7 () aC<|I 5<|an (az j j dO)
  have h:n≠0:=R
  refine I 6<|aP 9 (.aa ((n/2:Nat):Int)) j (by show ag.i _ (IntKind.i64.wrap ((n/2:Nat):Int))=_;exact eM j R R)<|aV g (n/2) ⟨by show n/2<k;omega,by show n/2<=_;omega⟩<|I 7 ?_;have c:=qU<|n/2;refine aV pN (2^(n/2),2^(n/2)) ⟨db c R,db c R⟩<|I 8<|aP 15 (.aa ((n%2:Nat):Int)) j j ?_;have e:2^(n/2)*2^(n/2)=2^(n/2+n/2):=(h8 2 _ _).symm;have f:dW 1073741824 (2^(n/2)*2^(n/2)):=by rw[e];exact db (qU _) R
  refine I 3<|cG (λh=>?_) λh=>?_
  ·have h:n%2=1:=by omega
   refine I 3<|aV Mk (2^(n/2)*2^(n/2),2^(n/2)*2^(n/2)) ⟨f,f⟩<|I 10<|an (az j j<|.of<|congrArg c9 ?_);show 2^(n/2)*2^(n/2)+2^(n/2)*2^(n/2)=2^n;rw[e,<-Nat.two_mul,<-Nat.pow_succ'];congr 1;omega
  ·have h:n%2=0:=by omega
   refine I 9<|an (az j j<|.of<|congrArg c9 ?_);show 2^(n/2)*2^(n/2)=2^n;rw[e];congr 1;omega
def GP:bl:=b3 λ(x:Rat)=>([dB x],True,dB<|iA x)
def Mm:bt 406 GP:=by
 refine bR [] UL.1 ?_;intro(x:Rat) _ H au;refine I 22<|an (az j j<|.of ?_);show ag.agg [.i _<|IntKind.i64.wrap<|x.num.sign*x.num.sign,c9 x.num.natAbs,ds (if x.num=0 then[]else aW 1000000000 x.den)]=ag.agg [.i _ _,c9 (iA x).num.natAbs,ds (if(iA x).num=0 then[]else aW 1000000000 (iA x).den)];rw[(qO x).1,(qO x).2,Int.natAbs_natCast];have e:IntKind.i64.wrap (x.num.sign*x.num.sign)=((x.num.natAbs:Nat):Int).sign:=by
  rcases(show x.num<0\/x.num=0\/0<x.num by omega)with h|h|h
  ·rw[vB h,rf R];rfl
  ·rw[h];rfl
  ·rw[rf h,rf R];rfl
 rw[e];by_cases h:x.num=0
 ·rw[h];rfl
 ·rw[aw h,aw R]
def GQ{n:Nat}:n<2^k↔bE n<=k:=⟨Gt,λh=>by
 by_cases c:n=0
 ·subst c;exact la k
 ·exact eR (qM c).2<|jG al h⟩
def W0{n:Nat}:29*((aW 1000000000 n).length-1)<=bE n/\bE n<=30*(aW 1000000000 n).length:=by
 constructor
 ·refine vD λh=>?_;have j:0<(aW 1000000000 n).length:=by omega
  have f:=(w7 (b:=1000000000) (n:=n) (i:=(aW 1000000000 n).length-1) al).1 R;have g:1000000000^((aW 1000000000 n).length-1)<=n:=vD λc=>f<|p5 c;have e:(2^29)^((aW 1000000000 n).length-1)<=1000000000^((aW 1000000000 n).length-1):=xY al _;rw[<-re]at e;have:=GQ.2<|og h;omega
 ·refine Gt<|eR (se<|cn _) ?_;rw[re];exact xY al _
def W1:bl:=b3 λ(n:Nat)=>([c9 n],dW 30000000 n,.aa (bE n:Nat))
def W2:bt 428 W1:=by
 refine bR [(434,(GN 1000000001).spec),(197,sd)] Ta.1 ?_;intro(n:Nat) (ah:(aW _ n).length<=_) H au;obtain⟨f,g⟩:= @W0 n;obtain⟨l,e⟩:∃l,l=(aW 1000000000 n).length:=dC;rw[<-e]at f g ah;refine e4 9 ?_;rw[<-e];refine aP 9 (.aa<|29*((l:Int)-1)) j (congrArg (ag.aa)<|by rw[fP (n:=(l:Int)-1) R R];exact sX j R R)<|I 1<|aP 10 (.aa ((29*(l-1):Nat):Int)) j (congrArg (ag.aa) R) ?_;refine e4 13 ?_
 try rw[<-e]
 refine cd 13 ((30*l:Nat):Int)<|I 6<|eA (L:=Nat×Nat) (λ(bg,af)=>bg<=bE n/\bE n<=af/\af<=900000000) (λ((bg:Nat),(af:Nat))=>⟨[],0,[(0,c9 n),(3,.aa bg),(4,.aa af)]⟩) (λl=>l.2-l.1) [] (29*(l-1),30*l) ⟨f,g,R⟩ ?_;rintro⟨bg,af⟩ ⟨z,A,t⟩;refine I 8<|cG (λh=>?_) λh=>?_
 ·have h:bg<af:=by omega
  refine I 8<|cd 19 ((bg+af:Nat):Int)<|I 1<|aP 20 (.aa (((bg+af)/2:Nat):Int)) j (by show ag.i _ (IntKind.i64.wrap (((bg+af)/2:Nat):Int))=_;exact eM j R R)<|I 7<|aV (GO 1000000001) ((bg+af)/2) ⟨by show(bg+af)/2<_;omega,by show(bg+af)/2<=_;omega⟩<|aV qS (n,2^((bg+af)/2)) ⟨by show(aW _ n).length<=_;omega,db (qU _) R⟩<|I 3<|cG (λc=>?_) λc=>?_
  ·have c:=GQ.1<|zr c;exact I 5<|h4 [] (bg,(bg+af)/2) ⟨z,c,R⟩
  ·have c:(bg+af)/2<bE n:=Nat.lt_of_not_le λo=>Dc.2 (zs c)<|GQ.2 o;exact I 6<|bW [] ((bg+af)/2+1,af) ⟨by show af-((bg+af)/2+1)<af-bg;omega,c,A,t⟩ bB
 ·have B:bg=bE n:=by omega
  exact I 12<|an (az j j (.of<|by rw[B];rfl))
def eN(k:Nat)(x:Rat):Prop:=dW k x.num.natAbs/\dW k x.den
def l2{a b l:Nat}(e:dW k a)(aA:dW l b):dW (k+l) (a*b):=je al<|by rw[h8];exact H7 (se e)<|se aA
def Co:bl:=b3 λ((x,y):Rat×Rat)=>([dB x,dB y],eN 268435456 x/\eN 268435456 y,.aa<|jA x y)
def zw(n:Int): -1<=n.sign/\n.sign<=1:=by
 rcases(show n<0\/n=0\/0<n by omega)with h|h|h
 ·rw[vB h];decide
 ·rw[h];decide
 ·rw[rf h];decide
def GR:bt 112 Co:=by
 refine bR [(199,w9),(198,w8),(197,sd)] SO.1 ?_;intro⟨x,y⟩ ⟨(c:eN _ x),(e:eN _ y)⟩ H au;obtain⟨o,t,nV⟩:=Wu x y;have A:=zw x.num;have B:=zw y.num;refine I 19<|cG (λh=>?_) λh=>?_
 ·exact I 8<|an (az j j (.of<|by show ag.aa (-1)=ag.aa (jA x y);rw[o h]))
 refine I 10<|cG (λf=>?_) λf=>?_
 ·exact I 8<|an (az j j (.of<|by show ag.aa 1=ag.aa (jA x y);rw[t f]))
 have z:x.num.sign=y.num.sign:=R
 refine I 6<|cm qT y aC<|I 2<|cm pN (x.num.natAbs,y.den) ⟨db c.1,db e.2⟩<|I 1<|cm qT x aC<|I 2<|cm pN (y.num.natAbs,x.den) ⟨db e.1,db c.2⟩<|cm qS (x.num.natAbs*y.den,y.num.natAbs*x.den) ⟨db<|l2 c.1 e.2,db<|l2 e.1 c.2⟩<|I 7<|an (az j j<|.of ?_);show ag.aa (IntKind.i64.wrap<|x.num.sign*iK _ _)=ag.aa (jA x y);rw[nV z];refine congrArg _<|sX j ?_ ?_
 all_goals
  have g:x.num.sign= -1\/x.num.sign=0\/x.num.sign=1:=R
  unfold iK;rcases g with h|h|h<;>rw[h]<;>split<;>(try split)<;>decide
end Go.bA.c3
namespace Go.bA.c3
variable{b a n m:Nat}
def GS{k:Nat}(aA:2<=b)(h:(aW b n).length<=k):n<b^k:=by
 have c:=j9<|gL aA n;rw[gl aA]at c;exact xH c<|jG R h
def W3(aA:2<=b)(h:(aW b n).length=m+1):(aW b n)[m]? =some (n/b^m):=by
 rw[s6 aA R,mS];have:=GS aA<|Nat.le_of_eq h;rw[fD]at this;exact vC this
def alQ(aA:2<=b)(h:m+1<(aW b n).length)(aT:n<b^(m+2)):
 (aW b n)[m]? =some (n/b^m%b)/\(aW b n)[m+1]? =some (n/b^(m+1))/\n/b^m%b+b*(n/b^(m+1))=n/b^m:=by
 refine⟨s6 aA R,?_,?_⟩
 ·rw[s6 aA h,mS];rw[show m+2=(m+1)+1 from rfl,fD]at aT;exact vC aT
 ·rw[fD,<-p7];exact Ae _ _
def W4(D:a%2=0)(h:Nat.gcd a b%2=1):Nat.gcd (a/2) b=Nat.gcd a b:=by
 obtain⟨c,rfl⟩:∃c,a=2*c:=⟨a/2,R⟩;have f:b%2=1:=by
  rcases HP b with e|e
  ·have:2∣Nat.gcd (2*c) b:=Nat.dvd_gcd ⟨c,j⟩<|Nat.dvd_of_mod_eq_zero e;omega
  ·exact e
 have g:Nat.Coprime 2 b:=by
  show Nat.gcd 2 b=1;rw[Nat.gcd_rec,f];exact Nat.gcd_one_left 2
 rw[Dl _ al];exact(Nat.Coprime.gcd_mul_left_cancel c g).symm
def alR(aA:b%2=0)(h:Nat.gcd a b%2=1):Nat.gcd a (b/2)=Nat.gcd a b:=by
 rw[vA,W4 aA<|by rw[vA];exact h,vA]
def gcd_both(e:a%2=0)(aA:b%2=0):2*Nat.gcd (a/2) (b/2)=Nat.gcd a b:=by
 obtain⟨c,rfl⟩:∃c,a=2*c:=⟨a/2,R⟩;obtain⟨d,rfl⟩:∃d,b=2*d:=⟨b/2,R⟩;rw[Dl _ al,Dl _ al,Nat.gcd_mul_left]
def W5(h:b<=a):Nat.gcd (a-b) b=Nat.gcd a b:=by
 conv=>rhs;rw[show a=(a-b)+b by omega]
 simp
def W6(h:¬(a%2=0/\b%2=0)):Nat.gcd a b%2=1:=by
 rcases HP (Nat.gcd a b)with c|c
 ·have e:2∣Nat.gcd a b:=Nat.dvd_of_mod_eq_zero c;have g:=Nat.dvd_trans e<|Aj a b;have f:=Nat.dvd_trans e<|Nat.gcd_dvd_right a b;exact absurd ⟨Nat.mod_eq_zero_of_dvd g,Nat.mod_eq_zero_of_dvd f⟩ h
 ·exact c
def dec(n:Nat):ac Nat:=if n=0 then[0]else(aW 10 n).reverse
def g2(l:ac Nat):ac ci:=l.map λd=>UInt8.ofNat<|48+d
def Mn(l m:ac Nat):g2 (l++m)=g2 l++g2 m:=by unfold g2;rw[oY]
def s8(l:ac Nat):(g2 l).length=l.length:=by unfold g2;rw[hz]
def h6(k n:Nat):ac Nat:=(List.range k).map λc=>n/10^c%10
def W7(k n:Nat):h6 (k+1) n=h6 k n++[n/10^k%10]:=by unfold h6;rw[List.range_succ,oY];rfl
def xa(k n:Nat):(h6 k n).length=k:=by unfold h6;rw[hz,H2]
def W8(k n:Nat):Ok 10 (h6 k n):=λd c=>by
 unfold h6 at c;obtain⟨e,_,rfl⟩:=cW.1 c;exact eG _ al
def W9(k n:Nat):val 10 (h6 k n)=n%10^k:=by
 induction k with
 |zero=>rw[xV,Di];rfl
 |succ k c=>rw[W7,lC,c,xa,Nat.mod_pow_succ];rfl
def alS{l m:ac Nat}(h:Ok b l)(e:Ok b m):Ok b (l++m):=λd c=>(hf.1 c).elim (h d)<|e d
def Bt(l:ac Nat):Ok 10 (l.flatMap<|h6 9):=λd c=>by
 obtain⟨x,_,h⟩:=sl.1 c;exact W8 9 x d h
theorem Xa:∀{l:ac Nat},Ok 1000000000 l->val 10 (l.flatMap<|h6 9)=val 1000000000 l
 |[],_=>rfl
 |x::l,h=>by
  rw[tx,lC,Xa λd c=>h d<|e5 _ c,W9,xa];have:=h x av;show x%1000000000+1000000000*_=_;rw[mS this];rfl
def Xb(n:Nat):Ok 10 (dec n):=by
 unfold dec;split
 ·intro d c;simp at c;omega
 ·exactλd c=>gL al n d<|Am.1 c
theorem alT(n:Nat):dec n≠[]:=by
 unfold dec;split
 ·simp
 ·intro h;exact absurd ((na al).1<|Ig.1 h) lh
def alU(n:Nat):val 10 (dec n).reverse=n:=by
 unfold dec;split
 ·rename_i h;rw[h];rfl
 ·rw[Ds,gl al]
def Row(l:ac Nat):Prop:=l≠[]/\Ok 10 l/\(l=[0]\/l.head?≠some 0)
variable{l:ac Nat}
def alV(h:l.getLast?≠some 0):eI l=l:=by
 rcases od l with rfl|⟨dc,d,rfl⟩
 ·rfl
 ·rw[oe]at *;rw[qK,aw λe=>h<|by simp[e]]
def alW(h:Row l):dec (val 10 l.reverse)=l:=by
 obtain⟨j,o,e⟩:=h;have ok:Ok 10 l.reverse:=λd c=>o d<|Am.1 c;rcases e with rfl|e
 ·rfl
 ·have f:eI l.reverse=l.reverse:=alV (by rw[List.getLast?_reverse];exact e);have c:=zn (b:=10) al ok f;unfold dec;split
  ·rename_i g;rw[g,gK]at c;exact absurd (Ig.1 c.symm) j
  ·rw[c,Ds]
def nX(s:ac ci):ac Nat:=s.map λc=>c.toNat-48
def b6(s:ac ci):Nat:=val 10 (nX s).reverse
def jf(s:ac ci):Prop:=∀c∈s,48<=c.toNat/\c.toNat<=57
instance(s:ac ci):Decidable (jf s):=by unfold jf;infer_instance
def hv(s:ac ci):Prop:=s≠[]/\jf s/\(s=[48]\/s.head?≠some 48)
variable{s p:ac ci}
instance(s:ac ci):Decidable (hv s):=by unfold hv;infer_instance
def alX(h:jf s):g2 (nX s)=s:=by
 unfold g2 nX;rw[pZ]
 conv=>rhs;rw[<-List.map_id s]
 refine HS λc e=>?_;have:=h c e;show UInt8.ofNat (48+(c.toNat-48))=c;rw[show 48+(c.toNat-48)=c.toNat by omega,HY]
def Cp{d:Nat}(h:d<10):(UInt8.ofNat<|48+d).toNat=48+d:=by
 rw[Ih];omega
def alY(h:Ok 10 l):nX (g2 l)=l:=by
 unfold g2 nX;rw[pZ]
 conv=>rhs;rw[<-List.map_id l]
 refine HS λd c=>?_;have:=h d c;show(UInt8.ofNat<|48+d).toNat-48=d;rw[Cp this];omega
def alZ(h:Ok 10 l):jf (g2 l):=λc f=>by
 obtain⟨d,e,rfl⟩:=cW.1 f;have:=h d e;rw[Cp this];omega
def Xc(h:jf s):Ok 10 (nX s):=λd e=>by
 obtain⟨c,f,rfl⟩:=cW.1 e;have:=h c f;omega
def al0(h:hv s):Row (nX s):=by
 obtain⟨g,o,f⟩:=h;refine⟨λe=>g<|vx.1 e,Xc o,?_⟩;rcases f with rfl|f
 ·left;rfl
 ·right;cases s with
  |nil=>exact absurd j g
  |cons c s=>
   have t:=o c av;simp[nX,jj,List.head?_cons,ne_eq,Option.some.injEq]at f⊢;intro e;exact f (vq.1<|by show c.toNat=48;omega)
def dI(n:Nat):ac ci:=g2<|dec n
def Cq(h:hv s):dI (b6 s)=s:=by
 unfold dI b6;rw[alW<|al0 h,alX h.2.1]
def zx(n:Nat):b6 (dI n)=n:=by
 unfold dI b6;rw[alY<|Xb n,alU]
def GU(n:Nat):jf (dI n):=alZ<|Xb n
def uZ(n:Nat):dI n≠[]:=λh=>alT n<|vx.1 h
def GV(h:jf s):(47:ci)∉s:=λhm=>by have:=h _ hm;simp at this
def cutAt:ac ci->ac ci×be (ac ci)
 |[]=>([],none)
 |c::s=>if c=47 then([],some s)else(c::(cutAt s).1,(cutAt s).2)
theorem Cr:∀{s p q:ac ci},(47:ci)∉p->s=p++47::q->cutAt s=(p,some q)
 |_,[],q,_,rfl=>rfl
 |_,c::p,q,h,rfl=>by
  have aS:c≠47:=λe=>h (by simp[e]);have:=Cr (q:=q) (λhm=>h<|e5 _ hm) j;show(if c=47 then _ else(c::(cutAt<|p++47::q).1,(cutAt<|p++47::q).2))=_;rw[aw aS,this]
theorem Mo:∀{s:ac ci},(47:ci)∉s->cutAt s=(s,none)
 |[],_=>rfl
 |c::s,h=>by
  have aS:c≠47:=λe=>h (by simp[e]);show(if c=47 then _ else _)=_;rw[aw aS,Mo λhm=>h<|e5 _ hm]
def Mp(s:ac ci):(47:ci)∉(cutAt s).1/\(∀q,(cutAt s).2=some q->s=(cutAt s).1++47::q)/\((cutAt s).2=none->s=(cutAt s).1):=by
 induction s with
 |nil=>exact⟨by simp[cutAt],λq h=>by simp[cutAt]at h,λ_=>j⟩
 |cons c s g=>
  by_cases f:c=47
  ·subst f;refine⟨by simp[cutAt],λq h=>?_,λh=>by simp[cutAt]at h⟩;simp[cutAt]at h;subst h;rfl
  ·have e:cutAt (c::s)=(c::(cutAt s).1,(cutAt s).2):=aw f;obtain⟨t,z,o⟩:=g;rw[e];refine⟨λhm=>(e1.1 hm).elim (λe=>f e.symm) t,λq h=>?_,λh=>?_⟩
   ·show c::s=c::((cutAt s).1++47::q);rw[<-z q h]
   ·show c::s=c::(cutAt s).1;rw[<-o h]
def df(s:ac ci):Bool×ac ci:=match s with
 |[]=>(false,[])
 |c::t=>if c=45 then(true,t)else(false,c::t)
def hx(n:Bool)(p:Nat):Int:=if n then -(p:Int)else p
def dq(s:ac ci):be Rat:=
 if hv (cutAt (df s).2).1/\¬((df s).1=true/\(cutAt (df s).2).1=[48])then match(cutAt (df s).2).2 with
  |none=>some (mkRat (hx (df s).1<|b6 (cutAt (df s).2).1) 1)
  |some q=>if hv q/\q≠[48]/\q≠[49]/\Nat.gcd (b6 (cutAt (df s).2).1) (b6 q)=1 then some (mkRat (hx (df s).1<|b6 (cutAt (df s).2).1)<|b6 q)else none
 else none
def hc(x:Rat):ac ci:=(if x.num<0 then[45]else[])++dI x.num.natAbs++(if x.den=1 then[]else 47::dI x.den)
def sf(h:hv s)(bX:b6 s=0):s=[48]:=by rw[<-Cq h,bX];rfl
def Xd(h:hv s)(bX:b6 s=1):s=[49]:=by
 rw[<-Cq h,bX];show g2 (dec 1)=_;unfold dec;rw[m9 al al,gK];rfl
def Mq(n:Int)(d:Nat)(h:d≠0):(mkRat n d).num=n/((n.natAbs.gcd d:Nat):Int)/\(mkRat n d).den=d/n.natAbs.gcd d:=by
 rw[<-Rat.normalize_eq_mkRat h,Rat.normalize_eq h];exact eT
def nf(n:Bool)(p:Nat):(hx n p).natAbs=p:=by cases n<;>simp[hx]
def Xe{n:Bool}{p q:Nat}(ah:n=true->p≠0)(cz:q≠0)(D:Nat.gcd p q=1):hc (mkRat (hx n p) q)=(if n=true then[45]else[])++dI p++(if q=1 then[]else 47::dI q):=by
 obtain⟨c,e⟩:=Mq (hx n p) q cz;rw[nf,D]at c e;unfold hc;rw[c,e,tC];have:(hx n p/((1:Nat):Int))=hx n p:=Int.ediv_one _;rw[this,nf];congr 2;cases n
 ·rw[aw<|by simp[hx],aw al]
 ·have:=ah j;rw[aE<|by simp[hx];omega,aE j]
def al1{u D v bD:ac ci}(h:(47:ci)∉u)(E:(47:ci)∉D)(e:u++47::v=D++47::bD):v=bD:=by
 have:=Cr (q:=v) h j;rw[e,Cr E j]at this;simpa using(congrArg Prod.snd this).symm
def al2{n:Bool}{q:ac ci}(hp:hv p)(cz:hv q)(ah:¬(n=true/\p=[48]))(bX:q≠[48])(aF:q≠[49]):
 hc (mkRat (hx n<|b6 p)<|b6 q)=(if n=true then[45]else[])++p++47::q↔Nat.gcd (b6 p) (b6 q)=1:=by
 have g8:b6 q≠0:=λe=>bX<|sf cz e;have o:b6 q≠1:=λe=>aF<|Xd cz e;have bQ:(47:ci)∉(if n=true then[45]else[])++p:=λhm=>by
  rcases hf.1 hm with h|h
  ·cases n<;>simp at h
  ·exact GV hp.2.1 h
 constructor
 ·intro h;obtain⟨z,j⟩:=Mq (hx n<|b6 p) (b6 q) g8;rw[nf]at j;have f:∀(b:Prop) [Decidable b] k,47∉(if b then[45]else[])++dI k:=λb _ k hm=>by
   rcases hf.1 hm with h|h
   ·split at h<;>simp at h
   ·exact GV (GU k) h
  unfold hc at h;by_cases g:(mkRat (hx n<|b6 p)<|b6 q).den=1
  ·rw[aE g,rb]at h;exact absurd (h▸f _ _) av
  ·rw[aw g]at h;have e:=al1 (f _ _) bQ h;have t:(mkRat (hx n<|b6 p)<|b6 q).den=b6 q:=by rw[<-zx (mkRat _ _).den,e]
   have c:0<Nat.gcd (b6 p) (b6 q):=N0 _ R;refine Nat.le_antisymm (vD λh=>?_) c;have:=Ad (kQ g8) h;omega
 ·intro c;rw[Xe (λh e=>ah ⟨h,sf hp e⟩) g8 c,aw o,Cq hp,Cq cz]
def al3{n:Bool}(hp:hv p)(ah:¬(n=true/\p=[48])):hc (mkRat (hx n<|b6 p) 1)=(if n=true then[45]else[])++p:=by
 rw[Xe (λh e=>ah ⟨h,sf hp e⟩) al<|Dm _,aE j,rb,Cq hp]
open Go.bA
set_option maxRecDepth 100000
set_option maxHeartbeats 4000000
variable{x:Rat}{k d:Nat}{y:Rat}{r q:Nat}
def Mr:bl:=b3 λ((a,b):Nat×Nat)=>([c9 a,c9 b],dW 268435456 a/\dW 268435456 b/\b≠0,.bq [c9<|a/b,c9<|a%b])
def al4{W:Nat}(aA:(aW 1000000000 b).length=m+1)(j:b<=W)(aT:W<1000000000*b):
 0<b/1000000000^m/\b/1000000000^m<1000000000/\W/1000000000^m/(b/1000000000^m+1)<=W/b/\W/b<=min ((W/1000000000^m+1)/(b/1000000000^m)) 999999999/\W/1000000000^m<1000000000*1000000000/\0<W/b/\W<1000000000^(m+2):=by
 have h:0<b:=R
 have o:0<1000000000^m:=nv al;have f:=(w7 (b:=1000000000) (n:=b) (i:=m) al).1 R;have A:=GS al<|Nat.le_of_eq aA;have g:b=b/1000000000^m*1000000000^m+b%1000000000^m:=by rw[fT];exact(p6 _ _).symm
 have e:W=W/1000000000^m*1000000000^m+W%1000000000^m:=by rw[fT];exact(p6 _ _).symm
 have c:W<1000000000^(m+2):=by
  rw[fD,fT];exact eR aT<|lK _ R
 refine⟨kQ f,?_,alO g R e h,?_,?_,Ai j h,c⟩
 ·exact vC R
 ·have z:=alP g R e (kQ f) o;have t:W/b<1000000000:=vC R;omega
 ·refine vC ?_;rw[show m+2=m+(1+1)from rfl,h8,h8]at c;exact c
def xb(bX:d≠0)(h:d<1000000000):aW 1000000000 d=[d]:=by
 rw[m9 al bX,gn h,p5 h,gK]
def Ms(h:d<1000000000):eI (d::aW 1000000000 r)=aW 1000000000 (d+1000000000*r):=by
 rw[w1 (b:=1000000000) al (λx c=>by
  rcases e1.1 c with rfl|c
  ·exact h
  ·exact gL al r x c)]
 simp[val];rw[gl al]
def Xf:iK a b<=0↔a<=b:=by
 unfold iK;split
 ·omega
 ·split<;>omega
def al5(h:r<b)(aA:dW k b):dW k r:=je al<|Nat.lt_trans h<|se aA
def al6{i:Nat}{ju:ac Nat}:(List.replicate (i+1) 0++ju).set i d=List.replicate i 0++d::ju:=by
 rw[List.replicate_succ'];simp
def Mt(xs ju:ac Nat)(b m i W:Nat)(e:bU):cl:=⟨[.a 2 false 1 Nat fQ<|List.replicate (i+1) 0++ju],1,(0,ds xs)::(1,ds<|aW 1000000000 b)::(6,.aK 0 1 0 xs.length xs.length)::(7,.aa ((m+1:Nat):Int))::(8,c9 W)::(9,.aa i)::e⟩
def Mu:bt 202 Mr:=by
 refine bR [(204,uV),(197,sd),(198,w8),(313,GI)] Vd.1 ?_;intro⟨a,b⟩ ⟨(a4:(aW _ a).length<=_),(D:(aW _ b).length<=_),(Q:b≠0)⟩ H au;have aU:=gL (b:=1000000000) al a;have aY:=gl (b:=1000000000) al a;obtain⟨m,hm⟩:∃m,(aW 1000000000 b).length=m+1:=⟨(aW 1000000000 b).length-1,by
  have:(aW 1000000000 b).length≠0:=λe=>Q<|(na al).1<|nr e;omega⟩
 have X:=W3 (b:=1000000000) al hm;show b5.ok _ ⟨_,_,⟨_,_,[(0,ds<|aW 1000000000 a),(1,ds<|aW 1000000000 b)]⟩⟩;generalize a3:aW 1000000000 a=xs at *;refine I 10<|oE fQ 0 ?_;refine st ?_;rw[hm];refine ix 8 (ds []) j bJ.nl<|aP 8 (c9 0) j (by unfold c9;rw[gK]) ?_;refine eu (L:=Nat×ac Nat×Nat) (λ(k,g,r)=>k+g.length=xs.length/\Ok 1000000000 g/\r<b/\val 1000000000 (xs.drop k)=val 1000000000 g*b+r)
  (λ((k:Nat),(g:ac Nat),(r:Nat))=>⟨[.a 2 false 1 Nat fQ<|List.replicate k 0++g],1,[(0,ds xs),(1,ds<|aW 1000000000 b),(6,.aK 0 1 0 xs.length xs.length),(7,.aa ((m+1:Nat):Int)),(8,c9 r),(9,.aa<|(k:Int)-1)]⟩)
  (λl=>l.1) [0] (xs.length,[],0) ⟨av,λx o=>by simp at o,R,by simp[val]⟩ (by show xs.length<bx+1;unfold bx;omega) ?_ ?_
 ·exact hV ⟨j,j,j,j,j,nQ,aC⟩ ⟨_,j,av,λ_=>j⟩
 rintro⟨k,g,r⟩ ⟨a7,K,Z,J⟩;cases k with
 |zero=>
  refine I 16<|kn 99 ?_;refine aV uW g (by show g.length<=_;omega)<|I 6<|an (az j j<|.of ?_);show ag.bq [ds<|eI g,c9 r]=ag.bq [c9<|a/b,c9<|a%b];rw[iQ,aY]at J;have aI:=Nat.div_mod_unique (kQ Q) (a:=a) (c:=r) (d:=val 1000000000 g);obtain⟨aH,aR⟩:=aI.2 ⟨by rw[J,fT];exact tv _ _,Z⟩;rw[w1 al K,aH,aR];rfl
 |succ i=>
  have o:i<xs.length:=R
  have T:=aU _<|dx o;obtain⟨W,M⟩:∃W,W=xs[i]+1000000000*r:=dC;have aJ:W<1000000000*b:=R
  have aA:∀q N:Nat,q*b+N=W->val 1000000000 (xs.drop i)=val 1000000000 (q::g)*b+N:=λq N h=>by
   rw[gp o];simp only[val];rw[J,e2,ia,h9];omega
  have S:=al5 Z D;refine aP 9 (.aa (i:Nat)) j fu<|I 16<|aP 23 (.b true) j av<|gQ (L:=Unit) (λ_=>True) (λ_=>Mt xs g b m i W []) ?_ ?_
  ·refine st ?_;refine fc xs[i] (a0 o) j<|I 3<|kF 1 fQ [xs[i]] ?_;by_cases ao:r=0
   ·subst ao;refine aP 31 (ds []) j (by unfold c9;rw[gK])<|Rs (ai:=fQ) (Fv j mx mx) ?_;refine kn 32 ?_;refine aV uW [xs[i]] (by show 1<=_;decide)<|I 2<|bW [0] () aC (bB (aL:=⟨j,j,j,j,congrArg (λl=>some<|ds l) ?_,j,aC⟩));have:=Ms (d:=xs[i]) (r:=0) T;rw[gK]at this;rw[M];exact this
   ·have a':aW 1000000000 r≠[]:=λe=>ao<|(na al).1 e;have b':0<(aW 1000000000 r).length:=o2.2 a';have S:(aW 1000000000 r).length<=268435456:=S;refine KR (ai:=fQ) (aW 1000000000 r) (Fv j mx mx) (xs[i]::aW 1000000000 r) ?_ (bX:=a');refine kn 32 ?_;refine aV uW (xs[i]::aW 1000000000 r) (by show(aW _ r).length+1<=_;omega)<|I 2<|bW [0] () aC (bB (aL:=⟨j,j,j,j,congrArg (λl=>some<|ds l) ?_,j,aC⟩));rw[M];exact Ms T
  intro _ _;have F:dW 268435457 W:=by
   have:=Ms (d:=xs[i]) (r:=r) T;have aj:=VX<|xs[i]::aW 1000000000 r;rw[this,<-M]at aj;exact cC aj<|Nat.succ_le_succ S
  refine I 5<|aV qS (W,b) ⟨db F,db D⟩<|I 3<|cG (λh=>?_) λh=>?_
  ·have h:W<b:=zr h;refine I 9<|bW [0] (i,0::g,W) ⟨av,by simp;omega,?_,h,aA 0 W R⟩ (bB (aF:=⟨⟨_,j,by rw[List.replicate_succ',rh];rfl,λ_=>j⟩,aC⟩));intro x o;rcases e1.1 o with rfl|o
   ·decide
   ·exact K x o
  have ak:b<=W:=zs h;obtain⟨ba,bb,ar,ax,bc,bd,ay⟩:=al4 hm ak aJ;have EX:m<(aW 1000000000 W).length:=(w7 al).2 (by have:=Nat.div_le_div_right (c:=1000000000^m) ak;omega);have a5:=je (b:=1000000000) al ay;have G:∃E:Nat,(aW 1000000000 W)[m]? =some E/\(((aW 1000000000 W).length=m+1/\E=W/1000000000^m)\/((aW 1000000000 W).length=m+2/\∃y:Nat,(aW 1000000000 W)[m+1]? =some y/\E+1000000000*y=W/1000000000^m)):=by
   rcases(show(aW 1000000000 W).length=m+1\/(aW 1000000000 W).length=m+2 by omega)with h|h
   ·exact⟨_,W3 al h,.inl ⟨h,j⟩⟩
   ·obtain⟨z,A,a2⟩:=alQ (b:=1000000000) al (show m+1<_ by omega) ay;exact⟨_,z,.inr ⟨h,_,A,a2⟩⟩
  generalize aZ:b/1000000000^m=v at *;generalize a6:W/1000000000^m=w at *;obtain⟨E,aE,G⟩:=G;refine I 7<|cd 40 (m:Nat)<|fc E aE j ?_;refine e4 10 ?_
  iterate 3 refine fz j ?_
  refine gQ (L:=Unit) (λ_=>True) (λ_=>Mt xs g b m i W [(10,.aa (w:Nat))]) ?_ ?_
  ·refine I 8 ?_;rcases G with⟨z,A⟩|⟨z,y,A,a2⟩
   ·exact aP 46 (.b false) j (by rw[z];simp)<|I 2<|bW [0] () aC bB
   ·refine aP 46 (.b true) j (by rw[z];simp)<|I 5<|fc y A j<|I 5<|bW [0] () aC (bB (aL:=⟨j,j,j,j,j,j,?_,aC⟩));exact congrArg (λn=>some<|ag.aa n)<|by rw[fP (n:=1000000000*(y:Int)) R R,fP R R];omega
  intro _ _;refine I 6<|ww 57 (m:Nat)<|ks v X j<|I 2 (ww 60 ((v+1:Nat):Int)<|Rt ?_);refine I 2<|ww 63 ((w+1:Nat):Int)<|I 3 (ww 66 (m:Nat)<|ks v X j<|I 1<|Rt ?_);refine I 1 ?_;obtain⟨bg,ae⟩:∃bg,bg=w/(v+1):=dC;obtain⟨af,ad⟩:∃af,af=min ((w+1)/v) 999999999:=dC;rw[<-ae]at ar;rw[<-ad]at ax;refine dD 61 (.aa (bg:Nat)) j j (by rw[ae])<|dD 70 (.aa (af:Nat)) j j (by rw[ad];exact fu<|by generalize(w+1)/v=u;omega) ?_;have aO:af<=999999999:=by generalize(w+1)/v=u at *;omega
  have aQ:∀d:Nat,d≠0->d<1000000000->dW 268435457 (b*d):=λd aS h=>l2 (k:=268435456) (l:=1) D (by show(aW _ d).length<=1;rw[xb aS h];exact cn _);generalize O:W/b=q at *;have ab:0<b:=kQ Q;refine I 6<|eA (L:=Nat×Nat) (λ(l,h)=>l<=q/\q<=h/\h<=999999999) (λ((l:Nat),(h:Nat))=>Mt xs g b m i W [(11,.aa l),(12,.aa h)]) (λl=>l.2-l.1) [0] (bg,af) ⟨ar,ax,aO⟩ ?_;rintro⟨l,h⟩ ⟨z,A,a2⟩;refine I 8<|cG (λaT=>?_) λaT=>?_
  ·have aT:l<h:=by omega
   obtain⟨f,aM⟩:∃f,f=(l+h+1)/2:=dC;refine I 8<|cd 76 ((l+h:Nat):Int)<|I 1<|cd 77 ((l+h+1:Nat):Int)<|I 1<|aP 78 (.aa (f:Nat)) j (by rw[aM];show ag.i _ (IntKind.i64.wrap (((l+h+1)/2:Nat):Int))=_;exact eM j R R) ?_;have C:f≠0:=R
   have t:f<1000000000:=R
   refine I 8<|kF 1 fQ [f] ?_;refine kn 81 ?_;refine aP 81 (c9 f) j (by unfold c9;rw[xb C t];rfl)<|aV pN (b,f) ⟨db D,by show(aW _ f).length<=_;rw[xb C t];exact hP j⟩<|I 1<|aV qS (b*f,W) ⟨db<|aQ f C t,db F⟩<|I 3 ?_;have Y:b*f<=W↔f<=q:=by rw[<-O,tB ab,fT]
   refine cG (λB=>?_) λB=>?_
   ·have B:=Y.1<|Xf.1 B;exact I 5<|h4 [0] (f,h) ⟨B,A,a2⟩
   ·have B:q<f:=Nat.lt_of_not_le λaG=>B<|Xf.2<|Y.2 aG;exact I 6<|bW [0] (l,f-1) ⟨by show f-1-l<h-l;omega,z,by show q<=f-1;omega,by show f-1<=_;omega⟩ bB
  ·have aX:l=q:=by omega
   subst aX;have t:l<1000000000:=R
   have C:l≠0:=R
   have aB:b*l<=W:=by rw[<-O];exact Nat.mul_div_le W b
   refine I 10<|k4 j j<|kE l ?_;refine I 7<|kF 1 fQ [l] ?_;refine kn 96 ?_;refine aP 96 (c9 l) j (by unfold c9;rw[xb C t];rfl)<|aV pN (b,l) ⟨db D,by show(aW _ l).length<=_;rw[xb C t];exact hP j⟩<|aV Cn (W,b*l) ⟨db F,aB⟩<|I 9 ?_;have aN:W-b*l=W%b:=by have:=p6 W b;rw[O]at this;omega
   refine bW [0] (i,l::g,W-b*l) ⟨av,by simp;omega,?_,by rw[aN];exact eG _ ab,aA l _<|by rw[fT l b];omega⟩<|bB (aF:=⟨⟨_,j,by rw[al6],λ_=>j⟩,aC⟩);intro x o;rcases e1.1 o with rfl|o
   ·exact t
   ·exact K x o
def ng(h:dW k b)(aD:a<=b):dW k a:=je al<|mf aD<|se h
def pO(h:dW k a):bE a<=30*k:=cC W0.2<|lK _ h
def GW:(aW 1000000000 n).length=0↔n=0:=by rw[H9];exact na al
def Xg:bl:=b3 λ((a,b):Nat×Nat)=>([c9 a,c9 b],dW 268435456 a/\dW 268435456 b/\b≠0,c9<|Nat.gcd a b)
def xc(x y t:Nat):cl:=⟨[],0,[(0,c9 x),(1,c9 y),(5,.aa t)]⟩
def al7:bt 201 Xg:=by
 refine bR [(202,Mr),(314,WY),(315,WX),(197,sd),(313,GI),(312,GH)] Up.1 ?_;intro⟨a,b⟩ ⟨(av:dW _ a),(E:dW _ b),(K:b≠0)⟩ H au;refine st ?_;refine aV Mu (a,b) ⟨av,E,K⟩<|st ?_;have ax:a%b<b:=eG _<|kQ K;have a':Nat.gcd (a%b) b=Nat.gcd a b:=by rw[vA a b,Nat.gcd_rec b a]
 have W:dW 268435456 (a%b):=ng E<|og ax;generalize aH:a%b=I at *;refine cG (λh=>?_) λh=>?_
 ·have h:I=0:=GW.1 R;subst h;refine st ?_;exact an<|az j j (.of<|by show c9 b=c9 (Nat.gcd a b);rw[<-a',Ii])
 have h:I≠0:=λe=>h (by rw[e,gK];rfl);refine st ?_;refine j7 (L:=Nat×Nat×Nat) (λ(x,y,t)=>x≠0/\y≠0/\dW 268435456 x/\dW 268435456 y/\t<=10000000000/\2^t*Nat.gcd x y=Nat.gcd a b/\Nat.gcd x y%2=1) (λ(x,y,t)=>xc x y t) ?_ ?_
 ·refine eu (L:=Nat×Nat×Nat) (λ(x,y,t)=>x≠0/\y≠0/\dW 268435456 x/\dW 268435456 y/\t+bE x<=10000000000/\2^t*Nat.gcd x y=Nat.gcd a b) (λ(x,y,t)=>xc x y t) (λl=>bE l.1) [] (I,b,0) ⟨h,K,W,E,by have:=pO W;show 0+_<=_;omega,by rw[xV,vv,a']⟩ (by have:=pO W;show bE I<bx+1;unfold bx;omega) bB ?_;rintro⟨x,y,t⟩ ⟨S,G,a2,cD,cX,et⟩;refine st ?_;refine aV GK x aC<|st ?_;by_cases M:x%2=1
  ·refine aP 20 (.b false) j (by rw[ck M];rfl)<|st ?_;exact bW [] (x,y,t) ⟨S,G,a2,cD,R,et,W6 λh=>R⟩ bB
  refine aP 20 (.b true) j (by rw[cq M];rfl)<|st ?_;have M:x%2=0:=R
  refine aV GK y aC<|st ?_;by_cases F:y%2=1
  ·refine aP 24 (.b false) j (by rw[ck F];rfl)<|st ?_;exact bW [] (x,y,t) ⟨S,G,a2,cD,R,et,W6 λh=>R⟩ bB
  refine aP 24 (.b true) j (by rw[cq F];rfl) ?_;have F:y%2=0:=R
  refine st ?_;refine aV GJ x (db a2)<|st ?_;refine aV GJ y (db cD)<|st ?_;have ao:=uJ (n:=x) R;have aG:=gcd_both M F;exact bW [] (x/2,y/2,t+1) ⟨by show bE (x/2)<bE x;omega,by show x/2≠0;omega,by show y/2≠0;omega,ng a2<|jW _ _,ng cD<|jW _ _,by show t+1+bE (x/2)<=_;omega,by rw[fD,h9,aG];exact et⟩ bB
 rintro⟨X,O,t⟩ ⟨S,G,a2,cD,cX,et,fs⟩;obtain⟨g,Y⟩:∃g,g=Nat.gcd X O:=dC;rw[<-Y]at et fs;refine st ?_;refine j7 (L:=Unit) (λ_=>True) (λ_=>⟨[],0,[(1,c9 g),(5,.aa t)]⟩) ?_ ?_
 ·refine eu (L:=Nat×Nat) (λ(x,y)=>y≠0/\dW 268435456 x/\dW 268435456 y/\Nat.gcd x y=g) (λ(x,y)=>xc x y t) (λl=>2*(bE l.1+bE l.2)+l.1%2) [] (X,O) ⟨G,a2,cD,Y.symm⟩ (by have:=pO a2;have:=pO cD;show 2*(bE X+bE O)+X%2<bx+1;unfold bx;omega) bB ?_;rintro⟨x,y⟩ ⟨aE,aj,ae,Q⟩;refine st ?_;refine cG (λT=>?_) λT=>?_
  ·have N:x≠0:=λe=>by rw[e,gK]at T;simp at T
   refine st ?_;refine j7 (L:=Nat) (λc=>c%2=1/\dW 268435456 c/\Nat.gcd c y=g/\2*bE c<=2*bE x+x%2-1) (λc=>xc c y t) ?_ ?_
   ·refine eu (L:=Nat) (λc=>c≠0/\dW 268435456 c/\Nat.gcd c y=g/\bE c<=bE x/\(c=x\/bE c<bE x)) (λc=>xc c y t) bE [] x ⟨N,aj,Q,cn _,.inl j⟩ (by have:=pO aj;show bE x<bx+1;unfold bx;omega) bB ?_;rintro c ⟨bH,A,D,ar,Z⟩;refine st ?_;refine aV GK c aC<|st ?_;refine y6 (λo=>?_) λo=>?_
    ·have ao:=uJ (n:=c) R;have o:c%2=0:=by omega
     refine st ?_;refine aV GJ c (db A)<|st ?_;exact bW [] (c/2) ⟨by show bE (c/2)<bE c;omega,R,ng A<|jW _ _,by rw[W4 o<|by rw[D];exact fs];exact D,R,.inr R⟩ bB
    ·refine st ?_;exact bW [] c ⟨o,A,D,by rcases Z with rfl|Z<;>omega⟩ bB
   rintro c ⟨bH,A,D,ar⟩;refine st ?_;refine j7 (L:=Nat) (λf=>f%2=1/\dW 268435456 f/\Nat.gcd c f=g/\bE f<=bE y) (λf=>xc c f t) ?_ ?_
   ·refine eu (L:=Nat) (λf=>f≠0/\dW 268435456 f/\Nat.gcd c f=g/\bE f<=bE y) (λf=>xc c f t) bE [] y ⟨aE,ae,D,cn _⟩ (by have:=pO ae;show bE y<bx+1;unfold bx;omega) bB ?_;rintro f ⟨aA,B,C,ab⟩;refine st ?_;refine aV GK f aC<|st ?_;refine y6 (λo=>?_) λo=>?_
    ·have ao:=uJ (n:=f) R;have o:f%2=0:=by omega
     refine st ?_;refine aV GJ f (db B)<|st ?_;exact bW [] (f/2) ⟨by show bE (f/2)<bE f;omega,R,ng B<|jW _ _,by rw[alR o<|by rw[C];exact fs];exact C,R⟩ bB
    ·refine st ?_;exact bW [] f ⟨o,B,C,ab⟩ bB
   rintro f ⟨aA,B,C,ab⟩;refine st ?_;by_cases ay:f=1
   ·subst ay;rw[Dm]at C;refine aP 1 (ds [1]) j (by unfold c9;rw[uX]) ?_;refine aP 47 (.b true) j (by rw[uX];rfl)<|st ?_;refine pG (J:=0) 1 j ?_;refine st ?_;exact bW [] () aC<|m4 ⟨by rw[<-C];unfold c9;rw[uX];rfl,j,aC⟩
   refine gQ (L:=Unit) (λ_=>True) (λ_=>⟨[],0,[(0,c9 c),(1,c9 f),(5,.aa t),(52,.b false)]⟩) ?_ ?_
   ·by_cases ak:(aW 1000000000 f).length=1
    ·have ad:f<1000000000:=se (k:=1)<|Nat.le_of_eq ak;refine aP 47 (.b true) j (by rw[ak];rfl) ?_;refine aP 1 (ds [f]) j (by unfold c9;rw[xb R ad])<|st ?_;refine pG (J:=0) f j ?_;refine st ?_;exact bW [] () aC<|m4 ⟨j,by unfold c9;rw[xb R ad];rfl,j,congrArg (λb=>some<|ag.b b)<|cq R,aC⟩
    ·refine c2 47<|st ?_;exact bW [] () aC bB
   intro _ _;refine st ?_;refine aV qS (c,f) ⟨db A,db B⟩<|st ?_;have aI:=uJ (n:=c) R;refine cG (λz=>?_) λz=>?_
   ·have z:=zr z;refine st ?_;refine aV Cn (f,c) ⟨db B,og z⟩<|st ?_;have aB:=L5<|tD f c;exact bW [] (f-c,c) ⟨by show 2*(bE (f-c)+bE c)+(f-c)%2<2*(bE x+bE y)+x%2;omega,by show c≠0;omega,ng B<|tD _ _,A,by rw[W5<|og z,vA];exact C⟩ bB
   ·have z:=zs z;refine st ?_;refine aV Cn (c,f) ⟨db A,z⟩<|st ?_;have aB:=L5<|tD c f;exact bW [] (c-f,f) ⟨by show 2*(bE (c-f)+bE f)+(c-f)%2<2*(bE x+bE y)+x%2;omega,by show f≠0;omega,ng A<|tD _ _,B,by rw[W5 z];exact C⟩ bB
  ·have N:x=0:=GW.1 R;subst N;rw[Ii]at Q;refine st ?_;exact bW [] () aC<|m4 ⟨by rw[<-Q];rfl,j,aC⟩
 intro _ _;refine st ?_;refine eu (L:=Nat) (λi=>i<=t) (λ(i:Nat)=>⟨[],0,[(1,c9<|2^i*g),(5,.aa t),(6,.aa i)]⟩) (λi=>t-i) [] 0 (dw _) (by show t-0<bx+1;unfold bx;omega) (m4 ⟨by rw[xV,vv];rfl,j,j,aC⟩) ?_;intro(i:Nat) af;refine st ?_;refine cG (λh=>?_) λh=>?_
 ·have h:i<t:=by omega
  have ai:2^i*g<=b:=cC (hA g<|jG al af) (by rw[et];exact Ia _<|kQ K);refine st ?_;refine aV Mk (2^i*g,2^i*g) ⟨db<|ng E ai,db<|ng E ai⟩<|st ?_;exact bW [] (i+1) ⟨by show t-(i+1)<t-i;omega,h⟩<|m4 ⟨congrArg (λn=>some<|c9 n)<|by rw[fD,fT (2^i) 2,h9];omega,j,nQ,aC⟩
 ·have aF:i=t:=by omega
  subst aF;refine st ?_;exact an<|az j j (.of<|by show c9 _=c9 _;rw[et])
def Xh:bJ (.agg [.aa 0,.nl,.nl]) (dB 0):=bJ.agg ⟨.refl _,bJ.nl.trans (.of<|by show ds []=ds (aW _ 0);rw[gK]),bJ.nl,aC⟩
def Xi{n:Bool}{p:Nat}(hp:p≠0)(cz:q≠0):dB (mkRat (if n then -(p:Int)else p) q)= .agg [.aa (if n then -1 else 1),c9<|p/p.gcd q,c9<|q/p.gcd q]:=by
 obtain⟨e,f⟩:=Wr hp cz;have c:0<p.gcd q:=H8 _ R;have g:=Ai (Nat.le_of_dvd R<|Aj p q) c;unfold dB;rw[e,f];cases n
 ·simp only[pY,if_false];rw[aw R,rf R];rfl
 ·simp only[if_true];rw[aw R,vB R,Ic];rfl
def u0:bl:=b3 λ((s,p,q):Int×Nat×Nat)=>([.aa s,c9 p,c9 q],-1<=s/\s<=1/\dW 268435456 p/\dW 268435456 q/\q≠0,dB<|mkRat (s*p) q)
def al8{s:Int}{p:Nat}(aF: -1<=s)(aL:s<=1)(e:s≠0)(hp:p≠0)(cz:q≠0):dB (mkRat (s*p) q)= .agg [.aa s,c9<|p/p.gcd q,c9<|q/p.gcd q]:=by
 rcases(show s=1\/s= -1 by omega)with rfl|rfl
 ·have:=Xi (n:=false) hp cz;rw[Int.one_mul];exact this
 ·have:=Xi (n:=true) hp cz;rw[xX,Int.one_mul];exact this
def zy:iK a b=0↔a=b:=by
 unfold iK;split
 ·omega
 ·split<;>omega
def Cs:dW 1073741824 1:=by show(aW _ 1).length<=_;rw[uX];exact hP j
def s9:bt 117 u0:=by
 refine bR [(119,uY),(197,sd),(201,Xg),(202,Mr)] SP.1 ?_;intro⟨s,p,q⟩ ⟨(J: -1<=s),(K:s<=1),(hp:dW _ p),(o:dW _ q),(t:q≠0)⟩ H au;have zero:s*(p:Int)=0->bJ (.agg [.aa 0,.nl,.nl]) (u0.res (s,p,q)):=λh=>Xh.trans (.of<|by show dB 0=dB (mkRat (s*p) q);rw[h,Rat.zero_mkRat]);refine I 12 ?_;by_cases B:p=0
 ·exact aP 11 (.b true) j (by show ag.b (decide (((aW 1000000000 p).length:Int)=0))=_;rw[ck (by have:=GW.2 B;omega)])<|I 14<|an (az j j (zero<|by rw[B];simp))
 refine aP 11 (.b false) j (by show ag.b (decide (((aW 1000000000 p).length:Int)=0))=_;rw[cq (by have:=mt GW.1 B;omega)])<|I 4 ?_;by_cases C:s=0
 ·exact v1 13 C<|I 12<|an (az j j (zero<|by rw[C];simp))
 refine v0 13 C ?_;have G:=al8 J K C B t;have fin:∀{e f:Nat},e=p/p.gcd q->f=q/p.gcd q->bJ (.agg [.aa s,c9 e,c9 f]) (u0.res (s,p,q)):=λE F=>.of (by rw[E,F];exact G.symm);refine I 10<|aV s7 () aC<|aV qS (p,1) ⟨db hp,Cs⟩<|I 2 ?_;by_cases A:p=1
 ·exact v1 20 (zy.2 A)<|I 19<|an (az j j (fin (by rw[A];simp)<|by rw[A];simp))
 refine v0 20 (mt zy.1 A)<|I 3<|aV s7 () aC<|I 1<|aV qS (q,1) ⟨db o,Cs⟩<|I 2 ?_;by_cases z:q=1
 ·exact v1 24 (zy.2 z)<|I 15<|an (az j j (fin (by rw[z];simp)<|by rw[z];simp))
 refine v0 24 (mt zy.1 z) ?_;have M:0<p.gcd q:=N0 _<|kQ t;have D:dW 268435456 (p.gcd q):=ng o<|Ia _<|kQ t;refine I 10<|aV al7 (p,q) ⟨hp,o,t⟩<|I 7<|aV s7 () aC<|aV qS (p.gcd q,1) ⟨db D,Cs⟩<|I 3<|gQ (L:=Nat×Nat) (λ(e,f)=>e=p/p.gcd q/\f=q/p.gcd q) (λ(e,f)=>⟨[.c 105 [.aa 0,.nl,.nl]],1,[(0,.aa s),(1,c9 e),(2,c9 f),(6,.p 0 0)]⟩) ?_ ?_
 ·refine cG (λg=>?_) λg=>?_
  ·exact I 4<|aV Mu (p,p.gcd q) ⟨hp,D,by show p.gcd q≠0;omega⟩<|I 9<|aV Mu (q,p.gcd q) ⟨o,D,by show p.gcd q≠0;omega⟩<|I 5<|dv [0] (p/p.gcd q,q/p.gcd q) eT
  ·have g:p.gcd q=1:=zy.1<|Decidable.not_not.1 g;exact I 1<|dv [0] (p,q) ⟨by rw[g,tC],by rw[g,tC]⟩
 rintro⟨e,f⟩ ⟨E,F⟩;exact I 10<|an (az j j<|fin E F)
def Mv:bl:=b3 λ(n:Int)=>([.aa n],-9223372036854775808<=n/\n<9223372036854775808,dB<|mkRat n 1)
def Xj(h:n<18446744073709551616):dW 3 n:=je al R
def Xk:bt 46 Mv:=by
 refine bR [(118,WV),(119,uY),(117,u0)] SE.1 ?_;intro(n:Int) ⟨f,g⟩ H au;have c:dW 268435456 1:=by show(aW _ 1).length<=_;rw[uX];exact hP j
 refine I 12<|cG (λh=>?_) λh=>?_
 ·obtain⟨m,hm⟩:∃m:Nat,m=n.natAbs:=dC;refine I 4<|cd 6 (n+1)<|I 1<|cd 7 ((m-1:Nat):Int)<|I 2 ?_;have e:((m-1)%18446744073709551616+1)%18446744073709551616=m:=by omega
  refine wY 9 .u64 e ?_;exact aV WW m (by show m<_;omega)<|aV s7 () aC<|aV s9 (-1,m,1) ⟨al,al,db<|Xj R,c,al⟩<|I 5<|an (az j j (.of<|by show dB _=dB _;rw[show -1*m=n by omega]))
 ·obtain⟨m,hm⟩:∃m:Nat,n=(m:Int):=⟨n.toNat,R⟩;subst hm;exact I 6<|aP 14 (.i .u64 m) j fu<|aV WW m (by show m<_;omega)<|aV s7 () aC<|aV s9 (1,m,1) ⟨al,al,db<|Xj R,c,al⟩<|I 4<|an (az j j (.of<|by show dB _=dB _;rw[Int.one_mul]))
def Mw{s:Int}(h:s*(k:Int)=x.num*y.den+y.num*x.den):mkRat (s*k) (x.den*y.den)=x+y:=by rw[h,Ak]
def Xl(n:Int):n=n.sign*(n.natAbs:Int):=(xW n).symm
def Ct(x:Rat):ac ag:=[.aa x.num.sign,c9 x.num.natAbs,ds (if x.num=0 then[]else aW 1000000000 x.den)]
def Xm:bl:=b3 λ((x,y):Rat×Rat)=>([dB x,dB y],eN 67108864 x/\eN 67108864 y,dB<|x+y)
def al9:bt 200 Xm:=by
 refine bR [(199,w9),(198,w8),(312,GH),(313,GI),(197,sd),(117,u0)] TF.1 ?_;intro⟨x,y⟩ ⟨(e:eN _ x),(f:eN _ y)⟩ H au;have o:dW 134217728 (x.num.natAbs*y.den):=l2 e.1 f.2;have z:dW 134217728 (y.num.natAbs*x.den):=l2 f.1 e.2;have J:dW 134217728 (x.den*y.den):=l2 e.2 f.2;have F:x.den*y.den≠0:=nw x.den_nz y.den_nz;have D:=zw x.num;have E:=zw y.num;refine I 10<|cm qT y aC<|I 2<|cm pN (x.num.natAbs,y.den) ⟨db e.1,db f.2⟩<|I 1<|cm qT x aC<|I 2<|cm pN (y.num.natAbs,x.den) ⟨db f.1,db e.2⟩<|I 7<|cm qT x aC<|I 1<|cm qT y aC<|cm pN (x.den,y.den) ⟨db e.2,db f.2⟩<|I 10<|gQ (L:=Bool) (λt=>t=decide (x.num.sign=0\/y.num.sign=0\/x.num.sign=y.num.sign)) (λt=>⟨[.c 105<|Ct x,.c 105<|Ct y,.c 105 [.aa 0,.nl,.nl]],3,[(2,.p 0 0),(3,.p 1 0),(4,.p 2 0),(5,c9<|x.num.natAbs*y.den),(6,c9<|y.num.natAbs*x.den),(7,c9<|x.den*y.den),(38,.b t)]⟩) ?_ ?_
 ·by_cases B:x.num.sign=0
  ·exact v1 27 B<|I 12<|dv [0,1,2] true (by simp[B])
  refine v0 27 B<|I 8 ?_;by_cases C:y.num.sign=0
  ·exact v1 32 C<|I 7<|dv [0,1,2] true (by simp[C])
  exact v0 32 C<|I 12<|dv [0,1,2] (decide (x.num.sign=y.num.sign)) (by simp only[B,C,false_or])
 intro t M;have ex:=Xl x.num;have A:=Xl y.num;by_cases G:x.num.sign=0\/y.num.sign=0\/x.num.sign=y.num.sign
 ·refine aP 38 (.b true) j (by rw[M,ck G])<|I 15<|gQ (L:=Int) (λs=> -1<=s/\s<=1/\s*((x.num.natAbs*y.den+y.num.natAbs*x.den:Nat):Int)=x.num*y.den+y.num*x.den) (λs=>⟨[.c 105<|Ct x,.c 105<|Ct y,.c 105 [.aa 0,.nl,.nl]],3,[(4,.p 2 0),(5,c9<|x.num.natAbs*y.den),(6,c9<|y.num.natAbs*x.den),(7,c9<|x.den*y.den),(8,.aa s)]⟩) ?_ ?_
  ·refine cG (λh=>?_) λh=>?_
   ·refine I 5<|dv [0,1,2] y.num.sign ⟨E.1,E.2,?_⟩;have R:x.num=0:=tE.1 h
    conv=>rhs;rw[A]
    rw[R];simp[p8]
   ·refine I 1<|dv [0,1,2] x.num.sign ⟨D.1,D.2,?_⟩;have O:y.num=x.num.sign*(y.num.natAbs:Int):=by
     rcases G with g|g|g
     ·exact absurd g h
     ·rw[tE.1 g];simp
     ·rw[g];exact A
    conv=>rhs;rw[ex,O]
    rw[Int.natCast_add,mT,mT,Int.mul_add,p8,p8]
  rintro s ⟨S,T,Q⟩;exact I 5<|aV Mk (x.num.natAbs*y.den,y.num.natAbs*x.den) ⟨db o,db z⟩<|I 1<|aV s9 (s,x.num.natAbs*y.den+y.num.natAbs*x.den,x.den*y.den) ⟨S,T,db<|Mj o z,db J,F⟩<|I 5<|an (az j j<|.of<|congrArg dB<|Mw Q)
 ·refine aP 38 (.b false) j (by rw[M,cq G]) ?_;have K:y.num.sign= -x.num.sign:=by omega
  refine I 8<|aV qS (x.num.natAbs*y.den,y.num.natAbs*x.den) ⟨db o,db z⟩<|I 3 ?_;have key:∀(s:Int) (a b:Nat),b<=a->s*((a-b:Nat):Int)=s*a+(-s)*b:=λs a b h=>by rw[show((a-b:Nat):Int)=(a:Int)-b by omega,Int.mul_sub,xX];rfl
  refine cG (λh=>?_) λh=>?_
  ·have aT:=zr h;refine I 4<|cm Cn (y.num.natAbs*x.den,x.num.natAbs*y.den) ⟨db z,og aT⟩<|I 3<|cm s9 (y.num.sign,y.num.natAbs*x.den-x.num.natAbs*y.den,x.den*y.den) ⟨E.1,E.2,db<|ng z<|tD _ _,db J,F⟩<|I 5<|an (az j j<|.of<|congrArg dB<|Mw ?_);rw[key _ _ _<|og aT]
   conv=>rhs;rw[ex,A]
   rw[K,mT,mT,Int.neg_neg,p8,p8,Int.add_comm]
  ·have N:=zs h;refine I 6<|cm Cn (x.num.natAbs*y.den,y.num.natAbs*x.den) ⟨db o,N⟩<|I 3<|cm s9 (x.num.sign,x.num.natAbs*y.den-y.num.natAbs*x.den,x.den*y.den) ⟨D.1,D.2,db<|ng o<|tD _ _,db J,F⟩<|I 4<|an (az j j<|.of<|congrArg dB<|Mw ?_);rw[key _ _ _ N]
   conv=>rhs;rw[ex,A]
   rw[K,mT,mT,p8,p8]
def Xn:bl:=b3 λ((x,y):Rat×Rat)=>([dB x,dB y],eN 67108864 x/\eN 67108864 y,dB<|x-y)
def Xo(h:eN k x):eN k (-x):=by
 unfold eN;rw[Dn,Rat.neg_den,Ic];exact h
def ama:bt 424 Xn:=by
 refine bR [(44,WU),(200,Xm)] Vw.1 ?_;intro⟨x,y⟩ ⟨(c:eN _ x),(e:eN _ y)⟩ H au;exact I 10<|cm alM y aC<|I 1<|cm al9 (x,-y) ⟨c,Xo e⟩<|I 4<|an (az j j (.of<|by show dB (x+ -y)=dB (x-y);rw[Dq]))
def Mx:bl:=b3 λ((x,k):Rat×Int)=>([dB x,.aa k],eN 67108864 x/\-100000000<=k/\k<=100000000,dB<|ej x k)
def Xp:bt 425 Mx:=by
 refine bR [(199,w9),(434,(GN 1000000001).spec),(198,w8),(117,u0)] Vx.1 ?_;intro⟨x,k⟩ ⟨(c:eN _ x),(f:_<=k),(g:k<=_)⟩ H au;have e:=zw x.num;refine I 13<|cG (λh=>?_) λh=>?_
 ·obtain⟨n,ah⟩:∃n:Nat,k= -(n:Int):=⟨(-k).toNat,R⟩;subst ah;refine I 3<|cm qT x aC<|I 2 (ww 14 (n:Nat)<|cm (GO 1000000001) n ⟨by show n<_;omega,by show n<=_;omega⟩<|cm pN (x.den,2^n) ⟨db c.2,db (qU n) R⟩<|I 4<|cm s9 (x.num.sign,x.num.natAbs,x.den*2^n) ⟨e.1,e.2,db c.1,db (l2 c.2<|qU n) R,nw x.den_nz (by have:=la n;omega)⟩<|I 5<|an (az j j<|.of<|congrArg dB ?_));show _=ej x (-(n:Int));unfold ej;rw[aE R,xW,show(- -(n:Int)).toNat=n by omega]
 ·obtain⟨n,ah⟩:∃n:Nat,k=(n:Int):=⟨k.toNat,R⟩;subst ah;refine I 5<|cm (GO 1000000001) n ⟨by show n<_;omega,by show n<=_;omega⟩<|I 2<|cm pN (x.num.natAbs,2^n) ⟨db c.1,db (qU n) R⟩<|I 1<|cm qT x aC<|I 2<|cm s9 (x.num.sign,x.num.natAbs*2^n,x.den) ⟨e.1,e.2,db (l2 c.1<|qU n) R,db c.2,x.den_nz⟩<|I 4<|an (az j j<|.of<|congrArg dB ?_);show _=ej x (n:Int);unfold ej;rw[aw R,mT,<-p8,xW,Ie,show((n:Int)).toNat=n by omega];rfl
def zz:bl:=b3 λ(k:Int)=>([.aa k],-100000000<=k/\k<=100000000,dB<|ej (mkRat 1 1) k)
def zA:eN 1 (mkRat 1 1):=by
 show dW 1 1/\dW 1 1;unfold dW;rw[uX];exact⟨cn _,cn _⟩
def k5{l:Nat}(h:eN k x)(aD:k<=l:=by decide):eN l x:=⟨db h.1 aD,db h.2 aD⟩
def Cu:bt 411 zz:=by
 refine bR [(46,Mv),(425,Mx)] UN.1 ?_;intro(k:Int) ⟨(c:_<=k),(e:k<=_)⟩ H au;exact I 7<|aV Xk (1:Int) ⟨al,al⟩<|I 1<|aV Xp (mkRat 1 1,k) ⟨k5 zA,c,e⟩<|I 4<|an (az j j dO)
def Xq:bl:=b3 λ(x:Rat)=>([dB x],eN 67108864 x,.b<|decide (x.den=1))
def amb:bt 206 Xq:=by
 refine bR [(199,w9),(119,uY),(197,sd)] LB.1 ?_;intro(x:Rat) (c:eN _ x) H au;exact I 9<|aV qT x aC<|aV s7 () aC<|aV qS (x.den,1) ⟨db c.2,Cs⟩<|I 5<|an (az j j (.of<|by show ag.b (decide _)=ag.b (decide _);congr 1;rw[decide_eq_decide];exact zy))
def xd(k:Int):(ej (mkRat 1 1) k).num=2^k.toNat/\(ej (mkRat 1 1) k).den=2^(-k).toNat:=by
 have f:(mkRat 1 1).num=1/\(mkRat 1 1).den=1:=eT;unfold ej;rw[f.1,f.2];split
 ·obtain⟨c,e⟩:=uL 1 (1*2^(-k).toNat) (by have:=la (-k).toNat;omega);rw[c,e,show k.toNat=0 by omega];simp
 ·obtain⟨c,e⟩:=uL (1*2^k.toNat) 1 al;rw[c,e,show(-k).toNat=0 by omega];simp
def My{x:Rat}{k:Int}:iA x<ej (mkRat 1 1) k↔x.num.natAbs*2^(-k).toNat<x.den*2^k.toNat:=by
 rw[Rat.lt_iff,(qO x).1,(qO x).2,(xd k).1,(xd k).2];rw[show(x.num.natAbs:Int)*((2^(-k).toNat:Nat):Int)=((x.num.natAbs*2^(-k).toNat:Nat):Int)from(mT _ _).symm,show(2:Int)^k.toNat*(x.den:Int)=((x.den*2^k.toNat:Nat):Int) by rw[mT,Ie,Int.mul_comm];rfl];exact Int.ofNat_lt
def Mz(h:eN k x):eN k (iA x):=by
 unfold eN;rw[(qO x).1,(qO x).2];exact h
def MA{c:Nat}{k:Int}(aF: -(c:Int)<=k)(aL:k<=c):eN (c+1) (ej (mkRat 1 1) k):=by
 obtain⟨e,f⟩:=xd k;unfold eN;rw[e,f,Ij];exact⟨db (qU _) R,db (qU _) R⟩
theorem Xr:jA x y<0↔x<y:=by
 unfold jA;constructor
 ·intro h;split at h
  ·assumption
  split at h<;>omega
 ·intro h;rw[aE h];decide
def Xs:bl:=b3 λ(x:Rat)=>([dB x],eN 3000000 x/\x.num≠0,.aa<|jR x.num.natAbs x.den)
def amc:bt 412 Xs:=by
 refine bR [(428,W1),(406,GP),(411,zz),(112,Co)] T4.1 ?_;intro(x:Rat) ⟨(f:eN _ x),(z:x.num≠0)⟩ H au;have B:=pO f.1;have C:=pO f.2;refine I 14<|cG (λh=>?_) λh=>?_
 ·exact absurd (tE.1 h) z
 refine I 6<|cm W2 x.num.natAbs (db f.1)<|I 2<|dD 11 (c9 x.den) j j (by rw[aw z];rfl)<|cm W2 x.den (db f.2) ?_;obtain⟨p,hp⟩:∃p,p=bE x.num.natAbs:=dC;obtain⟨q,o⟩:∃q,q=bE x.den:=dC;have A:jR x.num.natAbs x.den=if x.num.natAbs*2^((q:Int)-p).toNat<x.den*2^((p:Int)-q).toNat then(p:Int)-q-1 else(p:Int)-q:=by rw[hp,o];rfl
 rw[<-hp]at B;rw[<-o]at C;refine I 1 ?_;obtain⟨k,g⟩:∃k:Int,k=(p:Int)-q:=dC;refine aP 13 (.aa k) j (by rw[g,hp,o];exact eM j R R)<|I 7<|aV Mm x aC<|I 1<|aV Cu k ⟨by show _<=k;omega,by show k<=_;omega⟩<|aV GR (iA x,ej (mkRat 1 1) k) ⟨k5<|Mz f,k5<|MA (c:=100000000) R R⟩ ?_;have t:jA (iA x) (ej (mkRat 1 1) k)<0↔x.num.natAbs*2^((q:Int)-p).toNat<x.den*2^((p:Int)-q).toNat:=by
  rw[Xr,My,g,show -((p:Int)-q)=(q:Int)-p by omega]
 refine I 3<|cG (λe=>?_) λe=>?_
 ·have e:=t.1 e;refine I 13 ?_;exact an (az j j (.of (by
   show ag.i _ _=ag.aa (jR _ _);rw[A,aE e];exact eM)))
 ·have e:=mt t.2 e;refine I 9 ?_;exact an (az j j (.of (by
   show ag.i _ _=ag.aa (jR _ _);rw[A,aw e,g])))
def Xt:bl:=b3 λ((e,p):Int×Int)=>([pM e p],fJ e p,dB<|ej (mkRat 1 1)<|2-gC e-p)
def amd:bt 410 Xt:=by
 refine bR [(426,GM),(411,zz)] Vu.1 ?_;intro⟨e,p⟩ o H au;obtain⟨c,f,h,g,t⟩:=o;obtain⟨z,A⟩:=qR c f;exact I 9<|cm Ml (e,p) ⟨c,f,h,g,t⟩<|I 1<|cd 5 (2-gC e)<|I 3<|cd 8 (2-gC e-p)<|cm Cu (2-gC e-p) ⟨R,R⟩<|I 4<|an (az j j dO)
def Xu:bl:=b3 λ((e,p):Int×Int)=>([pM e p],fJ e p,dB<|ej (mkRat 1 1)<|1-gC e)
def ame:bt 427 Xu:=by
 refine bR [(426,GM),(411,zz)] UO.1 ?_;intro⟨e,p⟩ o H au;obtain⟨c,f,h,g,t⟩:=o;obtain⟨z,A⟩:=qR c f;exact I 9<|aV Ml (e,p) ⟨c,f,h,g,t⟩<|I 1<|cd 5 (1-gC e)<|aV Cu (1-gC e) ⟨R,R⟩<|I 4<|an (az j j dO)
def xe{n:Int}(aF:dW k n.natAbs)(aL:dW k d)(e:d≠0):eN k (mkRat n d):=by
 obtain⟨c,f⟩:=uL n d e;refine⟨ng aF ?_,ng aL ?_⟩
 ·rw[c,Int.natAbs_ediv_of_dvd<|Int.ofNat_dvd_left.2<|Aj _ _];exact jW _ _
 ·rw[f];exact jW _ _
def MB(c:Nat){k:Int}(h:eN a x)(aF: -(c:Int)<=k)(aL:k<=c):eN (a+c+1) (ej x k):=by
 unfold ej;split
 ·exact xe (db h.1 R) (db (l2 h.2<|qU _) R)<|nw x.den_nz av
 ·refine xe ?_ (db h.2 R) x.den_nz;rw[tF];exact db (l2 h.1<|qU _) R
def amf(aF:eN a x)(aL:eN b y):eN (a+b+1) (x+y):=by
 rw[Ak];have e:=l2 aF.1 aL.2;have c:=l2 aL.1 aF.2;refine xe (ng (Mj e<|db c R) ?_) (db (l2 aF.2 aL.2) R)<|nw x.den_nz y.den_nz;have:=Int.natAbs_add_le (x.num*y.den)<|y.num*x.den;rw[tF,tF]at this;simpa using this
def Xv(aF:eN a x)(aL:eN b y):eN (a+b+1) (x-y):=by
 rw[Dq];exact amf aF<|Xo aL
def amg{e p:Int}(h:fJ e p):eN 2000 (nd e p):=by
 obtain⟨c,f,j,g,o⟩:=h;obtain⟨t,z⟩:=qR c f;exact k5<|MB 1200 (Xv (MB 120 zA R R) zA) R R
def Xw:bl:=b3 λ((e,p):Int×Int)=>([pM e p],fJ e p,dB<|nd e p)
def amh:bt 407 Xw:=by
 refine bR [(411,zz),(46,Mv),(424,Xn),(426,GM),(425,Mx)] T3.1 ?_;intro⟨e,p⟩ t H au;obtain⟨c,f,o,h,z⟩:=t;obtain⟨A,B⟩:=qR c f;have g:=MB (k:=p) 120 zA R R;exact I 10<|aV Cu p ⟨R,R⟩<|aV Xk (1:Int) ⟨al,al⟩<|aV ama (ej (mkRat 1 1) p,mkRat 1 1) ⟨k5 g,k5 zA⟩<|I 7<|cm Ml (e,p) ⟨c,f,o,h,z⟩<|I 4<|cd 14 (gC e-p)<|I 1<|cd 15 (gC e-p+1)<|cm Xp (ej (mkRat 1 1) p-mkRat 1 1,gC e-p+1) ⟨k5<|Xv g zA,R,R⟩<|I 4<|an (az j j dO)
def Xx:bl:=b3 λ((e,p,x):Int×Int×Rat)=>([pM e p,dB x],fJ e p/\eN 67108864 x,.b<|decide (iA x<ej (mkRat 1 1) (1-gC e)))
def ami:bt 409 Xx:=by
 refine bR [(406,GP),(427,Xu),(112,Co)] S9.1 ?_;intro⟨e,p,x⟩ ⟨f,g⟩ H au;have h:=f;obtain⟨o,t,A,z,B⟩:=h;obtain⟨C,D⟩:=qR o t;exact I 10<|cm Mm x aC<|I 1<|cm ame (e,p) f<|cm GR (iA x,ej (mkRat 1 1)<|1-gC e) ⟨k5<|Mz g,k5<|MA (c:=2000) R R⟩<|I 5<|an (az j j (.of<|by congr 1;rw[decide_eq_decide];exact Xr))
def mM(e p:Int)(x:Rat):Int:=if iA x<ej (mkRat 1 1) (1-gC e)then 2-gC e-p else jR x.num.natAbs x.den-p+1
def Xy:bl:=b3 λ((e,p,x):Int×Int×Rat)=>([pM e p,dB x],fJ e p/\eN 3000000 x,dB<|ej (mkRat 1 1)<|mM e p x)
def abs_zero(h:x.num=0)(k:Int):iA x<ej (mkRat 1 1) k:=by
 rw[My,h];simp;exact vz (kQ x.den_nz)<|la _
def amj:bt 383 Xy:=by
 refine bR [(409,Xx),(410,Xt),(412,Xs),(411,zz)] UG.1 ?_;intro⟨e,p,x⟩ ⟨f,c⟩ H au;have t:=f;obtain⟨E,F,C,B,D⟩:=t;refine I 12<|aV ami (e,p,x) ⟨f,k5 c⟩<|I 2<|cG (λh=>?_) λh=>?_
 ·exact I 3<|aV amd (e,p) f<|I 5<|an (az j j (.of<|by show dB _=dB _;unfold mM;rw[aE h]))
 ·have z:x.num≠0:=λo=>h<|abs_zero o _;have G:=GG x.num.natAbs x.den;have J:=pO c.1;have A:=pO c.2;obtain⟨k,g⟩:∃k:Int,k=jR x.num.natAbs x.den:=dC;exact I 5<|cm amc x ⟨c,z⟩<|I 3<|aP 14 (.aa<|k-p) j (by rw[g];exact eM j R R)<|I 1<|cd 15 (k-p+1)<|cm Cu (k-p+1) ⟨R,R⟩<|I 4<|an (az j j (.of<|by show dB _=dB _;unfold mM;rw[aw h,g];rfl))
def amk{c:Int}:bJ (.bq [.agg [.aa 0,.nl,.nl],.aa c]) (.bq [dB 0,.aa c]):=.bq ⟨Xh,.refl _,aC⟩
def nY(p q:Nat)(k:Int):Prop:=q*2^k.toNat<=p*2^(-k).toNat
variable{i:Nat}
def aml{p:Nat}{k:Int}(h:nY p q (k+1)):nY p q k:=by
 unfold nY at *;rcases(show 0<=k\/k<0 by omega)with c|c
 ·rw[show(k+1).toNat=k.toNat+1 by omega,show(-(k+1)).toNat=0 by omega,fD]at h;rw[show(-k).toNat=0 by omega];exact cC (lK q R) h
 ·rw[show(k+1).toNat=0 by omega]at h;rw[show k.toNat=0 by omega,show(-k).toNat=(-(k+1)).toNat+1 by omega,fD];exact cC h<|lK p R
theorem GX{p:Nat}{J k:Int}(e:J<=k)(h:nY p q k):nY p q J:=by
 obtain⟨n,rfl⟩:∃n:Nat,k=J+n:=⟨(k-J).toNat,R⟩
 induction n with
 |zero=>simpa using h
 |succ n c=>exact c R<|aml<|by grind
def amm{p:Nat}(hp:p≠0)(cz:q≠0)(k:Int):k<=jR p q↔nY p q k:=by
 obtain⟨g,f⟩:=qM hp;obtain⟨c,cw⟩:=qM cz;have B:=uJ (n:=p) R;have A:=uJ (n:=q) R;have e:jR p q=if p*2^((bE q:Int)-bE p).toNat<q*2^((bE p:Int)-bE q).toNat then(bE p:Int)-bE q-1 else(bE p:Int)-bE q:=rfl;obtain⟨a,j⟩:∃a,bE p=a+1:=⟨_,B⟩;obtain⟨b,t⟩:∃b,bE q=b+1:=⟨_,A⟩;rw[j,show a+1-1=a by omega]at g;rw[t,show b+1-1=b by omega]at c;rw[j]at f e;rw[t]at cw e;have bg:nY p q (a-b-1):=by
  unfold nY;rcases(show b+1<=a\/a<b+1 by omega)with h|h
  ·rw[show(-((a:Int)-b-1)).toNat=0 by omega,n8];refine cC (hA _<|og cw) ?_;rw[<-h8,show b+1+((a:Int)-b-1).toNat=a by omega];exact g
  ·rw[show((a:Int)-b-1).toNat=0 by omega,n8];refine cC (og cw)<|cC ?_ (hA _ g);rw[<-h8,show a+(-((a:Int)-b-1)).toNat=b+1 by omega];exact cn _
 have af:¬nY p q (a-b+1):=by
  unfold nY;rw[Nat.not_le];rcases(show b<=a+1\/a+1<b by omega)with h|h
  ·rw[show(-((a:Int)-b+1)).toNat=0 by omega,n8];refine eR f<|cC ?_ (hA _ c);rw[<-h8,show b+((a:Int)-b+1).toNat=a+1 by omega];exact cn _
  ·rw[show((a:Int)-b+1).toNat=0 by omega,n8];refine eR (NZ f<|la _)<|cC ?_ c;rw[<-h8,show a+1+(-((a:Int)-b+1)).toNat=b by omega];exact cn _
 have o:(p*2^(((b+1:Nat):Int)-((a+1:Nat):Int)).toNat<q*2^(((a+1:Nat):Int)-((b+1:Nat):Int)).toNat)↔¬nY p q (a-b):=by
  unfold nY;rw[Nat.not_le,show((b+1:Nat):Int)-((a+1:Nat):Int)= -(a-b) by omega,show((a+1:Nat):Int)-((b+1:Nat):Int)=a-b by omega]
 by_cases hm:nY p q (a-b)
 ·rw[aw λh=>o.1 h hm]at e;exact⟨λh=>GX R hm,λh=>Int.not_lt.1 λz=>af<|GX R h⟩
 ·rw[aE<|o.2 hm]at e;exact⟨λh=>GX R bg,λh=>Int.not_lt.1 λz=>hm<|GX R h⟩
def Xz{e p:Int}(bX:x.num≠0):GF e p x=mM e p x:=by
 have g:x.num.natAbs≠0:=R
 have j:=amm g x.den_nz<|1-gC e;have f:= @My x<|1-gC e;unfold GF mM;unfold nY at j;by_cases c:iA x<ej (mkRat 1 1) (1-gC e)
 ·rw[aE c];have h:=f.1 c;omega
 ·rw[aw c];have h:=mt f.2 c;omega
def XA:bl:=b3 λ(n:Nat)=>([.aa n],n<1000000000,.s<|g2 (h6 9 n).reverse)
def amn(n i:Nat):n/10^i<=n:=jW _ _
def amo:bt 316 XA:=by
 refine bR [] TT.1 ?_;intro(n:Nat) (ah:n<1000000000) H au;refine I 17<|eu (λi=>i<=9) (λ(i:Nat)=>⟨[],0,[(0,.aa (n/10^i:Nat)),(3,.s<|g2 (h6 i n).reverse),(4,.aa i)]⟩) (λi=>9-i) [] 0 (dw _) (by show 9-0<bx+1;unfold bx;omega) bB ?_;intro i af;have hm:=amn n i;have c:n/10^(i+1)=n/10^i/10:=by rw[fD,p7]
 have f:g2 (h6 (i+1) n).reverse=g2 [n/10^i%10]++g2 (h6 i n).reverse:=by rw[W7,ri];rfl
 have g:(g2 (h6 i n).reverse).length=i:=by rw[s8,oh,xa]
 generalize o:n/10^i=m at *;refine I 7<|cG (λh=>?_) λh=>?_
 ·have h:i<9:=by omega
  refine I 8<|aP 10 (.aa ((m%10:Nat):Int)) j j<|I 1<|cd 11 ((48+m%10:Nat):Int)<|I 1<|aP 12 (.i .u8 ((UInt8.ofNat<|48+m%10).toNat:Int)) j av<|I 1<|kF 0 iy [UInt8.ofNat<|48+m%10] ?_;refine KT (g2 [m%10]) ?_;refine I 1<|r3 ?_ (aD:=by rw[g];show 1+i<=_;omega);exact aP 16 (.s<|g2 (h6 (i+1) n).reverse) j (by rw[f])<|I 15<|bW [] (i+1) ⟨R,h⟩ (m4 ⟨by rw[c];show some (ag.i _<|IntKind.i64.wrap ((m/10:Nat):Int))=_;exact nQ j R R,j,nQ,aC⟩)
 ·have e:i=9:=by omega
  subst e;exact I 12<|an (az j j dO)
def XB:bl:=b3 λ(n:Nat)=>([c9 n],dW 1073741824 n,.s<|dI n)
theorem XC(h:d<10):dec d=[d]:=by
 unfold dec;split
 ·rename_i c;rw[c]
 ·rw[m9 al lh,gn h,p5 h,gK];rfl
def amp{dc:ac Nat}(h:d≠0):eI (dc++[d])=dc++[d]:=by rw[qK,aw h]
theorem MC:∀l:ac Nat,(l.flatMap<|h6 9).length=9*l.length
 |[]=>rfl
 |x::l=>by rw[tx,kz,MC l,xa,hN];omega
def XD:bt 205 XB:=by
 refine bR [(316,XA)] SZ.1 ?_;intro(n:Nat) (ah:(aW _ n).length<=_) H au;have D:=gL (b:=1000000000) al n;have wY:=gl (b:=1000000000) al n;show b5.ok _ ⟨_,_,⟨_,_,[(0,ds<|aW 1000000000 n)]⟩⟩;generalize aW 1000000000 n=xs at *;refine I 20<|j7 (L:=Unit) (λ_=>True) (λ_=>⟨[],0,[(3,.s<|g2 (xs.flatMap<|h6 9).reverse)]⟩) ?_ ?_
 ·refine eu (L:=Nat) (λk=>k<=xs.length) (λ(k:Nat)=>⟨[],0,[(0,ds xs),(3,.s<|g2 ((xs.drop k).flatMap<|h6 9).reverse),(4,.aa<|(k:Int)-1)]⟩) id [] xs.length (cn _) (by show xs.length<bx+1;unfold bx;omega) (m4 ⟨j,by rw[sn];rfl,nQ,aC⟩) ?_;intro(k:Nat) Q;cases k with
  |zero=>
   exact I 12<|dv [] () aC
  |succ m=>
   have g:m<xs.length:=R
   have M:=D _<|dx g;have N:=MC<|xs.drop<|m+1;refine aP 4 (.aa (m:Nat)) j fu<|I 16<|aP 9 (.b true) j av<|fc xs[m] (a0 g) j<|I 1<|aV amo xs[m] M<|r3 ?_ (aD:=by rw[s8,s8,oh,oh,N,xa,k7];omega);exact aP 18 (.s<|g2 ((xs.drop m).flatMap<|h6 9).reverse) j (by rw[gp g,tx,ri,Mn])<|I 9<|bW [] m ⟨av,R⟩ bB
 intro _ _;have G:=Bt xs;have F:=Xa D;have S:=MC xs;rw[wY]at F;generalize xs.flatMap (h6 9)=A at *;refine I 2<|eA (L:=ac Nat) (λf=>Ok 10 f/\val 10 f=n/\f.length<=A.length) (λf=>⟨[],0,[(3,.s<|g2 f.reverse)]⟩) List.length [] A ⟨G,F,cn _⟩ ?_;rintro f ⟨t,c,a2⟩;rcases od f with rfl|⟨dc,d,rfl⟩
 ·have z:n=0:=by rw[<-c];rfl
  refine I 38<|an (az j j<|.of ?_);show ag.s [48]=ag.s (dI n);rw[z];rfl
 rw[oe]at *;have C:d<10:=t d av;have B:g2 (dc++[d]).reverse=UInt8.ofNat (48+d)::g2 dc.reverse:=by rw[ri];rfl
 rw[lC]at c;simp only[val,tA,oZ]at c;refine aP 3 (.s<|UInt8.ofNat (48+d)::g2 dc.reverse) j (by rw[B])<|I 7 ?_;have K:(g2 dc.reverse).length=dc.length:=by rw[s8,oh]
 by_cases af:dc=[]
 ·subst af;refine aP 22 (.b false) j (by simp[g2])<|I 29<|an (az j j<|.of ?_);show ag.s (g2 [d])=ag.s (dI n);have:n=d:=by simp[val]at c;exact c.symm
  rw[this];congr 1;unfold dI;rw[XC C]
 have O:0<dc.length:=o2.2 af;refine aP 22 (.b true) j (by rw[hN,K];simp;omega)<|I 3<|mH (UInt8.ofNat<|48+d) (J:=0) j<|I 2 ?_;have E:=Cp C;by_cases o:d=0
 ·refine aP 25 (.b true) j (by rw[E,o];rfl)<|I 9<|qD (p:=1) (g2 dc.reverse) ?_ (hp:=av) (cz:=av);exact I 3<|dv [] dc ⟨av,λx g=>t x<|by simp[g],by rw[o]at c;simpa using c,by simp at a2;omega⟩
 ·refine aP 25 (.b false) j (by rw[E];exact congrArg ag.b<|cq R)<|I 26<|an (az j j<|.of ?_);show ag.s (UInt8.ofNat (48+d)::g2 dc.reverse)=ag.s (dI n);rw[<-B];have e:=zn (b:=10) al t<|amp o;rw[lC]at e;simp only[val,tA,oZ]at e;rw[c]at e;have z:n≠0:=λh=>by rw[h,gK]at e;simp at e
  unfold dI dec;rw[aw z,e]
def XE(h:dW k n):(dI n).length<=9*k+1:=by
 unfold dI dec;rw[s8];split
 ·simp
 ·rw[oh];refine sj<|je al ?_;have:=se h;rw[show(1000000000:Nat)=10^9 from rfl,<-re]at this;exact this
def XF:bl:=b3 λ(x:Rat)=>([dB x],eN 67108864 x,.s<|hc x)
theorem amq:bt 122 XF:=by
 refine bR [(205,XB),(206,Xq)] Uf.1 ?_;intro x f A au;have B:=XE f.1;have C:=XE f.2;refine I 10<|aV XD x.num.natAbs (db f.1)<|I 11 ?_;have o:x.num.sign<0↔x.num<0:=Int.sign_neg_iff;obtain⟨u,g⟩:∃u,u=(if x.num<0 then[45]else[])++dI x.num.natAbs:=dC;have D:u.length<=9*67108864+2:=by grind
 refine gQ (L:=Unit) (λ_=>True) (λ_=>⟨[.c 105<|Ct x],1,[(1,.p 0 0),(3,.s u)]⟩) ?_ ?_
 ·refine cG (λh=>?_) λh=>?_
  ·refine I 2<|r3 ?_;exact I 2<|bW [0] () aC (bB (aL:=⟨j,by rw[g,aE<|o.1 h];rfl,aC⟩))
  ·exact I 1<|bW [0] () aC (bB (aL:=⟨j,by rw[g,aw λt=>h<|o.2 t];rfl,aC⟩))
 intro _ _;refine I 4<|aV amb x f<|I 3<|y6 (λh=>?_) λh=>?_
 ·have z:x.num≠0:=λe=>h (by have:=x.reduced;rw[e]at this;simpa using this);refine I 2<|r3 ?_;refine I 2<|aP 18 (c9 x.den) j (by rw[aw z];rfl)<|aV XD x.den (db f.2)<|r3 ?_;refine I 10<|an (az j j<|.of ?_);show ag.s (u++[47]++dI x.den)=ag.s (hc x);unfold hc;rw[<-g,aw h,rh];rfl
 ·refine I 9<|an (az j j<|.of ?_);show ag.s u=ag.s (hc x);unfold hc;rw[<-g,aE h,rb]
def MD:bl:=b3 λ(s:ac ci)=>([.s s],s.length<=1073741824,.b<|decide (hv s))
def amr(h:i<s.length)(aF:jf (s.take i))(aL:48<=s[i].toNat/\s[i].toNat<=57):jf (s.take<|i+1):=by
 rw[kd h];intro c e;rcases hf.1 e with e|e
 ·exact aF c e
 ·simp at e;subst e;exact aL
def ME:bt 203 MD:=by
 refine bR [] TG.1 ?_;intro(s:ac ci) (C:s.length<=_) H au;refine I 12<|j7 (L:=Unit) (λ_=>jf s) (λ_=>⟨[],0,[(0,.s s)]⟩) ?_ ?_
 ·refine eA (L:=Nat) (λi=>i<=s.length/\jf (s.take i)) (λ(i:Nat)=>⟨[],0,[(0,.s s),(3,.aa i)]⟩) (λi=>s.length-i) [] 0 ⟨dw _,λc A=>by simp at A⟩ ?_;rintro(i:Nat) ⟨af,g⟩;refine I 9<|cG (λh=>?_) λh=>?_
  ·have h:i<s.length:=by omega
   have hm:s[i]∈s:=dx h;refine I 8<|mH s[i] (a0 h)<|I 2 ?_;have bad:¬(48<=s[i].toNat/\s[i].toNat<=57)->bJ (.b false) (MD.res s):=λh=>.of (by show ag.b false=ag.b (decide _);rw[cq λf=>h<|f.2.1 _ hm]);by_cases D:s[i].toNat<48
   ·exact dd 14<|I 19<|an (az j j<|bad R)
   refine c2 14<|I 5<|mH s[i] (a0 h)<|I 5<|cG (λz=>?_) λz=>?_
   ·exact I 11<|an (az j j<|bad R)
   ·exact I 8<|bW [] (i+1) ⟨by show s.length-(i+1)<s.length-i;omega,h,amr h g R⟩ bB
  ·have B:i=s.length:=by omega
   subst B;rw[o1]at g;exact I 4<|dv [] () g
 intro _ o;cases s with
 |nil=>
  exact I 6<|aP 23 (.b false) j j<|I 12<|an (az j j (.of<|by show ag.b false=ag.b (decide _);rw[cq λf=>f.1 j]))
 |cons c t=>
  refine I 6<|aP 23 (.b true) j av<|I 6 ?_;by_cases f:c::t=[48]
  ·exact aP 26 (.b true) j (by rw[f];rfl)<|I 10<|an (az j j (.of<|by show ag.b true=ag.b (decide _);rw[ck ⟨av,o,.inl f⟩]))
  refine aP 26 (.b false) j (by rw[o3.2 f])<|I 3<|mH c (J:=0) j<|I 9<|an (az j j<|.of ?_);show ag.b (decide _)=ag.b (decide _);congr 1;rw[decide_eq_decide];constructor
  ·intro h;refine⟨av,o,.inr λe=>h ?_⟩;have e:c=48:=by simpa using e
   rw[e];rfl
  ·rintro⟨_,_,h|h⟩ e
   ·exact f h
   ·exact h<|congrArg some<|vq.1 (show c.toNat=48 by omega)
def Cv(s:ac ci):ag:=
 match(cutAt (df s).2).2 with
 |none=>.bq [.s (df s).2,.s [49],.aa (if(df s).1=true then -1 else 1),.b<|decide (hv (df s).2/\¬((df s).1=true/\(df s).2=[48]))]
 |some q=>.bq [.s (cutAt (df s).2).1,.s q,.aa (if(df s).1=true then -1 else 1),.b<|decide (hv (cutAt (df s).2).1/\hv q/\q≠[48]/\q≠[49]/\¬((df s).1=true/\(cutAt (df s).2).1=[48]))]
def XG{p:Prop}[Decidable p]{b:Bool}:decide p=b↔(p↔b=true):=by cases b<;>simp
def GY:bl:=b3 λ(s:ac ci)=>([.s s],s.length<=1073741824,Cv s)
def ams(h:i<s.length)(aF:(47:ci)∉s.take i)(aL:s[i]=47):cutAt s=(s.take i,some<|s.drop<|i+1):=by
 refine Cr aF ?_;rw[<-aL,<-gp h,ob]
def amt:bt 120 GY:=by
 refine bR [(203,MD)] SQ.1 ?_;intro(s:ac ci) (Y:s.length<=_) H au;have M:(df s).2.length<=s.length:=by
  unfold df;split
  ·exact dw _
  ·split<;>simp
 refine e4 7 ?_
 iterate 3 refine fz j ?_
 refine gQ (L:=Unit) (λ_=>True) (λ_=>⟨[],0,[(6,.s (df s).2),(7,.aa (if(df s).1=true then -1 else 1))]⟩) ?_ ?_
 ·cases s with
  |nil=>
   exact I 14<|dv [] () aC
  |cons c t=>
   refine I 6<|aP 15 (.b true) j av<|I 3<|mH c (J:=0) j<|I 5 ?_;by_cases f:c=45
   ·subst f;refine aP 19 (.b true) j j<|I 3<|qD (p:=1) t ?_ (hp:=av) (cz:=av);exact I 3<|dv [] () aC
   ·have z:df (c::t)=(false,c::t):=aw f;refine aP 19 (.b false) j (congrArg ag.b<|cq λe=>f<|vq.1 (show c.toNat=45 by omega)) ?_;exact I 2<|bW [] () aC (m4 ⟨by rw[z];rfl,by rw[z];rfl,aC⟩)
 intro _ _;obtain⟨⟨n,t⟩,z⟩:∃g,g=df s:=dC;rw[<-z]at M;have fin:∀{r},Cv s=r->bJ r (GY.res s):=λh=>.of h.symm;unfold Cv at fin;rw[<-z]at fin⊢;simp only at fin M;obtain⟨bu,K⟩:∃bu:Int,bu=if n=true then -1 else 1:=dC;have R:decide (bu>0)= !n:=by rw[K];cases n<;>rfl
 refine aP 7 (.aa bu) j (by rw[K]) ?_;rw[<-K]at fin;refine I 7<|j7 (L:=Unit) (λ_=>(47:ci)∉t) (λ_=>⟨[],0,[(6,.s t),(7,.aa bu)]⟩) ?_ ?_
 ·refine eA (L:=Nat) (λi=>i<=t.length/\(47:ci)∉t.take i) (λ(i:Nat)=>⟨[],0,[(6,.s t),(7,.aa bu),(8,.aa i)]⟩) (λi=>t.length-i) [] 0 ⟨dw _,λhm=>by simp at hm⟩ ?_;rintro(i:Nat) ⟨af,G⟩;refine I 9<|cG (λh=>?_) λh=>?_
  ·have h:i<t.length:=by omega
   refine I 8<|mH t[i] (a0 h)<|I 3<|cG (λf=>?_) λf=>?_
   ·have f:t[i]=47:=vq.1 (show t[i].toNat=47 by omega);have W:=ams h G f;rw[W]at fin;simp only at fin;generalize N:t.take i=P at *;generalize O:t.drop (i+1)=Q at *;have Z:P.length<=t.length:=by rw[<-N];simp;omega
    have X:Q.length<=t.length:=by rw[<-O];simp
    refine I 4<|FC P ?_ (aD:=by rw[<-N];simp);refine I 3<|ww 37 ((i+1:Nat):Int)<|FC Q ?_ (aD:=by rw[<-O];exact iG av);refine I 10 ?_;have bad:¬(hv P/\hv Q/\Q≠[48]/\Q≠[49]/\¬(n=true/\P=[48]))->bJ (.bq [.s P,.s Q,.aa bu,.b false]) (GY.res s):=λh=>fin (by rw[cq h]);refine aV ME P (by show P.length<=_;omega)<|I 1 ?_;by_cases D:hv P
    ·refine v1 44 D<|I 3<|aV ME Q (by show Q.length<=_;omega)<|I 2 ?_;by_cases E:hv Q
     ·refine v1 48 E<|I 6 ?_;by_cases A:Q=[48]
      ·exact aP 52 (.b false) j (by rw[A];rfl)<|I 23<|an (az j j<|bad λh=>h.2.2.1 A)
      refine aP 52 (.b true) j (by rw[o3.2 A];rfl)<|I 6 ?_;by_cases o:Q=[49]
      ·exact aP 56 (.b false) j (by rw[o];rfl)<|I 19<|an (az j j<|bad λh=>h.2.2.2.1 o)
      refine aP 56 (.b true) j (by rw[o3.2 o];rfl)<|I 6 ?_;by_cases B:P=[48]
      ·refine aP 59 (.b false) j (by rw[B];rfl)<|I 19<|an (az j j<|fin ?_);rw[R];refine congrArg (λb=>ag.bq [.s P,.s Q,.aa bu,.b b]) ?_;rw[XG];simp[E,A,o,B];exactλ_=>B▸D
      ·exact aP 59 (.b true) j (by rw[o3.2 B];rfl)<|I 17<|an (az j j<|fin<|by rw[ck ⟨D,E,A,o,λh=>B h.2⟩])
     ·exact v0 48 E<|I 27<|an (az j j<|bad λh=>E h.2.1)
    ·exact v0 44 D<|I 31<|an (az j j<|bad λh=>D h.1)
   ·have f:t[i]≠47:=λe=>f (by rw[e];rfl);refine I 8<|bW [] (i+1) ⟨by show t.length-(i+1)<t.length-i;omega,h,?_⟩ bB;rw[kd h];intro hm;rcases hf.1 hm with hm|hm
    ·exact G hm
    ·simp at hm;exact f hm.symm
  ·have T:i=t.length:=by omega
   subst T;rw[o1]at G;exact I 4<|dv [] () G
 intro _ S;rw[Mo S]at fin;simp only at fin;refine I 5<|aV ME t (by show t.length<=_;omega)<|I 1 ?_;by_cases F:hv t
 ·refine v1 68 F<|I 6 ?_;by_cases C:t=[48]
  ·refine aP 71 (.b false) j (by rw[C];rfl)<|I 14<|an (az j j<|fin ?_);rw[R];refine congrArg (λb=>ag.bq [.s t,.s [49],.aa bu,.b b]) ?_;rw[XG];simp[C];exactλ_=>C▸F
  ·refine aP 71 (.b true) j (by rw[o3.2 C];rfl)<|I 12<|an (az j j<|fin ?_);rw[ck ⟨F,λh=>C h.2⟩]
 ·refine v0 68 F<|I 14<|an (az j j<|fin ?_);rw[cq λh=>F h.1]
def XH(u v:ac ci):b6 (u++v)=b6 v+10^v.length*b6 u:=by
 unfold b6 nX;rw[oY,ri,lC,oh,hz]
def XI(w:ac ci)(c:ci):b6 (w++[c])=(c.toNat-48)+10*b6 w:=by
 simp[b6,nX,val]
def l3(h:jf s):b6 s<10^s.length:=by
 have:=j9 λd c=>Xc h d<|Am.1 c;rw[oh]at this;unfold nX at this;rw[hz]at this;exact this
def XJ:bl:=b3 λ(s:ac ci)=>([.s s],jf s/\s.length<=1073741824,c9<|b6 s)
def amu(s:ac ci)(i:Int):ac Nat->cl
 |[]=>⟨[],0,[(0,.s s),(3,.nl),(4,.aa i)]⟩
 |d::aN=>⟨[.a 2 true 1 Nat fQ<|d::aN],1,[(0,.s s),(3,.aK 0 1 0 (d::aN).length (d::aN).length),(4,.aa i)]⟩
def amv{es:ac Nat}{bg:Nat}(h:b6 s=val 1000000000 es+1000000000^es.length*b6 (s.take r))(j:r<=s.length)(D:bg=r-9):
 b6 s=val 1000000000 (es++[b6<|(s.take r).drop bg])+1000000000^(es++[b6<|(s.take r).drop bg]).length*b6 (s.take bg):=by
 have e:s.take r=s.take bg++(s.take r).drop bg:=by
  conv=>lhs;rw[<-ob bg (s.take r)]
  rw[xR,jF R]
 have f:b6 (s.take r)=b6 ((s.take r).drop bg)+1000000000*b6 (s.take bg):=by
  conv=>lhs;rw[e,XH]
  congr 1;rcases(show bg=0\/r=bg+9 by omega)with c|c
  ·subst c;simp[b6,nX,val]
  ·rw[k7,iF,jF j,c,Nat.add_sub_cancel_left]
 rw[h,f,lC,kz,h8];simp[val,hN,Db,tA,oZ,iE,Nat.pow_one];rw[ia,h9];omega
def XK:bt 121 XJ:=by
 refine bR [(204,uV)] SR.1 ?_;intro(s:ac ci) ⟨(B:jf s),(Y:s.length<=_)⟩ H au;refine I 19<|eA (L:=Int×ac Nat) (λ(i,f)=>i<=s.length/\-9<=i/\f.length+i.toNat<=s.length/\Ok 1000000000 f/\b6 s=val 1000000000 f+1000000000^f.length*b6 (s.take i.toNat)) (λ(i,f)=>amu s i f) (λl=>l.1.toNat) [] ((s.length:Int),[]) ⟨Int.le_refl _,by show -9<=(s.length:Int);omega,av,λx g=>by simp at g,by simp[val]⟩ ?_;rintro⟨i,f⟩ ⟨ab,ad,A,D,o⟩;obtain⟨r,J⟩:∃r,r=i.toNat:=dC;rw[<-J]at A o;obtain⟨bg,K⟩:∃bg,bg=r-9:=dC;have F:=amv o R K;have N:jf ((s.take r).drop bg):=λc t=>B c<|p4<|xU t;have aT:=l3 N;have X:b6 ((s.take r).drop bg)<1000000000:=eR aT<|jG (n:=10) al (show _<=9 by simp;omega);have E:¬0<i->aW 1000000000 (b6 s)=eI f:=λh=>by
  have:r=0:=R
  rw[this]at o;rw[w1 (b:=1000000000) al D,o];simp[b6,nX,val]
 have O:∀k:Nat,bg<=k->k<=r->b6 ((s.take k).drop bg)<10^(k-bg):=λk a' ae=>by
  have h:=l3 (s:=(s.take k).drop bg) λc t=>B c<|p4<|xU t
  rwa [k7,iF,jF R]at h
 rcases f with _|⟨d,e⟩
 all_goals
  refine I 7<|cG (λaf=>?_) (λaf=>?_)
  rotate_left
  ·first
   |have:=e
    refine I 8<|kn 33 ?_;exact aV uW (d::e) (by show(d::e).length<=_;omega)<|I 4<|an (az j j (.of<|by show ds (eI<|d::e)=ds _;rw[<-E af]))
   |exact I 8<|ix 33 (ds []) j bJ.nl<|aV uW [] (by show 0<=_;decide)<|I 4<|an (az j j (.of<|by show ds (eI [])=ds _;rw[<-E af]))
  have S:i=(r:Int):=R
  subst S
  first
  |refine I 14<|cd 14 ((r:Int)-9)<|I 1<|aP 15 (.aa (bg:Nat)) j fu<|I 4<|j7 (L:=Unit) (λ_=>True) (λ_=>⟨[.a 2 true 1 Nat fQ<|d::e],1,[(0,.s s),(3,.aK 0 1 0 (d::e).length (d::e).length),(4,.aa (r:Int)),(5,.aa (b6 ((s.take r).drop bg):Nat))]⟩) ?_ ?_
  |refine I 14<|cd 14 ((r:Int)-9)<|I 1<|aP 15 (.aa (bg:Nat)) j fu<|I 4<|j7 (L:=Unit) (λ_=>True) (λ_=>⟨[],0,[(0,.s s),(3,.nl),(4,.aa (r:Int)),(5,.aa (b6 ((s.take r).drop bg):Nat))]⟩) ?_ ?_
  ·first
   |refine eu (L:=Nat) (λk=>bg<=k/\k<=r) (λ(k:Nat)=>⟨[.a 2 true 1 Nat fQ<|d::e],1,[(0,.s s),(3,.aK 0 1 0 (d::e).length (d::e).length),(4,.aa (r:Int)),(5,.aa (b6 ((s.take k).drop bg):Nat)),(6,.aa k)]⟩) (λk=>r-k) [0] bg ⟨cn _,R⟩ (by show r-bg<bx+1;unfold bx;omega) (bB (aL:=⟨j,j,j,by rw[mh dA];rfl,j,aC⟩)) ?_
   |refine eu (L:=Nat) (λk=>bg<=k/\k<=r) (λ(k:Nat)=>⟨[],0,[(0,.s s),(3,.nl),(4,.aa (r:Int)),(5,.aa (b6 ((s.take k).drop bg):Nat)),(6,.aa k)]⟩) (λk=>r-k) [] bg ⟨cn _,R⟩ (by show r-bg<bx+1;unfold bx;omega) (m4 ⟨j,j,j,by rw[mh dA];rfl,j,aC⟩) ?_
   rintro(k:Nat) ⟨bH,Z⟩;refine I 8<|cG (λz=>?_) λz=>?_
   ·have z:k<r:=by omega
    have C:k<s.length:=R
    have hp:=O k bH R;have T:(10:Nat)^(k-bg)<=10^9:=jG al R;have t:=B _<|dx C;have Q:b6 ((s.take<|k+1).drop bg)=(s[k].toNat-48)+10*b6 ((s.take k).drop bg):=by
     rw[kd C,List.drop_append_of_le_length dA,XI]
    generalize ah:b6 ((s.take k).drop bg)=n at *;have W:n<1000000000:=R
    refine I 9<|mH s[k] (a0 C)<|I 1 ?_;have G:(s[k].toNat+(256*48-48))%256=s[k].toNat-48:=R
    refine wY 26 .u8 G ?_
    first
    |(have:=e;refine I 11<|bW [0] (k+1) ⟨by show r-(k+1)<r-k;omega,R,z⟩ (bB (aL:=⟨j,j,j,?_,nQ,aC⟩)))
    |refine I 11<|bW [] (k+1) ⟨by show r-(k+1)<r-k;omega,R,z⟩ (m4 ⟨j,j,j,?_,nQ,aC⟩)
    rw[Q];exact congrArg (λn=>some<|ag.aa n)<|by rw[fP (n:=10*(n:Int)) R R,fP (n:=((s[k].toNat-48:Nat):Int)) R R,fP R R];omega
   ·have M:k=r:=by omega
    subst M
    first|(have:=e;exact I 4<|dv [0] () aC)|exact I 4<|dv [] () aC
  intro _ _;generalize ah:b6 ((s.take r).drop bg)=n at *
 ·refine I 4<|y4 fQ [n] (jt (ai:=fQ) [n] j) ?_;exact I 9<|bW [1] ((r:Int)-9,[n]) ⟨by show((r:Int)-9).toNat<((r:Int)).toNat;omega,R,R,by simp;omega,λx g=>by simp at g;omega,by rw[show((r:Int)-9).toNat=bg by omega];exact F⟩ bB
 ·refine I 4 ?_;have aj:e.length<=1073741824:=by simp at A;omega
  refine y5 (ai:=fQ) [n] (jt (ai:=fQ) [n] j) ?_;refine I 9<|bW [2] ((r:Int)-9,d::(e++[n])) ⟨by show((r:Int)-9).toNat<((r:Int)).toNat;omega,R,R,by simp at A ⊢;omega,?_,by rw[show((r:Int)-9).toNat=bg by omega];exact F⟩ (bB (aL:=⟨j,congrArg (λk=>some<|ag.aK 2 1 0 k k) av,nQ,aC⟩));intro x g;rcases hf.1 (show x∈(d::e)++[n]from g)with h|h
  ·exact D x h
  ·simp at h;omega
def XL(s:ac ci):s=(if(df s).1=true then[45]else[])++(df s).2:=by
 unfold df;split
 ·rfl
 ·split
  ·rename_i c t h;rw[h];rfl
  ·rfl
def XM(h:jf s)(aD:s.length<=9*k):dW k (b6 s):=je al (by
 refine eR (l3 h)<|cC (jG al aD) ?_;rw[re];exact cn _)
def oQ(s:ac ci):ag:=match dq s with
 |some x=>.bq [dB x,.aa 0]
 |none=>.bq [dB 0,.aa 6]
def Cw:bl:=b3 λ(s:ac ci)=>([.s s],s.length<=2000,oQ s)
def amw(n:Bool)(p:Nat):(if n=true then(-1:Int)else 1)*(p:Int)=hx n p:=by cases n<;>simp[hx]
theorem amx{N:Nat}(M:1<=N)(O:s.length<=N):∃P Q b,Cv s= .bq [.s P,.s Q,.aa (if(df s).1=true then -1 else 1),.b b]/\(b=false->dq s=none)/\
 (b=true->hv P/\hv Q/\P.length<=N/\Q.length<=N/\b6 Q≠0/\(hc (mkRat (hx (df s).1<|b6 P)<|b6 Q)=s->dq s=some (mkRat (hx (df s).1<|b6 P)<|b6 Q))/\(hc (mkRat (hx (df s).1<|b6 P)<|b6 Q)≠s->dq s=none)):=by
 have C:=XL s;unfold dq Cv;obtain⟨⟨n,t⟩,G⟩:∃g,g=df s:=dC;rw[<-G]at C⊢;have L:t.length<=N:=by grind
 obtain⟨I,D,nV⟩:=Mp t;obtain⟨⟨P,Q⟩,K⟩:∃g,g=cutAt t:=dC;rw[<-K]at I D nV⊢;cases Q with
 |none=>
  have F:=nV j;subst F;refine⟨t,[49],_,j,λh=>aw<|of_decide_eq_false h,λh=>?_⟩;have c:=hO h;have e:=al3 c.1 c.2;exact⟨c.1,al,L,M,al,λ_=>by rw[aE c];rfl,λh=>absurd (e.trans C.symm) h⟩
 |some q=>
  have H:=D q j;have S:P.length+q.length<=N:=by grind
  refine⟨P,q,_,j,λh=>?_,λh=>?_⟩
  ·have c:=of_decide_eq_false h;by_cases z:hv P/\¬(n=true/\P=[48])
   ·rw[aE z];exact aw λh=>c ⟨z.1,h.1,h.2.1,h.2.2.1,z.2⟩
   ·rw[aw z]
  ·obtain⟨f,o,B,E,A⟩:=hO h;have e:=al2 f o A B E;rw[rh,<-H,<-C]at e;refine⟨f,o,R,R,λh=>B<|sf o h,λh=>?_,λh=>?_⟩
   ·rw[aE ⟨f,A⟩];exact aE ⟨o,B,E,e.1 h⟩
   ·rw[aE ⟨f,A⟩];exact aw λJ=>h<|e.2 J.2.2.2
theorem MF:bt 47 Cw:=by
 refine bR [(120,GY),(121,XJ),(117,u0),(122,XF)] SF.1 ?_;intro s (B:s.length<=2000) H au;have hp:∀{r},dq s=r->bJ (match r with|some x=>.bq [dB x,.aa 0]|none=>.bq [dB 0,.aa 6]) (Cw.res s):=λh=>.of (by subst h;rfl);have fail:dq s=none->bJ (.bq [.agg [.aa 0,.nl,.nl],.aa 6]) (Cw.res s):=λh=>amk.trans<|hp h;obtain⟨P,Q,b,o,C,A⟩:=amx al B;obtain⟨n,ah⟩:∃n,n=(df s).1:=dC;rw[<-ah]at o A;have g: -1<=(if n=true then(-1:Int)else 1)/\(if n=true then(-1:Int)else 1)<=1:=R
 refine I 9<|aV amt s (by show s.length<=_;omega)<|aP 11 _ j o<|I 18 ?_;cases b with
 |false=>
  exact I 10<|an (az j j<|fail<|C j)
 |true=>
  obtain⟨t,z,G,F,g8,D,E⟩:=A j;have e:=XM (k:=223) t.2.1 R;have f:=XM (k:=223) z.2.1 R;refine I 10<|c2 22<|I 9<|cG (λh=>?_) λh=>?_
  ·omega
  refine I 6<|aV XK P ⟨t.2.1,R⟩<|I 1<|aV XK Q ⟨z.2.1,R⟩<|aV s9 (if n=true then -1 else 1,b6 P,b6 Q) ⟨g.1,g.2,db e,db f,g8⟩<|aP 33 (dB<|mkRat (hx n<|b6 P)<|b6 Q) j (by show dB _=_;rw[amw])<|I 8<|aV amq (mkRat (hx n<|b6 P)<|b6 Q) (k5<|xe (by rw[nf];exact e) f g8)<|I 2 ?_;by_cases c:hc (mkRat (hx n<|b6 P)<|b6 Q)=s
  ·exact aP 37 (.b false) j (by grind)<|I 13<|an (az j j<|hp<|D c)
  ·exact aP 37 (.b true) j (by grind)<|I 12<|an (az j j<|fail<|E c)
def GZ(b:Bool):ac ag:=[.b b]
def iM(c:ci):Bool:=decide (48<=c.toNat/\c.toNat<=57)
def xf:ac Bool:=(List.range 256).map λc=>decide (48<=c/\c<=57)
def pP:ac ag:=xf.flatMap GZ
def amy{J:Nat}(h:J<256):pP.drop J= .b (decide (48<=J/\J<=57))::pP.drop (J+1):=by
 have e:pP=xf.map ag.b:=by unfold pP;rw[List.map_eq_flatMap];rfl
 have c:J<xf.length:=by unfold xf;rw[hz,H2];exact h
 rw[e,<-H3,<-H3,gp c,jj];congr 2;simp[xf]
def MG:bl:=b3 λ(c:ci)=>([.ip pP,.i .u8 (c.toNat:Int)],True,.b<|iM c)
def XN:bt 321 MG:=by
 refine bR [] TU.1 ?_;intro(c:ci) _ H au;have e:c.toNat<256:=c.toNat_lt;refine I 10<|eL (ae4 j j e) ?_;exact aP 8 (.ip<|.b (iM c)::pP.drop (c.toNat+1)) j (by rw[n8,amy e];rfl)<|I 5<|an (az j j dO)
def XO:bl:=b3 λ(s:ac ci)=>([.s s,.ip pP],s.length<=1073741824,.s<|s.dropWhile iM)
def amz:bt 212 XO:=by
 refine bR [(321,MG)] Ve.1 ?_;intro(s:ac ci) (h:s.length<=_) H au;refine I 7<|eA (L:=ac ci) (λt=>t.dropWhile iM=s.dropWhile iM/\t.length<=s.length) (λt=>⟨[],0,[(0,.s t),(1,.ip pP)]⟩) List.length [] s ⟨j,cn _⟩ ?_;rintro t ⟨f,g⟩;cases t with
 |nil=>
  exact I 21<|an (az j j (.of<|by show ag.s []=ag.s _;rw[<-f];rfl))
 |cons c t=>
  refine I 6<|aP 7 (.b true) j av<|I 11<|mH c (J:=0) j<|aV XN c aC<|I 3 ?_;by_cases e:iM c=true
  ·refine aP 12 (.b false) j (by show ag.b (!iM c)=_;rw[e];rfl)<|I 5<|qD (p:=1) t ?_ (hp:=av) (cz:=av);exact I 3<|dv [] t ⟨av,by rw[<-f,Dt,aE e],by simp at g;omega⟩
  ·have e:iM c=false:=by simpa using e
   exact aP 12 (.b true) j (by show ag.b (!iM c)=_;rw[e];rfl)<|I 14<|an (az j j (.of<|by show ag.s (c::t)=ag.s _;rw[<-f,Dt,aw<|by rw[e];decide]))
def mN(s:ac ci):ac ci:=(s.reverse.dropWhile iM).reverse
def XP(t:ac ci)(c:ci):mN (t++[c])=if iM c=true then mN t else t++[c]:=by
 unfold mN;rw[ri];show((c::t.reverse).dropWhile iM).reverse=_;rw[Dt];split
 ·rfl
 ·simp
def XQ:bl:=b3 λ(s:ac ci)=>([.s s,.ip pP],s.length<=1073741824,.s<|mN s)
def amA:bt 213 XQ:=by
 refine bR [(321,MG)] Uq.1 ?_;intro(s:ac ci) (h:s.length<=_) H au;refine I 7<|eA (L:=ac ci) (λt=>mN t=mN s/\t.length<=s.length) (λt=>⟨[],0,[(0,.s t),(1,.ip pP)]⟩) List.length [] s ⟨j,cn _⟩ ?_;rintro t ⟨f,o⟩;rcases od t with rfl|⟨t,c,rfl⟩
 ·exact I 21<|an (az j j (.of<|by show ag.s []=ag.s _;rw[<-f];rfl))
 ·rw[oe]at *;have g:(t++[c]).length=t.length+1:=by simp
  refine I 6<|aP 7 (.b true) j av<|I 14<|aP 12 (.aa (t.length:Nat)) j (by rw[g];exact eM)<|mH c (show(t++[c])[t.length]? =some c by simp)<|aV XN c aC<|I 3 ?_;by_cases e:iM c=true
  ·refine aP 15 (.b false) j (by show ag.b (!iM c)=_;rw[e];rfl)<|I 8<|aP 19 (.aa (t.length:Nat)) j (by rw[g];exact eM)<|qD (p:=0) t ?_ (hp:=dw _) (cz:=av);exact I 3<|dv [] t ⟨av,by rw[<-f,XP,aE e],R⟩
  ·exact aP 15 (.b true) j (by show ag.b (!iM c)=_;rw[show iM c=false by simpa using e];rfl)<|I 14<|an (az j j (.of<|by show ag.s (t++[c])=ag.s _;rw[<-f,XP,aw e]))
def zB:Nat->ac Bool
 |0=>List.replicate 256 false
 |n+1=>(zB n).set (48+n) true
theorem XR:∀n,(zB n).length=256
 |0=>xM
 |n+1=>by unfold zB;rw[vE];exact XR n
def amB:zB 10=xf:=br
def Cx:ac ci:=[48,49,50,51,52,53,54,55,56,57]
def amC(h:i<10):Cx[i]? =some (UInt8.ofNat<|48+i):=by
 rcases(show i=0\/i=1\/i=2\/i=3\/i=4\/i=5\/i=6\/i=7\/i=8\/i=9 by omega)with rfl|rfl|rfl|rfl|rfl|rfl|rfl|rfl|rfl|rfl<;>rfl
def XS:bl:=b3 λ(_:Unit)=>([.s Cx],True,.bq [.agg pP,.b true])
def amD:bt 211 XS:=by
 refine bR [] S0.1 ?_;intro _ _ f au;refine I 4<|kF 0 GZ (zB 0) ?_;refine I 9<|eA (L:=Nat) (λi=>i<=10) (λ(i:Nat)=>⟨[.a 309 false 1 Bool GZ<|zB i],1,[(0,.s Cx),(2,.p 0 0),(4,.aa i)]⟩) (λi=>10-i) [0] 0 (dw _) ?_;intro(i:Nat) af;refine I 9 ?_;have g:((Cx.length:Nat):Int)=10:=rfl;refine cG (λh=>?_) λh=>?_
 ·have h:i<10:=by omega
  have ah:(UInt8.ofNat<|48+i).toNat=48+i:=Cp h;refine I 8<|mH (UInt8.ofNat<|48+i) (amC h)<|aP 14 (.i .u8 ((48+i:Nat):Int)) j (by rw[ah])<|I 10<|cG (λc=>?_) λc=>?_
  ·omega
  refine I 4<|FD ?_;refine kE true ?_ (ba:=by rw[XR];omega);exact I 8<|bW [0] (i+1) ⟨by show 10-(i+1)<10-i;omega,h⟩ bB
 ·have e:i=10:=by omega
  subst e;rw[amB];refine I 7<|Rx 0 ?_;exact I 6<|an (az j j<|.of j)
def XT:bl where
 L:=ac ci
 args:=λs=>[.s s,.s Cx]
 pre:=λs=>s.length<=1073741824
 res:=λs=>.s<|(mN s).dropWhile iM
def amE(s:ac ci):(mN s).length<=s.length:=by
 unfold mN;rw[oh,<-(oh:s.reverse.length=s.length)];exact(List.dropWhile_sublist _).length_le
def amF:dY bS.ctx 125 XT.spec:=by
 refine bR [(211,XS),(213,XQ),(212,XO)] Ty.1 ?_;intro(s:ac ci) (c:s.length<=_) H au;refine I 11 ?_;by_cases h:s=[]
 ·subst h;exact I 14<|an (az j j dO)
 refine aP 9 (.b false) j (by rw[o3.2 h])<|I 30<|aV amD () aC<|I 17<|kF 0 GZ xf ?_;refine afa 5 ?_;exact aP 5 (.ip pP) j j<|aV amA s c<|aV amz (mN s) (cC (amE s) c)<|I 5<|an (az j j dO)
theorem drop_nil:∀{s:ac ci},s.dropWhile iM=[]↔∀c∈s,iM c=true
 |[]=>by simp
 |c::s=>by
  rw[Dt];by_cases h:iM c=true
  ·rw[aE h,drop_nil];simp[h]
  ·rw[aw h];simp[h]
def XU{c:ci}:iM c=true↔48<=c.toNat/\c.toNat<=57:=by unfold iM;rw[decide_eq_true_iff]
def strip_nil:(mN s).dropWhile iM=[]↔jf s:=by
 rw[drop_nil];unfold jf;constructor
 ·intro h;have o:mN s=[]:=by
   rcases od (mN s)with g|⟨t,c,g⟩
   ·exact g
   ·rw[oe]at g;have f:=h c (by rw[g];simp);have e:s.reverse.dropWhile iM=c::t.reverse:=by
     have:=congrArg List.reverse g;unfold mN at this;rw[Ds,ri]at this;exact this
    have:=List.head_dropWhile_not iM (l:=s.reverse) (by rw[e];simp);simp only[e,List.head_cons]at this;rw[f]at this;cases this
  unfold mN at o;have j:=drop_nil.1<|Ig.1 o;exactλc f=>XU.1<|j c<|Am.2 f
 ·intro h;have j:s.reverse.dropWhile iM=[]:=drop_nil.2 λc f=>XU.2<|h c<|Am.1 f;unfold mN;rw[j];intro c f;simp at f
def XV:bl:=b3 λ(s:ac ci)=>([.s s],s.length<=1073741824,.b<|decide (hv s))
def XW:bt 53 XV:=by
 refine bR [(125,XT.spec)] Tl.1 ?_;intro(s:ac ci) (o:s.length<=_) H au;refine I 10 ?_;cases s with
 |nil=>
  exact aP 5 (.b false) j j<|I 17<|an (az j j (.of<|by show ag.b false=ag.b (decide _);rw[cq λf=>f.1 j]))
 |cons c t=>
  refine aP 5 (.b true) j j<|I 3<|aV amF (c::t) o<|I 4 ?_;by_cases g:jf (c::t)
  ·refine aP 10 (.b true) j (by show ag.b (_==[])=_;rw[strip_nil.2 g];rfl)<|I 6 ?_;by_cases f:c::t=[48]
   ·exact aP 13 (.b true) j (by rw[f];rfl)<|I 10<|an (az j j (.of<|by show ag.b true=ag.b (decide _);rw[ck ⟨av,g,.inl f⟩]))
   refine aP 13 (.b false) j (by rw[o3.2 f])<|I 3<|mH c (J:=0) j<|I 9<|an (az j j<|.of ?_);show ag.b (decide _)=ag.b (decide _);congr 1;rw[decide_eq_decide];constructor
   ·intro h;refine⟨av,g,.inr λe=>h ?_⟩;have e:c=48:=by simpa using e
    rw[e];rfl
   ·rintro⟨_,_,h|h⟩ e
    ·exact f h
    ·exact h<|congrArg some<|vq.1 (show c.toNat=48 by omega)
  ·exact aP 10 (.b false) j (by show ag.b (_==[])=_;rw[o3.2<|mt strip_nil.1 g])<|I 12<|an (az j j (.of<|by show ag.b false=ag.b (decide _);rw[cq λf=>g f.2.1]))
theorem XX:∀s:ac ci,(match rv 47 s with
 |none=>cutAt s=(s,none)
 |some i=>i<s.length/\cutAt s=(s.take i,some<|s.drop<|i+1))
 |[]=>rfl
 |c::s=>by
  have f:=XX s;have e:rv 47 (c::s)=cond (Nat.beq c.toNat (47:ci).toNat) (some 0) (bn (rv 47 s) (λi=>some<|Nat.succ i) none):=rfl;by_cases g:c=47
  ·subst g;exact⟨Nat.succ_pos _,j⟩
  ·have z:Nat.beq c.toNat (47:ci).toNat=false:=by
    rw[vo];exactλh=>g<|vq.1<|dM h
   have o:cutAt (c::s)=(c::(cutAt s).1,(cutAt s).2):=aw g;rw[e,z];cases h:rv 47 s with
   |none=>
    rw[h]at f;show cutAt (c::s)=_;rw[o,show cutAt s=(s,none)from f]
   |some i=>
    rw[h]at f;obtain⟨A,t⟩:=f;show i+1<s.length+1/\cutAt (c::s)=_;rw[o,t];exact⟨R,j⟩
def XY:bl:=b3 λ(s:ac ci)=>([.s s,.s [45]],s.length<=1073741824,.b (df s).1)
def amG:bt 207 XY:=by
 refine bR [] Ls.1 ?_;intro s g f au;refine I 13 ?_;cases s with
 |nil=>
  exact aP 10 (.b false) j j<|I 11<|an (az j j dO)
 |cons c t=>
  refine aP 10 (.b true) j dA<|I 7<|qD [c] ?_;refine I 9<|an (az j j<|.of ?_);show ag.b ([c]==[45])=ag.b (df<|c::t).1;by_cases e:c=45
  ·subst e;rfl
  ·rw[show df (c::t)=(false,c::t)from aw e,o3.2<|by simpa using e]
def G0:bl:=b3 λ(s:ac ci)=>([.s s,.s [45]],s.length<=1073741824,.bq [.s (df s).2,.b (df s).1])
theorem amH:bt 123 G0:=by
 refine bR [(207,XY)] U3.1 ?_;intro s g h au;refine I 11<|aV amG s g<|I 3 ?_;cases s with
 |nil=>
  exact I 10<|an (az j j dO)
 |cons c t=>
  by_cases e:c=45
  ·subst e;refine aP 9 (.b false) j j<|I 8<|qD t ?_ (hp:=av);exact I 5<|an (az j j dO)
  ·have f:df (c::t)=(false,c::t):=aw e;exact aP 9 (.b true) j (by grind)<|I 10<|an (az j j (.of<|by show ag.bq _=ag.bq [.s (df<|c::t).2,.b (df<|c::t).1];rw[f]))
def amI:bt 51 G0:=by
 refine bR [(123,G0)] Tj.1 ?_;intro s c e au;exact I 10<|aV amH s c<|I 7<|an (az j j dO)
def XZ:bl:=b3 λ(s:ac ci)=>([.s s,.i .u8 47],s.length<=1073741824,.aa<|uw 47 s)
def amJ:bt 317 XZ:=by
 refine bR [] S4.1 ?_;intro s f e au;refine I 9<|eL (ae8 (c:=47) j j) ?_;exact I 4<|an (az j j dO)
def X0:bl:=b3 λ(s:ac ci)=>([.s s,.s [47]],s.length<=1073741824,.aa<|uw 47 s)
theorem amK:bt 208 X0:=by
 refine bR [(317,XZ)] TI.1 ?_;intro s c e au;refine I 29 ?_;by_cases h:[47]=s
 ·exact aP 16 (.b true) j (by rw[<-h];rfl)<|I 9<|an (az j j (.of<|by rw[<-h];rfl))
 exact aP 16 (.b false) j (by grind)<|I 13<|mH 47 j<|aV amJ s c<|I 6<|an (az j j dO)
def nh(s:ac ci):ag:=match(cutAt s).2 with
 |none=>.bq [.s s,.s [],.b false]
 |some q=>.bq [.s (cutAt s).1,.s q,.b true]
def Cy:bl where
 L:=ac ci
 args:=λs=>[.s s,.s [47]]
 pre:=λs=>s.length<=1073741824
 res:=λs=>nh s
def amL:dY bS.ctx 124 Cy.spec:=by
 refine bR [(208,X0)] SS.1 ?_;intro(s:ac ci) (e:s.length<=_) H au;have af:=XX s;have fin:∀{r},nh s=r->bJ r (Cy.res s):=λh=>.of h.symm;unfold nh at fin;refine I 12<|aV amK s e ?_;cases c:rv 47 s with
 |none=>
  rw[c]at af;rw[af]at fin;exact aP 10 (.aa<|-1) j (by show ag.i _ (uw 47 s)=_;unfold uw;rw[c])<|I 21<|an (az j j<|fin j)
 |some i=>
  rw[c]at af;obtain⟨g,f⟩:i<s.length/\cutAt s=(s.take i,some<|s.drop<|i+1):=af;rw[f]at fin;refine aP 10 (.aa i) j (by show ag.i _ (uw 47 s)=_;unfold uw;rw[c])<|I 14<|FC (s.take i) ?_;refine I 5<|dD 20 (.aa ((i+1:Nat):Int)) j j (eM av R dA)<|FC (s.drop<|i+1) ?_ (aD:=iG av);exact I 7<|an (az j j<|fin j)
def amM:dY bS.ctx 52 Cy.spec:=by
 refine bR [(124,Cy.spec)] Tk.1 ?_;intro s e f au;refine I 11<|aV amL s e ?_;cases c:(cutAt s).2 with
 |none=>
  exact aP 9 (.bq [.s s,.s [],.b false]) j (by show nh s=_;unfold nh;rw[c])<|I 9<|an (az j j (.of<|by show _=nh s;unfold nh;rw[c]))
 |some q=>
  exact aP 9 (.bq [.s (cutAt s).1,.s q,.b true]) j (by show nh s=_;unfold nh;rw[c])<|I 9<|an (az j j (.of<|by show _=nh s;unfold nh;rw[c]))
def xg:ac ag:=(List.range 20).map λk=>.i .u64 ((10^k:Nat):Int)
def mO(H:bh):Prop:=∃c el f aU,H 5=some (.cells c el f aU)/\∀e,cB e xg [] c
def mO.up{H c:bh}(h:cF H c):mO H->mO c:=λ⟨j,el,e,aU,f,g⟩=>⟨j,el,e,aU,h _ _ f,g⟩
def amN{J:Nat}(h:J<20):xg.drop J= .i .u64 ((10^J:Nat):Int)::xg.drop (J+1):=by
 have c:J<xg.length:=by unfold xg;exact h
 rw[gp c];congr 1;simp[xg]
def xh:bl:=b3 λ(n:Nat)=>([.i .u64 n],n<4294967296,.aa (bE n:Nat))
def amO:ac ci:=[0,1,2,2,3,3,3,3,4,4,4,4,4,4,4,4,5,5,5,5,5,5,5,5,5,5,5,5,5,5,5,5,6,6,6,6,6,6,6,6,6,6,6,6,6,6,6,6,6,6,6,6,6,6,6,6,6,6,6,6,6,6,6,6,7,7,7,7,7,7,7,7,7,7,7,7,7,7,7,7,7,7,7,7,7,7,7,7,7,7,7,7,7,7,7,7,7,7,7,7,7,7,7,7,7,7,7,7,7,7,7,7,7,7,7,7,7,7,7,7,7,7,7,7,7,7,7,7,8,8,8,8,8,8,8,8,8,8,8,8,8,8,8,8,8,8,8,8,8,8,8,8,8,8,8,8,8,8,8,8,8,8,8,8,8,8,8,8,8,8,8,8,8,8,8,8,8,8,8,8,8,8,8,8,8,8,8,8,8,8,8,8,8,8,8,8,8,8,8,8,8,8,8,8,8,8,8,8,8,8,8,8,8,8,8,8,8,8,8,8,8,8,8,8,8,8,8,8,8,8,8,8,8,8,8,8,8,8,8,8,8,8,8,8,8,8,8,8,8,8,8,8,8,8,8,8]
def amP:∀m,m<256->amO[m]? =some (UInt8.ofNat<|bE m)/\bE m<=8:=by decide +kernel
def X1:bt 305 xh:=by
 refine bR [] Vp.1 ?_;intro(n:Nat) (ah:n<4294967296) H au;refine I 12<|cG (λh=>?_) λh=>?_
 ·omega
 refine I 9<|gQ (λ(m,k)=>m<65536/\k<=16/\bE n=bE m+k) (λ(m,k)=>⟨[],0,[(0,.i .u64 m),(2,.aa k)]⟩) ?_ ?_
 ·refine cG (λh=>?_) λh=>?_
  ·exact I 12<|bW [] (n/65536,16) ⟨R,al,Cc 16 n R⟩ bB
  ·exact I 1<|bW [] (n,0) ⟨R,al,j⟩ bB
 rintro⟨m,k⟩ ⟨hm,f,c⟩;refine I 7<|gQ (λ(m,k)=>m<256/\k<=24/\bE n=bE m+k) (λ(m,k)=>⟨[],0,[(0,.i .u64 m),(2,.aa k)]⟩) ?_ ?_
 ·refine cG (λh=>?_) λh=>?_
  ·exact I 12<|bW [] (m/256,k+8) ⟨R,R,by rw[c,Cc 8 m R,show 2^8=256 from rfl];omega⟩ bB
  ·exact I 1<|h4 [] (m,k) ⟨R,c⟩
 rintro⟨m,k⟩ ⟨hm,f,c⟩;refine I 5<|aP 21 (.i .u8 m) j fu ?_;obtain⟨g,o⟩:=amP m hm;refine mH _ g<|I 6 ?_;have e:(UInt8.ofNat<|bE m).toNat=bE m:=by simp;omega
 rw[e];refine an<|az j j<|.of ?_;show ag.i _ _=ag.aa (bE n:Nat);rw[c,fP (n:=((bE m:Nat):Int)) R R];exact eM
def X2:bl:=b3 λ(b:Nat)=>([.aa b],b<=64,.aa ((b*78913/262144:Nat):Int))
def amQ:bt 399 X2:=by
 refine bR [] UI.1 ?_;intro(b:Nat) (c:b<=64) H au;exact I 9<|cd 4 ((b*78913:Nat):Int)<|I 5<|an (az j j dO)
def X3:bl:=b3 λ(b:Bool)=>([.b b],True,.aa (if b=true then 1 else 0))
def amR:bt 400 X3:=by
 refine bR [] S8.1 ?_;intro b _ c au;refine I 11 ?_;cases b with
 |true=>
  exact I 8<|an (az j j dO)
 |false=>
  exact I 9<|an (az j j dO)
def amS:∀b,b<31->(b*78913/262144=0\/10^(b*78913/262144-1)<=2^(b-1))/\2^b<=10^(b*78913/262144+1)/\b*78913/262144<10:=by decide +kernel
def amT(bX:n≠0)(ah:n<1000000000):(aW 10 n).length=bE n*78913/262144+(if 10^(bE n*78913/262144)<=n then 1 else 0)/\bE n*78913/262144<10/\bE n<=30:=by
 obtain⟨o,t⟩:=qM bX;have f:bE n<=30:=GQ.1 R;obtain⟨c,A,g⟩:=amS (bE n) R;generalize bE n*78913/262144=l at *;have z:=je (b:=10) (n:=n) (k:=l+1) al R;refine⟨?_,g,f⟩;split
 ·rename_i h;have:=Cb al h;omega
 ·rename_i h;have j:=je (b:=10) (n:=n) (k:=l) al R;rcases c with c|c
  ·omega
  ·rcases Ah l with e|e
   ·omega
   ·have:=Cb (b:=10) (n:=n) (k:=l-1) al R;omega
def X4:bl:=pF mO mO.up λ(n:Nat)=>([.i .u64 n],n≠0/\n<1000000000,.aa ((aW 10 n).length:Nat))
theorem amU:bt 366 X4:=by
 refine sa [(305,xh),(399,X2),(400,X3)] UD.1 ?_;intro(n:Nat) ⟨f,ah⟩ H au ⟨D,el,z,aU,c,e⟩;obtain⟨t,B,A⟩:=amT f ah;refine I 8<|aV X1 n (by show n<_;omega)<|aV amQ (bE n) (by show bE n<=_;omega) ?_;generalize g:bE n*78913/262144=l at *;refine aP 6 (.aa l) j (by rw[<-g];rfl)<|I 8<|afd c e ?_;refine aP 10 (.ip<|.i .u64 ((10^l:Nat):Int)::xg.drop (l+1)) j (by rw[amN R])<|I 2<|aP 12 (.b<|decide (10^l<=n)) j (congrArg ag.b<|by grind)<|aV amR (decide (10^l<=n)) aC ?_;obtain⟨q,o⟩:∃q:Nat,q=if 10^l<=n then 1 else 0:=dC;have C:q<=1:=by grind
 refine aP 13 (.aa q) j (by show ag.i _ (if decide _=true then 1 else 0)=_;rw[o];by_cases h:10^l<=n<;>simp[h])<|I 5 ?_;exact an (az j j (.of (by
  show ag.i _ _=ag.aa ((aW 10 n).length:Nat);exact eM)))
def l4:ac ci:=[48,48,48,49,48,50,48,51,48,52,48,53,48,54,48,55,48,56,48,57,49,48,49,49,49,50,49,51,49,52,49,53,49,54,49,55,49,56,49,57,50,48,50,49,50,50,50,51,50,52,50,53,50,54,50,55,50,56,50,57,51,48,51,49,51,50,51,51,51,52,51,53,51,54,51,55,51,56,51,57,52,48,52,49,52,50,52,51,52,52,52,53,52,54,52,55,52,56,52,57,53,48,53,49,53,50,53,51,53,52,53,53,53,54,53,55,53,56,53,57,54,48,54,49,54,50,54,51,54,52,54,53,54,54,54,55,54,56,54,57,55,48,55,49,55,50,55,51,55,52,55,53,55,54,55,55,55,56,55,57,56,48,56,49,56,50,56,51,56,52,56,53,56,54,56,55,56,56,56,57,57,48,57,49,57,50,57,51,57,52,57,53,57,54,57,55,57,56,57,57]
def ni:∀k,k<100->l4[2*k]? =some (UInt8.ofNat<|48+k/10)/\l4[2*k+1]? =some (UInt8.ofNat<|48+k%10)/\(l4.drop<|2*k).take 2=[UInt8.ofNat<|48+k/10,UInt8.ofNat<|48+k%10]:=by decide +kernel
def d36:ac ci:=[48,49,50,51,52,53,54,55,56,57,97,98,99,100,101,102,103,104,105,106,107,108,109,110,111,112,113,114,115,116,117,118,119,120,121,122]
def amV:∀k,k<10->(d36.drop k).take 1=[UInt8.ofNat<|48+k]:=by decide +kernel
def amW(aF:10<=n)(aL:n<100):dec n=[n/10,n%10]:=by
 unfold dec;rw[aw R,m9 al R,m9 al R,show n/10/10=0 by omega,gK,show n/10%10=n/10 by omega];rfl
def X5:bl:=b3 λ(n:Nat)=>([.aa n],n<100,.s<|dI n)
def amX:bt 365 X5:=by
 refine bR [] S6.1 ?_;intro(n:Nat) (ah:n<100) H au;refine I 12<|cG (λh=>?_) λh=>?_
 ·have h:n<10:=by omega
  refine I 5<|cd 7 ((n+1:Nat):Int)<|qD [UInt8.ofNat<|48+n] ?_ (aD:=by rw[show n+1-n=1 by omega];exact amV n h) (cz:=by show n+1<=36;omega);exact I 5<|an (az j j (.of<|by show ag.s _=ag.s (dI n);unfold dI;rw[XC h];rfl))
 ·refine I 6<|cd 10 ((2*n:Nat):Int)<|I 2<|cd 12 ((2*n:Nat):Int)<|I 1<|cd 13 ((2*n+2:Nat):Int)<|qD [UInt8.ofNat<|48+n/10,UInt8.ofNat<|48+n%10] ?_ (aD:=by rw[show 2*n+2-2*n=2 by omega];exact(ni n ah).2.2) (cz:=by show 2*n+2<=200;omega);exact I 4<|an (az j j (.of<|by show ag.s _=ag.s (dI n);unfold dI;rw[amW R ah];rfl))
def G1(n cT J:Nat):ci:=UInt8.ofNat<|48+n/10^(cT-1-J)%10
structure jS(n cT i:Nat)(l:ac ci)(u:Nat):Prop where
 u:u=n/10^(cT-i)
 len:l.length=24
 le:i<=cT
 mL:∀J,i<=J->J<cT->l[J]? =some (G1 n cT J)
variable{u cT:Nat}
def jS.two{l:ac ci}(h:jS n cT (i+2) l u)(D:cT<=24):jS n cT i ((l.set (i+1)<|UInt8.ofNat<|48+u%100%10).set i<|UInt8.ofNat<|48+u%100/10) (u/100):=by
 obtain⟨j,o,z,e⟩:=h;have f:cT-(i+2)=cT-1-(i+1):=R
 have g:cT-1-i=cT-(i+2)+1:=R
 refine⟨?_,by simp[o],R,λc A t=>?_⟩
 ·rw[j,show cT-i=cT-(i+2)+2 by omega,h8,p7]
 ·rcases(show c=i\/c=i+1\/i+2<=c by omega)with rfl|rfl|h
  ·rw[Dh dA];unfold G1;rw[g,fD,<-p7];congr 2;omega
  ·rw[mU R,Dh R];unfold G1;rw[<-f];congr 2;omega
  ·rw[mU R,mU R];exact e c h t
def jS.one{l:ac ci}(h:jS n cT 1 l u)(j:u<10):jS n cT 0 (l.set 0<|UInt8.ofNat<|48+u) 0:=by
 obtain⟨f,g,t,e⟩:=h;refine⟨?_,by simp[g],R,λc z o=>?_⟩
 ·rw[show cT-0=cT-1+1 by omega,fD,<-p7];omega
 ·rcases(show c=0\/1<=c by omega)with rfl|h
  ·rw[Dh R];unfold G1;rw[show cT-1-0=cT-1 by omega,<-f,gn j]
  ·rw[mU R];exact e c h o
def jS.fin{l:ac ci}(h:jS n cT 0 l u)(bX:n≠0)(j:cT=(aW 10 n).length)(D:cT<=24):l.take cT=dI n:=by
 obtain⟨o,t,g,f⟩:=h;unfold dI dec;rw[aw bX];apply p0;intro e;by_cases c:e<cT
 ·rw[n7,aE c,f e (dw _) c];unfold g2;rw[vr,List.getElem?_reverse R,<-j,s6 al R];rfl
 ·rw[sm dA,sm<|by rw[s8,oh];omega]
def xi(x:Nat):(2*(x%100)+1)%4294967296=2*(x%100)+1:=R
def u1(h:u<1000000000):(u%100000000%4294967296=u%100000000)/\(u/100000000%18446744073709551616=u/100000000)/\(u%100000000/10000%4294967296=u/10000%10000)/\(u%100000000%10000=u%10000)/\(u%10000/100%4294967296*2%4294967296=2*(u/100%100))/\(u%10000%100*2%4294967296=2*(u%100))/\(u/10000%10000/100%4294967296*2%4294967296=2*(u/100/100/100%100))/\(u/10000%10000%100*2%4294967296=2*(u/100/100%100)):=by
 have c:u/10000=u/100/100:=R
 have e:u%100000000/10000=u/10000%10000:=R
 have f:∀x:Nat,x%10000/100%4294967296*2%4294967296=2*(x/100%100)/\x%10000%100*2%4294967296=2*(x%100):=λx=>R
 refine⟨R,R,?_,R,(f u).1,(f u).2,?_,?_⟩
 ·rw[e];omega
 ·rw[c];exact(f _).1
 ·rw[c];exact(f _).2
def MH(h:u<1000000000):u/10000%4294967296=u/10000/\u%10000/100%4294967296*2%4294967296=2*(u/100%100)/\u%10000%100*2%4294967296=2*(u%100):=R
def X6(h:u<1000000000):u%100*2%4294967296=2*(u%100)/\u/100%4294967296=u/100:=R
def nZ{E:eX}{K:ac dH}{own bf:ac a4}{aB aX F back:Nat}{e D:bU}{d:Tmp}{ay:ac Tmp}{xs:ac (bm×cr)}{x i:ce}{l:ac ci}{J:Nat}{bG:f6}(eW:ci)(ba:l[J]? =some eW)(k:b5.ok E ⟨K,.d xs bf ((d,.i .u8 (eW.toNat:Int))::D) aX F,⟨own,aB,(d,.i .u8 (eW.toNat:Int))::e⟩⟩)(G:a6 (dZ ay D) x=some (.s l):=by rfl)(af:a6 (dZ ay D) i=some (.i bG (J:Int)):=by rfl)(aA:back<aX:=by decide):b5.ok E ⟨K,.d ((⟨some d,.tL x i,none⟩,.read back ay)::xs) bf D aX F,⟨own,aB,e⟩⟩:=
 k2 (a:=.i .u8 eW.toNat) aA (λz A st c f _ _=>⟨.int .u8 (eW.toNat:Int),j,λh _ _=>by
  have o:=f.ar G;have t:=f.ar af;obtain⟨aT,g⟩:=dN.1 ba;show hD (c.ar x) (λs=>fL (c.ar i) (λ_ J=>ht J (λJ=>hQ s.data.toList J 1 (λbZ=>one bZ (λb=>a1.ok (.int .u8<|.ofNat b.toNat) c h) a1.no) a1.no) a1.no) a1.no) a1.no=_;rw[o,Sym.yM,t];show hQ l J 1 _ _=_;rw[Sym.yN R,gp aT,g];rfl⟩) k
def G2:bl:=pF mO mO.up λ(n:Nat)=>([.i .u64 n,.aa 10],n<1000000000,.s<|dI n)
def amY:bt 283 G2:=by
 refine sa [(365,X5),(366,X4)] TK.1 ?_;intro(n:Nat) (ah:n<1000000000) H au Q;refine I 20<|cG (λh=>?_) λh=>?_
 ·have h:n<100:=by omega
  exact I 4<|cd 14 (n:Nat)<|aV amX n h<|I 6<|an (az j j dO)
 have G:n≠0:=R
 obtain⟨cT,A⟩:∃cT,cT=(aW 10 n).length:=dC;have W:cT<=9:=by rw[A];exact je al ah
 have T:2<cT:=by rw[A];exact Cb al R
 refine I 10<|aV amU n ⟨G,ah⟩ (aP 17 (.aa (cT:Nat)) j (by rw[A];rfl)<|I 6<|kF 0 iy (List.replicate 24 0) ?_) (cA:=Q);refine eL (y8 (p:=0) (q:=cT) j j j dC (dw _) R sC) ?_;refine aP 19 (.aK 0 1 0 cT 24) j av<|I 1<|wL S7.1 br ?_;intro S f Y af _;have af:f.length=1:=af;refine I 9<|j7 (L:=Nat×ac ci×Nat) (λ(i,l,u)=>jS n cT i l u/\i<8) (λ(i,l,u)=>⟨[.a 403 false 1 ci iy l],1,[(0,.aK 0 1 0 cT 24),(1,.i .u64 (u:Nat)),(4,.aa (i:Nat))]⟩) ?_ ?_
 ·refine eu (L:=Nat×ac ci×Nat) (λ(i,l,u)=>jS n cT i l u) (λ(i,l,u)=>⟨[.a 403 false 1 ci iy l],1,[(0,.aK 0 1 0 cT 24),(1,.i .u64 (u:Nat)),(4,.aa (i:Nat))]⟩) (λl=>l.1) [0] (cT,List.replicate 24 0,n) ⟨av,av,cn _,λX M z=>R⟩ (by show cT<4611686018427387904;omega) (bB (hp:=by show pinned f.length _ _=_;rw[af];rfl)) ?_;rintro⟨i,l,u⟩ c;have c:jS n cT i l u:=c;have K:=c.le;have g:u<=n:=by rw[c.u];exact jW _ _
  refine I 7<|cG (λC=>?_) λC=>?_
  ·obtain⟨aa,rfl⟩:∃aa,i=aa+8:=⟨i-8,R⟩;have e:u<1000000000:=by omega
   have t:=jS.two (i:=aa+6) c R;have D:=jS.two (i:=aa+4) t R;have N:=jS.two (i:=aa+2) D R;have O:=jS.two (i:=aa) N R;have E:=c.len;refine I 8<|aP 23 (.i .u32 ((u%100000000:Nat):Int)) j (congrArg (λn:Nat=>ag.i .u32 (n:Int)) (u1 e).1) ?_;refine I 7<|aP 25 (.i .u64 ((u/100000000:Nat):Int)) j (congrArg (λn:Nat=>ag.i .u64 (n:Int)) (u1 e).2.1) ?_;refine I 7<|aP 27 (.i .u32 ((u/10000%10000:Nat):Int)) j (congrArg (λn:Nat=>ag.i .u32 (n:Int)) (u1 e).2.2.1) ?_;refine I 2<|aP 29 (.i .u32 ((u%10000:Nat):Int)) j (congrArg (λn:Nat=>ag.i .u32 (n:Int)) (u1 e).2.2.2.1) ?_;refine I 9<|aP 32 (.i .u32 ((2*(u/100%100):Nat):Int)) j (congrArg (λn:Nat=>ag.i .u32 (n:Int)) (u1 e).2.2.2.2.1) ?_;refine I 3<|aP 35 (.i .u32 ((2*(u%100):Nat):Int)) j (congrArg (λn:Nat=>ag.i .u32 (n:Int)) (u1 e).2.2.2.2.2.1) ?_;refine I 9<|aP 38 (.i .u32 ((2*(u/100/100/100%100):Nat):Int)) j (congrArg (λn:Nat=>ag.i .u32 (n:Int)) (u1 e).2.2.2.2.2.2.1) ?_;refine I 3<|aP 41 (.i .u32 ((2*(u/100/100%100):Nat):Int)) j (congrArg (λn:Nat=>ag.i .u32 (n:Int)) (u1 e).2.2.2.2.2.2.2) ?_;refine I 9<|dD 44 (.aa (((aa+6)+1:Nat):Int)) j j eM<|I 2<|dD 49 (.i .u32 ((2*(u%100)+1:Nat):Int)) j j (congrArg (λn:Nat=>ag.i .u32 (n:Int))<|xi u) ?_;refine nZ (l:=l4) _ (ni _<|eG u al).2.1 ?_;refine cK j j<|nR (UInt8.ofNat<|48+u%100%10) ?_;refine I 3<|dD 47 (.aa ((aa+6):Nat)) j j eM<|I 1<|nZ (l:=l4) _ (ni _<|eG u al).1 ?_;refine cK j j<|nR (UInt8.ofNat<|48+u%100/10) ?_;refine I 7<|dD 57 (.aa (((aa+4)+1:Nat):Int)) j j eM<|I 2<|dD 62 (.i .u32 ((2*((u/100)%100)+1:Nat):Int)) j j (congrArg (λn:Nat=>ag.i .u32 (n:Int))<|xi<|u/100) ?_;refine nZ (l:=l4) _ (ni _<|eG (u/100) al).2.1 ?_;refine cK j j<|nR (UInt8.ofNat<|48+(u/100)%100%10) ?_;refine I 3<|dD 60 (.aa ((aa+4):Nat)) j j eM<|I 1<|nZ (l:=l4) _ (ni _<|eG (u/100) al).1 ?_;refine cK j j<|nR (UInt8.ofNat<|48+(u/100)%100/10) ?_;refine I 7<|dD 70 (.aa (((aa+2)+1:Nat):Int)) j j eM<|I 2<|dD 75 (.i .u32 ((2*((u/100/100)%100)+1:Nat):Int)) j j (congrArg (λn:Nat=>ag.i .u32 (n:Int))<|xi<|u/100/100) ?_;refine nZ (l:=l4) _ (ni _<|eG (u/100/100) al).2.1 ?_;refine cK j j<|nR (UInt8.ofNat<|48+(u/100/100)%100%10) ?_;refine I 3<|dD 73 (.aa ((aa+2):Nat)) j j eM<|I 1<|nZ (l:=l4) _ (ni _<|eG (u/100/100) al).1 ?_;refine cK j j<|nR (UInt8.ofNat<|48+(u/100/100)%100/10) ?_;refine I 7<|dD 83 (.aa ((aa+1:Nat):Int)) j j eM<|I 2<|dD 88 (.i .u32 ((2*((u/100/100/100)%100)+1:Nat):Int)) j j (congrArg (λn:Nat=>ag.i .u32 (n:Int))<|xi<|u/100/100/100) ?_;refine nZ (l:=l4) _ (ni _<|eG (u/100/100/100) al).2.1 ?_;refine cK j j<|nR (UInt8.ofNat<|48+(u/100/100/100)%100%10) ?_;refine I 3<|dD 86 (.aa (aa:Nat)) j j eM<|I 1<|nZ (l:=l4) _ (ni _<|eG (u/100/100/100) al).1 ?_;refine cK j j<|nR (UInt8.ofNat<|48+(u/100/100/100)%100/10) ?_;exact I 8<|bW [0] (aa,_,u/100/100/100/100) ⟨by show aa<aa+8;omega,O⟩ (bB (hp:=by show pinned f.length _ _=_;rw[af];rfl))
  ·exact I 4<|bW [0] (i,l,u) ⟨c,R⟩ (bB (hp:=by show pinned f.length _ _=_;rw[af];rfl))
 rintro⟨i,l,u⟩ ⟨c,C⟩;have c:jS n cT i l u:=c;have C:i<8:=C;have g:u<=n:=by rw[c.u];exact jW _ _
 refine I 14<|aP 12 (.i .u32 (u:Nat)) j fu<|gQ (L:=Nat×ac ci×Nat) (λ(i,l,u)=>jS n cT i l u/\i<4/\u<=n) (λ(i,l,u)=>⟨[.a 403 false 1 ci iy l],1,[(0,.aK 0 1 0 cT 24),(12,.i .u32 (u:Nat)),(4,.aa (i:Nat))]⟩) ?_ ?_
 ·refine cG (λB=>?_) λB=>?_
  ·obtain⟨aa,rfl⟩:∃aa,i=aa+4:=⟨i-4,R⟩;have t:=jS.two (i:=aa+2) c R;have D:=jS.two (i:=aa) t R;have E:=c.len;have e:u<1000000000:=by omega
   have K:=c.le;refine I 11<|aP 103 (.i .u32 ((u/10000:Nat):Int)) j (congrArg (λn:Nat=>ag.i .u32 (n:Int)) (MH e).1) ?_;refine I 8<|aP 106 (.i .u32 ((2*(u/100%100):Nat):Int)) j (congrArg (λn:Nat=>ag.i .u32 (n:Int)) (MH e).2.1) ?_;refine I 3<|aP 109 (.i .u32 ((2*(u%100):Nat):Int)) j (congrArg (λn:Nat=>ag.i .u32 (n:Int)) (MH e).2.2) ?_;refine I 9<|dD 112 (.aa (((aa+2)+1:Nat):Int)) j j eM<|I 2<|dD 117 (.i .u32 ((2*(u%100)+1:Nat):Int)) j j (congrArg (λn:Nat=>ag.i .u32 (n:Int))<|xi u) ?_;refine nZ (l:=l4) _ (ni _<|eG u al).2.1 ?_;refine cK j j<|nR (UInt8.ofNat<|48+u%100%10) ?_;refine I 3<|dD 115 (.aa ((aa+2):Nat)) j j eM<|I 1<|nZ (l:=l4) _ (ni _<|eG u al).1 ?_;refine cK j j<|nR (UInt8.ofNat<|48+u%100/10) ?_;refine I 7<|dD 125 (.aa ((aa+1:Nat):Int)) j j eM<|I 2<|dD 130 (.i .u32 ((2*((u/100)%100)+1:Nat):Int)) j j (congrArg (λn:Nat=>ag.i .u32 (n:Int))<|xi<|u/100) ?_;refine nZ (l:=l4) _ (ni _<|eG (u/100) al).2.1 ?_;refine cK j j<|nR (UInt8.ofNat<|48+(u/100)%100%10) ?_;refine I 3<|dD 128 (.aa (aa:Nat)) j j eM<|I 1<|nZ (l:=l4) _ (ni _<|eG (u/100) al).1 ?_;refine cK j j<|nR (UInt8.ofNat<|48+(u/100)%100/10) ?_;exact I 7<|bW [0] (aa,_,u/100/100) ⟨D,by show aa<4;omega,cC (jW _ _)<|cC (jW _ _) g⟩ (bB (hp:=by show pinned f.length _ _=_;rw[af];rfl))
  ·exact I 1<|bW [0] (i,l,u) ⟨c,by show i<4;omega,g⟩ (bB (hp:=by show pinned f.length _ _=_;rw[af];rfl))
 rintro⟨i,l,u⟩ ⟨c,B,g⟩;have c:jS n cT i l u:=c;have B:i<4:=B;refine I 7<|gQ (L:=Nat×ac ci×Nat) (λ(i,l,u)=>jS n cT i l u/\i<2/\u<=n) (λ(i,l,u)=>⟨[.a 403 false 1 ci iy l],1,[(0,.aK 0 1 0 cT 24),(12,.i .u32 (u:Nat)),(4,.aa (i:Nat))]⟩) ?_ ?_
 ·refine cG (λz=>?_) λz=>?_
  ·obtain⟨aa,rfl⟩:∃aa,i=aa+2:=⟨i-2,R⟩;have t:=jS.two (i:=aa) c R;have E:=c.len;have e:u<1000000000:=by omega
   have K:=c.le;refine I 5<|aP 142 (.i .u32 ((2*(u%100):Nat):Int)) j (congrArg (λn:Nat=>ag.i .u32 (n:Int)) (X6 e).1) ?_;refine I 7<|aP 144 (.i .u32 ((u/100:Nat):Int)) j (congrArg (λn:Nat=>ag.i .u32 (n:Int)) (X6 e).2) ?_;refine I 8<|dD 147 (.aa ((aa+1:Nat):Int)) j j eM<|I 2<|dD 152 (.i .u32 ((2*(u%100)+1:Nat):Int)) j j (congrArg (λn:Nat=>ag.i .u32 (n:Int))<|xi u) ?_;refine nZ (l:=l4) _ (ni _<|eG u al).2.1 ?_;refine cK j j<|nR (UInt8.ofNat<|48+u%100%10) ?_;refine I 3<|dD 150 (.aa (aa:Nat)) j j eM<|I 1<|nZ (l:=l4) _ (ni _<|eG u al).1 ?_;refine cK j j<|nR (UInt8.ofNat<|48+u%100/10) ?_;exact I 7<|bW [0] (aa,_,u/100) ⟨t,by show aa<2;omega,cC (jW _ _) g⟩ (bB (hp:=by show pinned f.length _ _=_;rw[af];rfl))
  ·exact I 1<|bW [0] (i,l,u) ⟨c,by show i<2;omega,g⟩ (bB (hp:=by show pinned f.length _ _=_;rw[af];rfl))
 rintro⟨i,l,u⟩ ⟨c,z,g⟩;have c:jS n cT i l u:=c;have z:i<2:=z;have E:=c.len;refine I 6<|cG (λM=>?_) λM=>?_
 ·have F:i=1:=by omega
  subst F;have e:u<10:=by
   rw[c.u];refine vC ?_;have:=GS (b:=10) (n:=n) (k:=cT) al R
   rwa [show cT=(cT-1)+1 by omega,fD]at this
  have o:=c.one e;refine I 4<|aP 164 (.i .u32 ((48+u:Nat):Int)) j (congrArg (λn:Nat=>ag.i .u32 (n:Int)) (show(48+u)%4294967296=48+u by omega)) ?_;refine I 1<|aP 165 (.i .u8 ((UInt8.ofNat<|48+u).toNat:Int)) j (by rw[Ih])<|k4 (J:=0) j j<|kE (UInt8.ofNat<|48+u) ?_;refine I 1 ?_;exact an ⟨.inl j,_,j,by
   refine I 5<|eL (y8 (p:=0) (q:=cT) j j j dC (dw _) R sC) ?_;refine aP 23 (.aK 0 1 0 cT 24) j av<|KT (dI n) ?_ (ah:=by rw[o.len];omega) (aD:=o.fin G A R);refine I 5 ?_;exact an<|az j j dO⟩
 ·have F:i=0:=by omega
  subst F;have o:=c;refine I 1 ?_;exact an ⟨.inl j,_,j,by
   refine I 5<|eL (y8 (p:=0) (q:=cT) j j j dC (dw _) R sC) ?_;refine aP 23 (.aK 0 1 0 cT 24) j av<|KT (dI n) ?_ (ah:=by rw[o.len];omega) (aD:=o.fin G A R);refine I 5 ?_;exact an<|az j j dO⟩
def G3:bl where
 L:=Nat
 args:=λk=>[.i .u64 1,.i .u64 k]
 pre:=λk=>k<9
 res:=λk=>.bq [.i .u64 0,.i .u64 k]
def X7(h:k<9):k=0\/k=1\/k=2\/k=3\/k=4\/k=5\/k=6\/k=7\/k=8:=R
def amZ:dY bS.ctx 370 G3.spec:=by
 refine bR [] TW.1 ?_;intro(k:Nat) (c:k<9) H au;rcases X7 c with rfl|rfl|rfl|rfl|rfl|rfl|rfl|rfl|rfl
 all_goals
  exact I 99<|an (az j j dO)
def am0:dY bS.ctx 284 G3.spec:=by
 refine bR [(370,G3.spec)] Vj.1 ?_;intro(k:Nat) (c:k<9) H au;exact I 14<|aV amZ k c<|I 16<|an (az j j dO)
def G4:bl:=b3 λ((a,t,c):ci×ac ci×ci)=>([.s<|a::t,.s [c]],t.length<=1073741824,.b<|[a]==[c])
def am1:bt 207 G4:=by
 refine bR [] Ls.1 ?_;intro⟨a,t,c⟩ (e:t.length<=_) H au;refine I 13<|aP 10 (.b true) j dA<|I 7<|qD (p:=0) (q:=1) [a] ?_ (cz:=av);exact I 9<|an (az j j dO)
def MI:bt 233 G4:=by
 refine bR [(207,G4)] TJ.1 ?_;intro⟨a,t,c⟩ (e:t.length<=_) H au;exact I 9<|aV am1 (a,t,c) e<|I 4<|an (az j j dO)
def X8:bl:=b3 λ(k:Nat)=>([.s [48],.aa k],k<9,.s<|List.replicate k 48)
def X9:bt 174 X8:=by
 refine bR [(284,G3.spec),(233,G4)] SV.1 ?_;intro(k:Nat) (c:k<9) H au;rcases X7 c with rfl|rfl|rfl|rfl|rfl|rfl|rfl|rfl|rfl
 ·exact I 27<|an (az j j dO)
 ·exact I 35<|an (az j j dO)
 all_goals
  refine I 46<|aV am0 _ c<|I 45<|mH 48 (J:=0) j<|I 37<|aV MI (32,List.replicate 127 32,48) (hP j)<|I 13<|aV MI (45,List.replicate 127 45,48) (hP j)<|I 13<|aV MI (48,List.replicate 63 48,48) (hP j)<|I 8<|qD (p:=0) (l:=List.replicate 64 48) _ ?_ (aD:=j) (cz:=al);exact I 7<|an (az j j dO)
def am2:bt 173 G2:=by
 refine sa [(283,G2)] Uj.1 ?_;intro n ah e au c;exact I 9<|aV amY n ah (I 4<|an (az j j dO)) (cA:=c)
def am3(j:r<1000000000)(cz:q≠0):aW 10 (r+1000000000*q)=h6 9 r++aW 10 q:=by
 have ok:=alS (W8 9 r)<|gL al q;have g:val 10 (h6 9 r++aW 10 q)=r+1000000000*q:=by
  rw[lC,W9,xa,gl al];have:=gn R;rw[this]
 have e:eI (h6 9 r++aW 10 q)=h6 9 r++aW 10 q:=by
  have h:=sW (b:=10) al q;rcases od (aW 10 q)with c|⟨dc,d,c⟩
  ·exact absurd ((na al).1 c) cz
  ·rw[oe]at c;have f:d≠0:=by rw[c]at h;exact(zm (b:=10) h).2
   rw[c,<-rh,qK,aw f]
 rw[<-g];exact zn al ok e
def am4(D:r<1000000000):(h6 9 r).reverse=List.replicate (9-(dec r).length) 0++dec r:=by
 have A:(aW 10 r).length<=9:=je al R;by_cases o:r=0
 ·subst o;decide +kernel
 have e:h6 9 r=aW 10 r++List.replicate (9-(aW 10 r).length) 0:=by
  apply p0;intro c;have g:∀c,c<9->(h6 9 r)[c]? =some (r/10^c%10):=λc j=>by simp[h6,j]
  by_cases j:c<9
  ·rw[g c j];by_cases f:c<(aW 10 r).length
   ·rw[sk f,s6 al f]
   ·have t:=Decidable.not_not.1 λh=>f<|(w7 al).2 h;rw[vu R,H5,aE R,t]
  ·rw[sm<|by rw[xa];omega,sm dA]
 have z:dec r=(aW 10 r).reverse:=by unfold dec;rw[aw o]
 rw[e,ri,List.reverse_replicate,z,oh]
def Ya(j:r<1000000000)(cz:q≠0):dI (r+1000000000*q)=dI q++(List.replicate (9-(dI r).length) 48++dI r):=by
 have e:dec (r+1000000000*q)=dec q++(List.replicate (9-(dec r).length) 0++dec r):=by
  rw[<-am4 j];have c:dec (r+1000000000*q)=(aW 10<|r+1000000000*q).reverse:=by unfold dec;rw[aw R]
  have f:dec q=(aW 10 q).reverse:=by unfold dec;rw[aw cz]
  rw[c,f,am3 j cz,ri]
 unfold dI;rw[e,Mn,Mn,s8];congr 2;unfold g2;rw[List.map_replicate];rfl
def ta(s:ac ci):ac ag:=[.s s]
def l5(a8:ac (ac ci)):ac ci:=a8.reverse.flatten
def Yb(a8:ac (ac ci))(s:ac ci):l5 (a8++[s])=s++l5 a8:=by unfold l5;rw[ri];rfl
def am5{a8:ac (ac ci)}(h:k<a8.length):l5 (a8.drop k)=l5 (a8.drop<|k+1)++a8[k]:=by
 unfold l5;rw[gp h,List.reverse_cons];simp
def am6(m:Nat):ac (ac ci)->cl
 |[]=>⟨[],0,[(0,da m),(3,.nl)]⟩
 |p::a8=>⟨[.a 9 true 1 (ac ci) ta<|p::a8],1,[(0,da m),(3,.aK 0 1 0 (p::a8).length (p::a8).length)]⟩
def am7(a8:ac (ac ci))(k:Nat):ac ci->cl
 |[]=>⟨[.c 274 [.v<|.pointer none,.nl]],1,[(3,.cU 1 (ac ci) ta a8),(7,.p 0 0),(8,.aa<|(k:Int)-1)]⟩
 |c::cs=>⟨[.c 274 [.p 0 0,.aK 1 1 0 (c::cs).length (c::cs).length],.a 5 true 1 ci iy<|c::cs],2,[(3,.cU 1 (ac ci) ta a8),(7,.p 0 0),(8,.aa<|(k:Int)-1)]⟩
def am8:∀{a8:ac (ac ci)},(∀p∈a8,p.length<=9)->(l5 a8).length<=9*a8.length:=λ{a8} h=>by
 unfold l5
 induction a8 with
 |nil=>simp
 |cons p a8 c=>
  have g:=h p av;have e:=c λq f=>h q<|e5 _ f;simp at e⊢;omega
def MJ(h:dP k n):(aW 10 n).length<=10*k:=je al (by
 refine eR (uK h) ?_;rw[re];exact xY al k)
def am9(h:m≠0):(aW 10<|m/1000000000).length<(aW 10 m).length:=by
 rw[m9 al h];refine Nat.lt_succ_of_le<|je al<|mf ?_ (GS al<|cn _);omega
def ana(h:r<1000000000):(dI r).length<=9:=by
 unfold dI dec;rw[s8];split
 ·simp
 ·rw[oh];exact je al R
def Yc:bl:=pF mO mO.up λ(n:Nat)=>([da n],dP 1073741823 n,.s<|dI n)
def Yd:bt 86 Yc:=by
 refine sa [(172,LY),(173,G2),(174,X8)] UU.1 ?_;intro(n:Nat) (ah:dP _ n) H au a';refine I 13<|cG (λh=>?_) λh=>?_
 ·have ad:n=0:=s4.1 R;subst ad;exact I 7<|an (az j j dO)
 have X:n≠0:=λe=>h (by rw[e,gK];rfl);refine I 9<|j7 (L:=ac<|ac ci) (λf=>l5 f=dI n/\f≠[]/\f.length<=10737418230/\∀p∈f,p≠[]/\p.length<=9) (λf=>⟨[],0,[(3,.cU 1 (ac ci) ta f)]⟩) ?_ ?_
 ·refine eu (L:=Nat×ac (ac ci)) (λ(m,f)=>dP 1073741823 m/\f.length+(aW 10 m).length<=10737418230/\dI n=(if m=0 then[]else dI m)++l5 f/\(m=0->f≠[])/\∀p∈f,p≠[]/\p.length<=9) (λ(m,f)=>am6 m f) (λl=>(aW 10 l.1).length) [] (n,[]) ?_ ?_ bB ?_
  ·exact⟨ah,by show 0+(aW 10 n).length<=_;have:=MJ ah;omega,by rw[aw X];simp[l5],λh=>absurd h X,λp hp=>by simp at hp⟩
  ·show(aW 10 n).length<bx+1;have:=MJ ah;unfold bx;omega
  rintro⟨m,f⟩ ⟨A,t,a2,cD,cX⟩;rcases f with _|⟨p,f⟩
  all_goals
   refine I 8<|cG (λhm=>?_) (λhm=>?_)
   rotate_left
   ·have hm:m=0:=s4.1 R;subst hm
    first
    |exact absurd j (cD j)
    |refine KQ 3 ?_
     exact I 4<|dv [] (p::f) ⟨by rw[a2,aE j];rfl,av,by simp at t ⊢;omega,cX⟩
   have hm:m≠0:=λe=>by rw[e,gK]at hm;simp at hm
   have C:m%1000000000<1000000000:=eG _ al;have N:=am9 hm;have Q:=ana C;have ay:0<(dI<|m%1000000000).length:=o2.2<|uZ _;refine I 6<|aV Wa (m,1000000000) ⟨cP A,by show 0<1000000000;decide,by show 1000000000<4294967296;decide⟩<|I 11<|aP 21 (.i .u64 ((m%1000000000:Nat):Int)) j (congrArg (λn:Nat=>ag.i .u64 (n:Int))<|gn<|Nat.lt_trans C al) ?_;refine aV am2 (m%1000000000) C ?_ (cA:=a');have E:m%1000000000+1000000000*(m/1000000000)=m:=Ae _ _;generalize m%1000000000=r at *;generalize T:m/1000000000=q at *;refine e4 6 ?_
   iterate 3 refine fz j ?_
  ·refine gQ (L:=ac ci) (λg=>g≠[]/\g.length<=9/\dI m=(if q=0 then[]else dI q)++g) (λg=>⟨[],0,[(3,.nl),(4,da q),(6,.s g)]⟩) ?_ ?_
   ·refine I 7<|cG (λo=>?_) λo=>?_
    ·have o:q≠0:=λe=>by rw[e,gK]at o;simp at o
     obtain⟨z,J⟩:∃z:Nat,z=9-(dI r).length:=dC;refine I 4<|cd 28 (z:Nat)<|aV X9 z (by show z<9;omega)<|I 1<|r3 ?_ (aD:=by rw[xM];omega);refine I 2 ?_;refine bW [] (List.replicate z 48++dI r) ⟨by simp[uZ],by rw[kz,xM];omega,by rw[aw o,<-E,J];exact Ya C o⟩ bB
    ·have o:q=0:=s4.1 R;exact I 1<|dv [] (dI r) ⟨uZ _,Q,by rw[aE o,<-E,o];rfl⟩
   rintro g ⟨bH,D,K⟩;refine I 5<|y4 ta [g] (jt (ai:=ta) [g] j) ?_;refine I 8<|dv [1] (q,[g]) ⟨by show(aW 10 q).length<(aW 10 m).length;exact N,s3 A<|by rw[<-T];exact jW _ _,by show 1+(aW 10 q).length<=_;simp at t;omega,by rw[a2,aw hm,K,rh,show l5 [g]=g++l5 []from Yb [] g],λ_=>av,?_⟩;intro x G;have:x=g:=by simpa using G
   subst this;exact⟨bH,D⟩
  ·refine gQ (L:=ac ci) (λg=>g≠[]/\g.length<=9/\dI m=(if q=0 then[]else dI q)++g) (λg=>⟨[.a 9 true 1 (ac ci) ta<|p::f],1,[(3,.aK 0 1 0 (p::f).length (p::f).length),(4,da q),(6,.s g)]⟩) ?_ ?_
   ·refine I 7<|cG (λo=>?_) λo=>?_
    ·have o:q≠0:=λe=>by rw[e,gK]at o;simp at o
     obtain⟨z,J⟩:∃z:Nat,z=9-(dI r).length:=dC;refine I 4<|cd 28 (z:Nat)<|aV X9 z (by show z<9;omega)<|I 1<|r3 ?_ (aD:=by rw[xM];omega);refine I 2 ?_;refine bW [0] (List.replicate z 48++dI r) ⟨by simp[uZ],by rw[kz,xM];omega,by rw[aw o,<-E,J];exact Ya C o⟩ bB
    ·have o:q=0:=s4.1 R;exact I 1<|dv [0] (dI r) ⟨uZ _,Q,by rw[aE o,<-E,o];rfl⟩
   rintro g ⟨bH,D,K⟩;refine I 5 ?_;have ar:f.length<=10737418230:=by simp at t;omega
   refine y5 (ai:=ta) [g] (jt (ai:=ta) [g] j) ?_;refine I 8<|bW [2] (q,p::(f++[g])) ⟨by show(aW 10 q).length<(aW 10 m).length;exact N,s3 A<|by rw[<-T];exact jW _ _,by simp at t ⊢;omega,by rw[a2,aw hm,K,rh,show l5 (p::(f++[g]))=g++l5 (p::f)from Yb (p::f) g],λ_=>av,?_⟩ (bB (aL:=⟨j,congrArg (λk=>some<|ag.aK 2 1 0 k k) av,aC⟩));intro x G;rcases hf.1 (show x∈(p::f)++[g]from G)with h|h
   ·exact cX x h
   ·have:x=g:=by simpa using h
    subst this;exact⟨bH,D⟩
 rintro f ⟨A,t,a2,cD⟩;have cX:0<f.length:=o2.2 t;have S:∀k,(l5<|f.drop k).length<=9*f.length:=λk=>cC (am8 λp hp=>(cD p<|xU hp).2)<|lK _ av;refine I 15<|eu (L:=Nat×ac ci) (λ(k,bZ)=>k<=f.length/\l5 (f.drop k)=bZ) (λ(k,bZ)=>am7 f k bZ) (λl=>l.1) [0] (f.length,[]) ⟨cn _,by rw[sn];rfl⟩ (by show f.length<bx+1;unfold bx;omega) bB ?_;rintro⟨k,bZ⟩ ⟨ao,B⟩;cases k with
 |zero=>
  rw[iQ,A]at B;cases bZ with
  |nil=>exact absurd B (uZ n)
  |cons c cs=>
   have F:=S 0;rw[iQ,A,B]at F;refine I 15<|wL Tz.1 br ?_;intro O W Z _ _;refine I 11<|afg ?_ (aS:=av);refine I 5<|afh ?_ (bX:=av) (aA:=R);refine I 4<|an ⟨.inr j,_,j,?_⟩;exact I 4<|an (az j j (.of<|by show ag.s (c::cs)=ag.s (dI n);rw[B]))
 |succ m=>
  have hm:m<f.length:=R
  obtain⟨bH,D⟩:=cD _<|dx hm;have M:=am5 hm;rw[B]at M;have F:=S<|m+1;rw[B]at F;have Y:f[m]? =some f[m]:=a0 hm;generalize f[m]=s at *;cases bZ with
  |nil=>
   obtain⟨c,cs,rfl⟩:∃c cs,s=c::cs:=by cases s with
    |nil=>exact absurd j bH
    |cons c cs=>exact⟨c,cs,j⟩
   refine aP 8 (.aa (m:Nat)) j fu<|I 15<|aP 41 (.b true) j av<|fc (c::cs) Y j<|I 1<|wL Ly.1 br ?_;intro O W Z _ _;refine I 9<|wL Lt.1 br ?_;intro ab ae aj _ _;refine I 6<|eL (afe j j) ?_;refine I 6<|eL (ae5 j j al) ?_;refine I 1<|eL (ae6 j j j) ?_;refine I 4<|an ⟨.inl j,_,j,?_⟩;refine I 10<|afb ?_;refine I 14<|an ⟨.inr j,_,j,?_⟩;exact I 8<|bW [0,1] (m,c::cs) ⟨av,R,M⟩ bB
  |cons af bZ=>
   have ax:bZ.length<=96636764070:=by simp at F;omega
   have ak:s.length<=9:=D;refine aP 8 (.aa (m:Nat)) j fu<|I 15<|aP 41 (.b true) j av<|fc s Y j<|I 1<|wL Ly.1 br ?_;intro O W Z _ _;refine I 9<|wL Lt.1 br ?_;intro ab ae aj _ _;refine I 17<|eL (aff j j) ?_;refine I 4<|an ⟨.inl j,_,j,?_⟩;refine I 10<|afc ?_ (bX:=bH);refine I 14<|an ⟨.inr j,_,j,?_⟩;exact I 8<|bW [0,2] (m,af::(bZ++s)) ⟨av,R,M⟩ (bB (aF:=⟨⟨_,j,congrArg (λk=>a4.c 274 [.p 0 0,.aK 2 1 0 k k]) dA⟩,jN,aC⟩))
def G5(h:dP k n):(dI n).length<=10*k+1:=by
 have:=MJ h;unfold dI dec;rw[s8];split
 ·simp
 ·rw[oh];omega
def Ye:bl:=pF mO mO.up λ(x:Rat)=>([cc x],b9 268435456 x,.s<|hc x)
def Yf:bt 26 Ye:=by
 refine sa [(86,Yc)] Th.1 ?_;intro(x:Rat) (o:b9 _ x) H au t;have A:=G5 o.1;have B:=G5 o.2;refine I 10<|aV Yd x.num.natAbs (cP o.1) ?_ (cA:=t);refine e4 3 ?_
 iterate 3 refine fz j ?_
 obtain⟨u,g⟩:∃u,u=(if x.num<0 then[45]else[])++dI x.num.natAbs:=dC;have C:u.length<=10*268435456+2:=by
  rw[g,kz];have:(if x.num<0 then([45]:ac ci)else[]).length<=1:=by split<;>simp
  omega
 refine gQ (L:=Unit) (λ_=>True) (λ_=>⟨[.c 45<|gA x],1,[(1,.p 0 0),(3,.s u)]⟩) ?_ ?_
 ·refine I 6<|cG (λh=>?_) λh=>?_
  ·refine I 2<|r3 ?_ (aD:=by show 1+(dI _).length<=_;omega);exact I 2<|bW [0] () aC (bB (aL:=⟨j,by rw[g,aE h];rfl,aC⟩))
  ·exact I 1<|bW [0] () aC (bB (aL:=⟨j,by rw[g,aw h];rfl,aC⟩))
 intro _ _;refine I 5 ?_;by_cases f:x.den=1
 ·refine aP 12 (.gb 1 Nat fI []) j (by show oM x.den=_;rw[f];rfl)<|I 13<|an (az j j<|.of ?_);show ag.s u=ag.s (hc x);unfold hc;rw[<-g,aE f,rb]
 ·refine cg 12 (Cg f) ?_;have z:(aW 4294967296 x.den).isEmpty=false:=Ib.2 λe=>x.den_nz<|(na al).1 e;refine I 3<|Q5 j (by show mC true _=true;rw[z];rfl) ?_;refine I 4<|ix 16 (da x.den) j (Wq f)<|aV Yd x.den (cP o.2) (r3 ?_ (aD:=by show 1+(dI _).length<=_;omega)) (cA:=t);refine r3 ?_ (aD:=by rw[kz];show u.length+(1+(dI _).length)<=_;omega);refine I 10<|an (az j j<|.of ?_);show ag.s (u++([47]++dI x.den))=ag.s (hc x);unfold hc;rw[<-g,aw f];rfl
def Yg:bl:=b3 λ(s:ac ci)=>([.s s],jf s/\s.length<=2100,da<|b6 s)
def Cz(v:Nat)(rest:ac ci):ac a4:=[.c 43 [da v],.c 9 [.s rest]]
def CA{v K:Nat}(h:v<10^k)(ax:k<=K):dP K v:=sb<|eR h<|cC (xY al k)<|jG al ax
def tb:d7->dL:=bG [(56,w2),(61,uH),(63,LU)]
def MK:bt 55 Yg:=by
 refine afm bS.ea eo tb (aZ:=Tm.1) br (λl aT st ⟨_,_,_,d⟩=>by rw[gd d];exact hP j) ?_;rintro⟨s,aw⟩ aT st ⟨⟨ao,aD⟩,_,af,aj⟩;have ao:jf s:=ao;have aD:s.length<=2100:=aD;have af:Fit aw [] st [] 0:=af;have aj:cB aw [.s s] [] aT:=aj;have b':=cN.zero aj;obtain⟨cw,cv,ad,ct,a6,ax,a4,bD,ew⟩:=K2 (call:=b7 aI (cj bS.ctx tb)<|bx+1) (bb:=bx+1) (fn:=55) (ops:=[C.m 2 C.bQ]) (s:=⟨[],0,hJ 0 [.s s]⟩) (t:=⟨[],0,[(2,.nl),(0,.s s)]⟩) j (by
  intro ad aN au _ _;refine I 2 ?_;exact an eT) af b'
 obtain⟨cE,cu,bN,cp,bz,ay,iY,bE,ft⟩:=K2 (call:=b7 aI (cj bS.ctx tb)<|bx+1) (bb:=bx+1) (fn:=55) (ops:=[C.gq 3 [C.N] 43]) (s:=⟨[],0,[(2,.nl),(0,.s s)]⟩) (t:=⟨[.c 43 [da 0]],1,[(3,.p 0 0),(2,.nl),(0,.s s)]⟩) j (by
  intro ad aN au _ _
  iterate 1 refine fz j ?_
  refine afo 0 (cs:=[.nl]) [da 0] ⟨bJ.nl.trans (.of<|by show di []=di (aW _ 0);rw[gK]),aC⟩ ?_;refine I 1 ?_;exact an eT) a4 bD
 obtain⟨F,W,ch,M,bq,az,bc,Z,mA⟩:=K2 (call:=b7 aI (cj bS.ctx tb)<|bx+1) (bb:=bx+1) (fn:=55) (ops:=[C.m 6 0,C.c 7 127 [6]]) (s:=⟨[.c 43 [da 0]],1,[(3,.p 0 0),(2,.nl),(0,.s s)]⟩) (t:=⟨Cz 0 s,2,[(7,.fn (.func 221) [] [.p 1 0]),(6,.s s),(3,.p 0 0),(2,.nl),(0,.s s)]⟩) j (by
  intro ad aN au _ _;refine I 1<|wL Uh.1 br ?_;intro bN cx cF _ _;refine I 13<|an ⟨.inr j,_,j,?_⟩;refine I 1 ?_;exact an eT) iY bE
 have b3:F.b1=none:=mA.trans<|ft.trans ew;obtain⟨B6,H,bd,cf,cl,aM,aA,aB,⟨bU,bo⟩,cD,aX,bf,aY⟩:=afI (X:=bS.ctx) (aI:=aI) (bk:=tb) (bb:=bx+1) (n:=4611686018427387902) (fn:=55) b3 bc Z (f:=7) (a8:=[8,9]) (dV:=C.q (C.ai [C.m 4 8])<|C.ai [C.m 5 9]) (body:=C.K 1<|.qc [C.D (C.m 11 5) [5],C.D (C.jv 12 .u64 11) [11],C.E<|C.c 13 56 [12],C.JU (C.l 10 3) 1 [3],C.E<|C.c 14 61 [10,13],C.JU (C.m 15 4) 2 [4],C.JU (C.jv 16 .u64 15) 2 [15],C.E<|C.c 17 56 [16],C.E<|C.c 18 63 [14,17],C.E<|C.st 1 3 18] [1,2,3,0,4,5,6,7,8,9] [10,15,16] [0,1,3,0,15,0,32,127,255,511]) (g:=221) (aZ:=Vh.1) (qF:=[.p 1 0]) (λr U=>r=none/\U=Cz (b6 s) []) br j j (hP j) (by
  intro au l G bM;have G:M.length=2:=G;refine I 1<|eu (L:=ac ci×Nat) (λ(A,v)=>jf A/\A.length<=s.length/\v<10^(s.length-A.length)/\b6 s=b6 A+10^A.length*v) (λ(A,v)=>⟨Cz v A,2,[(0,.v<|.func (.yield l) #[] #[]),(1,.p 1 0)]⟩) (λl=>l.1.length) [0,1] (s,0) ⟨ao,cn _,av,av⟩ (by show List.length s<4611686018427387904;omega) (bB (hp:=by show pinned M.length _ _=_;rw[G];rfl)) ?_;rintro⟨A,v⟩ ⟨a',cr,a2,cD⟩;refine I 8<|cG (λO=>?_) λO=>?_
  ·have O:0<A.length:=by omega
   refine I 16<|j7 (L:=ac ci×ac ci) (λ(w,z)=>A=w++z/\w.length<=9/\w≠[]) (λ(w,z)=>⟨Cz v z,2,[(0,.v<|.func (.yield l) #[] #[]),(1,.p 1 0),(3,.i .u32 (b6 w:Nat)),(4,.i .u32 ((10^w.length:Nat):Int))]⟩) ?_ ?_
   ·refine eu (L:=ac ci×ac ci) (λ(w,z)=>A=w++z/\w.length<=9) (λ(w,z)=>⟨Cz v z,2,[(0,.v<|.func (.yield l) #[] #[]),(1,.p 1 0),(3,.i .u32 (b6 w:Nat)),(4,.i .u32 ((10^w.length:Nat):Int)),(5,.aa (w.length:Nat))]⟩) (λl=>9-l.1.length) [0,1] ([],A) ⟨j,al⟩ (by show 9-0<4611686018427387904;decide) (bB (hp:=by show pinned M.length _ _=_;rw[G];rfl)) ?_;rintro⟨w,z⟩ ⟨bH,Y⟩;have ar:jf w:=λc Q=>a' c (by rw[bH];exact nu _ Q);have T:=l3 ar;refine I 6 ?_;by_cases aS:w.length<9
    ·refine aP 11 (.b true) j (congrArg ag.b<|ck R) ?_;cases z with
     |nil=>
      exact I 14<|bW [0,1] (w,[]) ⟨bH,Y,λe=>by rw[e]at bH;rw[bH]at O;simp at O⟩ (bB (hp:=by show pinned M.length _ _=_;rw[G];rfl))
     |cons c z=>
      have Q:=a' c (by rw[bH];simp);have S:10^w.length<=100000000:=cC (jG al (show w.length<=8 by omega)) al;have c':=XI w c;have b0:10^(w++[c]).length=10*10^w.length:=by rw[kz,List.length_singleton,fD,fT]
      refine I 7<|aP 15 (.b true) j av<|I 12<|mH c (J:=0) j ?_;have bg:(c.toNat+(256*48-48))%256=c.toNat-48:=R
      have bh:(10*b6 w%4294967296+(c.toNat-48)%4294967296)%4294967296=b6 (w++[c]):=by rw[c'];generalize b6 w=x at *;generalize 10^w.length=P at *;omega
      have a0:10*10^w.length%4294967296=10^(w++[c]).length:=by rw[b0];generalize 10^w.length=P at *;omega
      refine I 1<|wY 22 .u8 bg ?_;refine I 2<|wY 24 .u32 bh ?_;refine I 2<|wY 26 .u32 a0 ?_;refine I 6<|qD (p:=1) z ?_ (hp:=av) (cz:=av);exact I 9<|bW [0,1] (w++[c],z) ⟨by simp;omega,by rw[bH];simp,by simp;omega⟩ (bB (aL:=⟨j,j,j,j,congrArg (λn=>some<|ag.aa n)<|sX av R R,aC⟩) (hp:=by show pinned M.length _ _=_;rw[G];rfl))
    ·exact aP 11 (.b false) j (congrArg ag.b<|cq R)<|I 11<|bW [0,1] (w,z) ⟨bH,Y,λe=>by rw[e]at aS;simp at aS⟩ (bB (hp:=by show pinned M.length _ _=_;rw[G];rfl))
   rintro⟨w,z⟩ ⟨bH,Y,bA⟩;refine I 5 ?_;have ar:jf w:=λc Q=>a' c (by rw[bH];exact nu _ Q);have T:=l3 ar;have S:10^w.length<=1000000000:=cC (jG al Y) al;have aG:A.length=w.length+z.length:=by rw[bH,kz]
   have b8:b6 A=b6 z+10^z.length*b6 w:=by rw[bH,XH]
   have aU:v*10^w.length+b6 w<10^(s.length-z.length):=by
    rw[show s.length-z.length=(s.length-A.length)+w.length by omega,h8];refine eR (Nat.add_lt_add_left T _) ?_;rw[<-C2];exact hA _ a2
   have cb:b6 s=b6 z+10^z.length*(v*10^w.length+b6 w):=by
    rw[cD,b8,aG,h8,ia];rw[fT (10^w.length)<|10^z.length,h9,fT (10^w.length) v];omega
   have aK:dP 2100 v:=CA a2 R;have aH:dP 2100 (10^w.length):=CA (k:=w.length+1) (Nat.pow_lt_pow_right al<|vw _) R;have bT:dP 2100 (b6 w):=CA T R;have cd:10^w.length%18446744073709551616=10^w.length:=gn<|mf S al;have cc:b6 w%18446744073709551616=b6 w:=gn<|eR T<|cC S al;refine afG bM (iW:=[(5,.i .u32 ((10^w.length:Nat):Int)),(4,.i .u32 (b6 w:Nat)),(9,.i .u32 ((10^w.length:Nat):Int)),(8,.i .u32 (b6 w:Nat)),(7,.fn (.func 221) [] [.p 1 0]),(6,.s s),(3,.p 0 0),(2,.nl),(0,.s s)]) ?_ ?_
   ·intro ba aQ a5;exact I 8<|an eT
   ·intro ba aQ a5 aF _;have aF:aQ.length=2:=aF;refine I 4<|wn 12 .u64 cd ?_;refine cm qL (10^w.length:Nat) (mf S al)<|I 1<|cm s0 (v,10^w.length) ⟨cP aK,cP aH⟩<|I 2<|wn 16 .u64 cc ?_;refine cm qL (b6 w) (eR T<|cC S al)<|cm V2 (v*10^w.length,b6 w) ⟨cP<|ka aK aH,cP bT⟩<|I 3<|an ⟨j,?_⟩;exact I 6<|bW [0,1] (z,v*10^w.length+b6 w) ⟨by rw[aG];have:=o2.2 bA;show z.length<_;omega,λc Q=>a' c<|by rw[bH];exact H0 _ Q,R,aU,cb⟩ (bB (hp:=by show pinned M.length _ _=_;rw[G];rfl))
  ·have O:A=[]:=H9.1 R;subst O;have bn:b6 s=v:=by rw[cD];simp[b6,nX,val]
   refine I 4 ?_;exact an<|.inl ⟨.inl j,dC,j,by rw[bn]⟩)
 subst bU;subst bo;obtain⟨B,ab⟩:∃bL,bL=(⟨F.t,{target:=.collected W.ae,args:= #[]}::F.c4,F.aR,F.cL,F.b1⟩:aJ):=dC;rw[<-ab]at aM;have b5:B.t=F.t:=by rw[ab]
 have bs:B.c4={target:=.collected W.ae,args:= #[]}::F.c4:=by rw[ab]
 have aV:B.cL=F.cL:=by rw[ab]
 obtain⟨b,bI,bO⟩:=Z.get 3 (.p 0 0) j;have bm:B.tmp 3= .pointer (some ⟨b,0,none⟩):=by
  have e:B.tmp 3=F.tmp 3:=by unfold aJ.tmp;rw[b5]
  rw[e];exact bO
 obtain⟨⟨cH,bp,v,b9,rfl,bu,ak⟩,_⟩:=aB.own 0 (.c 43 [da<|b6 s]) b j<|aA.jy 0 b bI;have ak:b9=[]:=ak;subst ak;have bV:bw (b7 aI (cj bS.ctx tb)<|bx+1) (.h2<|.tmp 3) B H= .ok v B H:=yW (by show B.tmp 3=_;exact bm) bp j;have a7:=((ax.trans ay).trans az).trans aA;have bX:st.ae<=W.ae:=((ax.trans ay).trans az).ae;refine FE a6<|FE bz<|FE (afk bq<|afl aM) ?_;refine FE (eU:=(B.put (some 19) v).put (some 2) v) (b4:=H) ?_ ?_
 ·show fV (b7 aI (cj bS.ctx tb)<|bx+1) (⟨some 19,.h2<|.tmp 3,none⟩::[⟨some 2,.jl<|.tmp 19,none⟩]) B H=_;rw[Sym.sJ,bV,Sym.wu,Sym.sJ];show fV (b7 aI (cj bS.ctx tb)<|bx+1) [] ((B.put (some 19) v).put (some 2)<|(B.put (some 19) v).tmp 19) H=_;rw[qi,aE j];rfl
 ·refine⟨.ret,(B.put (some 19) v).put (some 2) v,H,j,.inr j,v,⟨H.h.set W.ae<|.jm none,H.ae⟩,?_,bd,?_,?_,?_⟩
  ·have a3:((B.put (some 19) v).put (some 2) v).c4=[{target:=.collected W.ae,args:= #[]}]:=by
    rw[(qj _ _ _).1,(qj _ _ _).1,bs,Z.pl.c4]
   have bj:((B.put (some 19) v).put (some 2) v).cL=false:=by
    rw[(qj _ _ _).2.2.1,(qj _ _ _).2.2.1,aV,Z.pl.cL]
   have:=afn (call:=b7 aI (cj bS.ctx tb)<|bx+1) (t:=2) a3 bj cD;rw[qi,aE j]at this;exact this
  ·exact(aB.other aX aY bf<|.jm none).less
  ·exact(a7.other bX<|.jm none).less
  ·exact sK _ j bu _
def jB(n:Bool)(P q:ac ci)(e:Bool):Prop:=hv P/\¬(n=true/\P=[48])/\(e=true->hv q/\q≠[48]/\q≠[49])
instance(n:Bool)(P q:ac ci)(e:Bool):Decidable (jB n P q e):=by unfold jB;infer_instance
def CB{N:Nat}(M:s.length<=N):∃P q f,nh (df s).2= .bq [.s P,.s q,.b f]/\(df s).2.length<=N/\P.length<=N/\q.length<=N/\(¬jB (df s).1 P q f->dq s=none)/\
 (jB (df s).1 P q f->f=false->dq s=some (mkRat (hx (df s).1<|b6 P) 1))/\(jB (df s).1 P q f->f=true->dq s=if Nat.gcd (b6 P) (b6 q)=1 then some (mkRat (hx (df s).1<|b6 P)<|b6 q)else none):=by
 have D:=XL s;unfold dq nh;obtain⟨⟨n,t⟩,H⟩:∃g,g=df s:=dC;rw[<-H]at D⊢;simp only at D⊢;have C:t.length<=N:=by have:=congrArg List.length D;rw[kz]at this;omega
 obtain⟨E,B,nV⟩:=Mp t;obtain⟨⟨P,Q⟩,L⟩:∃g,g=cutAt t:=dC;rw[<-L]at E B nV⊢;simp only at E B nV⊢;cases Q with
 |none=>
  have F:=nV j;subst F;refine⟨t,[],false,j,C,C,by exact dw _,λh=>aw λc=>h ⟨c.1,c.2,λe=>by cases e⟩,λh _=>aE ⟨h.1,h.2.1⟩,λ_ h=>by cases h⟩
 |some q=>
  have I:=B q j;have O:P.length+q.length<=N:=by have:=congrArg List.length I;rw[kz,hN]at this;omega
  refine⟨P,q,true,j,C,R,R,λh=>?_,(λ_ h=>by cases h),λh _=>?_⟩
  ·by_cases o:hv P/\¬(n=true/\P=[48])
   ·rw[aE o];exact aw λc=>h ⟨o.1,o.2,λ_=>⟨c.1,c.2.1,c.2.2.1⟩⟩
   ·rw[aw o]
  ·obtain⟨o,K,A⟩:=h;obtain⟨A,G,J⟩:=A j;rw[aE ⟨o,K⟩];by_cases z:Nat.gcd (b6 P) (b6 q)=1
   ·rw[aE z];exact aE ⟨A,G,J,z⟩
   ·rw[aw z];exact aw λc=>z c.2.2.2
def jT(s:ac ci):ag:=match dq s with
 |some x=>.bq [cc x,.aa 0]
 |none=>.bq [cc 0,.aa 6]
def CC:bl:=b3 λ(s:ac ci)=>([.s s],s.length<=2000,jT s)
def Yh{v:Nat}(h:v<10^k)(ax:k<=2000):dP 250 v:=sb<|eR h<|cC (jG al ax) R
def CD(s:ac ci):ac ci:=(cutAt (df s).2).1
def xj(s:ac ci):be (ac ci):=(cutAt (df s).2).2
def u2(s:ac ci):Prop:=hv (CD s)/\¬((df s).1=true/\CD s=[48])/\∀q,xj s=some q->hv q/\q≠[48]/\q≠[49]
def xk(s:ac ci):Prop:=2000<(CD s).length\/∃q,xj s=some q/\2000<q.length
open Classical in
def g3(s:ac ci):Int:=if u2 s then(if xk s then 3 else if(dq s).isSome then 0 else 6)else 6
def sg(s:ac ci):Rat:=if g3 s=0 then(dq s).getD 0 else 0
def anb(h:¬u2 s):g3 s=6:=aw h
def Yi(h:u2 s)(aD:xk s):g3 s=3:=(aE h).trans<|aE aD
def Yj(h:u2 s)(aD:¬xk s)(hp:dq s=some x):g3 s=0/\sg s=x:=by
 have e:g3 s=0:=(aE h).trans ((aw aD).trans<|by rw[hp];rfl);exact⟨e,(aE e).trans<|by rw[hp];rfl⟩
def anc(h:u2 s)(aD:¬xk s)(hp:dq s=none):g3 s=6:=(aE h).trans ((aw aD).trans<|by rw[hp];rfl)
def G6(h:g3 s≠0):sg s=0:=aw h
def ane(h:dq s=some x):u2 s:=by
 unfold dq at h;split at h
 ·rename_i e;split at h
  ·rename_i g;exact⟨e.1,e.2,λq c=>by unfold xj at c;rw[g]at c;cases c⟩
  ·rename_i q g;split at h
   ·rename_i f;exact⟨e.1,e.2,λj c=>by unfold xj at c;rw[g]at c;cases c;exact⟨f.1,f.2.1,f.2.2.1⟩⟩
   ·cases h
 ·cases h
def anf(s:ac ci):b9 250 (sg s):=by
 unfold sg;split
 case isFalse=>exact eb<|GD 0 al al
 rename_i h;unfold g3 at h;split at h
 case isFalse=>cases h
 rename_i f;split at h
 case isTrue=>cases h
 rename_i g;split at h
 case isFalse=>cases h
 rename_i t;obtain⟨x,c⟩:=zZ.1 t;rw[c];have z:=vD λh=>g<|.inl h;have o:=Yh (l3 f.1.2.1) z;unfold dq at c;split at c
 case isFalse=>cases c
 split at c
 ·cases c;exact nc (by rw[nf];exact o) (cP<|h5 al) al
 ·rename_i q D;have j:=D;have B:=vD λh=>g<|.inr ⟨q,j,h⟩;obtain⟨e,A,E⟩:=f.2.2 q j;split at c
  ·cases c;exact nc (by rw[nf];exact o) (Yh (l3 e.2.1) B) λC=>A<|sf e C
  ·cases c
def Yk{N:Nat}(F:s.length<=N):∃P q e,nh (df s).2= .bq [.s P,.s q,.b e]/\(df s).2.length<=N/\P.length<=N/\q.length<=N/\(¬jB (df s).1 P q e->g3 s=6/\dq s=none)/\
 (jB (df s).1 P q e->2000<P.length\/2000<q.length->g3 s=3)/\
 (jB (df s).1 P q e->¬(2000<P.length\/2000<q.length)->∀x,dq s=some x->g3 s=0/\sg s=x)/\(jB (df s).1 P q e->¬(2000<P.length\/2000<q.length)->dq s=none->g3 s=6)/\
 (jB (df s).1 P q e->e=false->dq s=some (mkRat (hx (df s).1<|b6 P) 1))/\(jB (df s).1 P q e->e=true->dq s=if Nat.gcd (b6 P) (b6 q)=1 then some (mkRat (hx (df s).1<|b6 P)<|b6 q)else none):=by
 obtain⟨P,q,e,z,K,G,E,H,I,J⟩:=CB F;have key:P=CD s/\((e=false/\xj s=none/\q=[])\/(e=true/\xj s=some q)):=by
  unfold nh at z;unfold CD xj;split at z<;>rename_i D<;>cases z<;>rw[D]
  ·exact⟨(Mp (df s).2).2.2 D,.inl rD⟩
  ·exact⟨j,.inr eT⟩
 obtain⟨bH,B⟩:=key;have t:jB (df s).1 P q e↔u2 s:=by
  unfold jB u2;rw[bH];rcases B with⟨o,g,C⟩|⟨o,g⟩
  ·rw[o,g];exact⟨λh=>⟨h.1,h.2.1,λ_ h=>by cases h⟩,λh=>⟨h.1,h.2.1,λh=>by cases h⟩⟩
  ·rw[o,g];exact⟨λh=>⟨h.1,h.2.1,λ_ f=>by cases f;exact h.2.2 j⟩,λh=>⟨h.1,h.2.1,λ_=>h.2.2 _ j⟩⟩
 have A:(2000<P.length\/2000<q.length)↔xk s:=by
  unfold xk;rw[bH];rcases B with⟨o,g,C⟩|⟨o,g⟩
  ·rw[g,C];exact⟨λh=>h.elim .inl λh=>absurd h av,λh=>h.elim .inl λ⟨_,h,_⟩=>by cases h⟩
  ·rw[g];exact⟨λh=>h.elim .inl λh=>.inr ⟨_,j,h⟩,λh=>h.elim .inl λ⟨_,h,f⟩=>by cases h;exact .inr f⟩
 exact⟨P,q,e,z,K,G,E,λh=>⟨anb λf=>h<|t.2 f,H h⟩,λh f=>Yi (t.1 h)<|A.1 f,λa b x c=>Yj (t.1 a) (λh=>b<|A.2 h) c,λa b c=>anc (t.1 a) (λh=>b<|A.2 h) c,I,J⟩
def pQ(s:ac ci):ag:=.bq [cc<|sg s,.aa<|g3 s]
def CE:bl:=b3 λ(s:ac ci)=>([.s s],s.length<=1073741824,pQ s)
def G7:bt 11 CE:=by
 refine bR [(51,G0),(52,Cy.spec),(53,XV),(55,Yg),(56,w2),(54,uM),(58,L6),(57,L7)] tZ.1 ?_;intro(s:ac ci) (a':s.length<=1073741824) H au;have fail:∀c,c≠0->g3 s=c->bJ (.bq [.agg [.b false,.nl,.nl],.aa c]) (CE.res s):=λc ak h=>alx.trans (.of<|by show _=pQ s;unfold pQ;rw[G6 R,h]);have hp:∀{x},g3 s=0/\sg s=x->bJ (.bq [cc x,.aa 0]) (CE.res s):=λ⟨t,C⟩=>.of (by show _=pQ s;unfold pQ;rw[t,C]);obtain⟨P,q,g,ae,ai,aj,ao,W,O,J,mY,T,Y⟩:=Yk a';obtain⟨n,ah⟩:∃n,n=(df s).1:=dC;rw[<-ah]at W O J mY T Y;refine I 9<|aV amI s (by show s.length<=_;omega)<|aP 13 (.bq [.s (df s).2,.b n]) j (by rw[ah];rfl)<|I 10<|aV amM (df s).2 (by show(df s).2.length<=_;omega)<|aP 18 _ j ae<|I 14<|gQ (L:=Bool) (λb=>b= !decide (jB n P q g)) (λb=>⟨[.c 45 [.b false,.nl,.nl]],1,[(2,.p 0 0),(3,.aa 0),(5,.b n),(6,.s P),(7,.s q),(8,.b g),(22,.b b)]⟩) ?_ ?_
 ·have bad:¬jB n P q g->true= !decide (jB n P q g):=λh=>by rw[cq h];rfl
  have ea:jB n P q g->false= !decide (jB n P q g):=λh=>by rw[ck h];rfl
  refine aV XW P (by show P.length<=_;omega)<|I 2 ?_;by_cases t:hv P
  ·refine aP 26 (.b false) j (by show ag.b (!decide _)=_;rw[ck t];rfl)<|I 4 ?_;by_cases C:n=true/\P=[48]
   ·obtain⟨rfl,rfl⟩:=C;exact I 25<|dv [0] true (bad λh=>h.2.1 eT)
   ·cases n
    rotate_left
    have af:P≠[48]:=λe=>C ⟨j,e⟩;refine I 4<|aP 30 (.b false) j (by rw[o3.2 af]) ?_
    all_goals
     cases g with
     |false=>
      refine st ?_;exact dv [0] false (ea ⟨t,C,λe=>by cases e⟩)
     |true=>
      refine st ?_;refine aV XW q (by show q.length<=_;omega)<|I 4 ?_;by_cases f:hv q
      ·refine aP 39 (.b false) j (by show ag.b (!decide _)=_;rw[ck f];rfl)<|I 8 ?_;by_cases z:q=[48]
       ·exact aP 43 (.b true) j (by rw[z];rfl)<|I 9<|dv [0] true (bad λh=>(h.2.2 j).2.1 z)
       refine aP 43 (.b false) j (by rw[o3.2 z])<|I 4 ?_;by_cases B:q=[49]
       ·exact aP 45 (.b true) j (by rw[B];rfl)<|I 7<|dv [0] true (bad λh=>(h.2.2 j).2.2 B)
       exact aP 45 (.b false) j (by rw[o3.2 B])<|I 7<|dv [0] false (ea ⟨t,C,λ_=>⟨f,z,B⟩⟩)
      ·exact aP 39 (.b true) j (by show ag.b (!decide _)=_;rw[cq f];rfl)<|I 15<|dv [0] true (bad λh=>f (h.2.2 j).1)
  ·exact aP 26 (.b true) j (by show ag.b (!decide _)=_;rw[cq t];rfl)<|I 24<|dv [0] true (bad λh=>t h.1)
 intro b D;by_cases o:jB n P q g
 ·have D:b=false:=by rw[D,ck o];rfl
  subst D;by_cases G:2000<P.length\/2000<q.length
  ·exact I 9<|aP 56 (.b true) j (congrArg ag.b<|ck R)<|I 14<|an (az j j<|fail 3 al<|O o G)
  have Z:=J o G;have ad:=mY o G;obtain⟨E,N,a2⟩:=o;have X:=CA (K:=2000) (l3 E.2.1) R;refine I 9<|aP 56 (.b false) j (congrArg ag.b<|cq R)<|I 14 ?_;cases g with
  |false=>
   exact I 5<|aV MK P ⟨E.2.1,by show P.length<=_;omega⟩<|aV qL (1:Nat) (by show 1<_;decide)<|aV oN (n,b6 P,1) ⟨cP X,cP<|h5 al,al⟩<|I 6<|an (az j j<|hp<|Z _<|T ⟨E,N,a2⟩ j)
  |true=>
   obtain⟨f,z,B⟩:=a2 j;have ab:=CA (K:=2000) (l3 f.2.1) R;have g8:b6 q≠0:=λh=>z<|sf f h;have Q:b6 q≠1:=λh=>B<|Xd f h;have F:=Y ⟨E,N,a2⟩ j;refine I 6<|aV MK P ⟨E.2.1,by show P.length<=_;omega⟩<|I 1<|aV MK q ⟨f.2.1,by show q.length<=_;omega⟩<|I 9<|aV Wo (b6 P,b6 q) ⟨cP X,cP ab⟩<|aV Gu (Nat.gcd (b6 P)<|b6 q) aC<|I 3<|y6 (λA=>?_) λA=>?_
   ·exact I 9<|an (az j j<|fail 6 al<|ad<|by rw[F,aw A])
   ·refine st ?_;rw[aE A]at F;obtain⟨M,S⟩:=Mq (hx n<|b6 P) (b6 q) g8;rw[nf,A]at M S;have hle:bJ (.agg [.b n,da<|b6 P,da<|b6 q]) (cc<|mkRat (hx n<|b6 P)<|b6 q):=L8 (q:=b6 q) (by rw[M];exact Int.ediv_one _) (by rw[S,tC]) (λh=>Q<|by rw[h,Ii]at A;exact A)<|Wp Q g8;exact an<|az j j<|(show bJ (.bq [.agg [.b n,da<|b6 P,da<|b6 q],.aa 0]) (.bq [cc<|mkRat (hx n<|b6 P)<|b6 q,.aa 0])from .bq ⟨hle,.refl _,aC⟩).trans<|hp<|Z _ F
 ·have D:b=true:=by rw[D,cq o];rfl
  subst D;exact I 11<|an (az j j<|fail 6 al<|(W o).1)
def dY.pre{X:Ctx}{f:d7}{L:Type}{args:L->ac ag}{res j:L->ag}{p g:L->Prop}{hp:bh->Prop}{hm:∀{H e:bh},cF H e->hp H->hp e}(D:∀l,g l->p l)(h:dY X f (bl.mk L args p res hp hm).spec)(E:∀l,g l->res l=j l:=by intros;rfl):dY X f (bl.mk L args g j hp hm).spec:=λC st ⟨l,A,B⟩=>
 let⟨v,ak,z,t⟩:=h C st ⟨l,D _ A,B⟩
 ⟨v,ak,λl o=>let⟨e,a,b,c⟩:=z l ⟨D _ o.1,o.2⟩;⟨e,a,b,by show den _ (j l.1) _ _;rw[<-E l.1 o.1];exact c⟩,t⟩
def ang(j:s.length<=2000):pQ s=jT s:=by
 obtain⟨P,q,g,-,-,o,t,e,-,f,mY,-⟩:=Yk j;unfold pQ jT;by_cases c:jB (df s).1 P q g
 ·cases h:dq s with
  |none=>rw[G6<|by rw[mY c R h];decide,mY c R h]
  |some x=>rw[(f c R x h).1,(f c R x h).2]
 ·rw[G6<|by rw[(e c).1];decide,(e c).1,(e c).2]
def xl:bt 11 CC:=dY.pre (λ_ (h:_<=2000)=>cC h al) G7 λ_=>ang
def Yl:bl:=b3 λ(s:ac ci)=>([.s s],s.length<=1048576,pQ s)
def Ym:bt 11 Yl:=dY.pre (λ_ (h:_<=1048576)=>cC h al) G7
structure gD where
 op:Int
 a:Int
 b:Int
 c:Int
 d:Int
 f:Int
 v:ac ci
structure n0 where
 f:Int
 bg:ac ci
 af:ac ci
structure xm where
 i:Int
 n:Int
structure ec where
 bO:ac (Int×Int)
 mode:Int
 ins:ac n0
 bQ:ac gD
 head:Int
 tail:Int
 hr:ac xm
 out:Int
def kI(n:gD):ac ag:=[.aa n.op,.aa n.a,.aa n.b,.aa n.c,.aa n.d,.aa n.f,.s n.v]
def G8(x:n0):ac ag:=[.aa x.f,.s x.bg,.s x.af]
def Yn(x:Int×Int):ac ag:=[.aa x.1,.aa x.2]
def Yo(x:xm):ac ag:=[.aa x.i,.aa x.n]
def iB(p:ec):ac ag:=[.cU 2 (Int×Int) Yn p.bO,.aa p.mode,.cU 3 n0 G8 p.ins,.cU 7 gD kI p.bQ,.aa p.head,.aa p.tail,.cU 2 xm Yo p.hr,.aa p.out]
def jC(p:ec):ag:=.agg<|iB p
def bK{a b:Bool}(h:a=b):ag.b a=ag.b b:=by rw[h]
def Yp:bl:=b3 λ(x:Rat)=>([cc x],True,.b<|decide (x.den=1))
def anh:bt 293 Yp:=by
 refine bR [] Uw.1 ?_;intro x _ g au;refine I 10 ?_;by_cases c:x.den=1
 ·exact aP 4 (.gb 1 Nat fI []) j (by rw[c];rfl)<|I 5<|an (az j j<|.of<|bK (ck c).symm)
 ·refine cg 4 (Cg c) ?_;have f:(aW 4294967296 x.den).isEmpty=false:=Ib.2 λe=>x.den_nz<|(na al).1 e;exact I 5<|an (az j j<|.of (bK<|by rw[cq c];rw[f];rfl))
def qV(s:ac ci):Int:=if(dq s).isSome then 0 else 6
def Yq:bl:=b3 λ(s:ac ci)=>([.s s],s.length<=2000,.aa<|qV s)
def ani:bt 50 Yq:=by
 refine bR [(11,CC)] Lu.1 ?_;intro s c e au;refine I 8<|aV xl s c ?_;cases h:dq s with
 |some x=>
  exact aP 7 (.bq [cc x,.aa 0]) j (by show jT s=_;unfold jT;rw[h])<|I 15<|an (az j j (.of<|by show _=ag.aa (qV s);unfold qV;rw[h];rfl))
 |none=>
  exact aP 7 (.bq [cc 0,.aa 6]) j (by show jT s=_;unfold jT;rw[h])<|I 15<|an (az j j (.of<|by show _=ag.aa (qV s);unfold qV;rw[h];rfl))
def sh:bl:=b3 λ((n,m):Int×Int)=>([.aa n,.aa m],True,.b<|decide (0<=n/\n<m))
def xn:bt 96 sh:=by
 refine bR [] UY.1 ?_;intro⟨n,m⟩ _ H au;refine I 9 ?_;by_cases h:0<=n
 ·exact cg 6 (bK<|ck h)<|I 12<|an (az j j<|.of<|bK<|decide_eq_decide.2 ⟨λc=>⟨h,c⟩,λc=>c.2⟩)
 ·exact cg 6 (bK<|cq h)<|I 9<|an (az j j<|.of<|bK (cq λc=>h c.1).symm)
def ML:bl:=b3 λ(n:Int)=>([.aa n],True,.b<|decide (1<=n/\n<=15))
def Yr:bt 180 ML:=by
 refine bR [] TA.1 ?_;intro(n:Int) _ H au;refine I 9 ?_;by_cases h:1<=n
 ·exact cg 4 (bK<|ck h)<|I 10<|an (az j j<|.of<|bK<|decide_eq_decide.2 ⟨λc=>⟨h,c⟩,λc=>c.2⟩)
 ·exact cg 4 (bK<|cq h)<|I 8<|an (az j j<|.of<|bK (cq λc=>h c.1).symm)
def gS(p:ec)(i:Int):Int:=if i<p.head then 0 else if i<p.tail then 1 else 2
def u3:bl:=b3 λ((p,i):ec×Int)=>([jC p,.aa i],True,.aa<|gS p i)
def MM:bt 97 u3:=by
 refine bR [] UZ.1 ?_;intro⟨p,i⟩ _ H au;have f:∀{c:Int},gS p i=c->bJ (.aa c) (u3.res (p,i)):=λh=>.of (by rw[<-h];rfl);refine I 16 ?_;by_cases h:i<p.head
 ·exact cg 5 (bK<|ck h)<|I 11<|an (az j j<|f<|aE h)
 refine cg 5 (bK<|cq h)<|I 11 ?_;by_cases e:i<p.tail
 ·exact cg 11 (bK<|ck e)<|I 11<|an (az j j<|f<|(aw h).trans<|aE e)
 exact cg 11 (bK<|cq e)<|I 12<|an (az j j<|f<|(aw h).trans<|aw e)
def u4(p:ec)(i k:Int):Bool:=decide (0<=k/\k<i/\(gS p k=0\/gS p k=gS p i))
def u5:bl:=b3 λ((p,i,k):ec×Int×Int)=>([jC p,.aa i,.aa k],True,.b<|u4 p i k)
def anj:bt 183 u5:=by
 refine bR [(97,u3)] Ul.1 ?_;intro⟨p,i,k⟩ _ H au;have no:¬(0<=k/\k<i/\(gS p k=0\/gS p k=gS p i))->bJ (.b false) (u5.res (p,i,k)):=λh=>.of<|bK (cq h).symm;have g:(0<=k/\k<i/\(gS p k=0\/gS p k=gS p i))->bJ (.b true) (u5.res (p,i,k)):=λh=>.of<|bK (ck h).symm;refine I 11 ?_;by_cases h:k<0
 ·exact cg 9 (bK<|ck h)<|I 15<|an (az j j<|no R)
 refine cg 9 (bK<|cq h)<|I 7 ?_;by_cases f:i<=k
 ·exact cg 13 (bK<|ck f)<|I 11<|an (az j j<|no R)
 refine cg 13 (bK<|cq f)<|I 10<|aV MM (p,k) aC<|aP 17 (.aa<|gS p k) j j<|I 7 ?_;by_cases e:gS p k=0
 ·exact cg 19 (bK<|ck e)<|I 11<|an (az j j<|g ⟨R,R,.inl e⟩)
 refine cg 19 (bK<|cq e)<|I 8<|aV MM (p,i) aC<|aP 24 (.aa<|gS p i) j j<|I 2 ?_;by_cases c:gS p k=gS p i
 ·exact cg 25 (bK<|ck c)<|I 5<|an (az j j<|g ⟨R,R,.inr c⟩)
 exact cg 25 (bK<|cq c)<|I 5<|an (az j j<|no λh=>h.2.2.elim e c)
