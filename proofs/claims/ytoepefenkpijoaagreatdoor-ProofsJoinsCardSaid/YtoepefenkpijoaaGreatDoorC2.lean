/- What the functions of the program and of the document compute, for every input (part 2); conditions as in the statements. -/
import Derived.Test.YtoepefenkpijoaaGreatDoorC1
import Derived.Test.YtoepefenkpijoaaGreatDoorS1
import Derived.Test.YtoepefenkpijoaaGreatDoorL
import Derived.Test.YtoepefenkpijoaaGreatDoorS2
noncomputable section
set_option linter.all false
namespace Go.ar.a9
open Go.ar
set_option maxRecDepth 100000
set_option maxHeartbeats 4000000
variable{k:Nat}
def Jr:bD where
 L:=Int×Int
 args:=fun(e,p)=>[qC e p]
 pre:=fun(e,p)=>True
 res:=fun(e,p)=>.i .i64 (if gj e p then 0 else 2)
def aat:bl aT.ctx 172 Jr.spec:=by
 refine bI [] T7.1 ?_;intro⟨e,p⟩ _ H aK;have bad:¬gj e p->bS (.i .i64 2) (Jr.res (e,p)):=fun h=>.of (by show _=aj.i .i64 (if _ then _ else _);rw[zaa h]);refine aq 5 ?_;by_cases J:e<2
 ·refine dS 5 J (I ?_);exact au rfl (bad (by unfold gj;omega))
 refine eu 5 J (aq 9 ?_);by_cases U:11<e
 ·refine dS 9 U (I ?_);exact au rfl (bad (by unfold gj;omega))
 refine eu 9 U (aq 14 ?_);by_cases ag:p<2
 ·refine dS 14 ag (I ?_);exact au rfl (bad (by unfold gj;omega))
 refine eu 14 ag (aq 19 ?_);by_cases az:113<p
 ·refine dS 19 az (I ?_);exact au rfl (bad (by unfold gj;omega))
 refine eu 19 az (aq 26 ?_);refine ax 26 (.i .i64 (e+p)) rfl (ct rfl (by omega) (by omega)) (aq 27 ?_);by_cases a4:e+p<5
 ·refine dS 27 a4 (I ?_);exact au rfl (bad (by unfold gj;omega))
 refine eu 27 a4 (I ?_);exact au rfl (.of (by show _=aj.i .i64 (if _ then _ else _);rw[zab (by unfold gj;omega)]))
def Jq:bD where
 L:=Int×Int
 args:=fun(e,p)=>[qC e p]
 pre:=fun(e,p)=>gj e p
 res:=fun(e,p)=>.i .i64 (fb e)
def Pd:bl aT.ctx 425 Jq.spec:=by
 refine bI [] VY.1 ?_;intro⟨e,p⟩ ⟨J,U,ag,az,a4⟩ H aK;obtain⟨n,hn⟩:∃n:Nat,e=(n:Int)+1:=⟨(e-1).toNat,by omega⟩;subst hn;have Jl:∀i:Nat,i<=10->1<=2^i∧2^i<=1024:=fun i af=>⟨zaD i,zaJ (by decide) af⟩;refine I ?_;refine cN (L:=Nat) (fun i=>i<=n) (fun(i:Nat)=>⟨[.c 221 [.i .i64 ((n:Int)+1),.i .i64 p]],1,[(1,.p 0 0),(3,.i .i64 ((2^i:Nat):Int)),(4,.i .i64 ((i:Int)+1))]⟩) (fun i=>n-i) [0] 0 (zae _) (by show n-0<bV+1;unfold bV;omega) dI ?_;intro(i:Nat) af;have hp:=Jl i (by omega);refine I ?_;refine cA (fun h=> ?_) (fun h=> ?_)
 ·refine I ?_;refine bf [0] (i+1) ⟨by show n-(i+1)<n-i;omega,by show i+1<=n;omega⟩ (eD ⟨rfl,?_,?_,trivial⟩ ⟨_,rfl,rfl⟩)
  ·exact congrArg (fun n=>some (aj.i .i64 n)) (vz (by rw[zal];omega) (by omega) (by omega))
  ·exact congrArg (fun n=>some (aj.i .i64 n)) (vz (by omega) (by omega) (by omega))
 ·have he:i=n:=by omega
  subst he;refine I ?_;refine au rfl (.of (congrArg (aj.i .i64) (vz ?_ (by omega) (by omega))));unfold fb;rw[show((i:Int)+1-1).toNat=i by omega,zeq];rfl
def si(n:Nat):ee (n+1) (2^n):=jZ (by decide) (fM (Nat.pow_lt_pow_right (by decide) (zbo n)) (zdc (by decide) (n+1)))
def c2{l a:Nat}(h:ee k a)(hl:k<=l):ee l a:=zag h hl
def Jz(k:Nat):bD where
 L:=Nat
 args:=fun n=>[.i .i64 n]
 pre:=fun n=>n<k∧n<=1000000000
 res:=fun n=>cZ (2^n)
theorem JA:∀k:Nat,bl aT.ctx 437 (Jz k).spec
 |0=>by
  refine bI [(179,xe.spec)] Mi.1 ?_;intro(n:Nat) h H aK;exact absurd h.1 (zcN _)
 |k+1=>by
  have a7:=JA k;refine bI [(179,xe.spec),(437,(Jz k).spec),(83,zh.spec),(287,Jo.spec)] Mi.1 ?_;intro(n:Nat) ⟨(J:n<k+1),(U:n<=1000000000)⟩ H aK;refine I ?_;refine cA (fun h=> ?_) (fun h=> ?_)
  ·have h:n=0:=by omega
   subst h;refine I ?_;refine aX vd () trivial (I ?_);exact au rfl (.refl _)
  have h:n≠0:=by omega
  refine aq 9 ?_;refine ax 9 (.i .i64 ((n/2:Nat):Int)) rfl (by show aj.i _ (IntKind.i64.wrap ((n/2:Nat):Int))=_;exact ct rfl (by omega) (by omega)) ?_;refine aX a7 (n/2) ⟨by show n/2<k;omega,by show n/2<=_;omega⟩ (I ?_);have hq:=si (n/2);refine aX q7 (2^(n/2),2^(n/2)) ⟨c2 hq (by omega),c2 hq (by omega)⟩ (aq 15 ?_);refine ax 15 (.i .i64 ((n%2:Nat):Int)) rfl rfl ?_;have e:2^(n/2)*2^(n/2)=2^(n/2+n/2):=(zar 2 _ _).symm;have wK:ee 1073741824 (2^(n/2)*2^(n/2)):=by rw[e];exact c2 (si _) (by omega)
  refine I ?_;refine cA (fun h=> ?_) (fun h=> ?_)
  ·have h:n%2=1:=by omega
   refine I ?_;refine aX Pb (2^(n/2)*2^(n/2),2^(n/2)*2^(n/2)) ⟨wK,wK⟩ (I ?_);refine au rfl (.of (congrArg cZ ?_));show 2^(n/2)*2^(n/2)+2^(n/2)*2^(n/2)=2^n;rw[e,<-Nat.two_mul,<-Nat.pow_succ'];congr 1;omega
  ·have h:n%2=0:=by omega
   refine I ?_;refine au rfl (.of (congrArg cZ ?_));show 2^(n/2)*2^(n/2)=2^n;rw[e];congr 1;omega
def Jn:bD where
 L:=Rat
 args:=fun x=>[cG x]
 pre:=fun _=>True
 res:=fun x=>cG (jr x)
def Pa:bl aT.ctx 401 Jn.spec:=by
 refine bI [] VL.1 ?_;intro(x:Rat) _ H aK;refine I ?_;refine au rfl (.of ?_);show aj.agg [.i _ (IntKind.i64.wrap (x.num.sign*x.num.sign)),cZ x.num.natAbs,dk (if x.num=0 then[]else aY 1000000000 x.den)]=aj.agg [.i _ _,cZ (jr x).num.natAbs,dk (if(jr x).num=0 then[]else aY 1000000000 (jr x).den)];rw[(rv x).1,(rv x).2,Int.natAbs_natCast];have e:IntKind.i64.wrap (x.num.sign*x.num.sign)=((x.num.natAbs:Nat):Int).sign:=by
  rcases(show x.num<0∨x.num=0∨0<x.num by omega)with h|h|h
  ·rw[zcf h,zbA (by omega)];rfl
  ·rw[h];rfl
  ·rw[zbA h,zbA (by omega)];rfl
 rw[e];by_cases h:x.num=0
 ·rw[h];rfl
 ·rw[zaa h,zaa (by omega)]
def Gc{n:Nat}:n<2^k↔bH n<=k:=⟨Gd,fun h=>by
 by_cases h0:n=0
 ·subst h0;exact zaD k
 ·exact fM (rB h0).2 (zaJ (by decide) h)⟩
def RI{n:Nat}:29*((aY 1000000000 n).length-1)<=bH n∧bH n<=30*(aY 1000000000 n).length:=by
 constructor
 ·refine Nat.le_of_not_lt fun h=> ?_;have hl:0<(aY 1000000000 n).length:=by omega
  have J:=(x3 (b:=1000000000) (n:=n) (i:=(aY 1000000000 n).length-1) (by decide)).1 (by omega);have U:1000000000^((aY 1000000000 n).length-1)<=n:=Nat.le_of_not_lt fun aG=>J (zbL aG);have ag:(2^29)^((aY 1000000000 n).length-1)<=1000000000^((aY 1000000000 n).length-1):=zdc (by decide) _;rw[<-zbM]at ag;have:=Gc.2 (zbh h);omega
 ·refine Gd (fM (sL (b8 _)) ?_);rw[zbM];exact zdc (by decide) _
def aaG:bD where
 L:=Nat
 args:=fun n=>[cZ n]
 pre:=fun n=>ee 30000000 n
 res:=fun n=>.i .i64 (bH n:Nat)
def aaH:bl aT.ctx 427 aaG.spec:=by
 refine bI [(437,(Jz 1000000001).spec),(82,tq.spec)] V0.1 ?_;intro(n:Nat) (hn:(aY _ n).length<=_) H aK;obtain⟨c3,dP⟩:= @RI n;obtain⟨l,hl⟩:∃l,l=(aY 1000000000 n).length:=⟨_,rfl⟩;rw[<-hl]at c3 dP hn;refine aq 9 ?_;rw[<-hl];refine ax 9 (.i .i64 (29*((l:Int)-1))) rfl (congrArg (aj.i .i64) (by rw[hz (n:=(l:Int)-1) (by omega) (by omega)];exact vz rfl (by omega) (by omega))) (aq 10 ?_);refine ax 10 (.i .i64 ((29*(l-1):Nat):Int)) rfl (congrArg (aj.i .i64) (by omega)) (aq 13 ?_)
 try rw[<-hl]
 refine ax 13 (.i .i64 ((30*l:Nat):Int)) rfl ct (I ?_);refine cN (L:=Nat×Nat) (fun(aQ,af)=>aQ<=bH n∧bH n<=af∧af<=900000000) (fun((aQ:Nat),(af:Nat))=>⟨[],0,[(0,cZ n),(3,.i .i64 aQ),(4,.i .i64 af)]⟩) (fun l=>l.2-l.1) [] (29*(l-1),30*l) ⟨c3,dP,by omega⟩ (by show 30*l-29*(l-1)<bV+1;unfold bV;omega) dj ?_;rintro⟨aQ,af⟩ ⟨J,U,ag⟩;refine I ?_;refine cA (fun h=> ?_) (fun h=> ?_)
 ·have h:aQ<af:=by omega
  refine aq 19 ?_;refine ax 19 (.i .i64 ((aQ+af:Nat):Int)) rfl ct (aq 20 ?_);refine ax 20 (.i .i64 (((aQ+af)/2:Nat):Int)) rfl (by show aj.i _ (IntKind.i64.wrap (((aQ+af)/2:Nat):Int))=_;exact ct rfl (by omega) (by omega)) (I ?_);refine aX (JA 1000000001) ((aQ+af)/2) ⟨by show(aQ+af)/2<_;omega,by show(aQ+af)/2<=_;omega⟩ ?_;refine aX sg (n,2^((aQ+af)/2)) ⟨by show(aY _ n).length<=_;omega,c2 (si _) (by omega)⟩ (I ?_);refine cA (fun hc=> ?_) (fun hc=> ?_)
  ·have hc:=Gc.1 (z8 hc);refine I ?_;exact bf [] (aQ,(aQ+af)/2) ⟨by show(aQ+af)/2-aQ<af-aQ;omega,J,hc,by omega⟩ dj
  ·have hc:(aQ+af)/2<bH n:=Nat.lt_of_not_le fun aG=>Nat.not_lt.2 (z9 hc) (Gc.2 aG);refine I ?_;exact bf [] ((aQ+af)/2+1,af) ⟨by show af-((aQ+af)/2+1)<af-aQ;omega,hc,U,ag⟩ (kd ⟨rfl,e1,rfl,trivial⟩)
 ·have he:aQ=bH n:=by omega
  refine I ?_;exact au rfl (.of (by rw[he];rfl))
def dW(k:Nat)(x:Rat):Prop:=ee k x.num.natAbs∧ee k x.den
variable{x:Rat}{a b d:Nat}{y:Rat}{l r n p q:Nat}{s:Int}
def nt(ha:ee k a)(hb:ee l b):ee (k+l) (a*b):=jZ (by decide) (by rw[zar];exact zel (sL ha) (sL hb))
def xg:bD where
 L:=Rat×Rat
 args:=fun(x,y)=>[cG x,cG y]
 pre:=fun(x,y)=>dW 268435456 x∧dW 268435456 y
 res:=fun(x,y)=>.i .i64 (gd x y)
def Cb(n:Int): -1<=n.sign∧n.sign<=1:=by
 rcases(show n<0∨n=0∨0<n by omega)with h|h|h
 ·rw[zcf h];decide
 ·rw[h];decide
 ·rw[zbA h];decide
def xh:bl aT.ctx 33 xg.spec:=by
 refine bI [(84,zd.spec),(83,zh.spec),(82,tq.spec)] Vb.1 ?_;intro⟨x,y⟩ ⟨(aa:dW _ x),(aL:dW _ y)⟩ H aK;obtain⟨e0,fT,oe⟩:=R9 x y;have hS:=Cb x.num;have ny:=Cb y.num;refine I ?_;refine cA (fun h=> ?_) (fun h=> ?_)
 ·refine I ?_;exact au rfl (.of (by show aj.i .i64 (-1)=aj.i .i64 (gd x y);rw[e0 h]))
 refine I ?_;refine cA (fun J=> ?_) (fun J=> ?_)
 ·refine I ?_;exact au rfl (.of (by show aj.i .i64 1=aj.i .i64 (gd x y);rw[fT J]))
 have he:x.num.sign=y.num.sign:=by omega
 refine I ?_;refine bQ sf y trivial (I ?_);refine bQ q7 (x.num.natAbs,y.den) ⟨c2 aa.1 (by decide),c2 aL.2 (by decide)⟩ (I ?_);refine bQ sf x trivial (I ?_);refine bQ q7 (y.num.natAbs,x.den) ⟨c2 aL.1 (by decide),c2 aa.2 (by decide)⟩ (I ?_);refine bQ sg (x.num.natAbs*y.den,y.num.natAbs*x.den) ⟨c2 (nt aa.1 aL.2) (by decide),c2 (nt aL.1 aa.2) (by decide)⟩ (I ?_);refine au rfl (.of ?_);show aj.i .i64 (IntKind.i64.wrap (x.num.sign*iY _ _))=aj.i .i64 (gd x y);rw[oe he];refine congrArg _ (vz rfl ?_ ?_)
 all_goals
  have ah:x.num.sign= -1∨x.num.sign=0∨x.num.sign=1:=by omega
  unfold iY;rcases ah with h|h|h<;>rw[h]<;>split<;>(try split)<;>decide
def Pf:bD where
 L:=Nat×Nat
 args:=fun(a,b)=>[cZ a,cZ b]
 pre:=fun(a,b)=>ee 268435456 a∧ee 268435456 b∧b≠0
 res:=fun(a,b)=>.bP [cZ (a/b),cZ (a%b)]
def aq8{W m:Nat}(hb:(aY 1000000000 b).length=m+1)(gS:b<=W)(aN:W<1000000000*b):
 0<b/1000000000^m∧b/1000000000^m<1000000000∧W/1000000000^m/(b/1000000000^m+1)<=W/b∧W/b<=min ((W/1000000000^m+1)/(b/1000000000^m)) 999999999∧W/1000000000^m<1000000000*1000000000∧0<W/b∧W<1000000000^(m+2):=by
 have lZ:0<b:=by
  refine zbm fun e=> ?_;rw[e,gE]at hb;simp at hb
 have ja:0<1000000000^m:=zcy (by decide);have J:=(x3 (b:=1000000000) (n:=b) (i:=m) (by decide)).1 (by omega);have U:=GM (b:=1000000000) (by decide) (zdr hb);have pU:b=b/1000000000^m*1000000000^m+b%1000000000^m:=by rw[zam];exact(zbK _ _).symm
 have SJ:W=W/1000000000^m*1000000000^m+W%1000000000^m:=by rw[zam];exact(zbK _ _).symm
 have uk:W<1000000000^(m+2):=by
  rw[show m+2=(m+1)+1 from rfl,zal,zam];exact fM aN (m1 _ (zbh U))
 refine⟨zbm J,?_,als pU (zah _ ja) SJ lZ,?_,?_,zcY gS lZ,uk⟩
 ·exact zdF (by rwa [zal]at U)
 ·have ag:=alr pU (zah W ja) SJ (zbm J) ja;have az:W/b<1000000000:=zdF (by rw[zam];exact aN);omega
 ·refine zdF ?_;rw[show m+2=m+(1+1)from rfl,zar,zar,Nat.pow_one]at uk;exact uk
def x4(h0:d≠0)(h:d<1000000000):aY 1000000000 d=[d]:=by
 rw[oj (by decide) h0,gP h,zbL h,gE]
def Qb(h:d<1000000000):eV (d::aY 1000000000 r)=aY 1000000000 (d+1000000000*r):=by
 rw[zw (b:=1000000000) (by decide) (fun x aa=>by
  rcases zak.1 aa with rfl|aa
  ·exact h
  ·exact hi (by decide) r x aa)]
 simp only[val];rw[gD (by decide)]
def Sb:iY a b<=0↔a<=b:=by
 unfold iY;split
 ·omega
 ·split<;>omega
def aq6(h:r<b)(hb:ee k b):ee k r:=jZ (by decide) (Nat.lt_trans h (sL hb))
def aq7{i:Nat}{dt:ac Nat}:(List.replicate (i+1) 0++dt).set i d=List.replicate i 0++d::dt:=by
 rw[List.replicate_succ',zbN,List.set_append_right _ _ (by simp)];simp
def Pe(xs dt:ac Nat)(b m i W:Nat)(e:bO):cz:=⟨[.a 2 false 1 Nat gr (List.replicate (i+1) 0++dt)],1,(0,dk xs)::(1,dk (aY 1000000000 b))::(6,.a5 0 1 0 xs.length xs.length)::(7,.i .i64 ((m+1:Nat):Int))::(8,cZ W)::(9,.i .i64 i)::e⟩
def Pg:bl aT.ctx 181 Pf.spec:=by
 refine bI [(182,xi.spec),(82,tq.spec),(83,zh.spec),(286,JD.spec)] Ug.1 ?_;intro⟨a,b⟩ ⟨(ha:(aY _ a).length<=_),(hb:(aY _ b).length<=_),(lZ:b≠0)⟩ H aK;have J:=hi (b:=1000000000) (by decide) a;have jE:=gD (b:=1000000000) (by decide) a;obtain⟨m,hm⟩:∃m,(aY 1000000000 b).length=m+1:=⟨(aY 1000000000 b).length-1,by
  have:(aY 1000000000 b).length≠0:=fun e=>lZ ((pT (by decide)).1 (zbu e));omega⟩
 have AJ:=acR (b:=1000000000) (by decide) hm;show aU.ok _ ⟨_,_,⟨_,_,[(0,dk (aY 1000000000 a)),(1,dk (aY 1000000000 b))]⟩⟩;generalize ng:aY 1000000000 a=xs at *;refine I ?_;refine qk gr 0 ?_;refine I ?_;rw[hm];refine dz 8 (dk []) rfl bS.nl ?_;refine ax 8 (cZ 0) rfl (by unfold cZ;rw[gE]) ?_;refine cN (L:=Nat×ac Nat×Nat) (fun(k,dt,r)=>k+dt.length=xs.length∧cV 1000000000 dt∧r<b∧val 1000000000 (xs.drop k)=val 1000000000 dt*b+r)
  (fun((k:Nat),(dt:ac Nat),(r:Nat))=>⟨[.a 2 false 1 Nat gr (List.replicate k 0++dt)],1,[(0,dk xs),(1,dk (aY 1000000000 b)),(6,.a5 0 1 0 xs.length xs.length),(7,.i .i64 ((m+1:Nat):Int)),(8,cZ r),(9,.i .i64 ((k:Int)-1))]⟩)
  (fun l=>l.1) [0] (xs.length,[],0) ⟨by simp,fun x aa=>by simp at aa,by omega,by simp[val]⟩ (by show xs.length<bV+1;unfold bV;omega) ?_ ?_
 ·exact eD ⟨rfl,rfl,rfl,rfl,rfl,e1,trivial⟩ ⟨_,rfl,by simp,fun _=>rfl⟩
 rintro⟨k,dt,r⟩ ⟨ab,bN,aE,aD⟩;cases k with
 |zero=>
  refine I ?_;refine kb 99 ?_;refine aX xj dt (by show dt.length<=_;omega) (I ?_);refine au rfl (.of ?_);show aj.bP [dk (eV dt),cZ r]=aj.bP [cZ (a/b),cZ (a%b)];rw[zap,jE]at aD;have aA:=Nat.div_mod_unique (zbm lZ) (a:=a) (c:=r) (d:=val 1000000000 dt);obtain⟨aC,e2⟩:=aA.2 ⟨by rw[aD,zam];exact zbZ _ _,aE⟩;rw[zw (by decide) bN,aC,e2];rfl
 |succ i=>
  have aa:i<xs.length:=by omega
  have l7:=J _ (dy aa);obtain⟨W,gS⟩:∃W,W=xs[i]+1000000000*r:=⟨_,rfl⟩;have al7:W<1000000000*b:=by omega
  have yJ:∀q dV:Nat,q*b+dV=W->val 1000000000 (xs.drop i)=val 1000000000 (q::dt)*b+dV:=fun q dV h=>by
   rw[eX aa];simp only[val];rw[aD,zaj,zaH,zax];omega
  have Nu:=aq6 aE hb;refine ax 9 (.i .i64 (i:Nat)) rfl fG (I ?_);refine ax 23 (.b true) rfl (by simp) (aq 26 ?_);refine ij (L:=Unit) (fun _=>True) (fun _=>Pe xs dt b m i W []) ?_ ?_
  ·refine I ?_;refine dr xs[i] (bm aa) ?_;refine I ?_;refine oN 1 gr [xs[i]] ?_;by_cases qP:r=0
   ·subst qP;refine ax 31 (dk []) rfl (by unfold cZ;rw[gE]) ?_;refine arF (R:=gr) (n3 rfl (fun _=>rfl) (fun _=>rfl)) ?_;refine kb 32 ?_;refine aX xj [xs[i]] (by show 1<=_;decide) (I ?_);refine bf [0] () trivial (eD ⟨rfl,rfl,rfl,rfl,congrArg (fun l=>some (dk l)) ?_,rfl,trivial⟩ ⟨_,rfl,rfl,fun _=>rfl⟩);have:=Qb (d:=xs[i]) (r:=0) l7;rw[gE]at this;rw[gS];exact this
   ·have cd:aY 1000000000 r≠[]:=fun e=>qP ((pT (by decide)).1 e);have hl:0<(aY 1000000000 r).length:=zaN.2 cd;have Nu:(aY 1000000000 r).length<=268435456:=Nu;refine aa7 (R:=gr) (aY 1000000000 r) (n3 rfl (fun _=>rfl) (fun _=>rfl)) (xs[i]::aY 1000000000 r) ?_ (h0:=cd);refine kb 32 ?_;refine aX xj (xs[i]::aY 1000000000 r) (by show(aY _ r).length+1<=_;omega) (I ?_);refine bf [0] () trivial (eD ⟨rfl,rfl,rfl,rfl,congrArg (fun l=>some (dk l)) ?_,rfl,trivial⟩ ⟨_,rfl,rfl,fun _=>rfl⟩);rw[gS];exact Qb l7
  intro _ _;have MA:ee 268435457 W:=by
   have:=Qb (d:=xs[i]) (r:=r) l7;have U:=ac4 (xs[i]::aY 1000000000 r);rw[this,<-gS]at U;exact zag U (Nat.succ_le_succ Nu)
  refine I ?_;refine aX sg (W,b) ⟨c2 MA (by decide),c2 hb (by decide)⟩ (I ?_);refine cA (fun h=> ?_) (fun h=> ?_)
  ·have h:W<b:=z8 h;refine I ?_;refine bf [0] (i,0::dt,W) ⟨by simp,by simp;omega,?_,h,yJ 0 W (by omega)⟩ (eD ⟨rfl,rfl,rfl,rfl,rfl,e1,trivial⟩ ⟨_,rfl,by rw[List.replicate_succ',zbN];rfl,fun _=>rfl⟩);intro x aa;rcases zak.1 aa with rfl|aa
   ·decide
   ·exact bN x aa
  have mG:b<=W:=z9 h;obtain⟨t1,t2,t3,t4,t5,t6,t7⟩:=aq8 hm mG al7;have FB:m<(aY 1000000000 W).length:=(x3 (by decide)).2 (by have:=Nat.div_le_div_right (c:=1000000000^m) mG;omega);have axg:=jZ (b:=1000000000) (by decide) t7;have Qe:∃iG:Nat,(aY 1000000000 W)[m]? =some iG∧(((aY 1000000000 W).length=m+1∧iG=W/1000000000^m)∨((aY 1000000000 W).length=m+2∧∃y:Nat,(aY 1000000000 W)[m+1]? =some y∧iG+1000000000*y=W/1000000000^m)):=by
   rcases(show(aY 1000000000 W).length=m+1∨(aY 1000000000 W).length=m+2 by omega)with h|h
   ·exact⟨_,acR (by decide) h,.inl ⟨h,rfl⟩⟩
   ·obtain⟨g1,aM,bc⟩:=auY (b:=1000000000) (by decide) (show m+1<_ by omega) t7;exact⟨_,g1,.inr ⟨h,_,aM,bc⟩⟩
  generalize H3:b/1000000000^m=v at *;generalize er:W/1000000000^m=w at *;obtain⟨iG,Ek,Qe⟩:=Qe;refine I ?_;refine ax 40 (.i .i64 (m:Nat)) rfl ct (I ?_);refine dr iG Ek ?_;refine aq 10 ?_
  iterate 3 refine gZ ?_
  refine ij (L:=Unit) (fun _=>True) (fun _=>Pe xs dt b m i W [(10,.i .i64 (w:Nat))]) ?_ ?_
  ·refine I ?_;rcases Qe with⟨g1,aM⟩|⟨g1,y,aM,bc⟩
   ·refine ax 46 (.b false) rfl (by rw[g1];simp) (I ?_);exact bf [0] () trivial (eD ⟨rfl,rfl,rfl,rfl,rfl,rfl,by rw[<-aM];rfl,trivial⟩ ⟨_,rfl,rfl,fun _=>rfl⟩)
   ·refine ax 46 (.b true) rfl (by rw[g1];simp) (I ?_);refine dr y aM ?_;refine I ?_;refine bf [0] () trivial (eD ⟨rfl,rfl,rfl,rfl,rfl,rfl,?_,trivial⟩ ⟨_,rfl,rfl,fun _=>rfl⟩);exact congrArg (fun n=>some (aj.i .i64 n)) (by rw[hz (n:=1000000000*(y:Int)) (by omega) (by omega),hz (by omega) (by omega)];omega)
  intro _ _;refine I ?_;refine di 57 (.i .i64 (m:Nat)) rfl rfl ct ?_;refine eU v AJ ?_;refine aq 60 ?_;refine di 60 (.i .i64 ((v+1:Nat):Int)) rfl rfl ct ?_;refine Sr ?_;refine aq 63 ?_;refine di 63 (.i .i64 ((w+1:Nat):Int)) rfl rfl ct ?_;refine aq 66 ?_;refine di 66 (.i .i64 (m:Nat)) rfl rfl ct ?_;refine eU v AJ ?_;refine I ?_;refine Sr ?_;refine aq 70 ?_;obtain⟨aQ,gU⟩:∃aQ,aQ=w/(v+1):=⟨_,rfl⟩;obtain⟨af,ht⟩:∃af,af=min ((w+1)/v) 999999999:=⟨_,rfl⟩;rw[<-gU]at t3;rw[<-ht]at t4;refine di 61 (.i .i64 (aQ:Nat)) rfl rfl (by rw[gU]) ?_;refine di 70 (.i .i64 (af:Nat)) rfl rfl (by rw[ht];exact fG (by generalize(w+1)/v=u;omega)) ?_;have amO:af<=999999999:=by generalize(w+1)/v=u at *;omega
  have apE:∀d:Nat,d≠0->d<1000000000->ee 268435457 (b*d):=fun d h0 h=>nt (k:=268435456) (l:=1) hb (by show(aY _ d).length<=1;rw[x4 h0 h];exact b8 _);generalize ix:W/b=q at *;have hL:0<b:=zbm lZ;refine I ?_;refine cN (L:=Nat×Nat) (fun(l,h)=>l<=q∧q<=h∧h<=999999999) (fun((l:Nat),(h:Nat))=>Pe xs dt b m i W [(11,.i .i64 l),(12,.i .i64 h)]) (fun l=>l.2-l.1) [0] (aQ,af) ⟨t3,t4,amO⟩ (by show af-aQ<bV+1;unfold bV;omega) dI ?_;rintro⟨l,h⟩ ⟨g1,aM,bc⟩;refine I ?_;refine cA (fun aN=> ?_) (fun aN=> ?_)
  ·have aN:l<h:=by omega
   obtain⟨lJ,am0⟩:∃lJ,lJ=(l+h+1)/2:=⟨_,rfl⟩;refine aq 76 ?_;refine ax 76 (.i .i64 ((l+h:Nat):Int)) rfl ct (aq 77 ?_);refine ax 77 (.i .i64 ((l+h+1:Nat):Int)) rfl ct (aq 78 ?_);refine ax 78 (.i .i64 (lJ:Nat)) rfl (by rw[am0];show aj.i _ (IntKind.i64.wrap (((l+h+1)/2:Nat):Int))=_;exact ct rfl (by omega) (by omega)) ?_;have AX:lJ≠0:=by omega
   have yw:lJ<1000000000:=by omega
   refine I ?_;refine oN 1 gr [lJ] ?_;refine kb 81 ?_;refine ax 81 (cZ lJ) rfl (by unfold cZ;rw[x4 AX yw];rfl) ?_;refine aX q7 (b,lJ) ⟨c2 hb (by decide),by show(aY _ lJ).length<=_;rw[x4 AX yw];exact jF rfl⟩ (I ?_);refine aX sg (b*lJ,W) ⟨c2 (apE lJ AX yw) (by decide),c2 MA (by decide)⟩ (I ?_);have DJ:b*lJ<=W↔lJ<=q:=by rw[<-ix,zbW hL,zam]
   refine cA (fun hc=> ?_) (fun hc=> ?_)
   ·have hc:=DJ.1 (Sb.1 hc);refine I ?_;exact bf [0] (lJ,h) ⟨by show h-lJ<h-l;omega,hc,aM,bc⟩ dI
   ·have hc:q<lJ:=Nat.lt_of_not_le fun aG=>hc (Sb.2 (DJ.2 aG));refine I ?_;exact bf [0] (l,lJ-1) ⟨by show lJ-1-l<h-l;omega,g1,by show q<=lJ-1;omega,by show lJ-1<=_;omega⟩ (eD ⟨rfl,rfl,rfl,rfl,rfl,rfl,rfl,e1,trivial⟩ ⟨_,rfl,rfl,fun _=>rfl⟩)
  ·have he:l=q:=by omega
   subst he;have yw:l<1000000000:=by omega
   have AX:l≠0:=by omega
   have A0:b*l<=W:=by rw[<-ix];exact Nat.mul_div_le W b
   refine I ?_;refine kK ?_;refine lN l ?_;refine I ?_;refine oN 1 gr [l] ?_;refine kb 96 ?_;refine ax 96 (cZ l) rfl (by unfold cZ;rw[x4 AX yw];rfl) ?_;refine aX q7 (b,l) ⟨c2 hb (by decide),by show(aY _ l).length<=_;rw[x4 AX yw];exact jF rfl⟩ ?_;refine aX Fb (W,b*l) ⟨c2 MA (by decide),A0⟩ (I ?_);have am3:W-b*l=W%b:=by have:=zbK W b;rw[ix]at this;omega
   refine bf [0] (i,l::dt,W-b*l) ⟨by simp,by simp;omega,?_,by rw[am3];exact zah _ hL,yJ l _ (by rw[zam l b];omega)⟩ (eD ⟨rfl,rfl,rfl,rfl,rfl,e1,trivial⟩ ⟨_,rfl,by rw[aq7],fun _=>rfl⟩);intro x aa;rcases zak.1 aa with rfl|aa
   ·exact yw
   ·exact bN x aa
def oM(h:ee k b)(hl:a<=b):ee k a:=jZ (by decide) (zbq hl (sL h))
def q6(h:ee k a):bH a<=30*k:=zag RI.2 (m1 _ h)
def Is:(aY 1000000000 n).length=0↔n=0:=by rw[zen];exact pT (by decide)
def aaw:bD where
 L:=Nat×Nat
 args:=fun(a,b)=>[cZ a,cZ b]
 pre:=fun(a,b)=>ee 268435456 a∧ee 268435456 b∧b≠0
 res:=fun(a,b)=>cZ (Nat.gcd a b)
def zf(x y t:Nat):cz:=⟨[],0,[(0,cZ x),(1,cZ y),(5,.i .i64 t)]⟩
def arb:bl aT.ctx 180 aaw.spec:=by
 refine bI [(181,Pf.spec),(284,aaP.spec),(285,aay.spec),(82,tq.spec),(286,JD.spec),(287,Jo.spec)] Uf.1 ?_;intro⟨a,b⟩ ⟨(ha:ee _ a),(hb:ee _ b),(lZ:b≠0)⟩ H aK;refine I ?_;refine aX Pg (a,b) ⟨ha,hb,lZ⟩ (I ?_);have aE:a%b<b:=zah _ (zbm lZ);have aR:Nat.gcd (a%b) b=Nat.gcd a b:=by rw[zdB a b,Nat.gcd_rec b a]
 have qr:ee 268435456 (a%b):=oM hb (zbh aE);generalize aa:a%b=iG at *;refine cA (fun h=> ?_) (fun h=> ?_)
 ·have h:iG=0:=Is.1 (by omega);subst h;refine I ?_;exact au rfl (.of (by show cZ b=cZ (Nat.gcd a b);rw[<-aR,zer]))
 have h:iG≠0:=fun e=>h (by rw[e,gE];rfl);refine I ?_;refine pw (L:=Nat×Nat×Nat) (fun(x,y,t)=>x≠0∧y≠0∧ee 268435456 x∧ee 268435456 y∧t<=10000000000∧2^t*Nat.gcd x y=Nat.gcd a b∧Nat.gcd x y%2=1) (fun(x,y,t)=>zf x y t) ?_ ?_
 ·refine cN (L:=Nat×Nat×Nat) (fun(x,y,t)=>x≠0∧y≠0∧ee 268435456 x∧ee 268435456 y∧t+bH x<=10000000000∧2^t*Nat.gcd x y=Nat.gcd a b) (fun(x,y,t)=>zf x y t) (fun l=>bH l.1) [] (iG,b,0) ⟨h,lZ,qr,hb,by have:=q6 qr;show 0+_<=_;omega,by rw[zbX,zbf,aR]⟩ (by have:=q6 qr;show bH iG<bV+1;unfold bV;omega) dj ?_;rintro⟨x,y,t⟩ ⟨g1,aM,bc,cf,cL,ej⟩;refine I ?_;refine aX Jx x trivial (I ?_);by_cases uH:x%2=1
  ·refine ax 20 (.b false) rfl (by rw[zac uH];rfl) (I ?_);exact bf [] (x,y,t) ⟨g1,aM,bc,cf,by omega,ej,Wz (fun h=>by omega)⟩ dj
  refine ax 20 (.b true) rfl (by rw[zad uH];rfl) (I ?_);have uH:x%2=0:=by omega
  refine aX Jx y trivial (I ?_);by_cases H6:y%2=1
  ·refine ax 24 (.b false) rfl (by rw[zac H6];rfl) (I ?_);exact bf [] (x,y,t) ⟨g1,aM,bc,cf,by omega,ej,Wz (fun h=>by omega)⟩ dj
  refine ax 24 (.b true) rfl (by rw[zad H6];rfl) ?_;have H6:y%2=0:=by omega
  refine I ?_;refine aX Ju x (c2 bc (by decide)) (I ?_);refine aX Ju y (c2 cf (by decide)) (I ?_);have ot:=vV (n:=x) (by omega);have qK:=gcd_both uH H6;exact bf [] (x/2,y/2,t+1) ⟨by show bH (x/2)<bH x;omega,by show x/2≠0;omega,by show y/2≠0;omega,oM bc (zaF _ _),oM cf (zaF _ _),by show t+1+bH (x/2)<=_;omega,by rw[zal,zax,qK];exact ej⟩ (kd ⟨rfl,rfl,e1,trivial⟩)
 rintro⟨X,Y,t⟩ ⟨g1,aM,bc,cf,cL,ej,gu⟩;obtain⟨g,HC⟩:∃g,g=Nat.gcd X Y:=⟨_,rfl⟩;rw[<-HC]at ej gu;refine I ?_;refine pw (L:=Unit) (fun _=>True) (fun _=>⟨[],0,[(1,cZ g),(5,.i .i64 t)]⟩) ?_ ?_
 ·refine cN (L:=Nat×Nat) (fun(x,y)=>y≠0∧ee 268435456 x∧ee 268435456 y∧Nat.gcd x y=g) (fun(x,y)=>zf x y t) (fun l=>2*(bH l.1+bH l.2)+l.1%2) [] (X,Y) ⟨aM,bc,cf,HC.symm⟩ (by have:=q6 bc;have:=q6 cf;show 2*(bH X+bH Y)+X%2<bV+1;unfold bV;omega) dj ?_;rintro⟨x,y⟩ ⟨J,U,ag,az⟩;refine I ?_;refine cA (fun hl=> ?_) (fun hl=> ?_)
  ·have Ek:x≠0:=fun e=>by rw[e,gE]at hl;simp at hl
   refine I ?_;refine pw (L:=Nat) (fun cC=>cC%2=1∧ee 268435456 cC∧Nat.gcd cC y=g∧2*bH cC<=2*bH x+x%2-1) (fun cC=>zf cC y t) ?_ ?_
   ·refine cN (L:=Nat) (fun cC=>cC≠0∧ee 268435456 cC∧Nat.gcd cC y=g∧bH cC<=bH x∧(cC=x∨bH cC<bH x)) (fun cC=>zf cC y t) bH [] x ⟨Ek,U,az,b8 _,.inl rfl⟩ (by have:=q6 U;show bH x<bV+1;unfold bV;omega) dj ?_;rintro cC ⟨ba,bx,dE,uR,Il⟩;refine I ?_;refine aX Jx cC trivial (I ?_);refine BX (fun al=> ?_) (fun al=> ?_)
    ·have ot:=vV (n:=cC) (by omega);have al:cC%2=0:=by omega
     refine I ?_;refine aX Ju cC (c2 bx (by decide)) (I ?_);exact bf [] (cC/2) ⟨by show bH (cC/2)<bH cC;omega,by omega,oM bx (zaF _ _),by rw[Wx al (by rw[dE];exact gu)];exact dE,by omega,.inr (by omega)⟩ dj
    ·refine I ?_;exact bf [] cC ⟨al,bx,dE,by rcases Il with rfl|Il<;>omega⟩ dj
   rintro cC ⟨ba,bx,dE,uR⟩;refine I ?_;refine pw (L:=Nat) (fun fL=>fL%2=1∧ee 268435456 fL∧Nat.gcd cC fL=g∧bH fL<=bH y) (fun fL=>zf cC fL t) ?_ ?_
   ·refine cN (L:=Nat) (fun fL=>fL≠0∧ee 268435456 fL∧Nat.gcd cC fL=g∧bH fL<=bH y) (fun fL=>zf cC fL t) bH [] y ⟨J,ag,dE,b8 _⟩ (by have:=q6 ag;show bH y<bV+1;unfold bV;omega) dj ?_;rintro fL ⟨aoC,iT,wS,X7⟩;refine I ?_;refine aX Jx fL trivial (I ?_);refine BX (fun al=> ?_) (fun al=> ?_)
    ·have ot:=vV (n:=fL) (by omega);have al:fL%2=0:=by omega
     refine I ?_;refine aX Ju fL (c2 iT (by decide)) (I ?_);exact bf [] (fL/2) ⟨by show bH (fL/2)<bH fL;omega,by omega,oM iT (zaF _ _),by rw[ak7 al (by rw[wS];exact gu)];exact wS,by omega⟩ dj
    ·refine I ?_;exact bf [] fL ⟨al,iT,wS,X7⟩ dj
   rintro fL ⟨aoC,iT,wS,X7⟩;refine I ?_;by_cases an1:fL=1
   ·subst an1;rw[zeo]at wS;refine ax 1 (dk [1]) rfl (by unfold cZ;rw[wc]) ?_;refine ax 47 (.b true) rfl (by rw[wc];rfl) (I ?_);refine dr (j:=0) 1 rfl ?_;refine I ?_;exact bf [] () trivial (kd ⟨by rw[<-wS];unfold cZ;rw[wc];rfl,rfl,trivial⟩)
   refine ij (L:=Unit) (fun _=>True) (fun _=>⟨[],0,[(0,cZ cC),(1,cZ fL),(5,.i .i64 t),(52,.b false)]⟩) ?_ ?_
   ·by_cases kT:(aY 1000000000 fL).length=1
    ·have XJ:fL<1000000000:=sL (k:=1) (zdr kT);refine ax 47 (.b true) rfl (by rw[kT];rfl) ?_;refine ax 1 (dk [fL]) rfl (by unfold cZ;rw[x4 (by omega) XJ]) (I ?_);refine dr (j:=0) fL rfl ?_;refine I ?_;exact bf [] () trivial (kd ⟨rfl,by unfold cZ;rw[x4 (by omega) XJ];rfl,rfl,congrArg (fun b=>some (aj.b b)) (zad (by omega)),trivial⟩)
    ·refine ax 47 (.b false) rfl (by rw[zad (by omega)]) (I ?_);exact bf [] () trivial dj
   intro _ _;refine I ?_;refine aX sg (cC,fL) ⟨c2 bx (by decide),c2 iT (by decide)⟩ (I ?_);have Xn:=vV (n:=cC) (by omega);refine cA (fun hc=> ?_) (fun hc=> ?_)
   ·have hc:=z8 hc;refine I ?_;refine aX Fb (fL,cC) ⟨c2 iT (by decide),zbh hc⟩ (I ?_);have hL:=Ln (zbY fL cC);exact bf [] (fL-cC,cC) ⟨by show 2*(bH (fL-cC)+bH cC)+(fL-cC)%2<2*(bH x+bH y)+x%2;omega,by show cC≠0;omega,oM iT (zbY _ _),bx,by rw[Wy (zbh hc),zdB];exact wS⟩ dj
   ·have hc:=z9 hc;refine I ?_;refine aX Fb (cC,fL) ⟨c2 bx (by decide),hc⟩ (I ?_);have hL:=Ln (zbY cC fL);exact bf [] (cC-fL,fL) ⟨by show 2*(bH (cC-fL)+bH fL)+(cC-fL)%2<2*(bH x+bH y)+x%2;omega,by show fL≠0;omega,oM bx (zbY _ _),iT,by rw[Wy hc];exact wS⟩ dj
  ·have Ek:x=0:=Is.1 (by omega);subst Ek;rw[zer]at az;refine I ?_;exact bf [] () trivial (kd ⟨by rw[<-az];rfl,rfl,trivial⟩)
 intro _ _;refine I ?_;refine cN (L:=Nat) (fun i=>i<=t) (fun(i:Nat)=>⟨[],0,[(1,cZ (2^i*g)),(5,.i .i64 t),(6,.i .i64 i)]⟩) (fun i=>t-i) [] 0 (zae _) (by show t-0<bV+1;unfold bV;omega) (kd ⟨by rw[zbX,zbf];rfl,rfl,rfl,trivial⟩) ?_;intro(i:Nat) af;refine I ?_;refine cA (fun h=> ?_) (fun h=> ?_)
 ·have h:i<t:=by omega
  have c5:2^i*g<=b:=zag (iq g (zaJ (by decide) af)) (by rw[ej];exact zep _ (zbm lZ));refine I ?_;refine aX Pb (2^i*g,2^i*g) ⟨c2 (oM hb c5) (by decide),c2 (oM hb c5) (by decide)⟩ (I ?_);exact bf [] (i+1) ⟨by show t-(i+1)<t-i;omega,h⟩ (kd ⟨congrArg (fun n=>some (cZ n)) (by rw[zal,zam (2^i) 2,zax];omega),rfl,e1,trivial⟩)
 ·have he:i=t:=by omega
  subst he;refine I ?_;exact au rfl (.of (by show cZ _=cZ _;rw[ej]))
def aaE:bS (.agg [.i .i64 0,.nl,.nl]) (cG 0):=bS.agg ⟨.refl _,bS.nl.trans (.of (by show dk []=dk (aY _ 0);rw[gE])),bS.nl,trivial⟩
def aam{n:Bool}(hp:p≠0)(hq:q≠0):cG (mkRat (if n then -(p:Int)else p) q)= .agg [.i .i64 (if n then -1 else 1),cZ (p/p.gcd q),cZ (q/p.gcd q)]:=by
 obtain⟨J,U⟩:=Zk (neg:=n) hp hq;have aR:0<p.gcd q:=zem _ (by omega);have aA:0<p/p.gcd q:=zcY (Nat.le_of_dvd (by omega) (zdC p q)) aR;unfold cG;rw[J,U];generalize p/p.gcd q=a at *;cases n
 ·simp only[zaU,if_false];rw[zaa (by omega),zbA (by omega)];rfl
 ·simp only[if_true];rw[zaa (by omega),zcf (by omega),zcZ];rfl
def xc:bD where
 L:=Int×Nat×Nat
 args:=fun(s,p,q)=>[.i .i64 s,cZ p,cZ q]
 pre:=fun(s,p,q)=> -1<=s∧s<=1∧ee 268435456 p∧ee 268435456 q∧q≠0
 res:=fun(s,p,q)=>cG (mkRat (s*p) q)
def aq2(J: -1<=s)(U:s<=1)(ah:s≠0)(hp:p≠0)(hq:q≠0):cG (mkRat (s*p) q)= .agg [.i .i64 s,cZ (p/p.gcd q),cZ (q/p.gcd q)]:=by
 rcases(show s=1∨s= -1 by omega)with rfl|rfl
 ·have:=aam (n:=false) hp hq;rw[zaa (by decide),zaa (by decide)]at this;rw[Int.one_mul];exact this
 ·have:=aam (n:=true) hp hq;rw[zab rfl,zab rfl]at this;rw[zci,Int.one_mul];exact this
def Aa:iY a b=0↔a=b:=by
 unfold iY;split
 ·omega
 ·split<;>omega
def E7:ee 1073741824 1:=by show(aY _ 1).length<=_;rw[wc];exact jF rfl
def vc:bl aT.ctx 80 xc.spec:=by
 refine bI [(179,xe.spec),(82,tq.spec),(180,aaw.spec),(181,Pf.spec)] Wk.1 ?_;intro⟨s,p,q⟩ ⟨(J: -1<=s),(U:s<=1),(hp:ee _ p),(hq:ee _ q),(hN:q≠0)⟩ H aK;have zero:s*(p:Int)=0->bS (.agg [.i .i64 0,.nl,.nl]) (xc.res (s,p,q)):=fun h=>aaE.trans (.of (by show cG 0=cG (mkRat (s*p) q);rw[h,Rat.zero_mkRat]));refine aq 11 ?_;by_cases sT:p=0
 ·refine ax 11 (.b true) rfl (by show aj.b (decide (((aY 1000000000 p).length:Int)=0))=_;rw[zac (by have:=Is.2 sT;omega)]) (I ?_);exact au rfl (zero (by rw[sT];simp))
 refine ax 11 (.b false) rfl (by show aj.b (decide (((aY 1000000000 p).length:Int)=0))=_;rw[zad (by have:=mt Is.1 sT;omega)]) (aq 13 ?_);by_cases sW:s=0
 ·refine dS 13 sW (I ?_);exact au rfl (zero (by rw[sW];simp))
 refine eu 13 sW ?_;have lB:=aq2 J U sW sT hN;have fin:∀{dO gn:Nat},dO=p/p.gcd q->gn=q/p.gcd q->bS (.agg [.i .i64 s,cZ dO,cZ gn]) (xc.res (s,p,q)):=fun aC e2=>.of (by rw[aC,e2];exact lB.symm);refine I ?_;refine aX vd () trivial ?_;refine aX sg (p,1) ⟨c2 hp (by decide),E7⟩ (aq 20 ?_);by_cases wJ:p=1
 ·refine ax 20 (.b true) rfl (by show aj.b (decide _)=_;rw[zac (Aa.2 wJ)]) (I ?_);exact au rfl (fin (by rw[wJ];simp) (by rw[wJ];simp))
 refine ax 20 (.b false) rfl (by show aj.b (decide _)=_;rw[zad (mt Aa.1 wJ)]) (I ?_);refine aX vd () trivial (I ?_);refine aX sg (q,1) ⟨c2 hq (by decide),E7⟩ (aq 24 ?_);by_cases rY:q=1
 ·refine ax 24 (.b true) rfl (by show aj.b (decide _)=_;rw[zac (Aa.2 rY)]) (I ?_);exact au rfl (fin (by rw[rY];simp) (by rw[rY];simp))
 refine ax 24 (.b false) rfl (by show aj.b (decide _)=_;rw[zad (mt Aa.1 rY)]) ?_;have aR:0<p.gcd q:=Nat.gcd_pos_of_pos_right _ (zbm hN);have HD:ee 268435456 (p.gcd q):=oM hq (zep _ (zbm hN));refine I ?_;refine aX arb (p,q) ⟨hp,hq,hN⟩ (I ?_);refine aX vd () trivial ?_;refine aX sg (p.gcd q,1) ⟨c2 HD (by decide),E7⟩ (I ?_);refine ij (L:=Nat×Nat) (fun(dO,gn)=>dO=p/p.gcd q∧gn=q/p.gcd q) (fun(dO,gn)=>⟨[.c 91 [.i .i64 0,.nl,.nl]],1,[(0,.i .i64 s),(1,cZ dO),(2,cZ gn),(6,.p 0 0)]⟩) ?_ ?_
 ·refine cA (fun hc=> ?_) (fun hc=> ?_)
  ·refine I ?_;refine aX Pg (p,p.gcd q) ⟨hp,HD,by show p.gcd q≠0;omega⟩ (I ?_);refine aX Pg (q,p.gcd q) ⟨hq,HD,by show p.gcd q≠0;omega⟩ (I ?_);exact bf [0] (p/p.gcd q,q/p.gcd q) ⟨rfl,rfl⟩ dI
  ·have hc:p.gcd q=1:=Aa.1 (Decidable.not_not.1 hc);refine I ?_;exact bf [0] (p,q) ⟨by rw[hc,zce],by rw[hc,zce]⟩ dI
 rintro⟨dO,gn⟩ ⟨aC,e2⟩;refine I ?_;exact au rfl (fin aC e2)
def Ph:bD where
 L:=Int
 args:=fun n=>[.i .i64 n]
 pre:=fun n=> -9223372036854775808<=n∧n<9223372036854775808
 res:=fun n=>cG (mkRat n 1)
def aao(h:n<18446744073709551616):ee 3 n:=jZ (by decide) (by omega)
def aaA:bl aT.ctx 423 Ph.spec:=by
 refine bI [(436,aaL.spec),(179,xe.spec),(80,xc.spec)] VW.1 ?_;intro(n:Int) ⟨(J:_<=n),(U:n<_)⟩ H aK;have cv:ee 268435456 1:=by show(aY _ 1).length<=_;rw[wc];exact jF rfl
 refine I ?_;refine cA (fun h=> ?_) (fun h=> ?_)
 ·obtain⟨m,hm⟩:∃m:Nat,m=n.natAbs:=⟨_,rfl⟩;refine aq 6 ?_;refine ax 6 (.i .i64 (n+1)) rfl (ct rfl (by omega) (by omega)) (aq 7 ?_);refine ax 7 (.i .i64 ((m-1:Nat):Int)) rfl ct (aq 9 ?_);have ahl:((m-1)%18446744073709551616+1)%18446744073709551616=m:=by omega
  refine ax 9 (.i .u64 (m:Nat)) rfl (congrArg (fun n:Nat=>aj.i .u64 (n:Int)) ahl) ?_;refine aX aaM m (by show m<_;omega) (I ?_);refine aX vd () trivial ?_;refine aX vc (-1,m,1) ⟨by decide,by decide,c2 (aao (by omega)) (by decide),cv,by decide⟩ (I ?_);exact au rfl (.of (by show cG _=cG _;rw[show -1*(m:Int)=n by omega]))
 ·obtain⟨m,hm⟩:∃m:Nat,n=(m:Int):=⟨n.toNat,by omega⟩;subst hm;refine aq 14 ?_;refine ax 14 (.i .u64 (m:Nat)) rfl fG ?_;refine aX aaM m (by show m<_;omega) (I ?_);refine aX vd () trivial ?_;refine aX vc (1,m,1) ⟨by decide,by decide,c2 (aao (by omega)) (by decide),cv,by decide⟩ (I ?_);exact au rfl (.of (by show cG _=cG _;rw[Int.one_mul]))
def Pc(h:s*(k:Int)=x.num*y.den+y.num*x.den):mkRat (s*k) (x.den*y.den)=x+y:=by rw[h,zdb]
def abL(n:Int):n=n.sign*(n.natAbs:Int):=(zcB n).symm
def jR(x:Rat):ac aj:=[.i .i64 x.num.sign,cZ x.num.natAbs,dk (if x.num=0 then[]else aY 1000000000 x.den)]
def aaS:bD where
 L:=Rat×Rat
 args:=fun(x,y)=>[cG x,cG y]
 pre:=fun(x,y)=>dW 67108864 x∧dW 67108864 y
 res:=fun(x,y)=>cG (x+y)
def arx:bl aT.ctx 434 aaS.spec:=by
 refine bI [(84,zd.spec),(83,zh.spec),(287,Jo.spec),(286,JD.spec),(82,tq.spec),(80,xc.spec)] V2.1 ?_;intro⟨x,y⟩ ⟨(aa:dW _ x),(aL:dW _ y)⟩ H aK;have e6:ee 134217728 (x.num.natAbs*y.den):=nt aa.1 aL.2;have iC:ee 134217728 (y.num.natAbs*x.den):=nt aL.1 aa.2;have r7:ee 134217728 (x.den*y.den):=nt aa.2 aL.2;have ag:x.den*y.den≠0:=zbs x.den_nz y.den_nz;have hS:=Cb x.num;have ny:=Cb y.num;refine I ?_;refine bQ sf y trivial (I ?_);refine bQ q7 (x.num.natAbs,y.den) ⟨c2 aa.1 (by decide),c2 aL.2 (by decide)⟩ (I ?_);refine bQ sf x trivial (I ?_);refine bQ q7 (y.num.natAbs,x.den) ⟨c2 aL.1 (by decide),c2 aa.2 (by decide)⟩ (I ?_);refine bQ sf x trivial (I ?_);refine bQ sf y trivial (I ?_);refine bQ q7 (x.den,y.den) ⟨c2 aa.2 (by decide),c2 aL.2 (by decide)⟩ (aq 27 ?_);refine ij (L:=Bool) (fun t=>t=decide (x.num.sign=0∨y.num.sign=0∨x.num.sign=y.num.sign)) (fun t=>⟨[.c 91 (jR x),.c 91 (jR y),.c 91 [.i .i64 0,.nl,.nl]],3,[(2,.p 0 0),(3,.p 1 0),(4,.p 2 0),(5,cZ (x.num.natAbs*y.den)),(6,cZ (y.num.natAbs*x.den)),(7,cZ (x.den*y.den)),(38,.b t)]⟩) ?_ ?_
 ·by_cases e0:x.num.sign=0
  ·refine ax 27 (.b true) rfl (by rw[zac e0]) (I ?_);exact bf [0,1,2] true (by simp[e0]) rh
  refine ax 27 (.b false) rfl (by rw[zad e0]) (aq 32 ?_);by_cases fT:y.num.sign=0
  ·refine ax 32 (.b true) rfl (by rw[zac fT]) (I ?_);exact bf [0,1,2] true (by simp[fT]) rh
  refine ax 32 (.b false) rfl (by rw[zad fT]) (I ?_);exact bf [0,1,2] (decide (x.num.sign=y.num.sign)) (by simp only[e0,fT,false_or]) rh
 intro t aW;have ex:=abL x.num;have uh:=abL y.num;by_cases hc:x.num.sign=0∨y.num.sign=0∨x.num.sign=y.num.sign
 ·refine ax 38 (.b true) rfl (by rw[aW,zac hc]) (I ?_);refine ij (L:=Int) (fun s=> -1<=s∧s<=1∧s*((x.num.natAbs*y.den+y.num.natAbs*x.den:Nat):Int)=x.num*y.den+y.num*x.den) (fun s=>⟨[.c 91 (jR x),.c 91 (jR y),.c 91 [.i .i64 0,.nl,.nl]],3,[(4,.p 2 0),(5,cZ (x.num.natAbs*y.den)),(6,cZ (y.num.natAbs*x.den)),(7,cZ (x.den*y.den)),(8,.i .i64 s)]⟩) ?_ ?_
  ·refine cA (fun h=> ?_) (fun h=> ?_)
   ·refine I ?_;refine bf [0,1,2] y.num.sign ⟨ny.1,ny.2,?_⟩ rh;have h0:x.num=0:=zcC.1 h
    conv=>rhs;rw[uh]
    rw[h0];simp[zbr]
   ·refine I ?_;refine bf [0,1,2] x.num.sign ⟨hS.1,hS.2,?_⟩ rh;have wN:y.num=x.num.sign*(y.num.natAbs:Int):=by
     rcases hc with aG|aG|aG
     ·exact absurd aG h
     ·rw[zcC.1 aG];simp
     ·rw[aG];exact uh
    conv=>rhs;rw[ex,wN]
    rw[Int.natCast_add,zaV,zaV,Int.mul_add,zbr,zbr]
  rintro s ⟨s1,s2,vo⟩;refine I ?_;refine aX Pb (x.num.natAbs*y.den,y.num.natAbs*x.den) ⟨c2 e6 (by decide),c2 iC (by decide)⟩ (I ?_);refine aX vc (s,x.num.natAbs*y.den+y.num.natAbs*x.den,x.den*y.den) ⟨s1,s2,c2 (K0 e6 iC) (by decide),c2 r7 (by decide),ag⟩ (I ?_);exact au rfl (.of (congrArg cG (Pc vo)))
 ·refine ax 38 (.b false) rfl (by rw[aW,zad hc]) ?_;have HP:y.num.sign= -x.num.sign:=by omega
  refine I ?_;refine aX sg (x.num.natAbs*y.den,y.num.natAbs*x.den) ⟨c2 e6 (by decide),c2 iC (by decide)⟩ (I ?_);have key:∀(s:Int) (a b:Nat),b<=a->s*((a-b:Nat):Int)=s*a+(-s)*b:=fun s a b h=>by rw[show((a-b:Nat):Int)=(a:Int)-b by omega,Int.mul_sub,zci];rfl
  refine cA (fun h=> ?_) (fun h=> ?_)
  ·have aN:=z8 h;refine I ?_;refine bQ Fb (y.num.natAbs*x.den,x.num.natAbs*y.den) ⟨c2 iC (by decide),zbh aN⟩ (I ?_);refine bQ vc (y.num.sign,y.num.natAbs*x.den-x.num.natAbs*y.den,x.den*y.den) ⟨ny.1,ny.2,c2 (oM iC (zbY _ _)) (by decide),c2 r7 (by decide),ag⟩ (I ?_);refine au rfl (.of (congrArg cG (Pc ?_)));rw[key _ _ _ (zbh aN)]
   conv=>rhs;rw[ex,uh]
   rw[HP,zaV,zaV,Int.neg_neg,zbr,zbr,Int.add_comm]
  ·have mG:=z9 h;refine I ?_;refine bQ Fb (x.num.natAbs*y.den,y.num.natAbs*x.den) ⟨c2 e6 (by decide),mG⟩ (I ?_);refine bQ vc (x.num.sign,x.num.natAbs*y.den-y.num.natAbs*x.den,x.den*y.den) ⟨hS.1,hS.2,c2 (oM e6 (zbY _ _)) (by decide),c2 r7 (by decide),ag⟩ (I ?_);refine au rfl (.of (congrArg cG (Pc ?_)));rw[key _ _ _ mG]
   conv=>rhs;rw[ex,uh]
   rw[HP,zaV,zaV,zbr,zbr]
def aaV:bD where
 L:=Rat×Rat
 args:=fun(x,y)=>[cG x,cG y]
 pre:=fun(x,y)=>dW 67108864 x∧dW 67108864 y
 res:=fun(x,y)=>cG (x-y)
def Ze(h:dW k x):dW k (-x):=by
 unfold dW;rw[zcA,zda,zcZ];exact h
def arz:bl aT.ctx 422 aaV.spec:=by
 refine bI [(435,aaN.spec),(434,aaS.spec)] VV.1 ?_;intro⟨x,y⟩ ⟨(aa:dW _ x),(aL:dW _ y)⟩ H aK;refine I ?_;refine bQ arq y trivial (I ?_);refine bQ arx (x,-y) ⟨aa,Ze aL⟩ (I ?_);exact au rfl (.of (by show cG (x+ -y)=cG (x-y);rw[zdD]))
def Pm:bD where
 L:=Rat×Int
 args:=fun(x,k)=>[cG x,.i .i64 k]
 pre:=fun(x,k)=>dW 67108864 x∧-100000000<=k∧k<=100000000
 res:=fun(x,k)=>cG (eh x k)
def aaX:bl aT.ctx 424 Pm.spec:=by
 refine bI [(84,zd.spec),(437,(Jz 1000000001).spec),(83,zh.spec),(80,xc.spec)] VX.1 ?_;intro⟨x,k⟩ ⟨(aa:dW _ x),(J:_<=k),(U:k<=_)⟩ H aK;have hS:=Cb x.num;refine I ?_;refine cA (fun h=> ?_) (fun h=> ?_)
 ·obtain⟨n,hn⟩:∃n:Nat,k= -(n:Int):=⟨(-k).toNat,by omega⟩;subst hn;refine I ?_;refine bQ sf x trivial (aq 14 ?_);refine di 14 (.i .i64 (n:Nat)) rfl rfl ct ?_;refine bQ (JA 1000000001) n ⟨by show n<_;omega,by show n<=_;omega⟩ (I ?_);refine bQ q7 (x.den,2^n) ⟨c2 aa.2 (by decide),c2 (si n) (by omega)⟩ (I ?_);refine bQ vc (x.num.sign,x.num.natAbs,x.den*2^n) ⟨hS.1,hS.2,c2 aa.1 (by decide),c2 (nt aa.2 (si n)) (by omega),zbs x.den_nz (by have:=zaD n;omega)⟩ (I ?_);refine au rfl (.of (congrArg cG ?_));show _=eh x (-(n:Int));unfold eh;rw[zab (by omega),zcB,show(- -(n:Int)).toNat=n by omega]
 ·obtain⟨n,hn⟩:∃n:Nat,k=(n:Int):=⟨k.toNat,by omega⟩;subst hn;refine I ?_;refine bQ (JA 1000000001) n ⟨by show n<_;omega,by show n<=_;omega⟩ (I ?_);refine bQ q7 (x.num.natAbs,2^n) ⟨c2 aa.1 (by decide),c2 (si n) (by omega)⟩ (I ?_);refine bQ sf x trivial (I ?_);refine bQ vc (x.num.sign,x.num.natAbs*2^n,x.den) ⟨hS.1,hS.2,c2 (nt aa.1 (si n)) (by omega),c2 aa.2 (by decide),x.den_nz⟩ (I ?_);refine au rfl (.of (congrArg cG ?_));show _=eh x (n:Int);unfold eh;rw[zaa (by omega),zaV,<-zbr,zcB,zeq,show((n:Int)).toNat=n by omega];rfl
def BN:bD where
 L:=Int
 args:=fun k=>[.i .i64 k]
 pre:=fun k=> -100000000<=k∧k<=100000000
 res:=fun k=>cG (eh (mkRat 1 1) k)
def Bw:dW 1 (mkRat 1 1):=by
 show ee 1 1∧ee 1 1;unfold ee;rw[wc];exact⟨b8 _,b8 _⟩
def eC(h:dW k x)(hl:k<=l):dW l x:=⟨c2 h.1 hl,c2 h.2 hl⟩
def Fc:bl aT.ctx 406 BN.spec:=by
 refine bI [(423,Ph.spec),(424,Pm.spec)] VQ.1 ?_;intro(k:Int) ⟨(J:_<=k),(U:k<=_)⟩ H aK;refine I ?_;refine aX aaA (1:Int) ⟨by decide,by decide⟩ (I ?_);refine aX aaX (mkRat 1 1,k) ⟨eC Bw (by decide),J,U⟩ (I ?_);exact au rfl (.refl _)
def aaB:bD where
 L:=Rat
 args:=fun x=>[cG x]
 pre:=fun x=>dW 67108864 x
 res:=fun x=>.b (decide (x.den=1))
def are:bl aT.ctx 86 aaB.spec:=by
 refine bI [(84,zd.spec),(179,xe.spec),(82,tq.spec)] Mk.1 ?_;intro(x:Rat) (aa:dW _ x) H aK;refine I ?_;refine aX sf x trivial ?_;refine aX vd () trivial ?_;refine aX sg (x.den,1) ⟨c2 aa.2 (by decide),E7⟩ (I ?_);exact au rfl (.of (by show aj.b (decide _)=aj.b (decide _);congr 1;rw[decide_eq_decide];exact Aa))
def zq(k:Int):(eh (mkRat 1 1) k).num=2^k.toNat∧(eh (mkRat 1 1) k).den=2^(-k).toNat:=by
 have Hn:(mkRat 1 1).num=1∧(mkRat 1 1).den=1:=⟨rfl,rfl⟩;unfold eh;rw[Hn.1,Hn.2];split
 ·obtain⟨J,U⟩:=y0 1 (1*2^(-k).toNat) (by have:=zaD (-k).toNat;omega);rw[J,U,show k.toNat=0 by omega];simp
 ·obtain⟨J,U⟩:=y0 (1*2^k.toNat) 1 (by decide);rw[J,U,show(-k).toNat=0 by omega];simp
def Oa{x:Rat}{k:Int}:jr x<eh (mkRat 1 1) k↔x.num.natAbs*2^(-k).toNat<x.den*2^k.toNat:=by
 rw[Rat.lt_iff,(rv x).1,(rv x).2,(zq k).1,(zq k).2];rw[show(x.num.natAbs:Int)*((2^(-k).toNat:Nat):Int)=((x.num.natAbs*2^(-k).toNat:Nat):Int)from(zaV _ _).symm,show(2:Int)^k.toNat*(x.den:Int)=((x.den*2^k.toNat:Nat):Int) by rw[zaV,zeq,Int.mul_comm];rfl];exact Int.ofNat_lt
def Ow(h:dW k x):dW k (jr x):=by
 unfold dW;rw[(rv x).1,(rv x).2];exact h
def Oy{c:Nat}{k:Int}(J: -(c:Int)<=k)(U:k<=c):dW (c+1) (eh (mkRat 1 1) k):=by
 obtain⟨aC,e2⟩:=zq k;unfold dW;rw[aC,e2,zdE];exact⟨c2 (si _) (by omega),c2 (si _) (by omega)⟩
def R7:gd x y<0↔x<y:=by
 unfold gd;constructor
 ·intro h;split at h
  ·assumption
  split at h<;>omega
 ·intro h;rw[zab h];decide
def aaI:bD where
 L:=Rat
 args:=fun x=>[cG x]
 pre:=fun x=>dW 3000000 x∧x.num≠0
 res:=fun x=>.i .i64 (j7 x.num.natAbs x.den)
def arn:bl aT.ctx 407 aaI.spec:=by
 refine bI [(427,aaG.spec),(401,Jn.spec),(406,BN.spec),(33,xg.spec)] VR.1 ?_;intro(x:Rat) ⟨(aa:dW _ x),(h0:x.num≠0)⟩ H aK;have c3:=q6 aa.1;have dP:=q6 aa.2;refine I ?_;refine cA (fun h=> ?_) (fun h=> ?_)
 ·exact absurd (zcC.1 h) h0
 refine I ?_;refine bQ aaH x.num.natAbs (c2 aa.1 (by decide)) (I ?_);refine di 11 (cZ x.den) rfl rfl (by rw[zaa h0];rfl) ?_;refine bQ aaH x.den (c2 aa.2 (by decide)) ?_;obtain⟨p,hp⟩:∃p,p=bH x.num.natAbs:=⟨_,rfl⟩;obtain⟨q,hq⟩:∃q,q=bH x.den:=⟨_,rfl⟩;have hl:j7 x.num.natAbs x.den=if x.num.natAbs*2^((q:Int)-p).toNat<x.den*2^((p:Int)-q).toNat then(p:Int)-q-1 else(p:Int)-q:=by rw[hp,hq];rfl
 rw[<-hp]at c3;rw[<-hq]at dP;refine aq 13 ?_;obtain⟨k,ab⟩:∃k:Int,k=(p:Int)-q:=⟨_,rfl⟩;refine ax 13 (.i .i64 k) rfl (by rw[ab,hp,hq];exact ct rfl (by omega) (by omega)) (I ?_);refine aX Pa x trivial (I ?_);refine aX Fc k ⟨by show _<=k;omega,by show k<=_;omega⟩ ?_;refine aX xh (jr x,eh (mkRat 1 1) k) ⟨eC (Ow aa) (by decide),eC (Oy (c:=100000000) (by omega) (by omega)) (by decide)⟩ ?_;have DJ:gd (jr x) (eh (mkRat 1 1) k)<0↔x.num.natAbs*2^((q:Int)-p).toNat<x.den*2^((p:Int)-q).toNat:=by
  rw[R7,Oa,ab,show -((p:Int)-q)=(q:Int)-p by omega]
 refine I ?_;refine cA (fun hc=> ?_) (fun hc=> ?_)
 ·have hc:=DJ.1 hc;refine I ?_;exact au rfl (.of (by
   show aj.i _ _=aj.i .i64 (j7 _ _);rw[hl,zab hc];exact ct))
 ·have hc:=mt DJ.2 hc;refine I ?_;exact au rfl (.of (by
   show aj.i _ _=aj.i .i64 (j7 _ _);rw[hl,zaa hc,ab]))
def aaF:bD where
 L:=Int×Int
 args:=fun(e,p)=>[qC e p]
 pre:=fun(e,p)=>gj e p
 res:=fun(e,p)=>cG (eh (mkRat 1 1) (2-fb e-p))
def arl:bl aT.ctx 405 aaF.spec:=by
 refine bI [(425,Jq.spec),(406,BN.spec)] VP.1 ?_;intro⟨e,p⟩ aw H aK;obtain⟨J,U,ag,az,a4⟩:=aw;obtain⟨c3,dP⟩:=qu J U;refine I ?_;refine bQ Pd (e,p) ⟨J,U,ag,az,a4⟩ (aq 5 ?_);refine ax 5 (.i .i64 (2-fb e)) rfl (ct rfl (by omega) (by omega)) (aq 8 ?_);refine ax 8 (.i .i64 (2-fb e-p)) rfl (ct rfl (by omega) (by omega)) ?_;refine bQ Fc (2-fb e-p) ⟨by show _<=2-fb e-p;omega,by show 2-fb e-p<=_;omega⟩ (I ?_);exact au rfl (.refl _)
def aaO:bD where
 L:=Int×Int
 args:=fun(e,p)=>[qC e p]
 pre:=fun(e,p)=>gj e p
 res:=fun(e,p)=>cG (eh (mkRat 1 1) (1-fb e))
def art:bl aT.ctx 426 aaO.spec:=by
 refine bI [(425,Jq.spec),(406,BN.spec)] VZ.1 ?_;intro⟨e,p⟩ aw H aK;obtain⟨J,U,ag,az,a4⟩:=aw;obtain⟨c3,dP⟩:=qu J U;refine I ?_;refine aX Pd (e,p) ⟨J,U,ag,az,a4⟩ (aq 5 ?_);refine ax 5 (.i .i64 (1-fb e)) rfl (ct rfl (by omega) (by omega)) ?_;refine aX Fc (1-fb e) ⟨by show _<=1-fb e;omega,by show 1-fb e<=_;omega⟩ (I ?_);exact au rfl (.refl _)
def y4{n:Int}(J:ee k n.natAbs)(U:ee k d)(aA:d≠0):dW k (mkRat n d):=by
 obtain⟨aC,e2⟩:=y0 n d aA;refine⟨oM J ?_,oM U ?_⟩
 ·rw[aC,Int.natAbs_ediv_of_dvd (Int.ofNat_dvd_left.2 (zdC _ _))];exact zaF _ _
 ·rw[e2];exact zaF _ _
def Ox(c:Nat){k:Int}(h:dW a x)(J: -(c:Int)<=k)(U:k<=c):dW (a+c+1) (eh x k):=by
 unfold eh;split
 ·exact y4 (c2 h.1 (by omega)) (c2 (nt h.2 (si _)) (by omega)) (zbs x.den_nz (by have:=zaD (-k).toNat;omega))
 ·refine y4 ?_ (c2 h.2 (by omega)) x.den_nz;rw[zcg,zdE];exact c2 (nt h.1 (si _)) (by omega)
def ap7(J:dW a x)(U:dW b y):dW (a+b+1) (x+y):=by
 rw[zdb];have fE:=nt J.1 U.2;have a0:=nt U.1 J.2;refine y4 (oM (K0 fE (c2 a0 (by omega))) ?_) (c2 (nt J.2 U.2) (by omega)) (zbs x.den_nz y.den_nz);have:=Int.natAbs_add_le (x.num*y.den) (y.num*x.den);rw[zcg,zcg]at this;simpa using this
def Zf(J:dW a x)(U:dW b y):dW (a+b+1) (x-y):=by
 rw[zdD];exact ap7 J (Ze U)
def ap8{e p:Int}(h:gj e p):dW 2000 (oq e p):=by
 obtain⟨J,U,ag,az,a4⟩:=h;obtain⟨c3,dP⟩:=qu J U;exact eC (Ox 1200 (Zf (Ox 120 Bw (by omega) (by omega)) Bw) (by omega) (by omega)) (by decide)
def aax:bD where
 L:=Int×Int
 args:=fun(e,p)=>[qC e p]
 pre:=fun(e,p)=>gj e p
 res:=fun(e,p)=>cG (oq e p)
def arc:bl aT.ctx 402 aax.spec:=by
 refine bI [(406,BN.spec),(423,Ph.spec),(422,aaV.spec),(425,Jq.spec),(424,Pm.spec)] VM.1 ?_;intro⟨e,p⟩ aw H aK;obtain⟨J,U,ag,az,a4⟩:=aw;obtain⟨c3,dP⟩:=qu J U;have kW:=Ox (k:=p) 120 Bw (by omega) (by omega);refine I ?_;refine aX Fc p ⟨by omega,by omega⟩ ?_;refine aX aaA (1:Int) ⟨by decide,by decide⟩ ?_;refine aX arz (eh (mkRat 1 1) p,mkRat 1 1) ⟨eC kW (by decide),eC Bw (by decide)⟩ (I ?_);refine bQ Pd (e,p) ⟨J,U,ag,az,a4⟩ (aq 14 ?_);refine ax 14 (.i .i64 (fb e-p)) rfl (ct rfl (by omega) (by omega)) (aq 15 ?_);refine ax 15 (.i .i64 (fb e-p+1)) rfl (ct rfl (by omega) (by omega)) ?_;refine bQ aaX (eh (mkRat 1 1) p-mkRat 1 1,fb e-p+1) ⟨eC (Zf kW Bw) (by decide),by show _<=fb e-p+1;omega,by show fb e-p+1<=_;omega⟩ (I ?_);exact au rfl (.refl _)
def aar:bD where
 L:=Int×Int×Rat
 args:=fun(e,p,x)=>[qC e p,cG x]
 pre:=fun(e,p,x)=>gj e p∧dW 67108864 x
 res:=fun(e,p,x)=>.b (decide (jr x<eh (mkRat 1 1) (1-fb e)))
def aq3:bl aT.ctx 404 aar.spec:=by
 refine bI [(401,Jn.spec),(426,aaO.spec),(33,xg.spec)] VO.1 ?_;intro⟨e,p,x⟩ ⟨aw,(aa:dW _ x)⟩ H aK;have dp:=aw;obtain⟨J,U,ag,az,a4⟩:=dp;obtain⟨c3,dP⟩:=qu J U;refine I ?_;refine bQ Pa x trivial (I ?_);refine bQ art (e,p) aw (I ?_);refine bQ xh (jr x,eh (mkRat 1 1) (1-fb e)) ⟨eC (Ow aa) (by decide),eC (Oy (c:=2000) (by omega) (by omega)) (by decide)⟩ (I ?_);exact au rfl (.of (by show aj.b (decide _)=aj.b (decide _);congr 1;rw[decide_eq_decide];exact R7))
def n4(e p:Int)(x:Rat):Int:=if jr x<eh (mkRat 1 1) (1-fb e)then 2-fb e-p else j7 x.num.natAbs x.den-p+1
def aaY:bD where
 L:=Int×Int×Rat
 args:=fun(e,p,x)=>[qC e p,cG x]
 pre:=fun(e,p,x)=>gj e p∧dW 3000000 x
 res:=fun(e,p,x)=>cG (eh (mkRat 1 1) (n4 e p x))
def abs_zero(h:x.num=0)(k:Int):jr x<eh (mkRat 1 1) k:=by
 rw[Oa,h];simp;exact zcd (zbm x.den_nz) (zaD _)
def arC:bl aT.ctx 371 aaY.spec:=by
 refine bI [(404,aar.spec),(405,aaF.spec),(407,aaI.spec),(406,BN.spec)] VB.1 ?_;intro⟨e,p,x⟩ ⟨aw,(aa:dW _ x)⟩ H aK;have dp:=aw;obtain⟨J,U,ag,az,a4⟩:=dp;obtain⟨c3,dP⟩:=qu J U;refine I ?_;refine aX aq3 (e,p,x) ⟨aw,eC aa (by decide)⟩ (I ?_);refine cA (fun h=> ?_) (fun h=> ?_)
 ·refine I ?_;refine aX arl (e,p) aw (I ?_);exact au rfl (.of (by show cG _=cG _;unfold n4;rw[zab h]))
 ·have h0:x.num≠0:=fun aG=>h (abs_zero aG _);have jY:=Iv x.num.natAbs x.den;have vS:=q6 aa.1;have CP:=q6 aa.2;obtain⟨k,ab⟩:∃k:Int,k=j7 x.num.natAbs x.den:=⟨_,rfl⟩;rw[<-ab]at jY;refine I ?_;refine bQ arn x ⟨aa,h0⟩ (aq 14 ?_);refine ax 14 (.i .i64 (k-p)) rfl (by rw[ab];exact ct rfl (by omega) (by omega)) (aq 15 ?_);refine ax 15 (.i .i64 (k-p+1)) rfl (ct rfl (by omega) (by omega)) ?_;refine bQ Fc (k-p+1) ⟨by show _<=k-p+1;omega,by show k-p+1<=_;omega⟩ (I ?_);exact au rfl (.of (by show cG _=cG _;unfold n4;rw[zaa h,ab];rfl))
def ark{c:Int}:bS (.bP [.agg [.i .i64 0,.nl,.nl],.i .i64 c]) (.bP [cG 0,.i .i64 c]):=.bP ⟨aaE,.refl _,trivial⟩
def o6(p q:Nat)(k:Int):Prop:=q*2^k.toNat<=p*2^(-k).toNat
variable{i:Nat}
def ak6{k:Int}(h:o6 p q (k+1)):o6 p q k:=by
 unfold o6 at *;rcases(show 0<=k∨k<0 by omega)with h0|h0
 ·rw[show(k+1).toNat=k.toNat+1 by omega,show(-(k+1)).toNat=0 by omega,zal]at h;rw[show(-k).toNat=0 by omega];exact zag (m1 q (by omega)) h
 ·rw[show(k+1).toNat=0 by omega]at h;rw[show k.toNat=0 by omega,show(-k).toNat=(-(k+1)).toNat+1 by omega,zal];exact zag h (m1 p (by omega))
def Hf{j k:Int}(je:j<=k)(h:o6 p q k):o6 p q j:=by
 obtain⟨n,rfl⟩:∃n:Nat,k=j+n:=⟨(k-j).toNat,by omega⟩
 induction n with
 |zero=>simpa using h
 |succ n a7=>exact a7 (by omega) (ak6 (by rw[show j+(n:Int)+1=j+((n+1:Nat):Int) by omega];exact h))
def apk(hp:p≠0)(hq:q≠0)(k:Int):k<=j7 p q↔o6 p q k:=by
 obtain⟨jC,hB⟩:=rB hp;obtain⟨cv,cF⟩:=rB hq;have fa:=vV (n:=p) (by omega);have fR:=vV (n:=q) (by omega);have e:j7 p q=if p*2^((bH q:Int)-bH p).toNat<q*2^((bH p:Int)-bH q).toNat then(bH p:Int)-bH q-1 else(bH p:Int)-bH q:=rfl;obtain⟨a,ha⟩:∃a,bH p=a+1:=⟨_,fa⟩;obtain⟨b,hb⟩:∃b,bH q=b+1:=⟨_,fR⟩;rw[ha,show a+1-1=a by omega]at jC;rw[hb,show b+1-1=b by omega]at cv;rw[ha]at hB e;rw[hb]at cF e;have aQ:o6 p q ((a:Int)-b-1):=by
  unfold o6;rcases(show(b:Int)+1<=a∨(a:Int)<b+1 by omega)with h|h
  ·rw[show(-((a:Int)-b-1)).toNat=0 by omega,zbX,zaZ];refine zag (iq _ (zbh cF)) ?_;rw[<-zar,show b+1+((a:Int)-b-1).toNat=a by omega];exact jC
  ·rw[show((a:Int)-b-1).toNat=0 by omega,zbX,zaZ];refine zag (zbh cF) (zag ?_ (iq _ jC));rw[<-zar,show a+(-((a:Int)-b-1)).toNat=b+1 by omega];exact b8 _
 have af:¬o6 p q ((a:Int)-b+1):=by
  unfold o6;rw[Nat.not_le];rcases(show(b:Int)<=a+1∨(a:Int)+1<b by omega)with h|h
  ·rw[show(-((a:Int)-b+1)).toNat=0 by omega,zbX,zaZ];refine fM hB (zag ?_ (iq _ cv));rw[<-zar,show b+((a:Int)-b+1).toNat=a+1 by omega];exact b8 _
  ·rw[show((a:Int)-b+1).toNat=0 by omega,zbX,zaZ];refine fM (zeB hB (zaD _)) (zag ?_ cv);rw[<-zar,show a+1+(-((a:Int)-b+1)).toNat=b by omega];exact b8 _
 have e2:(p*2^(((b+1:Nat):Int)-((a+1:Nat):Int)).toNat<q*2^(((a+1:Nat):Int)-((b+1:Nat):Int)).toNat)↔¬o6 p q ((a:Int)-b):=by
  unfold o6;rw[Nat.not_le,show((b+1:Nat):Int)-((a+1:Nat):Int)= -((a:Int)-b) by omega,show((a+1:Nat):Int)-((b+1:Nat):Int)=(a:Int)-b by omega]
 by_cases hm:o6 p q ((a:Int)-b)
 ·rw[zaa (fun h=>e2.1 h hm)]at e;rw[e];exact⟨fun h=>Hf (by omega) hm,fun h=>Int.not_lt.1 fun aG=>af (Hf (by omega) h)⟩
 ·rw[zab (e2.2 hm)]at e;rw[e];exact⟨fun h=>Hf (by omega) aQ,fun h=>Int.not_lt.1 fun aG=>hm (Hf (by omega) h)⟩
def acv{e p:Int}(h0:x.num≠0):Kg e p x=n4 e p x:=by
 have aa:x.num.natAbs≠0:=by omega
 have J:=apk aa x.den_nz (1-fb e);have U:= @Oa x (1-fb e);unfold Kg n4;rw[zaa h0];unfold o6 at J;by_cases hc:jr x<eh (mkRat 1 1) (1-fb e)
 ·rw[zab hc];have ag:=U.1 hc;have az:¬1-fb e<=j7 x.num.natAbs x.den:=fun h=>by have:=J.1 h;omega
  omega
 ·rw[zaa hc];have ag:=mt U.2 hc;have az:=J.2 (by omega);omega
def Y6:bD where
 L:=Nat
 args:=fun n=>[.i .i64 n]
 pre:=fun n=>n<1000000000
 res:=fun n=>.s (hg (iU 9 n).reverse)
def aqQ(n i:Nat):n/10^i<=n:=zaF _ _
def apY:bl aT.ctx 183 Y6.spec:=by
 refine bI [] Ui.1 ?_;intro(n:Nat) (hn:n<1000000000) H aK;refine I ?_;refine cN (L:=Nat) (fun i=>i<=9) (fun(i:Nat)=>⟨[],0,[(0,.i .i64 (n/10^i:Nat)),(3,.s (hg (iU i n).reverse)),(4,.i .i64 i)]⟩) (fun i=>9-i) [] 0 (zae _) (by show 9-0<bV+1;unfold bV;omega) (kd ⟨by simp;rfl,rfl,rfl,trivial⟩) ?_;intro(i:Nat) af;have hm:=aqQ n i;have ah:n/10^(i+1)=n/10^i/10:=by rw[zal,zbg]
 have hl:hg (iU (i+1) n).reverse=hg [n/10^i%10]++hg (iU i n).reverse:=by rw[Yz,zbO,Ga];rfl
 have hlen:(hg (iU i n).reverse).length=i:=by rw[tR,zbi,yT]
 generalize mC:n/10^i=m at *;refine I ?_;refine cA (fun h=> ?_) (fun h=> ?_)
 ·have h:i<9:=by omega
  refine aq 10 ?_;refine ax 10 (.i .i64 ((m%10:Nat):Int)) rfl rfl (aq 11 ?_);refine ax 11 (.i .i64 ((48+m%10:Nat):Int)) rfl ct (aq 12 ?_);refine ax 12 (.i .u8 ((UInt8.ofNat (48+m%10)).toNat:Int)) rfl (by rw[UInt8.toNat_ofNat']) (I ?_);refine oN 0 lu [UInt8.ofNat (48+m%10)] ?_;refine PD (hg [m%10]) ?_;refine I ?_;refine tr ?_ (hl:=by rw[hlen];show 1+i<=_;omega);refine ax 16 (.s (hg (iU (i+1) n).reverse)) rfl (by rw[hl]) (I ?_);exact bf [] (i+1) ⟨by show 9-(i+1)<9-i;omega,h⟩ (kd ⟨by rw[ah];show some (aj.i _ (IntKind.i64.wrap ((m/10:Nat):Int)))=_;exact e1 rfl (by omega) (by omega),rfl,e1,trivial⟩)
 ·have he:i=9:=by omega
  subst he;refine I ?_;exact au rfl (.refl _)
def aaZ:bD where
 L:=Nat
 args:=fun n=>[cZ n]
 pre:=fun n=>ee 1073741824 n
 res:=fun n=>.s (dZ n)
def Sx(h:d<10):dec d=[d]:=by
 unfold dec;split
 ·rename_i h0;rw[h0]
 ·rw[oj (by decide) (by assumption),gP h,zbL h,gE];rfl
def au0{c7:ac Nat}(h:d≠0):eV (c7++[d])=c7++[d]:=by rw[ss,zaa h]
theorem L9:∀l:ac Nat,(l.flatMap (iU 9)).length=9*l.length
 |[]=>rfl
 |x::l=>by rw[zcQ,zay,L9 l,yT,zaq];omega
def aa0:bl aT.ctx 85 aaZ.spec:=by
 refine bI [(183,Y6.spec)] Wp.1 ?_;intro(n:Nat) (hn:(aY _ n).length<=_) H aK;have J:=hi (b:=1000000000) (by decide) n;have avn:=gD (b:=1000000000) (by decide) n;show aU.ok _ ⟨_,_,⟨_,_,[(0,dk (aY 1000000000 n))]⟩⟩;generalize aY 1000000000 n=xs at *;refine I ?_;refine pw (L:=Unit) (fun _=>True) (fun _=>⟨[],0,[(3,.s (hg (xs.flatMap (iU 9)).reverse))]⟩) ?_ ?_
 ·refine cN (L:=Nat) (fun k=>k<=xs.length) (fun(k:Nat)=>⟨[],0,[(0,dk xs),(3,.s (hg ((xs.drop k).flatMap (iU 9)).reverse)),(4,.i .i64 ((k:Int)-1))]⟩) id [] xs.length (b8 _) (by show xs.length<bV+1;unfold bV;omega) (kd ⟨rfl,by rw[zcw];rfl,e1,trivial⟩) ?_;intro(k:Nat) ab;cases k with
  |zero=>
   refine I ?_;exact bf [] () trivial dj
  |succ m=>
   have aa:m<xs.length:=by omega
   have l7:=J _ (dy aa);have rV:=L9 (xs.drop (m+1));refine ax 4 (.i .i64 (m:Nat)) rfl fG (I ?_);refine ax 9 (.b true) rfl (by simp) (I ?_);refine dr xs[m] (bm aa) ?_;refine I ?_;refine aX apY xs[m] l7 ?_;refine tr ?_ (hl:=by rw[tR,tR,zbi,zbi,rV,yT,zaA];omega);refine ax 18 (.s (hg ((xs.drop m).flatMap (iU 9)).reverse)) rfl (by rw[eX aa,zcQ,zbO,Ga]) (I ?_);exact bf [] m ⟨by simp,by omega⟩ (kd ⟨rfl,rfl,e1,trivial⟩)
 intro _ _;have bN:=Dx xs;have yJ:=Tn J;have hlen:=L9 xs;rw[avn]at yJ;generalize xs.flatMap (iU 9)=LX at *;refine I ?_;refine cN (L:=ac Nat) (fun es=>cV 10 es∧val 10 es=n∧es.length<=LX.length) (fun es=>⟨[],0,[(3,.s (hg es.reverse))]⟩) List.length [] LX ⟨bN,yJ,b8 _⟩ (by show LX.length<bV+1;unfold bV;omega) dj ?_;rintro es ⟨g1,aM,bc⟩;rcases zcb es with rfl|⟨c7,d,rfl⟩
 ·have l6:n=0:=by rw[<-aM];rfl
  refine I ?_;refine au rfl (.of ?_);show aj.s [48]=aj.s (dZ n);rw[l6];rfl
 rw[zcc]at *;have aA:d<10:=g1 d (by simp);have ah:hg (c7++[d]).reverse=UInt8.ofNat (48+d)::hg c7.reverse:=by rw[zbO];rfl
 rw[mZ]at aM;simp only[val,zcz,zaX]at aM;refine ax 3 (.s (UInt8.ofNat (48+d)::hg c7.reverse)) rfl (by rw[ah]) (aq 22 ?_);have hl:(hg c7.reverse).length=c7.length:=by rw[tR,zbi]
 by_cases af:c7=[]
 ·subst af;refine ax 22 (.b false) rfl (by simp[hg]) (I ?_);refine au rfl (.of ?_);show aj.s (hg [d])=aj.s (dZ n);have:n=d:=by simp[val]at aM;exact aM.symm
  rw[this];congr 1;unfold dZ;rw[Sx aA]
 have yo:0<c7.length:=zaN.2 af;refine ax 22 (.b true) rfl (by rw[zaq,hl];simp;omega) (I ?_);refine nu (UInt8.ofNat (48+d)) (j:=0) rfl ?_;refine aq 25 ?_;have j2:=GO aA;by_cases yk:d=0
 ·refine ax 25 (.b true) rfl (by rw[j2,yk];rfl) (I ?_);refine sk (p:=1) (hg c7.reverse) ?_ (hp:=by simp) (hq:=by simp);refine I ?_;exact bf [] c7 ⟨by simp,fun x aa=>g1 x (by simp[aa]),by rw[yk]at aM;simpa using aM,by simp at bc;omega⟩ dj
 ·refine ax 25 (.b false) rfl (by rw[j2];exact congrArg aj.b (zad (by omega))) (I ?_);refine au rfl (.of ?_);show aj.s (UInt8.ofNat (48+d)::hg c7.reverse)=aj.s (dZ n);rw[<-ah];have e:=Ag (b:=10) (by decide) g1 (au0 yk);rw[mZ]at e;simp only[val,zcz,zaX]at e;rw[aM]at e;have l6:n≠0:=fun h=>by rw[h,gE]at e;simp at e
  unfold dZ dec;rw[zaa l6,e]
def Rl(h:ee k n):(dZ n).length<=9*k+1:=by
 unfold dZ dec;rw[tR];split
 ·simp
 ·rw[zbi];refine zdf (jZ (b:=10) (by decide) ?_);have:=sL h;rw[show(1000000000:Nat)=10^9 from rfl,<-zbM]at this;exact this
def O9:bD where
 L:=Rat
 args:=fun x=>[cG x]
 pre:=fun x=>dW 67108864 x
 res:=fun x=>.s (gp x)
def qh:bl aT.ctx 34 O9.spec:=by
 refine bI [(85,aaZ.spec),(86,aaB.spec)] Vi.1 ?_;intro(x:Rat) (aa:dW _ x) H aK;have e6:=Rl aa.1;have iC:=Rl aa.2;refine I ?_;refine aX aa0 x.num.natAbs (c2 aa.1 (by decide)) (I ?_);have aca:x.num.sign<0↔x.num<0:=Int.sign_neg_iff;obtain⟨u,hu⟩:∃u,u=(if x.num<0 then[45]else[])++dZ x.num.natAbs:=⟨_,rfl⟩;have uG:u.length<=9*67108864+2:=by
  rw[hu,zay];have:(if x.num<0 then([45]:ac bv)else[]).length<=1:=by split<;>simp
  omega
 refine ij (L:=Unit) (fun _=>True) (fun _=>⟨[.c 91 (jR x)],1,[(1,.p 0 0),(3,.s u)]⟩) ?_ ?_
 ·refine cA (fun h=> ?_) (fun h=> ?_)
  ·refine I ?_;refine tr ?_ (hl:=by show 1+(dZ _).length<=_;omega);refine I ?_;exact bf [0] () trivial (eD ⟨rfl,by rw[hu,zab (aca.1 h)];rfl,trivial⟩ ⟨_,rfl,rfl⟩)
  ·refine I ?_;exact bf [0] () trivial (eD ⟨rfl,by rw[hu,zaa (fun aG=>h (aca.2 aG))];rfl,trivial⟩ ⟨_,rfl,rfl⟩)
 intro _ _;refine I ?_;refine aX are x aa (I ?_);refine BX (fun h=> ?_) (fun h=> ?_)
 ·have h0:x.num≠0:=fun e=>h (by have:=x.reduced;rw[e]at this;simpa[Nat.Coprime]using this);refine I ?_;refine tr ?_ (hl:=by show u.length+1<=_;omega);refine aq 18 ?_;refine ax 18 (cZ x.den) rfl (by rw[zaa h0];rfl) ?_;refine aX aa0 x.den (c2 aa.2 (by decide)) ?_;refine tr ?_ (hl:=by rw[zay];show u.length+1+(dZ _).length<=_;omega);refine I ?_;refine au rfl (.of ?_);show aj.s (u++[47]++dZ x.den)=aj.s (gp x);unfold gp;rw[<-hu,zaa h,zbN];rfl
 ·refine I ?_;refine au rfl (.of ?_);show aj.s u=aj.s (gp x);unfold gp;rw[<-hu,zab h,zcE]
def Pk:bD where
 L:=ac bv
 args:=fun s=>[.s s]
 pre:=fun s=>s.length<=1073741824
 res:=fun s=>.b (decide (iu s))
def ad3{s:ac bv}(h:i<s.length)(J:jW (s.take i))(U:48<=s[i].toNat∧s[i].toNat<=57):jW (s.take (i+1)):=by
 rw[zaY h];intro c hc;rcases zbF.1 hc with hc|hc
 ·exact J c hc
 ·simp at hc;subst hc;exact U
def Pl:bl aT.ctx 178 Pk.spec:=by
 refine bI [] Ud.1 ?_;intro(s:ac bv) (ah:s.length<=_) H aK;refine I ?_;refine pw (L:=Unit) (fun _=>jW s) (fun _=>⟨[],0,[(0,.s s)]⟩) ?_ ?_
 ·refine cN (L:=Nat) (fun i=>i<=s.length∧jW (s.take i)) (fun(i:Nat)=>⟨[],0,[(0,.s s),(3,.i .i64 i)]⟩) (fun i=>s.length-i) [] 0 ⟨zae _,fun c hc=>by simp at hc⟩ (by show s.length-0<bV+1;unfold bV;omega) dj ?_;rintro(i:Nat) ⟨af,ha⟩;refine I ?_;refine cA (fun h=> ?_) (fun h=> ?_)
  ·have h:i<s.length:=by omega
   have hm:s[i]∈s:=dy h;refine I ?_;refine nu s[i] (bm h) ?_;refine aq 14 ?_;have bad:¬(48<=s[i].toNat∧s[i].toNat<=57)->bS (.b false) (Pk.res s):=fun h=>.of (by show aj.b false=aj.b (decide _);rw[zad (fun hb=>h (hb.2.1 _ hm))]);by_cases J:s[i].toNat<48
   ·refine ax 14 (.b true) rfl (by rw[zac (by omega)]) (I ?_);exact au rfl (bad (by omega))
   refine ax 14 (.b false) rfl (by rw[zad (by omega)]) (I ?_);refine nu s[i] (bm h) ?_;refine I ?_;refine cA (fun U=> ?_) (fun U=> ?_)
   ·refine I ?_;exact au rfl (bad (by omega))
   ·refine I ?_;exact bf [] (i+1) ⟨by show s.length-(i+1)<s.length-i;omega,h,ad3 h ha (by omega)⟩ (kd ⟨rfl,e1,trivial⟩)
  ·have he:i=s.length:=by omega
   subst he;rw[zbx]at ha;refine I ?_;exact bf [] () ha dj
 intro _ ea;cases s with
 |nil=>
  refine aq 23 ?_;refine ax 23 (.b false) rfl rfl (I ?_);exact au rfl (.of (by show aj.b false=aj.b (decide _);rw[zad (fun hb=>hb.1 rfl)]))
 |cons c t=>
  refine aq 23 ?_;refine ax 23 (.b true) rfl (by simp) (aq 26 ?_);by_cases hb:c::t=[48]
  ·refine ax 26 (.b true) rfl (by rw[hb];rfl) (I ?_);exact au rfl (.of (by show aj.b true=aj.b (decide _);rw[zac ⟨by simp,ea,.inl hb⟩]))
  refine ax 26 (.b false) rfl (by rw[zat.2 hb]) (I ?_);refine nu c (j:=0) rfl ?_;refine I ?_;refine au rfl (.of ?_);show aj.b (decide _)=aj.b (decide _);congr 1;rw[decide_eq_decide];constructor
  ·intro h;refine⟨by simp,ea,.inr fun e=>h ?_⟩;have e:c=48:=by simpa using e
   rw[e];rfl
  ·rintro⟨_,_,h|h⟩ e
   ·exact hb h
   ·exact h (congrArg some (zcn.1 (show c.toNat=48 by omega)))
def Fi(s:ac bv):aj:=
 match(cutAt (ed s).2).2 with
 |none=>.bP [.s (ed s).2,.s [49],.i .i64 (if(ed s).1=true then -1 else 1),.b (decide (iu (ed s).2∧¬((ed s).1=true∧(ed s).2=[48])))]
 |some q=>.bP [.s (cutAt (ed s).2).1,.s q,.i .i64 (if(ed s).1=true then -1 else 1),.b (decide (iu (cutAt (ed s).2).1∧iu q∧q≠[48]∧q≠[49]∧¬((ed s).1=true∧(cutAt (ed s).2).1=[48])))]
def Sy{p:Prop}[Decidable p]{b:Bool}:decide p=b↔(p↔b=true):=by cases b<;>simp
def JB:bD where
 L:=ac bv
 args:=fun s=>[.s s]
 pre:=fun s=>s.length<=1073741824
 res:=fun s=>Fi s
def agv{s:ac bv}(h:i<s.length)(J:(47:bv)∉s.take i)(U:s[i]=47):cutAt s=(s.take i,some (s.drop (i+1))):=by
 refine GF J ?_;rw[<-U,<-eX h,zbl]
def ary:bl aT.ctx 79 JB.spec:=by
 refine bI [(178,Pk.spec)] Wj.1 ?_;intro(s:ac bv) (ah:s.length<=_) H aK;have HW:(ed s).2.length<=s.length:=by
  unfold ed;split
  ·exact zae _
  ·split<;>simp
 refine aq 7 ?_
 iterate 3 refine gZ ?_
 refine ij (L:=Unit) (fun _=>True) (fun _=>⟨[],0,[(6,.s (ed s).2),(7,.i .i64 (if(ed s).1=true then -1 else 1))]⟩) ?_ ?_
 ·cases s with
  |nil=>
   refine I ?_;exact bf [] () trivial dj
  |cons c t=>
   refine aq 15 ?_;refine ax 15 (.b true) rfl (by simp) (I ?_);refine nu c (j:=0) rfl ?_;refine I ?_;by_cases hc:c=45
   ·subst hc;refine ax 19 (.b true) rfl rfl (I ?_);refine sk (p:=1) t ?_ (hp:=by simp) (hq:=by simp);refine I ?_;exact bf [] () trivial dj
   ·have aR:ed (c::t)=(false,c::t):=zaa hc;refine ax 19 (.b false) rfl (congrArg aj.b (zad (fun e=>hc (zcn.1 (show c.toNat=45 by omega))))) (I ?_);exact bf [] () trivial (kd ⟨by rw[aR];rfl,by rw[aR];rfl,trivial⟩)
 intro _ _;obtain⟨⟨n,t⟩,aR⟩:∃g,g=ed s:=⟨_,rfl⟩;rw[<-aR]at HW;have fin:∀{r},Fi s=r->bS r (JB.res s):=fun h=>.of h.symm;unfold Fi at fin;rw[<-aR]at fin⊢;simp only at fin HW;obtain⟨bR,oy⟩:∃bR:Int,bR=if n=true then -1 else 1:=⟨_,rfl⟩;have wL:decide (bR>0)= !n:=by rw[oy];cases n<;>rfl
 refine ax 7 (.i .i64 bR) rfl (by rw[oy]) ?_;rw[<-oy]at fin;refine I ?_;refine pw (L:=Unit) (fun _=>(47:bv)∉t) (fun _=>⟨[],0,[(6,.s t),(7,.i .i64 bR)]⟩) ?_ ?_
 ·refine cN (L:=Nat) (fun i=>i<=t.length∧(47:bv)∉t.take i) (fun(i:Nat)=>⟨[],0,[(6,.s t),(7,.i .i64 bR),(8,.i .i64 i)]⟩) (fun i=>t.length-i) [] 0 ⟨zae _,fun hm=>by simp at hm⟩ (by show t.length-0<bV+1;unfold bV;omega) dj ?_;rintro(i:Nat) ⟨af,ha⟩;refine I ?_;refine cA (fun h=> ?_) (fun h=> ?_)
  ·have h:i<t.length:=by omega
   refine I ?_;refine nu t[i] (bm h) ?_;refine I ?_;refine cA (fun hc=> ?_) (fun hc=> ?_)
   ·have hc:t[i]=47:=zcn.1 (show t[i].toNat=47 by omega);have mD:=agv h ha hc;rw[mD]at fin;simp only at fin;generalize ja:t.take i=P at *;generalize ix:t.drop (i+1)=Q at *;have N0:P.length<=t.length:=by rw[<-ja];simp;omega
    have ao2:Q.length<=t.length:=by rw[<-ix];simp
    refine I ?_;refine GK P ?_ (hl:=by rw[<-ja];simp);refine aq 37 ?_;refine di 37 (.i .i64 ((i+1:Nat):Int)) rfl rfl ct ?_;refine GK Q ?_ (hl:=by rw[<-ix];exact zas (by simp));refine I ?_;have bad:¬(iu P∧iu Q∧Q≠[48]∧Q≠[49]∧¬(n=true∧P=[48]))->bS (.bP [.s P,.s Q,.i .i64 bR,.b false]) (JB.res s):=fun h=>fin (by rw[zad h]);refine aX Pl P (by show P.length<=_;omega) (aq 44 ?_);by_cases J:iu P
    ·refine dS 44 J (I ?_);refine aX Pl Q (by show Q.length<=_;omega) (aq 48 ?_);by_cases U:iu Q
     ·refine dS 48 U (aq 52 ?_);by_cases ag:Q=[48]
      ·refine ax 52 (.b false) rfl (by rw[ag];rfl) (I ?_);exact au rfl (bad (fun h=>h.2.2.1 ag))
      refine ax 52 (.b true) rfl (by rw[zat.2 ag];rfl) (aq 56 ?_);by_cases az:Q=[49]
      ·refine ax 56 (.b false) rfl (by rw[az];rfl) (I ?_);exact au rfl (bad (fun h=>h.2.2.2.1 az))
      refine ax 56 (.b true) rfl (by rw[zat.2 az];rfl) (aq 59 ?_);by_cases a4:P=[48]
      ·refine ax 59 (.b false) rfl (by rw[a4];rfl) (I ?_);refine au rfl (fin ?_);rw[wL];refine congrArg (fun b=>aj.bP [.s P,.s Q,.i .i64 bR,.b b]) ?_;rw[Sy];simp[U,ag,az,a4];exact fun _=>a4▸J
      ·refine ax 59 (.b true) rfl (by rw[zat.2 a4];rfl) (I ?_);exact au rfl (fin (by rw[zac ⟨J,U,ag,az,fun h=>a4 h.2⟩]))
     ·refine eu 48 U (I ?_);exact au rfl (bad (fun h=>U h.2.1))
    ·refine eu 44 J (I ?_);exact au rfl (bad (fun h=>J h.1))
   ·have hc:t[i]≠47:=fun e=>hc (by rw[e];rfl);refine I ?_;refine bf [] (i+1) ⟨by show t.length-(i+1)<t.length-i;omega,h,?_⟩ (kd ⟨rfl,rfl,e1,trivial⟩);rw[zaY h];intro hm;rcases zbF.1 hm with hm|hm
    ·exact ha hm
    ·simp at hm;exact hc hm.symm
  ·have he:i=t.length:=by omega
   subst he;rw[zbx]at ha;refine I ?_;exact bf [] () ha dj
 intro _ gI;rw[Sl gI]at fin;simp only at fin;refine I ?_;refine aX Pl t (by show t.length<=_;omega) (aq 68 ?_);by_cases hb:iu t
 ·refine dS 68 hb (aq 71 ?_);by_cases h0:t=[48]
  ·refine ax 71 (.b false) rfl (by rw[h0];rfl) (I ?_);refine au rfl (fin ?_);rw[wL];refine congrArg (fun b=>aj.bP [.s t,.s [49],.i .i64 bR,.b b]) ?_;rw[Sy];simp[h0];exact fun _=>h0▸hb
  ·refine ax 71 (.b true) rfl (by rw[zat.2 h0];rfl) (I ?_);refine au rfl (fin ?_);rw[zac ⟨hb,fun h=>h0 h.2⟩]
 ·refine eu 68 hb (I ?_);refine au rfl (fin ?_);rw[zad (fun h=>hb h.1)]
def PH(u v:ac bv):b7 (u++v)=b7 v+10^v.length*b7 u:=by
 unfold b7 nJ;rw[zdP,zbO,mZ,zbi,zbS]
def PJ(w:ac bv)(c:bv):b7 (w++[c])=(c.toNat-48)+10*b7 w:=by
 rw[PH];simp[b7,nJ,val]
def sl{s:ac bv}(h:jW s):b7 s<10^s.length:=by
 have:=kZ (b:=10) (ds:=(nJ s).reverse) (fun d aA=>SD h d (zes.1 aA));rw[zbi]at this;unfold nJ at this;rw[zbS]at this;exact this
def aaT:bD where
 L:=ac bv
 args:=fun s=>[.s s]
 pre:=fun s=>jW s∧s.length<=1073741824
 res:=fun s=>cZ (b7 s)
def arw(s:ac bv)(i:Int):ac Nat->cz
 |[]=>⟨[],0,[(0,.s s),(3,.nl),(4,.i .i64 i)]⟩
 |d::ds=>⟨[.a 2 true 1 Nat gr (d::ds)],1,[(0,.s s),(3,.a5 0 1 0 (d::ds).length (d::ds).length),(4,.i .i64 i)]⟩
def asa{s:ac bv}{es:ac Nat}{aQ:Nat}(h:b7 s=val 1000000000 es+1000000000^es.length*b7 (s.take r))(aE:r<=s.length)(gU:aQ=r-9):
 b7 s=val 1000000000 (es++[b7 ((s.take r).drop aQ)])+1000000000^(es++[b7 ((s.take r).drop aQ)]).length*b7 (s.take aQ):=by
 have e:s.take r=s.take aQ++(s.take r).drop aQ:=by
  conv=>lhs;rw[<-zbl aQ (s.take r)]
  rw[zdu,zaE (by omega)]
 have e2:b7 (s.take r)=b7 ((s.take r).drop aQ)+1000000000*b7 (s.take aQ):=by
  conv=>lhs;rw[e,PH]
  congr 1;rcases(show aQ=0∨r=aQ+9 by omega)with h0|h0
  ·subst h0;simp[b7,nJ,val]
  ·rw[zaA,zao,zaE aE,h0,zey]
 rw[h,e2,mZ,zay,zar];simp only[val,zaq,List.length_nil,zcz,zaX,zaC,Nat.pow_one];rw[zaH,zax];omega
def aaU:bl aT.ctx 81 aaT.spec:=by
 refine bI [(182,xi.spec)] Wl.1 ?_;intro(s:ac bv) ⟨(ea:jW s),(ah:s.length<=_)⟩ H aK;refine I ?_;refine cN (L:=Int×ac Nat) (fun(i,es)=>i<=s.length∧-9<=i∧es.length+i.toNat<=s.length∧cV 1000000000 es∧b7 s=val 1000000000 es+1000000000^es.length*b7 (s.take i.toNat)) (fun(i,es)=>arw s i es) (fun l=>l.1.toNat) [] ((s.length:Int),[]) ⟨Int.le_refl _,by show -9<=(s.length:Int);omega,by simp,fun x aa=>by simp at aa,by simp[val]⟩ (by show((s.length:Int)).toNat<bV+1;unfold bV;omega) dj ?_;rintro⟨i,es⟩ ⟨J,U,ag,az,a4⟩;obtain⟨r,aE⟩:∃r,r=i.toNat:=⟨_,rfl⟩;rw[<-aE]at ag a4;obtain⟨aQ,gU⟩:∃aQ,aQ=r-9:=⟨_,rfl⟩;have oz:=asa a4 (by omega) gU;have j2:jW ((s.take r).drop aQ):=fun c hc=>ea c (zbJ (zcx hc));have aN:=sl j2;have awD:b7 ((s.take r).drop aQ)<1000000000:=fM aN (zaJ (n:=10) (by decide) (show _<=9 by simp;omega));have mF:¬0<i->aY 1000000000 (b7 s)=eV es:=fun h=>by
  have:r=0:=by omega
  rw[this]at a4;rw[zw (b:=1000000000) (by decide) az,a4];simp[b7,nJ,val]
 have piece:∀k:Nat,aQ<=k->k<=r->b7 ((s.take k).drop aQ)<10^(k-aQ):=fun k AT km=>by
  have h:=sl (s:=(s.take k).drop aQ) (fun c hc=>ea c (zbJ (zcx hc)))
  rwa [zaA,zao,zaE (by omega)]at h
 cases es with
 |nil=>
  refine I ?_;refine cA (fun af=> ?_) (fun af=> ?_)
  ·have l4:i=(r:Int):=by omega
   subst l4;refine aq 14 ?_;refine ax 14 (.i .i64 ((r:Int)-9)) rfl (ct rfl (by omega) (by omega)) (aq 15 ?_);refine ax 15 (.i .i64 (aQ:Nat)) rfl fG (I ?_);refine pw (L:=Unit) (fun _=>True) (fun _=>⟨[],0,[(0,.s s),(3,.nl),(4,.i .i64 (r:Int)),(5,.i .i64 (b7 ((s.take r).drop aQ):Nat))]⟩) ?_ ?_
   ·refine cN (L:=Nat) (fun k=>aQ<=k∧k<=r) (fun(k:Nat)=>⟨[],0,[(0,.s s),(3,.nl),(4,.i .i64 (r:Int)),(5,.i .i64 (b7 ((s.take k).drop aQ):Nat)),(6,.i .i64 k)]⟩) (fun k=>r-k) [] aQ ⟨b8 _,by omega⟩ (by show r-aQ<bV+1;unfold bV;omega) (kd ⟨rfl,rfl,rfl,by rw[zan (by simp;omega)];rfl,rfl,trivial⟩) ?_;rintro(k:Nat) ⟨ba,bx⟩;refine I ?_;refine cA (fun ab=> ?_) (fun ab=> ?_)
    ·have ab:k<r:=by omega
     have yu:k<s.length:=by omega
     have hp:=piece k ba (by omega);have yA:(10:Nat)^(k-aQ)<=10^9:=zaJ (by decide) (by omega);have hc:=ea _ (dy yu);have wL:b7 ((s.take (k+1)).drop aQ)=(s[k].toNat-48)+10*b7 ((s.take k).drop aQ):=by
      rw[zaY yu,zea (by simp;omega),PJ]
     generalize hn:b7 ((s.take k).drop aQ)=n at *;have am4:n<1000000000:=by omega
     refine I ?_;refine nu s[k] (bm yu) ?_;refine aq 26 ?_;have Dg:(s[k].toNat+(256*48-48))%256=s[k].toNat-48:=by omega
     refine ax 26 (.i .u8 ((s[k].toNat-48:Nat):Int)) rfl (congrArg (fun n:Nat=>aj.i .u8 (n:Int)) Dg) (I ?_);refine bf [] (k+1) ⟨by show r-(k+1)<r-k;omega,by omega,ab⟩ (kd ⟨rfl,rfl,rfl,?_,e1,trivial⟩);rw[wL];exact congrArg (fun n=>some (aj.i .i64 n)) (by rw[hz (n:=10*(n:Int)) (by omega) (by omega),hz (n:=((s[k].toNat-48:Nat):Int)) (by omega) (by omega),hz (by omega) (by omega)];omega)
    ·have he:k=r:=by omega
     subst he;refine I ?_;exact bf [] () trivial dj
   intro _ _;generalize hn:b7 ((s.take r).drop aQ)=n at *;refine I ?_;refine vh gr [n] (jj (R:=gr) [n] rfl) ?_;refine I ?_;exact bf [1] ((r:Int)-9,[n]) ⟨by show((r:Int)-9).toNat<((r:Int)).toNat;omega,by omega,by omega,by simp;omega,fun x aa=>by simp at aa;omega,by rw[show((r:Int)-9).toNat=aQ by omega];exact oz⟩ (Fv ⟨rfl,rfl,e1,trivial⟩ ⟨_,rfl,rfl,fun _=>rfl⟩)
  ·refine I ?_;refine dz 33 (dk []) rfl bS.nl ?_;refine aX xj [] (by show 0<=_;decide) (I ?_);exact au rfl (.of (by show dk (eV [])=dk _;rw[<-mF af]))
 |cons d ds=>
  refine I ?_;refine cA (fun af=> ?_) (fun af=> ?_)
  ·have l4:i=(r:Int):=by omega
   subst l4;refine aq 14 ?_;refine ax 14 (.i .i64 ((r:Int)-9)) rfl (ct rfl (by omega) (by omega)) (aq 15 ?_);refine ax 15 (.i .i64 (aQ:Nat)) rfl fG (I ?_);refine pw (L:=Unit) (fun _=>True) (fun _=>⟨[.a 2 true 1 Nat gr (d::ds)],1,[(0,.s s),(3,.a5 0 1 0 (d::ds).length (d::ds).length),(4,.i .i64 (r:Int)),(5,.i .i64 (b7 ((s.take r).drop aQ):Nat))]⟩) ?_ ?_
   ·refine cN (L:=Nat) (fun k=>aQ<=k∧k<=r) (fun(k:Nat)=>⟨[.a 2 true 1 Nat gr (d::ds)],1,[(0,.s s),(3,.a5 0 1 0 (d::ds).length (d::ds).length),(4,.i .i64 (r:Int)),(5,.i .i64 (b7 ((s.take k).drop aQ):Nat)),(6,.i .i64 k)]⟩) (fun k=>r-k) [0] aQ ⟨b8 _,by omega⟩ (by show r-aQ<bV+1;unfold bV;omega) (eD ⟨rfl,rfl,rfl,by rw[zan (by simp;omega)];rfl,rfl,trivial⟩ ⟨_,rfl,rfl,fun _=>rfl⟩) ?_;rintro(k:Nat) ⟨ba,bx⟩;refine I ?_;refine cA (fun ab=> ?_) (fun ab=> ?_)
    ·have ab:k<r:=by omega
     have yu:k<s.length:=by omega
     have hp:=piece k ba (by omega);have yA:(10:Nat)^(k-aQ)<=10^9:=zaJ (by decide) (by omega);have hc:=ea _ (dy yu);have wL:b7 ((s.take (k+1)).drop aQ)=(s[k].toNat-48)+10*b7 ((s.take k).drop aQ):=by
      rw[zaY yu,zea (by simp;omega),PJ]
     generalize hn:b7 ((s.take k).drop aQ)=n at *;have am4:n<1000000000:=by omega
     refine I ?_;refine nu s[k] (bm yu) ?_;refine aq 26 ?_;have Dg:(s[k].toNat+(256*48-48))%256=s[k].toNat-48:=by omega
     refine ax 26 (.i .u8 ((s[k].toNat-48:Nat):Int)) rfl (congrArg (fun n:Nat=>aj.i .u8 (n:Int)) Dg) (I ?_);refine bf [0] (k+1) ⟨by show r-(k+1)<r-k;omega,by omega,ab⟩ (eD ⟨rfl,rfl,rfl,?_,e1,trivial⟩ ⟨_,rfl,rfl,fun _=>rfl⟩);rw[wL];exact congrArg (fun n=>some (aj.i .i64 n)) (by rw[hz (n:=10*(n:Int)) (by omega) (by omega),hz (n:=((s[k].toNat-48:Nat):Int)) (by omega) (by omega),hz (by omega) (by omega)];omega)
    ·have he:k=r:=by omega
     subst he;refine I ?_;exact bf [0] () trivial dI
   intro _ _;generalize hn:b7 ((s.take r).drop aQ)=n at *;refine I ?_;have iN:ds.length<=1073741824:=by simp at ag;omega
   refine vg (R:=gr) [n] (jj (R:=gr) [n] rfl) ?_;refine I ?_;refine bf [2] ((r:Int)-9,d::(ds++[n])) ⟨by show((r:Int)-9).toNat<((r:Int)).toNat;omega,by omega,by omega,by simp at ag ⊢;omega,?_,by rw[show((r:Int)-9).toNat=aQ by omega];exact oz⟩ (Fv ⟨rfl,congrArg (fun k=>some (aj.a5 2 1 0 k k)) (by simp),e1,trivial⟩ ⟨_,rfl,rfl,fun _=>rfl⟩);intro x aa;rcases zbF.1 (show x∈(d::ds)++[n]from aa)with h|h
   ·exact az x h
   ·simp at h;omega
  ·refine I ?_;refine kb 33 ?_;refine aX xj (d::ds) (by show(d::ds).length<=_;omega) (I ?_);exact au rfl (.of (by show dk (eV (d::ds))=dk _;rw[<-mF af]))
def abM(s:ac bv):s=(if(ed s).1=true then[45]else[])++(ed s).2:=by
 unfold ed;split
 ·rfl
 ·split
  ·rename_i c t h;rw[h];rfl
  ·rfl
def aap{s:ac bv}(h:jW s)(hl:s.length<=9*k):ee k (b7 s):=jZ (by decide) (by
 refine fM (sl h) (zag (zaJ (by decide) hl) ?_);rw[zbM];exact b8 _)
def fI(s:ac bv):aj:=match cJ s with
 |some x=>.bP [cG x,.i .i64 0]
 |none=>.bP [cG 0,.i .i64 6]
def BM:bD where
 L:=ac bv
 args:=fun s=>[.s s]
 pre:=fun s=>s.length<=2000
 res:=fun s=>fI s
def asX(n:Bool)(p:Nat):(if n=true then(-1:Int)else 1)*(p:Int)=jl n p:=by cases n<;>simp[jl]
def asv{N:Nat}{s:ac bv}(lB:1<=N)(ah:s.length<=N):∃P Q b,Fi s= .bP [.s P,.s Q,.i .i64 (if(ed s).1=true then -1 else 1),.b b]∧(b=false->cJ s=none)∧
 (b=true->iu P∧iu Q∧P.length<=N∧Q.length<=N∧b7 Q≠0∧(gp (mkRat (jl (ed s).1 (b7 P)) (b7 Q))=s->cJ s=some (mkRat (jl (ed s).1 (b7 P)) (b7 Q)))∧(gp (mkRat (jl (ed s).1 (b7 P)) (b7 Q))≠s->cJ s=none)):=by
 have lG:=abM s;unfold cJ Fi;obtain⟨⟨n,t⟩,aR⟩:∃g,g=ed s:=⟨_,rfl⟩;rw[<-aR]at lG⊢;simp only at lG⊢;have yI:t.length<=N:=by have:=congrArg List.length lG;rw[zay]at this;omega
 obtain⟨e0,fT,oe⟩:=Sk t;obtain⟨⟨P,Q⟩,hq⟩:∃g,g=cutAt t:=⟨_,rfl⟩;rw[<-hq]at e0 fT oe⊢;simp only at e0 fT oe⊢;cases Q with
 |none=>
  have My:=oe rfl;subst My;refine⟨t,[49],_,rfl,fun h=>zaa (of_decide_eq_false h),fun h=> ?_⟩;have a0:=zbI h;have e:=au8 a0.1 a0.2;exact⟨a0.1,by decide,yI,lB,by decide,fun _=>by rw[zab a0];rfl,fun h=>absurd (e.trans lG.symm) h⟩
 |some q=>
  have aW:=fT q rfl;have N0:P.length+q.length<=N:=by have:=congrArg List.length aW;rw[zay,zaq]at this;omega
  refine⟨P,q,_,rfl,fun h=> ?_,fun h=> ?_⟩
  ·have a0:=of_decide_eq_false h;by_cases J:iu P∧¬(n=true∧P=[48])
   ·rw[zab J];exact zaa (fun h=>a0 ⟨J.1,h.1,h.2.1,h.2.2.1,J.2⟩)
   ·rw[zaa J]
  ·obtain⟨c3,dP,jY,vS,CP⟩:=zbI h;have e:=au7 c3 dP CP jY vS;rw[zbN,<-aW,<-lG]at e;refine⟨c3,dP,by omega,by omega,fun h=>jY (xQ dP h),fun h=> ?_,fun h=> ?_⟩
   ·rw[zab ⟨c3,CP⟩];exact zab ⟨dP,jY,vS,e.1 h⟩
   ·rw[zab ⟨c3,CP⟩];exact zaa (fun hh=>h (e.2 hh.2.2.2))
def q8:bl aT.ctx 32 BM.spec:=by
 refine bI [(79,JB.spec),(81,aaT.spec),(80,xc.spec),(34,O9.spec)] U9.1 ?_;intro(s:ac bv) (ah:s.length<=2000) H aK;have hp:∀{r},cJ s=r->bS (match r with|some x=>.bP [cG x,.i .i64 0]|none=>.bP [cG 0,.i .i64 6]) (BM.res s):=fun h=>.of (by subst h;rfl);have fail:cJ s=none->bS (.bP [.agg [.i .i64 0,.nl,.nl],.i .i64 6]) (BM.res s):=fun h=>ark.trans (hp h);obtain⟨P,Q,b,cT,aw,jb⟩:=asv (by decide) ah;obtain⟨n,hn⟩:∃n,n=(ed s).1:=⟨_,rfl⟩;rw[<-hn]at cT jb;have abK: -1<=(if n=true then(-1:Int)else 1)∧(if n=true then(-1:Int)else 1)<=1:=by cases n<;>decide
 refine I ?_;refine aX ary s (by show s.length<=_;omega) ?_;refine ax 11 _ rfl cT (I ?_);cases b with
 |false=>
  refine I ?_;exact au rfl (fail (aw rfl))
 |true=>
  obtain⟨c3,dP,N0,ao2,oL,jY,vS⟩:=jb rfl;have aaj:=aap (k:=223) c3.2.1 (by omega);have aak:=aap (k:=223) dP.2.1 (by omega);refine aq 22 ?_;refine ax 22 (.b false) rfl (congrArg aj.b (zad (by omega))) (I ?_);refine cA (fun h=> ?_) (fun h=> ?_)
  ·omega
  refine I ?_;refine aX aaU P ⟨c3.2.1,by show P.length<=_;omega⟩ (I ?_);refine aX aaU Q ⟨dP.2.1,by show Q.length<=_;omega⟩ ?_;refine aX vc (if n=true then -1 else 1,b7 P,b7 Q) ⟨abK.1,abK.2,c2 aaj (by decide),c2 aak (by decide),oL⟩ ?_;refine ax 33 (cG (mkRat (jl n (b7 P)) (b7 Q))) rfl (by show cG _=_;rw[asX]) (I ?_);refine aX qh (mkRat (jl n (b7 P)) (b7 Q)) (eC (y4 (by rw[vr];exact aaj) aak oL) (by decide)) (aq 37 ?_);by_cases aW:gp (mkRat (jl n (b7 P)) (b7 Q))=s
  ·refine ax 37 (.b false) rfl (by show aj.b (!(gp _==s))=_;rw[aW];simp) (I ?_);exact au rfl (hp (jY aW))
  ·refine ax 37 (.b true) rfl (by show aj.b (!(gp _==s))=_;rw[zat.2 aW];rfl) (I ?_);exact au rfl (fail (vS aW))
def FU(b:Bool):ac aj:=[.b b]
def jO(c:bv):Bool:=decide (48<=c.toNat∧c.toNat<=57)
def x2:ac Bool:=(List.range 256).map fun j=>decide (48<=j∧j<=57)
def qA:ac aj:=x2.flatMap FU
def agY{j:Nat}(h:j<256):qA.drop j= .b (decide (48<=j∧j<=57))::qA.drop (j+1):=by
 have e:qA=x2.map aj.b:=by unfold qA;rw[List.map_eq_flatMap];rfl
 have hl:j<x2.length:=by unfold x2;rw[zbS,zdx];exact h
 rw[e,<-zee,<-zee,eX hl,zaM];congr 2;simp[x2]
def ME:bD where
 L:=bv
 args:=fun c=>[.ip qA,.i .u8 (c.toNat:Int)]
 pre:=fun _=>True
 res:=fun c=>.b (jO c)
def WV:bl aT.ctx 398 ME.spec:=by
 refine bI [] VJ.1 ?_;intro(c:bv) _ H aK;have hc:c.toNat<256:=c.toNat_lt;refine I ?_;refine fJ (an8 rfl rfl hc) ?_;refine ax 8 (.ip (.b (jO c)::qA.drop (c.toNat+1))) rfl (by rw[zaZ,agY hc];rfl) (I ?_);exact au rfl (.refl _)
def acN:bD where
 L:=ac bv
 args:=fun s=>[.s s,.ip qA]
 pre:=fun s=>s.length<=1073741824
 res:=fun s=>.s (s.dropWhile jO)
def auW:bl aT.ctx 359 acN.spec:=by
 refine bI [(398,ME.spec)] Vp.1 ?_;intro(s:ac bv) (ah:s.length<=_) H aK;refine I ?_;refine cN (L:=ac bv) (fun t=>t.dropWhile jO=s.dropWhile jO∧t.length<=s.length) (fun t=>⟨[],0,[(0,.s t),(1,.ip qA)]⟩) List.length [] s ⟨rfl,b8 _⟩ (by show s.length<bV+1;unfold bV;omega) dj ?_;rintro t ⟨J,U⟩;cases t with
 |nil=>
  refine I ?_;exact au rfl (.of (by show aj.s []=aj.s _;rw[<-J];rfl))
 |cons c t=>
  refine aq 7 ?_;refine ax 7 (.b true) rfl (by simp) (I ?_);refine nu c (j:=0) rfl ?_;refine aX WV c trivial (I ?_);by_cases hc:jO c=true
  ·refine ax 12 (.b false) rfl (by show aj.b (!jO c)=_;rw[hc];rfl) (I ?_);refine sk (p:=1) t ?_ (hp:=by simp) (hq:=by simp);refine I ?_;exact bf [] t ⟨by simp,by rw[<-J,zdG,zab hc],by simp at U;omega⟩ dj
  ·have hc:jO c=false:=by simpa using hc
   refine ax 12 (.b true) rfl (by show aj.b (!jO c)=_;rw[hc];rfl) (I ?_);exact au rfl (.of (by show aj.s (c::t)=aj.s _;rw[<-J,zdG,zaa (by rw[hc];decide)]))
def n6(s:ac bv):ac bv:=(s.reverse.dropWhile jO).reverse
def acC(t:ac bv)(c:bv):n6 (t++[c])=if jO c=true then n6 t else t++[c]:=by
 unfold n6;rw[zbO];show((c::t.reverse).dropWhile jO).reverse=_;rw[zdG];split
 ·rfl
 ·simp
def ac2:bD where
 L:=ac bv
 args:=fun s=>[.s s,.ip qA]
 pre:=fun s=>s.length<=1073741824
 res:=fun s=>.s (n6 s)
def auZ:bl aT.ctx 360 ac2.spec:=by
 refine bI [(398,ME.spec)] Vr.1 ?_;intro(s:ac bv) (ah:s.length<=_) H aK;refine I ?_;refine cN (L:=ac bv) (fun t=>n6 t=n6 s∧t.length<=s.length) (fun t=>⟨[],0,[(0,.s t),(1,.ip qA)]⟩) List.length [] s ⟨rfl,b8 _⟩ (by show s.length<bV+1;unfold bV;omega) dj ?_;rintro t ⟨J,U⟩;rcases zcb t with rfl|⟨t,c,rfl⟩
 ·refine I ?_;exact au rfl (.of (by show aj.s []=aj.s _;rw[<-J];rfl))
 ·rw[zcc]at *;have hl:(t++[c]).length=t.length+1:=by simp
  refine aq 7 ?_;refine ax 7 (.b true) rfl (by simp) (aq 12 ?_);refine ax 12 (.i .i64 (t.length:Nat)) rfl (by rw[hl];exact ct) ?_;refine nu c (show(t++[c])[t.length]? =some c by simp) ?_;refine aX WV c trivial (I ?_);by_cases hc:jO c=true
  ·refine ax 15 (.b false) rfl (by show aj.b (!jO c)=_;rw[hc];rfl) (aq 19 ?_);refine ax 19 (.i .i64 (t.length:Nat)) rfl (by rw[hl];exact ct) ?_;refine sk (p:=0) t ?_ (hp:=zae _) (hq:=by simp);refine I ?_;exact bf [] t ⟨by simp,by rw[<-J,acC,zab hc],by omega⟩ dj
  ·refine ax 15 (.b true) rfl (by show aj.b (!jO c)=_;rw[show jO c=false by simpa using hc];rfl) (I ?_);exact au rfl (.of (by show aj.s (t++[c])=aj.s _;rw[<-J,acC,zaa hc]))
def Ca:Nat->ac Bool
 |0=>List.replicate 256 false
 |n+1=>(Ca n).set (48+n) true
theorem abJ:∀n,(Ca n).length=256
 |0=>zbT
 |n+1=>by unfold Ca;rw[zbV];exact abJ n
def asU:Ca 10=x2:=by kernel_rfl
def Dd:ac bv:=[48,49,50,51,52,53,54,55,56,57]
def ag4(h:i<10):Dd[i]? =some (UInt8.ofNat (48+i)):=by
 rcases(show i=0∨i=1∨i=2∨i=3∨i=4∨i=5∨i=6∨i=7∨i=8∨i=9 by omega)with rfl|rfl|rfl|rfl|rfl|rfl|rfl|rfl|rfl|rfl<;>rfl
def YW:bD where
 L:=Unit
 args:=fun _=>[.s Dd]
 pre:=fun _=>True
 res:=fun _=>.bP [.agg qA,.b true]
def apB:bl aT.ctx 358 YW.spec:=by
 refine bI [] Vo.1 ?_;intro _ _ H aK;refine aq 3 ?_;refine oN 0 FU (Ca 0) ?_;refine I ?_;refine cN (L:=Nat) (fun i=>i<=10) (fun(i:Nat)=>⟨[.a 403 false 1 Bool FU (Ca i)],1,[(0,.s Dd),(2,.p 0 0),(4,.i .i64 i)]⟩) (fun i=>10-i) [0] 0 (zae _) (by show 10-0<bV+1;unfold bV;omega) dI ?_;intro(i:Nat) af;refine I ?_;have hl:((Dd.length:Nat):Int)=10:=rfl;refine cA (fun h=> ?_) (fun h=> ?_)
 ·have h:i<10:=by omega
  have hn:(UInt8.ofNat (48+i)).toNat=48+i:=GO h;refine I ?_;refine nu (UInt8.ofNat (48+i)) (ag4 h) ?_;refine ax 14 (.i .u8 ((48+i:Nat):Int)) rfl (by rw[hn]) (I ?_);refine cA (fun aG=> ?_) (fun aG=> ?_)
  ·omega
  refine I ?_;refine JV ?_;refine lN true ?_ (hj:=by rw[abJ];omega);refine I ?_;exact bf [0] (i+1) ⟨by show 10-(i+1)<10-i;omega,h⟩ (eD ⟨rfl,rfl,e1,trivial⟩ ⟨_,rfl,rfl,fun _=>rfl⟩)
 ·have he:i=10:=by omega
  subst he;rw[asU];refine I ?_;refine arL 0 ?_;refine I ?_;exact au rfl (.of rfl)
def ac3:bD where
 L:=ac bv
 args:=fun s=>[.s s,.s Dd]
 pre:=fun s=>s.length<=1073741824
 res:=fun s=>.s ((n6 s).dropWhile jO)
def auH(s:ac bv):(n6 s).length<=s.length:=by
 unfold n6;rw[zbi,<-(zbi:s.reverse.length=s.length)];exact(List.dropWhile_sublist _).length_le
def auG:bl aT.ctx 275 ac3.spec:=by
 refine bI [(358,YW.spec),(360,ac2.spec),(359,acN.spec)] UP.1 ?_;intro(s:ac bv) (ah:s.length<=_) H aK;refine aq 9 ?_;by_cases h:s=[]
 ·subst h;refine I ?_;exact au rfl (.refl _)
 refine ax 9 (.b false) rfl (by rw[zat.2 h]) (I ?_);refine aX apB () trivial (I ?_);refine oN 0 FU x2 ?_;refine arQ 5 ?_;refine ax 5 (.ip qA) rfl rfl ?_;refine aX auZ s ah (I ?_);refine aX auW (n6 s) (zag (auH s) ah) (I ?_);exact au rfl (.refl _)
theorem drop_nil:∀{s:ac bv},s.dropWhile jO=[]↔∀c∈s,jO c=true
 |[]=>by simp
 |c::s=>by
  rw[zdG];by_cases h:jO c=true
  ·rw[zab h,drop_nil];simp[h]
  ·rw[zaa h];simp[h]
def X2{c:bv}:jO c=true↔48<=c.toNat∧c.toNat<=57:=by unfold jO;rw[decide_eq_true_iff]
def strip_nil{s:ac bv}:(n6 s).dropWhile jO=[]↔jW s:=by
 rw[drop_nil];unfold jW;constructor
 ·intro h;have J:n6 s=[]:=by
   rcases zcb (n6 s)with h0|⟨t,c,h0⟩
   ·exact h0
   ·rw[zcc]at h0;have hc:=h c (by rw[h0];simp);have e:s.reverse.dropWhile jO=c::t.reverse:=by
     have:=congrArg List.reverse h0;unfold n6 at this;rw[List.reverse_reverse,zbO]at this;exact this
    have:=List.head_dropWhile_not jO (l:=s.reverse) (by rw[e];simp);simp only[e,List.head_cons]at this;rw[hc]at this;cases this
  unfold n6 at J;have U:=drop_nil.1 (List.reverse_eq_nil_iff.1 J);exact fun c hc=>X2.1 (U c (zes.2 hc))
 ·intro h;have U:s.reverse.dropWhile jO=[]:=drop_nil.2 fun c hc=>X2.2 (h c (zes.1 hc));unfold n6;rw[U];intro c hc;simp at hc
def abv:bD where
 L:=ac bv
 args:=fun s=>[.s s]
 pre:=fun s=>s.length<=1073741824
 res:=fun s=>.b (decide (iu s))
def PN:bl aT.ctx 164 abv.spec:=by
 refine bI [(275,ac3.spec)] TY.1 ?_;intro(s:ac bv) (ah:s.length<=_) H aK;refine aq 5 ?_;cases s with
 |nil=>
  refine ax 5 (.b false) rfl rfl (I ?_);exact au rfl (.of (by show aj.b false=aj.b (decide _);rw[zad (fun hb=>hb.1 rfl)]))
 |cons c t=>
  refine ax 5 (.b true) rfl rfl (I ?_);refine aX auG (c::t) ah (aq 10 ?_);by_cases ea:jW (c::t)
  ·refine ax 10 (.b true) rfl (by show aj.b (_==[])=_;rw[strip_nil.2 ea];rfl) (aq 13 ?_);by_cases hb:c::t=[48]
   ·refine ax 13 (.b true) rfl (by rw[hb];rfl) (I ?_);exact au rfl (.of (by show aj.b true=aj.b (decide _);rw[zac ⟨by simp,ea,.inl hb⟩]))
   refine ax 13 (.b false) rfl (by rw[zat.2 hb]) (I ?_);refine nu c (j:=0) rfl ?_;refine I ?_;refine au rfl (.of ?_);show aj.b (decide _)=aj.b (decide _);congr 1;rw[decide_eq_decide];constructor
   ·intro h;refine⟨by simp,ea,.inr fun e=>h ?_⟩;have e:c=48:=by simpa using e
    rw[e];rfl
   ·rintro⟨_,_,h|h⟩ e
    ·exact hb h
    ·exact h (congrArg some (zcn.1 (show c.toNat=48 by omega)))
  ·refine ax 10 (.b false) rfl (by show aj.b (_==[])=_;rw[zat.2 (mt strip_nil.1 ea)]) (I ?_);exact au rfl (.of (by show aj.b false=aj.b (decide _);rw[zad (fun hb=>ea hb.2.1)]))
theorem XW:∀s:ac bv,(match qV 47 s with
 |none=>cutAt s=(s,none)
 |some i=>i<s.length∧cutAt s=(s.take i,some (s.drop (i+1))))
 |[]=>rfl
 |c::s=>by
  have a7:=XW s;have e:qV 47 (c::s)=cond (Nat.beq c.toNat (47:bv).toNat) (some 0) (bk (qV 47 s) (fun i=>some (Nat.succ i)) none):=rfl;by_cases hc:c=47
  ·subst hc;rw[e,show Nat.beq (47:bv).toNat (47:bv).toNat=true from rfl];exact⟨Nat.succ_pos _,rfl⟩
  ·have hb:Nat.beq c.toNat (47:bv).toNat=false:=by
    rw[zbC];exact fun h=>hc (zcn.1 (dD h))
   have e2:cutAt (c::s)=(c::(cutAt s).1,(cutAt s).2):=zaa hc;rw[e,hb,cond_false];cases h:qV 47 s with
   |none=>
    rw[h]at a7;show cutAt (c::s)=_;rw[e2,show cutAt s=(s,none)from a7]
   |some i=>
    rw[h]at a7;obtain⟨J,U⟩:=a7;show i+1<s.length+1∧cutAt (c::s)=_;rw[e2,U];exact⟨by omega,rfl⟩
def Xu:bD where
 L:=ac bv
 args:=fun s=>[.s s,.s [45]]
 pre:=fun s=>s.length<=1073741824
 res:=fun s=>.b (ed s).1
def anh:bl aT.ctx 293 Xu.spec:=by
 refine bI [] Mh.1 ?_;intro(s:ac bv) (ah:s.length<=_) H aK;refine aq 10 ?_;cases s with
 |nil=>
  refine ax 10 (.b false) rfl rfl (I ?_);exact au rfl (.refl _)
 |cons c t=>
  refine ax 10 (.b true) rfl (by simp;omega) (I ?_);refine sk (p:=0) (q:=1) [c] ?_ (hq:=by simp);refine I ?_;refine au rfl (.of ?_);show aj.b ([c]==[45])=aj.b (ed (c::t)).1;by_cases hc:c=45
  ·subst hc;rfl
  ·rw[show ed (c::t)=(false,c::t)from zaa hc,zat.2 (by simpa using hc)]
def GC:bD where
 L:=ac bv
 args:=fun s=>[.s s,.s [45]]
 pre:=fun s=>s.length<=1073741824
 res:=fun s=>.bP [.s (ed s).2,.b (ed s).1]
def afq:bl aT.ctx 273 GC.spec:=by
 refine bI [(293,Xu.spec)] UN.1 ?_;intro(s:ac bv) (ah:s.length<=_) H aK;refine I ?_;refine aX anh s ah (I ?_);cases s with
 |nil=>
  refine I ?_;exact au rfl (.refl _)
 |cons c t=>
  by_cases hc:c=45
  ·subst hc;refine ax 9 (.b false) rfl rfl (I ?_);refine sk (p:=1) t ?_ (hp:=by simp) (hq:=by simp);refine I ?_;exact au rfl (.refl _)
  ·have aR:ed (c::t)=(false,c::t):=zaa hc;refine ax 9 (.b true) rfl (by show aj.b (!(ed (c::t)).1)=_;rw[aR];rfl) (I ?_);exact au rfl (.of (by show aj.bP _=aj.bP [.s (ed (c::t)).2,.b (ed (c::t)).1];rw[aR]))
def afp:bl aT.ctx 162 GC.spec:=by
 refine bI [(273,GC.spec)] TW.1 ?_;intro(s:ac bv) (ah:s.length<=_) H aK;refine I ?_;refine aX afq s ah (I ?_);exact au rfl (.refl _)
def X6:bD where
 L:=ac bv
 args:=fun s=>[.s s,.i .u8 47]
 pre:=fun s=>s.length<=1073741824
 res:=fun s=>.i .i64 (uI 47 s)
def aoA:bl aT.ctx 294 X6.spec:=by
 refine bI [] U6.1 ?_;intro(s:ac bv) (ah:s.length<=_) H aK;refine I ?_;refine fJ (aob (c:=47) rfl rfl) ?_;refine I ?_;exact au rfl (.refl _)
def X5:bD where
 L:=ac bv
 args:=fun s=>[.s s,.s [47]]
 pre:=fun s=>s.length<=1073741824
 res:=fun s=>.i .i64 (uI 47 s)
def aoz:bl aT.ctx 292 X5.spec:=by
 refine bI [(294,X6.spec)] U5.1 ?_;intro(s:ac bv) (ah:s.length<=_) H aK;refine I ?_;by_cases h:[47]=s
 ·refine ax 16 (.b true) rfl (by rw[<-h];rfl) (I ?_);exact au rfl (.of (by show aj.i _ 0=aj.i _ (uI 47 s);rw[<-h];rfl))
 refine ax 16 (.b false) rfl (by rw[zat.2 h]) (I ?_);refine nu 47 (j:=0) rfl ?_;refine aX aoA s ah (I ?_);exact au rfl (.refl _)
def pQ(s:ac bv):aj:=match(cutAt s).2 with
 |none=>.bP [.s s,.s [],.b false]
 |some q=>.bP [.s (cutAt s).1,.s q,.b true]
def C8:bD where
 L:=ac bv
 args:=fun s=>[.s s,.s [47]]
 pre:=fun s=>s.length<=1073741824
 res:=fun s=>pQ s
def agy:bl aT.ctx 274 C8.spec:=by
 refine bI [(292,X5.spec)] UO.1 ?_;intro(s:ac bv) (ah:s.length<=_) H aK;have af:=XW s;have fin:∀{r},pQ s=r->bS r (C8.res s):=fun h=>.of h.symm;unfold pQ at fin;refine I ?_;refine aX aoz s ah ?_;cases aa:qV 47 s with
 |none=>
  rw[aa]at af;have af:cutAt s=(s,none):=af;rw[af]at fin;refine ax 10 (.i .i64 (-1)) rfl (by show aj.i _ (uI 47 s)=_;unfold uI;rw[aa]) (I ?_);exact au rfl (fin rfl)
 |some i=>
  rw[aa]at af;obtain⟨J,U⟩:i<s.length∧cutAt s=(s.take i,some (s.drop (i+1))):=af;rw[U]at fin;refine ax 10 (.i .i64 (i:Nat)) rfl (by show aj.i _ (uI 47 s)=_;unfold uI;rw[aa]) (I ?_);refine GK (s.take i) ?_ (hl:=by simp);refine aq 20 ?_;refine di 20 (.i .i64 ((i+1:Nat):Int)) rfl rfl (ct (by simp) (by simp;omega) (by simp;omega)) ?_;refine GK (s.drop (i+1)) ?_ (hl:=zas (by simp));refine I ?_;exact au rfl (fin rfl)
def agw:bl aT.ctx 163 C8.spec:=by
 refine bI [(274,C8.spec)] TX.1 ?_;intro(s:ac bv) (ah:s.length<=_) H aK;refine I ?_;refine aX agy s ah ?_;cases aa:(cutAt s).2 with
 |none=>
  refine ax 9 (.bP [.s s,.s [],.b false]) rfl (by show pQ s=_;unfold pQ;rw[aa]) (I ?_);exact au rfl (.of (by show _=pQ s;unfold pQ;rw[aa]))
 |some q=>
  refine ax 9 (.bP [.s (cutAt s).1,.s q,.b true]) rfl (by show pQ s=_;unfold pQ;rw[aa]) (I ?_);exact au rfl (.of (by show _=pQ s;unfold pQ;rw[aa]))
def za:ac aj:=(List.range 20).map fun k=>.i .u64 ((10^k:Nat):Int)
def oX(H:bC):Prop:=∃vs el bg a8,H 5=some (.cells vs el bg a8)∧∀bn,de bn za [] vs
def oX.up{H bn:bC}(h:du H bn):oX H->oX bn:=fun⟨vs,el,bg,a8,J,U⟩=>⟨vs,el,bg,a8,h _ _ J,U⟩
def aqP{j:Nat}(h:j<20):za.drop j= .i .u64 ((10^j:Nat):Int)::za.drop (j+1):=by
 have hl:j<za.length:=by unfold za;rw[zbS,zdx];exact h
 rw[eX hl];congr 1;simp[za]
def Yq:bD where
 L:=Nat
 args:=fun n=>[.i .u64 n]
 pre:=fun n=>n<4294967296
 res:=fun n=>.i .i64 (bH n:Nat)
def aph:ac bv:=[0,1,2,2,3,3,3,3,4,4,4,4,4,4,4,4,5,5,5,5,5,5,5,5,5,5,5,5,5,5,5,5,6,6,6,6,6,6,6,6,6,6,6,6,6,6,6,6,6,6,6,6,6,6,6,6,6,6,6,6,6,6,6,6,7,7,7,7,7,7,7,7,7,7,7,7,7,7,7,7,7,7,7,7,7,7,7,7,7,7,7,7,7,7,7,7,7,7,7,7,7,7,7,7,7,7,7,7,7,7,7,7,7,7,7,7,7,7,7,7,7,7,7,7,7,7,7,7,8,8,8,8,8,8,8,8,8,8,8,8,8,8,8,8,8,8,8,8,8,8,8,8,8,8,8,8,8,8,8,8,8,8,8,8,8,8,8,8,8,8,8,8,8,8,8,8,8,8,8,8,8,8,8,8,8,8,8,8,8,8,8,8,8,8,8,8,8,8,8,8,8,8,8,8,8,8,8,8,8,8,8,8,8,8,8,8,8,8,8,8,8,8,8,8,8,8,8,8,8,8,8,8,8,8,8,8,8,8,8,8,8,8,8,8,8,8,8,8,8,8,8,8,8,8,8,8]
def api:∀m,m<256->aph[m]? =some (UInt8.ofNat (bH m))∧bH m<=8:=by decide +kernel
def apf:bl aT.ctx 351 Yq.spec:=by
 refine bI [] Vl.1 ?_;intro(n:Nat) (hn:n<4294967296) H aK;refine I ?_;refine cA (fun h=> ?_) (fun h=> ?_)
 ·omega
 refine I ?_;refine ij (fun((m:Nat),(k:Nat))=>m<65536∧k<=16∧bH n=bH m+k) (fun(m,k)=>⟨[],0,[(0,.i .u64 m),(2,.i .i64 k)]⟩) ?_ ?_
 ·refine cA (fun h=> ?_) (fun h=> ?_)
  ·refine I ?_;exact bf [] (n/65536,16) ⟨by omega,by decide,CS 16 n (by omega)⟩ dj
  ·refine I ?_;exact bf [] (n,0) ⟨by omega,by decide,rfl⟩ dj
 rintro⟨m,k⟩ ⟨hm,ab,hb⟩;refine I ?_;refine ij (fun((m:Nat),(k:Nat))=>m<256∧k<=24∧bH n=bH m+k) (fun(m,k)=>⟨[],0,[(0,.i .u64 m),(2,.i .i64 k)]⟩) ?_ ?_
 ·refine cA (fun h=> ?_) (fun h=> ?_)
  ·refine I ?_;exact bf [] (m/256,k+8) ⟨by omega,by omega,by rw[hb,CS 8 m (by omega),show(2:Nat)^8=256 from rfl];omega⟩ (kd ⟨rfl,e1,trivial⟩)
  ·refine I ?_;exact bf [] (m,k) ⟨by omega,by omega,hb⟩ dj
 rintro⟨m,k⟩ ⟨hm,ab,hb⟩;refine I ?_;refine ax 21 (.i .u8 (m:Nat)) rfl fG ?_;obtain⟨t1,t2⟩:=api m hm;refine nu _ t1 ?_;refine I ?_;have e:(UInt8.ofNat (bH m)).toNat=bH m:=by simp;omega
 rw[e];refine au rfl (.of ?_);show aj.i _ _=aj.i .i64 (bH n:Nat);rw[hb,hz (n:=((bH m:Nat):Int)) (by omega) (by omega)];exact ct
def Yi:bD where
 L:=Nat
 args:=fun b=>[.i .i64 b]
 pre:=fun b=>b<=64
 res:=fun b=>.i .i64 ((b*78913/262144:Nat):Int)
def aoZ:bl aT.ctx 387 Yi.spec:=by
 refine bI [] VF.1 ?_;intro(b:Nat) (hb:b<=64) H aK;refine aq 4 ?_;refine ax 4 (.i .i64 ((b*78913:Nat):Int)) rfl ct (I ?_);exact au rfl (.refl _)
def Ro:bD where
 L:=Bool
 args:=fun b=>[.b b]
 pre:=fun _=>True
 res:=fun b=>.i .i64 (if b=true then 1 else 0)
def aeC:bl aT.ctx 388 Ro.spec:=by
 refine bI [] VG.1 ?_;intro(b:Bool) _ H aK;refine I ?_;cases b with
 |true=>
  refine I ?_;exact au rfl (.refl _)
 |false=>
  refine I ?_;exact au rfl (.refl _)
def apP:∀b,b<31->(b*78913/262144=0∨10^(b*78913/262144-1)<=2^(b-1))∧2^b<=10^(b*78913/262144+1)∧b*78913/262144<10:=by decide +kernel
def apO(h0:n≠0)(hn:n<1000000000):(aY 10 n).length=bH n*78913/262144+(if 10^(bH n*78913/262144)<=n then 1 else 0)∧bH n*78913/262144<10∧bH n<=30:=by
 obtain⟨J,U⟩:=rB h0;have hb:bH n<=30:=Gc.1 (show n<2^30 by omega);obtain⟨t1,t2,t3⟩:=apP (bH n) (by omega);generalize bH n*78913/262144=l at *;have hu:=jZ (b:=10) (n:=n) (k:=l+1) (by decide) (by omega);refine⟨?_,t3,hb⟩;split
 ·rename_i h;have:=Dc (b:=10) (n:=n) (k:=l) (by decide) h;omega
 ·rename_i h;have ag:=jZ (b:=10) (n:=n) (k:=l) (by decide) (by omega);rcases t1 with t1|t1
  ·subst t1;omega
  ·rcases zcv l with az|az
   ·subst az;omega
   ·have:=Dc (b:=10) (n:=n) (k:=l-1) (by decide) (by omega);omega
def Y4:bD where
 L:=Nat
 args:=fun n=>[.i .u64 n]
 pre:=fun n=>n≠0∧n<1000000000
 res:=fun n=>.i .i64 ((aY 10 n).length:Nat)
 hp:=oX
 hm:=oX.up
def apN:bl aT.ctx 335 Y4.spec:=by
 refine sF [(351,Yq.spec),(387,Yi.spec),(388,Ro.spec)] Vf.1 ?_;intro(n:Nat) ⟨(h0:n≠0),(hn:n<1000000000)⟩ H aK ⟨vs,el,bg,a8,aR,aA⟩;obtain⟨aC,e2,b3⟩:=apO h0 hn;refine I ?_;refine aX apf n (by show n<_;omega) ?_;refine aX aoZ (bH n) (by show bH n<=_;omega) ?_;generalize hl:bH n*78913/262144=l at *;refine ax 6 (.i .i64 (l:Nat)) rfl (by rw[<-hl];rfl) (I ?_);refine arR aR aA (j:=l) ?_;refine ax 10 (.ip (.i .u64 ((10^l:Nat):Int)::za.drop (l+1))) rfl (by rw[aqP (by omega)]) (aq 12 ?_);refine ax 12 (.b (decide (10^l<=n))) rfl (congrArg aj.b (by rw[decide_eq_decide];exact Int.ofNat_le)) ?_;refine aX aeC (decide (10^l<=n)) trivial ?_;obtain⟨q,hq⟩:∃q:Nat,q=if 10^l<=n then 1 else 0:=⟨_,rfl⟩;have rY:q<=1:=by rw[hq];split<;>decide
 rw[<-hq]at aC;refine ax 13 (.i .i64 (q:Nat)) rfl (by show aj.i _ (if decide _=true then 1 else 0)=_;rw[hq];by_cases h:10^l<=n<;>simp[h]) (I ?_);exact au rfl (.of (by
  show aj.i _ _=aj.i .i64 ((aY 10 n).length:Nat);rw[aC];exact ct))
def mX:ac bv:=[48,48,48,49,48,50,48,51,48,52,48,53,48,54,48,55,48,56,48,57,49,48,49,49,49,50,49,51,49,52,49,53,49,54,49,55,49,56,49,57,50,48,50,49,50,50,50,51,50,52,50,53,50,54,50,55,50,56,50,57,51,48,51,49,51,50,51,51,51,52,51,53,51,54,51,55,51,56,51,57,52,48,52,49,52,50,52,51,52,52,52,53,52,54,52,55,52,56,52,57,53,48,53,49,53,50,53,51,53,52,53,53,53,54,53,55,53,56,53,57,54,48,54,49,54,50,54,51,54,52,54,53,54,54,54,55,54,56,54,57,55,48,55,49,55,50,55,51,55,52,55,53,55,54,55,55,55,56,55,57,56,48,56,49,56,50,56,51,56,52,56,53,56,54,56,55,56,56,56,57,57,48,57,49,57,50,57,51,57,52,57,53,57,54,57,55,57,56,57,57]
def oP:∀k,k<100->mX[2*k]? =some (UInt8.ofNat (48+k/10))∧mX[2*k+1]? =some (UInt8.ofNat (48+k%10))∧(mX.drop (2*k)).take 2=[UInt8.ofNat (48+k/10),UInt8.ofNat (48+k%10)]:=by decide +kernel
def d36:ac bv:=[48,49,50,51,52,53,54,55,56,57,97,98,99,100,101,102,103,104,105,106,107,108,109,110,111,112,113,114,115,116,117,118,119,120,121,122]
def agz:∀k,k<10->(d36.drop k).take 1=[UInt8.ofNat (48+k)]:=by decide +kernel
def agO(J:10<=n)(U:n<100):dec n=[n/10,n%10]:=by
 unfold dec;rw[zaa (by omega),oj (by decide) (by omega),oj (by decide) (by omega),show n/10/10=0 by omega,gE,show n/10%10=n/10 by omega];rfl
def ab7:bD where
 L:=Nat
 args:=fun n=>[.i .i64 n]
 pre:=fun n=>n<100
 res:=fun n=>.s (dZ n)
def auf:bl aT.ctx 334 ab7.spec:=by
 refine bI [] Ve.1 ?_;intro(n:Nat) (hn:n<100) H aK;refine I ?_;refine cA (fun h=> ?_) (fun h=> ?_)
 ·have h:n<10:=by omega
  refine aq 7 ?_;refine ax 7 (.i .i64 ((n+1:Nat):Int)) rfl ct ?_;refine sk (l:=d36) (p:=n) (q:=n+1) [UInt8.ofNat (48+n)] ?_ (hl:=by rw[show n+1-n=1 by omega];exact agz n h) (hq:=by show n+1<=36;omega);refine I ?_;exact au rfl (.of (by show aj.s _=aj.s (dZ n);unfold dZ;rw[Sx h];rfl))
 ·refine aq 10 ?_;refine ax 10 (.i .i64 ((2*n:Nat):Int)) rfl ct (aq 12 ?_);refine ax 12 (.i .i64 ((2*n:Nat):Int)) rfl ct (aq 13 ?_);refine ax 13 (.i .i64 ((2*n+2:Nat):Int)) rfl ct ?_;refine sk (l:=mX) (p:=2*n) (q:=2*n+2) [UInt8.ofNat (48+n/10),UInt8.ofNat (48+n%10)] ?_ (hl:=by rw[show 2*n+2-2*n=2 by omega];exact(oP n hn).2.2) (hq:=by show 2*n+2<=200;omega);refine I ?_;exact au rfl (.of (by show aj.s _=aj.s (dZ n);unfold dZ;rw[agO (by omega) hn];rfl))
def GL(n c8 j:Nat):bv:=UInt8.ofNat (48+n/10^(c8-1-j)%10)
structure ku(n c8 i:Nat)(l:ac bv)(u:Nat):Prop where
 u:u=n/10^(c8-i)
 len:l.length=24
 le:i<=c8
 nI:∀j,i<=j->j<c8->l[j]? =some (GL n c8 j)
variable{u c8:Nat}
def ku.two{l:ac bv}(h:ku n c8 (i+2) l u)(lh:c8<=24):ku n c8 i ((l.set (i+1) (UInt8.ofNat (48+u%100%10))).set i (UInt8.ofNat (48+u%100/10))) (u/100):=by
 obtain⟨J,U,ag,az⟩:=h;have aC:c8-(i+2)=c8-1-(i+1):=by omega
 have e2:c8-1-i=c8-(i+2)+1:=by omega
 refine⟨?_,by simp[U],by omega,fun j nc MV=> ?_⟩
 ·rw[J,show c8-i=c8-(i+2)+2 by omega,zar,zbg]
 ·rcases(show j=i∨j=i+1∨i+2<=j by omega)with rfl|rfl|h
  ·rw[zdz (by simp;omega)];unfold GL;rw[e2,zal,<-zbg,<-J];congr 2;omega
  ·rw[zbc (by omega),zdz (by omega)];unfold GL;rw[<-aC,<-J];congr 2;omega
  ·rw[zbc (by omega),zbc (by omega)];exact az j h MV
def ku.one{l:ac bv}(h:ku n c8 1 l u)(hu:u<10):ku n c8 0 (l.set 0 (UInt8.ofNat (48+u))) 0:=by
 obtain⟨J,U,ag,az⟩:=h;refine⟨?_,by simp[U],by omega,fun j nc MV=> ?_⟩
 ·rw[show c8-0=c8-1+1 by omega,zal,<-zbg,<-J];omega
 ·rcases(show j=0∨1<=j by omega)with rfl|h
  ·rw[zdz (by omega)];unfold GL;rw[show c8-1-0=c8-1 by omega,<-J,gP hu]
  ·rw[zbc (by omega)];exact az j h MV
def ku.fin{l:ac bv}(h:ku n c8 0 l u)(h0:n≠0)(lh:c8=(aY 10 n).length)(awk:c8<=24):l.take c8=dZ n:=by
 obtain⟨J,U,ag,az⟩:=h;unfold dZ dec;rw[zaa h0];apply zbw;intro j;by_cases hj:j<c8
 ·rw[zaG,zab hj,az j (zae _) hj];unfold hg;rw[zcs,List.getElem?_reverse (by omega),<-lh,uc (by decide) (by omega)];rfl
 ·rw[zbz (by simp;omega),zbz (by rw[tR,zbi];omega)]
def xP(x:Nat):(2*(x%100)+1)%4294967296=2*(x%100)+1:=by omega
def wj(h:u<1000000000):(u%100000000%4294967296=u%100000000)∧(u/100000000%18446744073709551616=u/100000000)∧(u%100000000/10000%4294967296=u/10000%10000)∧(u%100000000%10000=u%10000)∧(u%10000/100%4294967296*2%4294967296=2*(u/100%100))∧(u%10000%100*2%4294967296=2*(u%100))∧(u/10000%10000/100%4294967296*2%4294967296=2*(u/100/100/100%100))∧(u/10000%10000%100*2%4294967296=2*(u/100/100%100)):=by
 have aa:u/10000=u/100/100:=by rw[zbg]
 have aL:u%100000000/10000=u/10000%10000:=by omega
 have f:∀x:Nat,x%10000/100%4294967296*2%4294967296=2*(x/100%100)∧x%10000%100*2%4294967296=2*(x%100):=fun x=>by omega
 refine⟨by omega,by omega,?_,by omega,(f u).1,(f u).2,?_,?_⟩
 ·rw[aL];generalize u/10000=x;omega
 ·rw[aa];exact(f _).1
 ·rw[aa];exact(f _).2
def L3(h:u<1000000000):u/10000%4294967296=u/10000∧u%10000/100%4294967296*2%4294967296=2*(u/100%100)∧u%10000%100*2%4294967296=2*(u%100):=by omega
def Ta(h:u<1000000000):u%100*2%4294967296=2*(u%100)∧u/100%4294967296=u/100:=by omega
def o0{aB:fl}{K:ac eE}{own bA:ac bj}{aH bd ca back:Nat}{e a3:bO}{d:Tmp}{ts:ac Tmp}{xs:ac (bz×cw)}{x i:bi}{l:ac bv}{j:Nat}{b5:d7}(mo:bv)(hj:l[j]? =some mo)(k:aU.ok aB ⟨K,.d xs bA ((d,.i .u8 (mo.toNat:Int))::a3) bd ca,⟨own,aH,(d,.i .u8 (mo.toNat:Int))::e⟩⟩)(aa:bu (ff ts a3) x=some (.s l):=by rfl)(af:bu (ff ts a3) i=some (.i b5 (j:Int)):=by rfl)(hb:back<bd:=by decide):aU.ok aB ⟨K,.d ((⟨some d,.uP x i,none⟩,.read back ts)::xs) bA a3 bd ca,⟨own,aH,e⟩⟩:=
 qx (d:=some d) (a:=.i .u8 (mo.toNat:Int)) hb (fun H ids st fr ae _ _=>⟨.int .u8 (mo.toNat:Int),rfl,fun ch _ _=>by
  have J:fr.ak x= .string ⟨⟨l⟩⟩:=ae.ak aa;have U:fr.ak i= .int b5 (j:Int):=ae.ak af;obtain⟨aN,aD⟩:=zaf.1 hj;show im (fr.ak x) (fun s=>gO (fr.ak i) (fun _ j=>hP j (fun j=>jt s.data.toList j 1 (fun bT=>one bT (fun b=>aV.ok (.int .u8 (.ofNat b.toNat)) fr ch) aV.no) aV.no) aV.no) aV.no) aV.no=_;rw[J,Sym.Cr,U,Sym.nA,Sym.pn];show jt l j 1 _ _=_;rw[Sym.Ac (by omega),eX aN,aD];rfl⟩) k
def Hc:bD where
 L:=Nat
 args:=fun n=>[.i .u64 n,.i .i64 10]
 pre:=fun n=>n<1000000000
 res:=fun n=>.s (dZ n)
 hp:=oX
 hm:=oX.up
def aiC:bl aT.ctx 256 Hc.spec:=by
 refine sF [(334,ab7.spec),(335,Y4.spec)] UC.1 ?_;intro(n:Nat) (hn:n<1000000000) H aK e5;refine I ?_;refine cA (fun h=> ?_) (fun h=> ?_)
 ·have h:n<100:=by omega
  refine I ?_;refine ax 14 (.i .i64 (n:Nat)) rfl (ct rfl (by omega) (by omega)) ?_;refine aX auf n h (I ?_);exact au rfl (.refl _)
 have l6:n≠0:=by omega
 obtain⟨c8,lh⟩:∃c8,c8=(aY 10 n).length:=⟨_,rfl⟩;have awJ:c8<=9:=by rw[lh];exact jZ (by decide) hn
 have awI:2<c8:=by rw[lh];exact Dc (by decide) (by omega)
 refine I ?_;refine aX apN n ⟨l6,hn⟩ ?_ (hh:=e5);refine ax 17 (.i .i64 (c8:Nat)) rfl (by rw[lh];rfl) (I ?_);refine oN 0 lu (List.replicate 24 0) ?_;refine fJ (Ke (p:=0) (q:=c8) rfl rfl rfl ⟨_,rfl⟩ (zae _) (by omega) (.inr rfl)) ?_;refine ax 19 (.a5 0 1 0 c8 24) rfl (by simp) (I ?_);refine zl Vg.1 (by kernel_rfl) ?_;intro H1 i1 s1 af _;have af:i1.length=1:=af;refine I ?_;refine pw (L:=Nat×ac bv×Nat) (fun(i,l,u)=>ku n c8 i l u∧i<8) (fun(i,l,u)=>⟨[.a 376 false 1 bv lu l],1,[(0,.a5 0 1 0 c8 24),(1,.i .u64 (u:Nat)),(4,.i .i64 (i:Nat))]⟩) ?_ ?_
 ·refine cN (L:=Nat×ac bv×Nat) (fun(i,l,u)=>ku n c8 i l u) (fun(i,l,u)=>⟨[.a 376 false 1 bv lu l],1,[(0,.a5 0 1 0 c8 24),(1,.i .u64 (u:Nat)),(4,.i .i64 (i:Nat))]⟩) (fun l=>l.1) [0] (c8,List.replicate 24 0,n) ⟨by simp,by simp,b8 _,fun j J U=>by omega⟩ (by show c8<4611686018427387904;omega) (eD ⟨rfl,rfl,rfl,trivial⟩ ⟨_,rfl,rfl,fun _=>rfl⟩ (hp:=by show pinned i1.length _ _=_;rw[af];rfl)) ?_;rintro⟨i,l,u⟩ iw;have iw:ku n c8 i l u:=iw;have Xd:=iw.le;have hu:u<=n:=by rw[iw.u];exact zaF _ _
  refine I ?_;refine cA (fun g6=> ?_) (fun g6=> ?_)
  ·obtain⟨eN,rfl⟩:∃eN,i=eN+8:=⟨i-8,by omega⟩;have nf:u<1000000000:=by omega
   have d1:=ku.two (i:=eN+6) iw (by omega);have d2:=ku.two (i:=eN+4) d1 (by omega);have d3:=ku.two (i:=eN+2) d2 (by omega);have d4:=ku.two (i:=eN) d3 (by omega);have e6:=iw.len;refine aq 23 ?_;refine ax 23 (.i .u32 ((u%100000000:Nat):Int)) rfl (congrArg (fun n:Nat=>aj.i .u32 (n:Int)) (wj nf).1) (aq 25 ?_);refine ax 25 (.i .u64 ((u/100000000:Nat):Int)) rfl (congrArg (fun n:Nat=>aj.i .u64 (n:Int)) (wj nf).2.1) (aq 27 ?_);refine ax 27 (.i .u32 ((u/10000%10000:Nat):Int)) rfl (congrArg (fun n:Nat=>aj.i .u32 (n:Int)) (wj nf).2.2.1) (aq 29 ?_);refine ax 29 (.i .u32 ((u%10000:Nat):Int)) rfl (congrArg (fun n:Nat=>aj.i .u32 (n:Int)) (wj nf).2.2.2.1) (aq 32 ?_);refine ax 32 (.i .u32 ((2*(u/100%100):Nat):Int)) rfl (congrArg (fun n:Nat=>aj.i .u32 (n:Int)) (wj nf).2.2.2.2.1) (aq 35 ?_);refine ax 35 (.i .u32 ((2*(u%100):Nat):Int)) rfl (congrArg (fun n:Nat=>aj.i .u32 (n:Int)) (wj nf).2.2.2.2.2.1) (aq 38 ?_);refine ax 38 (.i .u32 ((2*(u/100/100/100%100):Nat):Int)) rfl (congrArg (fun n:Nat=>aj.i .u32 (n:Int)) (wj nf).2.2.2.2.2.2.1) (aq 41 ?_);refine ax 41 (.i .u32 ((2*(u/100/100%100):Nat):Int)) rfl (congrArg (fun n:Nat=>aj.i .u32 (n:Int)) (wj nf).2.2.2.2.2.2.2) (aq 44 ?_);refine di 44 (.i .i64 (((eN+6)+1:Nat):Int)) rfl rfl ct ?_;refine aq 49 ?_;refine di 49 (.i .u32 ((2*(u%100)+1:Nat):Int)) rfl rfl (congrArg (fun n:Nat=>aj.i .u32 (n:Int)) (xP u)) ?_;refine o0 (l:=mX) _ (oP _ (zah u (by decide))).2.1 ?_;refine mv ?_;refine o1 (UInt8.ofNat (48+u%100%10)) ?_;refine aq 47 ?_;refine di 47 (.i .i64 ((eN+6):Nat)) rfl rfl ct ?_;refine I ?_;refine o0 (l:=mX) _ (oP _ (zah u (by decide))).1 ?_;refine mv ?_;refine o1 (UInt8.ofNat (48+u%100/10)) ?_;refine aq 57 ?_;refine di 57 (.i .i64 (((eN+4)+1:Nat):Int)) rfl rfl ct ?_;refine aq 62 ?_;refine di 62 (.i .u32 ((2*((u/100)%100)+1:Nat):Int)) rfl rfl (congrArg (fun n:Nat=>aj.i .u32 (n:Int)) (xP (u/100))) ?_;refine o0 (l:=mX) _ (oP _ (zah (u/100) (by decide))).2.1 ?_;refine mv ?_;refine o1 (UInt8.ofNat (48+(u/100)%100%10)) ?_;refine aq 60 ?_;refine di 60 (.i .i64 ((eN+4):Nat)) rfl rfl ct ?_;refine I ?_;refine o0 (l:=mX) _ (oP _ (zah (u/100) (by decide))).1 ?_;refine mv ?_;refine o1 (UInt8.ofNat (48+(u/100)%100/10)) ?_;refine aq 70 ?_;refine di 70 (.i .i64 (((eN+2)+1:Nat):Int)) rfl rfl ct ?_;refine aq 75 ?_;refine di 75 (.i .u32 ((2*((u/100/100)%100)+1:Nat):Int)) rfl rfl (congrArg (fun n:Nat=>aj.i .u32 (n:Int)) (xP (u/100/100))) ?_;refine o0 (l:=mX) _ (oP _ (zah (u/100/100) (by decide))).2.1 ?_;refine mv ?_;refine o1 (UInt8.ofNat (48+(u/100/100)%100%10)) ?_;refine aq 73 ?_;refine di 73 (.i .i64 ((eN+2):Nat)) rfl rfl ct ?_;refine I ?_;refine o0 (l:=mX) _ (oP _ (zah (u/100/100) (by decide))).1 ?_;refine mv ?_;refine o1 (UInt8.ofNat (48+(u/100/100)%100/10)) ?_;refine aq 83 ?_;refine di 83 (.i .i64 ((eN+1:Nat):Int)) rfl rfl ct ?_;refine aq 88 ?_;refine di 88 (.i .u32 ((2*((u/100/100/100)%100)+1:Nat):Int)) rfl rfl (congrArg (fun n:Nat=>aj.i .u32 (n:Int)) (xP (u/100/100/100))) ?_;refine o0 (l:=mX) _ (oP _ (zah (u/100/100/100) (by decide))).2.1 ?_;refine mv ?_;refine o1 (UInt8.ofNat (48+(u/100/100/100)%100%10)) ?_;refine aq 86 ?_;refine di 86 (.i .i64 (eN:Nat)) rfl rfl ct ?_;refine I ?_;refine o0 (l:=mX) _ (oP _ (zah (u/100/100/100) (by decide))).1 ?_;refine mv ?_;refine o1 (UInt8.ofNat (48+(u/100/100/100)%100/10)) ?_;refine I ?_;exact bf [0] (eN,_,u/100/100/100/100) ⟨by show eN<eN+8;omega,d4⟩ (eD ⟨rfl,congrArg (fun n:Nat=>some (aj.i .u64 (n:Int))) (show u/100000000=u/100/100/100/100 by rw[zbg,zbg,zbg]),e1,trivial⟩ ⟨_,rfl,rfl,fun _=>rfl⟩ (hp:=by show pinned i1.length _ _=_;rw[af];rfl))
  ·refine I ?_;exact bf [0] (i,l,u) ⟨iw,by omega⟩ (eD ⟨rfl,rfl,rfl,trivial⟩ ⟨_,rfl,rfl,fun _=>rfl⟩ (hp:=by show pinned i1.length _ _=_;rw[af];rfl))
 rintro⟨i,l,u⟩ ⟨iw,g6⟩;have iw:ku n c8 i l u:=iw;have g6:i<8:=g6;have hu:u<=n:=by rw[iw.u];exact zaF _ _
 refine I ?_;refine ax 12 (.i .u32 (u:Nat)) rfl fG ?_;refine ij (L:=Nat×ac bv×Nat) (fun(i,l,u)=>ku n c8 i l u∧i<4∧u<=n) (fun(i,l,u)=>⟨[.a 376 false 1 bv lu l],1,[(0,.a5 0 1 0 c8 24),(12,.i .u32 (u:Nat)),(4,.i .i64 (i:Nat))]⟩) ?_ ?_
 ·refine cA (fun az=> ?_) (fun az=> ?_)
  ·obtain⟨eN,rfl⟩:∃eN,i=eN+4:=⟨i-4,by omega⟩;have d1:=ku.two (i:=eN+2) iw (by omega);have d2:=ku.two (i:=eN) d1 (by omega);have e6:=iw.len;have nf:u<1000000000:=by omega
   have Xd:=iw.le;refine aq 103 ?_;refine ax 103 (.i .u32 ((u/10000:Nat):Int)) rfl (congrArg (fun n:Nat=>aj.i .u32 (n:Int)) (L3 nf).1) (aq 106 ?_);refine ax 106 (.i .u32 ((2*(u/100%100):Nat):Int)) rfl (congrArg (fun n:Nat=>aj.i .u32 (n:Int)) (L3 nf).2.1) (aq 109 ?_);refine ax 109 (.i .u32 ((2*(u%100):Nat):Int)) rfl (congrArg (fun n:Nat=>aj.i .u32 (n:Int)) (L3 nf).2.2) (aq 112 ?_);refine di 112 (.i .i64 (((eN+2)+1:Nat):Int)) rfl rfl ct ?_;refine aq 117 ?_;refine di 117 (.i .u32 ((2*(u%100)+1:Nat):Int)) rfl rfl (congrArg (fun n:Nat=>aj.i .u32 (n:Int)) (xP u)) ?_;refine o0 (l:=mX) _ (oP _ (zah u (by decide))).2.1 ?_;refine mv ?_;refine o1 (UInt8.ofNat (48+u%100%10)) ?_;refine aq 115 ?_;refine di 115 (.i .i64 ((eN+2):Nat)) rfl rfl ct ?_;refine I ?_;refine o0 (l:=mX) _ (oP _ (zah u (by decide))).1 ?_;refine mv ?_;refine o1 (UInt8.ofNat (48+u%100/10)) ?_;refine aq 125 ?_;refine di 125 (.i .i64 ((eN+1:Nat):Int)) rfl rfl ct ?_;refine aq 130 ?_;refine di 130 (.i .u32 ((2*((u/100)%100)+1:Nat):Int)) rfl rfl (congrArg (fun n:Nat=>aj.i .u32 (n:Int)) (xP (u/100))) ?_;refine o0 (l:=mX) _ (oP _ (zah (u/100) (by decide))).2.1 ?_;refine mv ?_;refine o1 (UInt8.ofNat (48+(u/100)%100%10)) ?_;refine aq 128 ?_;refine di 128 (.i .i64 (eN:Nat)) rfl rfl ct ?_;refine I ?_;refine o0 (l:=mX) _ (oP _ (zah (u/100) (by decide))).1 ?_;refine mv ?_;refine o1 (UInt8.ofNat (48+(u/100)%100/10)) ?_;refine I ?_;exact bf [0] (eN,_,u/100/100) ⟨d2,by show eN<4;omega,zag (zaF _ _) (zag (zaF _ _) hu)⟩ (eD ⟨rfl,congrArg (fun n:Nat=>some (aj.i .u32 (n:Int))) (show u/10000=u/100/100 by rw[zbg]),e1,trivial⟩ ⟨_,rfl,rfl,fun _=>rfl⟩ (hp:=by show pinned i1.length _ _=_;rw[af];rfl))
  ·refine I ?_;exact bf [0] (i,l,u) ⟨iw,by show i<4;omega,hu⟩ (eD ⟨rfl,rfl,rfl,trivial⟩ ⟨_,rfl,rfl,fun _=>rfl⟩ (hp:=by show pinned i1.length _ _=_;rw[af];rfl))
 rintro⟨i,l,u⟩ ⟨iw,az,hu⟩;have iw:ku n c8 i l u:=iw;have az:i<4:=az;refine I ?_;refine ij (L:=Nat×ac bv×Nat) (fun(i,l,u)=>ku n c8 i l u∧i<2∧u<=n) (fun(i,l,u)=>⟨[.a 376 false 1 bv lu l],1,[(0,.a5 0 1 0 c8 24),(12,.i .u32 (u:Nat)),(4,.i .i64 (i:Nat))]⟩) ?_ ?_
 ·refine cA (fun U=> ?_) (fun U=> ?_)
  ·obtain⟨eN,rfl⟩:∃eN,i=eN+2:=⟨i-2,by omega⟩;have d1:=ku.two (i:=eN) iw (by omega);have e6:=iw.len;have nf:u<1000000000:=by omega
   have Xd:=iw.le;refine aq 142 ?_;refine ax 142 (.i .u32 ((2*(u%100):Nat):Int)) rfl (congrArg (fun n:Nat=>aj.i .u32 (n:Int)) (Ta nf).1) (aq 144 ?_);refine ax 144 (.i .u32 ((u/100:Nat):Int)) rfl (congrArg (fun n:Nat=>aj.i .u32 (n:Int)) (Ta nf).2) (aq 147 ?_);refine di 147 (.i .i64 ((eN+1:Nat):Int)) rfl rfl ct ?_;refine aq 152 ?_;refine di 152 (.i .u32 ((2*(u%100)+1:Nat):Int)) rfl rfl (congrArg (fun n:Nat=>aj.i .u32 (n:Int)) (xP u)) ?_;refine o0 (l:=mX) _ (oP _ (zah u (by decide))).2.1 ?_;refine mv ?_;refine o1 (UInt8.ofNat (48+u%100%10)) ?_;refine aq 150 ?_;refine di 150 (.i .i64 (eN:Nat)) rfl rfl ct ?_;refine I ?_;refine o0 (l:=mX) _ (oP _ (zah u (by decide))).1 ?_;refine mv ?_;refine o1 (UInt8.ofNat (48+u%100/10)) ?_;refine I ?_;exact bf [0] (eN,_,u/100) ⟨d1,by show eN<2;omega,zag (zaF _ _) hu⟩ (eD ⟨rfl,rfl,e1,trivial⟩ ⟨_,rfl,rfl,fun _=>rfl⟩ (hp:=by show pinned i1.length _ _=_;rw[af];rfl))
  ·refine I ?_;exact bf [0] (i,l,u) ⟨iw,by show i<2;omega,hu⟩ (eD ⟨rfl,rfl,rfl,trivial⟩ ⟨_,rfl,rfl,fun _=>rfl⟩ (hp:=by show pinned i1.length _ _=_;rw[af];rfl))
 rintro⟨i,l,u⟩ ⟨iw,U,hu⟩;have iw:ku n c8 i l u:=iw;have U:i<2:=U;have e6:=iw.len;refine I ?_;refine cA (fun J=> ?_) (fun J=> ?_)
 ·have he:i=1:=by omega
  subst he;have nf:u<10:=by
   rw[iw.u];refine zdF ?_;have:=GM (b:=10) (n:=n) (k:=c8) (by decide) (by omega)
   rwa [show c8=(c8-1)+1 by omega,zal]at this
  have aw:=iw.one nf;refine aq 164 ?_;refine ax 164 (.i .u32 ((48+u:Nat):Int)) rfl (congrArg (fun n:Nat=>aj.i .u32 (n:Int)) (show(48+u)%4294967296=48+u by omega)) (aq 165 ?_);refine ax 165 (.i .u8 ((UInt8.ofNat (48+u)).toNat:Int)) rfl (by rw[UInt8.toNat_ofNat']) ?_;refine kK (j:=0) ?_;refine lN (UInt8.ofNat (48+u)) ?_;refine I ?_;exact eP ⟨.inl rfl,_,rfl,by
   refine I ?_;refine fJ (Ke (p:=0) (q:=c8) rfl rfl rfl ⟨_,rfl⟩ (zae _) (by omega) (.inr rfl)) ?_;refine ax 23 (.a5 0 1 0 c8 24) rfl (by simp) ?_;refine PD (dZ n) ?_ (hn:=by rw[aw.len];omega) (hl:=aw.fin l6 lh (by omega));refine I ?_;exact au rfl (.refl _)⟩
 ·have he:i=0:=by omega
  subst he;have aw:=iw;refine I ?_;exact eP ⟨.inl rfl,_,rfl,by
   refine I ?_;refine fJ (Ke (p:=0) (q:=c8) rfl rfl rfl ⟨_,rfl⟩ (zae _) (by omega) (.inr rfl)) ?_;refine ax 23 (.a5 0 1 0 c8 24) rfl (by simp) ?_;refine PD (dZ n) ?_ (hn:=by rw[aw.len];omega) (hl:=aw.fin l6 lh (by omega));refine I ?_;exact au rfl (.refl _)⟩
def IH:bD where
 L:=Nat
 args:=fun k=>[.i .u64 1,.i .u64 k]
 pre:=fun k=>k<9
 res:=fun k=>.bP [.i .u64 0,.i .u64 k]
def YC(h:k<9):k=0∨k=1∨k=2∨k=3∨k=4∨k=5∨k=6∨k=7∨k=8:=by omega
def apD:bl aT.ctx 339 IH.spec:=by
 refine bI [] Vh.1 ?_;intro(k:Nat) (ab:k<9) H aK;rcases YC ab with rfl|rfl|rfl|rfl|rfl|rfl|rfl|rfl|rfl
 all_goals
  refine I ?_;exact au rfl (.refl _)
def apF:bl aT.ctx 257 IH.spec:=by
 refine bI [(339,IH.spec)] UD.1 ?_;intro(k:Nat) (ab:k<9) H aK;refine I ?_;refine aX apD k ab (I ?_);exact au rfl (.refl _)
def HS:bD where
 L:=bv×ac bv×bv
 args:=fun(a,t,c)=>[.s (a::t),.s [c]]
 pre:=fun(a,t,c)=>t.length<=1073741824
 res:=fun(a,t,c)=>.b ([a]==[c])
def anj:bl aT.ctx 293 HS.spec:=by
 refine bI [] Mh.1 ?_;intro⟨a,t,c⟩ (aW:t.length<=_) H aK;refine aq 10 ?_;refine ax 10 (.b true) rfl (by simp;omega) (I ?_);refine sk (p:=0) (q:=1) [a] ?_ (hq:=by simp);refine I ?_;exact au rfl (.refl _)
def Nm:bl aT.ctx 199 HS.spec:=by
 refine bI [(293,HS.spec)] Up.1 ?_;intro⟨a,t,c⟩ (aW:t.length<=_) H aK;refine I ?_;refine aX anj (a,t,c) aW (I ?_);exact au rfl (.refl _)
def abm:bD where
 L:=Nat
 args:=fun k=>[.s [48],.i .i64 k]
 pre:=fun k=>k<9
 res:=fun k=>.s (List.replicate k 48)
def abn:bl aT.ctx 138 abm.spec:=by
 refine bI [(257,IH.spec),(199,HS.spec)] TG.1 ?_;intro(k:Nat) (ab:k<9) H aK;rcases YC ab with rfl|rfl|rfl|rfl|rfl|rfl|rfl|rfl|rfl
 ·refine I ?_;exact au rfl (.refl _)
 ·refine I ?_;exact au rfl (.refl _)
 all_goals
  refine I ?_;refine aX apF _ ab (I ?_);refine nu 48 (j:=0) rfl ?_;refine I ?_;refine aX Nm (32,List.replicate 127 32,48) (jF rfl) (I ?_);refine aX Nm (45,List.replicate 127 45,48) (jF rfl) (I ?_);refine aX Nm (48,List.replicate 63 48,48) (jF rfl) (I ?_);refine sk (p:=0) (l:=List.replicate 64 48) _ ?_ (hl:=rfl) (hq:=by decide);refine I ?_;exact au rfl (.refl _)
def TA:bl aT.ctx 137 Hc.spec:=by
 refine sF [(256,Hc.spec)] TF.1 ?_;intro(n:Nat) (hn:n<1000000000) H aK e5;refine I ?_;refine aX aiC n hn (I ?_) (hh:=e5);exact au rfl (.refl _)
def ag1(aE:r<1000000000)(hq:q≠0):aY 10 (r+1000000000*q)=iU 9 r++aY 10 q:=by
 have ok:=aqm (Yy 9 r) (hi (b:=10) (by decide) q);have aD:val 10 (iU 9 r++aY 10 q)=r+1000000000*q:=by
  rw[mZ,YA,yT,gD (by decide)];have:r%10^9=r:=gP (by omega);rw[this]
 have aW:eV (iU 9 r++aY 10 q)=iU 9 r++aY 10 q:=by
  have h:=we (b:=10) (by decide) q;rcases zcb (aY 10 q)with h0|⟨c7,d,h0⟩
  ·exact absurd ((pT (by decide)).1 h0) hq
  ·rw[zcc]at h0;have aA:d≠0:=by rw[h0]at h;exact(EM (b:=10) h).2
   rw[h0,<-zbN,ss,zaa aA]
 rw[<-aD];exact Ag (by decide) ok aW
def apq(aE:r<1000000000):(iU 9 r).reverse=List.replicate (9-(dec r).length) 0++dec r:=by
 have hl:(aY 10 r).length<=9:=jZ (by decide) (by omega);by_cases h0:r=0
 ·subst h0;decide +kernel
 have e:iU 9 r=aY 10 r++List.replicate (9-(aY 10 r).length) 0:=by
  apply zbw;intro j;have g:∀j,j<9->(iU 9 r)[j]? =some (r/10^j%10):=fun j hj=>by simp[iU,hj]
  by_cases hj:j<9
  ·rw[g j hj];by_cases J:j<(aY 10 r).length
   ·rw[zaW J,uc (by decide) J]
   ·have an:r/10^j=0:=Decidable.not_not.1 (fun h=>J ((x3 (by decide)).2 h));rw[zaL (by omega),zeg,zab (by omega),an]
  ·rw[zbz (by rw[yT];omega),zbz (by simp;omega)]
 have e2:dec r=(aY 10 r).reverse:=by unfold dec;rw[zaa h0]
 rw[e,zbO,List.reverse_replicate,e2,zbi]
def Sv(aE:r<1000000000)(hq:q≠0):dZ (r+1000000000*q)=dZ q++(List.replicate (9-(dZ r).length) 48++dZ r):=by
 have e:dec (r+1000000000*q)=dec q++(List.replicate (9-(dec r).length) 0++dec r):=by
  rw[<-apq aE];have J:dec (r+1000000000*q)=(aY 10 (r+1000000000*q)).reverse:=by unfold dec;rw[zaa (by omega)]
  have U:dec q=(aY 10 q).reverse:=by unfold dec;rw[zaa hq]
  rw[J,U,ag1 aE hq,zbO]
 unfold dZ;rw[e,Ga,Ga,tR];congr 2;unfold hg;rw[List.map_replicate];rfl
def tM(s:ac bv):ac aj:=[.s s]
def ni(ps:ac (ac bv)):ac bv:=ps.reverse.flatten
def X9(ps:ac (ac bv))(s:ac bv):ni (ps++[s])=s++ni ps:=by unfold ni;rw[zbO];rfl
def aoD{ps:ac (ac bv)}(h:k<ps.length):ni (ps.drop k)=ni (ps.drop (k+1))++ps[k]:=by
 unfold ni;rw[eX h,List.reverse_cons,List.flatten_append];simp
def aqa(m:Nat):ac (ac bv)->cz
 |[]=>⟨[],0,[(0,dq m),(3,.nl)]⟩
 |p::ps=>⟨[.a 9 true 1 (ac bv) tM (p::ps)],1,[(0,dq m),(3,.a5 0 1 0 (p::ps).length (p::ps).length)]⟩
def aeU(ps:ac (ac bv))(k:Nat):ac bv->cz
 |[]=>⟨[.c 232 [.v (.pointer none),.nl]],1,[(3,.cc 1 (ac bv) tM ps),(7,.p 0 0),(8,.i .i64 ((k:Int)-1))]⟩
 |c::cs=>⟨[.c 232 [.p 0 0,.a5 1 1 0 (c::cs).length (c::cs).length],.a 5 true 1 bv lu (c::cs)],2,[(3,.cc 1 (ac bv) tM ps),(7,.p 0 0),(8,.i .i64 ((k:Int)-1))]⟩
def aoE:∀{ps:ac (ac bv)},(∀p∈ps,p.length<=9)->(ni ps).length<=9*ps.length:=fun{ps} h=>by
 unfold ni;rw[List.length_flatten]
 induction ps with
 |nil=>simp
 |cons p ps a7=>
  have J:=h p (by simp);have U:=a7 (fun q hq=>h q (zaI _ hq));rw[List.reverse_cons,zdP,List.sum_append];simp at U⊢;omega
def N2(h:ev k n):(aY 10 n).length<=10*k:=jZ (by decide) (by
 refine fM (wU h) ?_;rw[zbM];exact zdc (by decide) k)
def SE{m:Nat}(h:m≠0):(aY 10 (m/1000000000)).length<(aY 10 m).length:=by
 rw[oj (b:=10) (n:=m) (by decide) h,zaq];refine Nat.lt_succ_of_le (jZ (by decide) (zbq ?_ (GM (by decide) (b8 _))));omega
def St(h:r<1000000000):(dZ r).length<=9:=by
 unfold dZ dec;rw[tR];split
 ·simp
 ·rw[zbi];exact jZ (by decide) (by omega)
def Zh:bD where
 L:=Nat
 args:=fun n=>[dq n]
 pre:=fun n=>ev 1073741823 n
 res:=fun n=>.s (dZ n)
 hp:=oX
 hm:=oX.up
def Zi:bl aT.ctx 61 Zh.spec:=by
 refine sF [(136,P2.spec),(137,Hc.spec),(138,abm.spec)] V5.1 ?_;intro(n:Nat) (hn:ev _ n) H aK e5;refine I ?_;refine cA (fun h=> ?_) (fun h=> ?_)
 ·have h0:n=0:=s8.1 (by omega);subst h0;refine I ?_;exact au rfl (.refl _)
 have l6:n≠0:=fun e=>h (by rw[e,gE];rfl);refine I ?_;refine pw (L:=ac (ac bv)) (fun ps=>ni ps=dZ n∧ps≠[]∧ps.length<=10737418230∧∀p∈ps,p≠[]∧p.length<=9) (fun ps=>⟨[],0,[(3,.cc 1 (ac bv) tM ps)]⟩) ?_ ?_
 ·refine cN (L:=Nat×ac (ac bv)) (fun(m,ps)=>ev 1073741823 m∧ps.length+(aY 10 m).length<=10737418230∧dZ n=(if m=0 then[]else dZ m)++ni ps∧(m=0->ps≠[])∧∀p∈ps,p≠[]∧p.length<=9) (fun(m,ps)=>aqa m ps) (fun l=>(aY 10 l.1).length) [] (n,[]) ?_ ?_ dj ?_
  ·exact⟨hn,by show 0+(aY 10 n).length<=_;have:=N2 hn;omega,by rw[zaa l6];simp[ni],fun h=>absurd h l6,fun p hp=>by simp at hp⟩
  ·show(aY 10 n).length<bV+1;have:=N2 hn;unfold bV;omega
  rintro⟨m,ps⟩ ⟨g1,aM,bc,cf,cL⟩;cases ps with
  |nil=>
   refine I ?_;refine cA (fun hm=> ?_) (fun hm=> ?_)
   ·have hm:m≠0:=fun e=>by rw[e,gE]at hm;simp at hm
    have aE:m%1000000000<1000000000:=zah _ (by decide);have DL:=SE hm;have M4:=St aE;have AU:0<(dZ (m%1000000000)).length:=zaN.2 (xY _);refine I ?_;refine aX P3 (m,1000000000) ⟨dT g1 (by decide),by show 0<1000000000;decide,by show 1000000000<4294967296;decide⟩ (aq 21 ?_);refine ax 21 (.i .u64 ((m%1000000000:Nat):Int)) rfl (congrArg (fun n:Nat=>aj.i .u64 (n:Int)) (gP (Nat.lt_trans aE (by decide)))) ?_;refine aX TA (m%1000000000) aE ?_ (hh:=e5);have D0:m%1000000000+1000000000*(m/1000000000)=m:=zef _ _;generalize m%1000000000=r at *;generalize hq:m/1000000000=q at *;refine aq 6 ?_
    iterate 3 refine gZ ?_
    refine ij (L:=ac bv) (fun dO=>dO≠[]∧dO.length<=9∧dZ m=(if q=0 then[]else dZ q)++dO) (fun dO=>⟨[],0,[(3,.nl),(4,dq q),(6,.s dO)]⟩) ?_ ?_
    ·refine I ?_;refine cA (fun hN=> ?_) (fun hN=> ?_)
     ·have hN:q≠0:=fun e=>by rw[e,gE]at hN;simp at hN
      obtain⟨z,an⟩:∃z:Nat,z=9-(dZ r).length:=⟨_,rfl⟩;refine aq 28 ?_;refine ax 28 (.i .i64 (z:Nat)) rfl ct ?_;refine aX abn z (by show z<9;omega) (I ?_);refine tr ?_ (hl:=by rw[zbT];omega);refine I ?_;refine bf [] (List.replicate z 48++dZ r) ⟨by simp[xY],by rw[zay,zbT];omega,by rw[zaa hN,<-D0,an];exact Sv aE hN⟩ dj
     ·have hN:q=0:=s8.1 (by omega);refine I ?_;exact bf [] (dZ r) ⟨xY _,M4,by rw[zab hN,<-D0,hN];rfl⟩ dj
    rintro dO ⟨ba,bx,dE⟩;refine I ?_;refine vh tM [dO] (jj (R:=tM) [dO] rfl) ?_;refine I ?_;refine bf [1] (q,[dO]) ⟨by show(aY 10 q).length<(aY 10 m).length;exact DL,uT g1 (by rw[<-hq];exact zaF _ _),by show 1+(aY 10 q).length<=_;simp at aM;omega,by rw[bc,zaa hm,dE,zbN,show ni [dO]=dO++ni []from X9 [] dO],fun _=>by simp,?_⟩ dI;intro x aa;have:x=dO:=by simpa using aa
    subst this;exact⟨ba,bx⟩
   ·have hm:m=0:=s8.1 (by omega);subst hm;exact absurd rfl (cf rfl)
  |cons p ps=>
   refine I ?_;refine cA (fun hm=> ?_) (fun hm=> ?_)
   ·have hm:m≠0:=fun e=>by rw[e,gE]at hm;simp at hm
    have aE:m%1000000000<1000000000:=zah _ (by decide);have DL:=SE hm;have M4:=St aE;have AU:0<(dZ (m%1000000000)).length:=zaN.2 (xY _);refine I ?_;refine aX P3 (m,1000000000) ⟨dT g1 (by decide),by show 0<1000000000;decide,by show 1000000000<4294967296;decide⟩ (aq 21 ?_);refine ax 21 (.i .u64 ((m%1000000000:Nat):Int)) rfl (congrArg (fun n:Nat=>aj.i .u64 (n:Int)) (gP (Nat.lt_trans aE (by decide)))) ?_;refine aX TA (m%1000000000) aE ?_ (hh:=e5);have D0:m%1000000000+1000000000*(m/1000000000)=m:=zef _ _;generalize m%1000000000=r at *;generalize hq:m/1000000000=q at *;refine aq 6 ?_
    iterate 3 refine gZ ?_
    refine ij (L:=ac bv) (fun dO=>dO≠[]∧dO.length<=9∧dZ m=(if q=0 then[]else dZ q)++dO) (fun dO=>⟨[.a 9 true 1 (ac bv) tM (p::ps)],1,[(3,.a5 0 1 0 (p::ps).length (p::ps).length),(4,dq q),(6,.s dO)]⟩) ?_ ?_
    ·refine I ?_;refine cA (fun hN=> ?_) (fun hN=> ?_)
     ·have hN:q≠0:=fun e=>by rw[e,gE]at hN;simp at hN
      obtain⟨z,an⟩:∃z:Nat,z=9-(dZ r).length:=⟨_,rfl⟩;refine aq 28 ?_;refine ax 28 (.i .i64 (z:Nat)) rfl ct ?_;refine aX abn z (by show z<9;omega) (I ?_);refine tr ?_ (hl:=by rw[zbT];omega);refine I ?_;refine bf [0] (List.replicate z 48++dZ r) ⟨by simp[xY],by rw[zay,zbT];omega,by rw[zaa hN,<-D0,an];exact Sv aE hN⟩ dI
     ·have hN:q=0:=s8.1 (by omega);refine I ?_;exact bf [0] (dZ r) ⟨xY _,M4,by rw[zab hN,<-D0,hN];rfl⟩ dI
    rintro dO ⟨ba,bx,dE⟩;refine I ?_;have j4:ps.length<=10737418230:=by simp at aM;omega
    refine vg (R:=tM) [dO] (jj (R:=tM) [dO] rfl) ?_;refine I ?_;refine bf [2] (q,p::(ps++[dO])) ⟨by show(aY 10 q).length<(aY 10 m).length;exact DL,uT g1 (by rw[<-hq];exact zaF _ _),by simp at aM ⊢;omega,by rw[bc,zaa hm,dE,zbN,show ni (p::(ps++[dO]))=dO++ni (p::ps)from X9 (p::ps) dO],fun _=>by simp,?_⟩ (Fv ⟨rfl,congrArg (fun k=>some (aj.a5 2 1 0 k k)) (by simp),trivial⟩ ⟨_,rfl,rfl,fun _=>rfl⟩);intro x aa;rcases zbF.1 (show x∈(p::ps)++[dO]from aa)with h|h
    ·exact cL x h
    ·have:x=dO:=by simpa using h
     subst this;exact⟨ba,bx⟩
   ·have hm:m=0:=s8.1 (by omega);subst hm;refine PE 3 ?_;refine I ?_;exact bf [] (p::ps) ⟨by rw[bc,zab rfl];rfl,by simp,by simp at aM ⊢;omega,cL⟩ dj
 rintro ps ⟨g1,aM,bc,cf⟩;have cL:0<ps.length:=zaN.2 aM;have X8:∀k,(ni (ps.drop k)).length<=9*ps.length:=fun k=>zag (aoE fun p hp=>(cf p (zcx hp)).2) (m1 _ (by simp));refine I ?_;refine cN (L:=Nat×ac bv) (fun(k,bT)=>k<=ps.length∧ni (ps.drop k)=bT) (fun(k,bT)=>aeU ps k bT) (fun l=>l.1) [0] (ps.length,[]) ⟨b8 _,by rw[zcw];rfl⟩ (by show ps.length<bV+1;unfold bV;omega) (eD ⟨rfl,rfl,e1,trivial⟩ ⟨_,rfl,rfl⟩) ?_;rintro⟨k,bT⟩ ⟨ab,hb⟩;cases k with
 |zero=>
  rw[zap,g1]at hb;cases bT with
  |nil=>exact absurd hb (xY n)
  |cons c cs=>
   have gT:=X8 0;rw[zap,g1,hb]at gT;refine I ?_;refine zl TH.1 (by kernel_rfl) ?_;intro H1 i1 s1 _ _;refine I ?_;refine agI ?_ (hc:=by simp);refine I ?_;refine agK ?_ (h0:=by simp) (hb:=by omega);refine I ?_;refine eP ⟨.inr rfl,_,rfl,?_⟩;refine I ?_;exact au rfl (.of (by show aj.s (c::cs)=aj.s (dZ n);rw[hb]))
 |succ m=>
  have hm:m<ps.length:=by omega
  obtain⟨ba,bx⟩:=cf _ (dy hm);have hj:=aoD hm;rw[hb]at hj;have gT:=X8 (m+1);rw[hb]at gT;have lg:ps[m]? =some ps[m]:=bm hm;generalize ps[m]=s at *;cases bT with
  |nil=>
   obtain⟨c,cs,rfl⟩:∃c cs,s=c::cs:=by cases s with
    |nil=>exact absurd rfl ba
    |cons c cs=>exact⟨c,cs,rfl⟩
   refine ax 8 (.i .i64 (m:Nat)) rfl fG (I ?_);refine ax 41 (.b true) rfl (by simp) (I ?_);refine dr (c::cs) lg ?_;refine I ?_;refine zl Me.1 (by kernel_rfl) ?_;intro H1 i1 s1 _ _;refine I ?_;refine zl Mg.1 (by kernel_rfl) ?_;intro KG i2 s2 _ _;refine I ?_;refine fJ (ahO rfl rfl) ?_;refine I ?_;refine fJ (afr rfl rfl (by decide)) ?_;refine I ?_;refine fJ (agu rfl rfl rfl) ?_;refine I ?_;refine eP ⟨.inl rfl,_,rfl,?_⟩;refine I ?_;refine arI ?_;refine I ?_;refine eP ⟨.inr rfl,_,rfl,?_⟩;refine I ?_;exact bf [0,1] (m,c::cs) ⟨by simp,by omega,hj⟩ (pz ⟨rfl,rfl,e1,trivial⟩ ⟨_,rfl,rfl⟩ ⟨_,rfl,rfl,fun _=>rfl⟩)
  |cons sE bT=>
   have ot:bT.length<=96636764070:=by simp at gT;omega
   have awR:s.length<=9:=bx;refine ax 8 (.i .i64 (m:Nat)) rfl fG (I ?_);refine ax 41 (.b true) rfl (by simp) (I ?_);refine dr s lg ?_;refine I ?_;refine zl Me.1 (by kernel_rfl) ?_;intro H1 i1 s1 _ _;refine I ?_;refine zl Mg.1 (by kernel_rfl) ?_;intro KG i2 s2 _ _;refine I ?_;refine fJ (ahP rfl rfl) ?_;refine I ?_;refine eP ⟨.inl rfl,_,rfl,?_⟩;refine I ?_;refine arH ?_ (h0:=ba);refine I ?_;refine eP ⟨.inr rfl,_,rfl,?_⟩;refine I ?_;exact bf [0,2] (m,sE::(bT++s)) ⟨by simp,by omega,hj⟩ (auM ⟨rfl,rfl,e1,trivial⟩ ⟨_,rfl,congrArg (fun k=>bj.c 232 [.p 0 0,.a5 2 1 0 k k]) (by simp;omega)⟩ ⟨_,rfl,rfl,fun _=>rfl⟩)
def Su(h:ev k n):(dZ n).length<=10*k+1:=by
 have:=N2 h;unfold dZ dec;rw[tR];split
 ·simp
 ·rw[zbi];omega
def abC:bD where
 L:=Rat
 args:=fun x=>[cO x]
 pre:=fun x=>eF 268435456 x
 res:=fun x=>.s (gp x)
 hp:=oX
 hm:=oX.up
def PS:bl aT.ctx 17 abC.spec:=by
 refine sF [(61,Zh.spec)] T4.1 ?_;intro(x:Rat) (aa:eF _ x) H aK e5;have e6:=Su aa.1;have iC:=Su aa.2;refine I ?_;refine aX Zi x.num.natAbs (dT aa.1 (by decide)) (aq 3 ?_) (hh:=e5)
 iterate 3 refine gZ ?_
 obtain⟨u,hu⟩:∃u,u=(if x.num<0 then[45]else[])++dZ x.num.natAbs:=⟨_,rfl⟩;have uG:u.length<=10*268435456+2:=by
  rw[hu,zay];have:(if x.num<0 then([45]:ac bv)else[]).length<=1:=by split<;>simp
  omega
 refine ij (L:=Unit) (fun _=>True) (fun _=>⟨[.c 60 (rn x)],1,[(1,.p 0 0),(3,.s u)]⟩) ?_ ?_
 ·refine I ?_;refine cA (fun h=> ?_) (fun h=> ?_)
  ·refine I ?_;refine tr ?_ (hl:=by show 1+(dZ _).length<=_;omega);refine I ?_;exact bf [0] () trivial (eD ⟨rfl,by rw[hu,zab h];rfl,trivial⟩ ⟨_,rfl,rfl⟩)
  ·refine I ?_;exact bf [0] () trivial (eD ⟨rfl,by rw[hu,zaa h];rfl,trivial⟩ ⟨_,rfl,rfl⟩)
 intro _ _;refine aq 12 ?_;by_cases aA:x.den=1
 ·refine ax 12 (.jP 1 Nat fQ []) rfl (by show sK x.den=_;rw[aA];rfl) (I ?_);refine au rfl (.of ?_);show aj.s u=aj.s (gp x);unfold gp;rw[<-hu,zab aA,zcE]
 ·refine ax 12 (.jP 1 Nat fQ (aY 4294967296 x.den)) rfl (Da aA) ?_;have cd:(aY 4294967296 x.den).isEmpty=false:=zdt.2 (fun e=>x.den_nz ((pT (by decide)).1 e));refine I ?_;refine abf rfl (by show mr true _=true;rw[cd];rfl) ?_;refine aq 16 ?_;refine dz 16 (dq x.den) rfl (Sz aA) ?_;refine aX Zi x.den (dT aa.2 (by decide)) ?_ (hh:=e5);refine tr ?_ (hl:=by show 1+(dZ _).length<=_;omega);refine tr ?_ (hl:=by rw[zay];show u.length+(1+(dZ _).length)<=_;omega);refine I ?_;refine au rfl (.of ?_);show aj.s (u++([47]++dZ x.den))=aj.s (gp x);unfold gp;rw[<-hu,zaa aA];rfl
