/- What the functions of the program and of the document compute, for every input (part 2); conditions as in the statements. -/
import Derived.Test.YtlnaeofgmkmfdaaGreatDoorC1
import Derived.Test.YtlnaeofgmkmfdaaGreatDoorS1
import Derived.Test.YtlnaeofgmkmfdaaGreatDoorL
import Derived.Test.YtlnaeofgmkmfdaaGreatDoorS2
noncomputable section
set_option linter.all false
namespace Go.an.a7
open Go.an
set_option maxRecDepth 100000
set_option maxHeartbeats 4000000
variable{k:Nat}
def JH:bU where
 L:=Int×Int
 args:=fun(e,p)=>[qT e p]
 pre:=fun(e,p)=>True
 res:=fun(e,p)=>.i .i64 (if fY e p then 0 else 2)
def aaU:bD aX.ctx 146 JH.spec:=by
 refine b3 [] Up.1 ?_;intro⟨e,p⟩ _ H aN;have bad:¬fY e p->b7 (.i .i64 2) (JH.res (e,p)):=fun h=>.of (by show _=aj.i .i64 (if _ then _ else _);rw[zaa h]);refine av 5 ?_;by_cases I:e<2
 ·refine dS 5 I (J ?_);exact aA rfl (bad (by unfold fY;omega))
 refine ep 5 I (av 9 ?_);by_cases U:11<e
 ·refine dS 9 U (J ?_);exact aA rfl (bad (by unfold fY;omega))
 refine ep 9 U (av 14 ?_);by_cases ag:p<2
 ·refine dS 14 ag (J ?_);exact aA rfl (bad (by unfold fY;omega))
 refine ep 14 ag (av 19 ?_);by_cases au:113<p
 ·refine dS 19 au (J ?_);exact aA rfl (bad (by unfold fY;omega))
 refine ep 19 au (av 26 ?_);refine aB 26 (.i .i64 (e+p)) rfl (cX rfl (by omega) (by omega)) (av 27 ?_);by_cases a0:e+p<5
 ·refine dS 27 a0 (J ?_);exact aA rfl (bad (by unfold fY;omega))
 refine ep 27 a0 (J ?_);exact aA rfl (.of (by show _=aj.i .i64 (if _ then _ else _);rw[zab (by unfold fY;omega)]))
def JG:bU where
 L:=Int×Int
 args:=fun(e,p)=>[qT e p]
 pre:=fun(e,p)=>fY e p
 res:=fun(e,p)=>.i .i64 (e9 e)
def Pz:bD aX.ctx 417 JG.spec:=by
 refine b3 [] Wj.1 ?_;intro⟨e,p⟩ ⟨I,U,ag,au,a0⟩ H aN;obtain⟨n,hn⟩:∃n:Nat,e=(n:Int)+1:=⟨(e-1).toNat,by omega⟩;subst hn;have JD:∀i:Nat,i<=10->1<=2^i∧2^i<=1024:=fun i ae=>⟨zaE i,zaL (by decide) ae⟩;refine J ?_;refine df (L:=Nat) (fun i=>i<=n) (fun(i:Nat)=>⟨[.c 213 [.i .i64 ((n:Int)+1),.i .i64 p]],1,[(1,.p 0 0),(3,.i .i64 ((2^i:Nat):Int)),(4,.i .i64 ((i:Int)+1))]⟩) (fun i=>n-i) [0] 0 (zaf _) (by show n-0<b0+1;unfold b0;omega) dX ?_;intro(i:Nat) ae;have hp:=JD i (by omega);refine J ?_;refine cV (fun h=> ?_) (fun h=> ?_)
 ·refine J ?_;refine br [0] (i+1) ⟨by show n-(i+1)<n-i;omega,by show i+1<=n;omega⟩ (fh ⟨rfl,?_,?_,trivial⟩ ⟨_,rfl,rfl⟩)
  ·exact congrArg (fun n=>some (aj.i .i64 n)) (vJ (by rw[zan];omega) (by omega) (by omega))
  ·exact congrArg (fun n=>some (aj.i .i64 n)) (vJ (by omega) (by omega) (by omega))
 ·have he:i=n:=by omega
  subst he;refine J ?_;refine aA rfl (.of (congrArg (aj.i .i64) (vJ ?_ (by omega) (by omega))));unfold e9;rw[show((i:Int)+1-1).toNat=i by omega,zer];rfl
def sv(n:Nat):ed (n+1) (2^n):=mD (by decide) (fx (Nat.pow_lt_pow_right (by decide) (zbJ n)) (zdA (by decide) (n+1)))
def de{l a:Nat}(h:ed k a)(hl:k<=l:=by decide):ed l a:=zag h hl
def JO(k:Nat):bU where
 L:=Nat
 args:=fun n=>[.i .i64 n]
 pre:=fun n=>n<k∧n<=1000000000
 res:=fun n=>c9 (2^n)
theorem JP:∀k:Nat,bD aX.ctx 431 (JO k).spec
 |0=>by
  refine b3 [(166,xy.spec)] ME.1 ?_;intro(n:Nat) h H aN;exact absurd h.1 (zcr _)
 |k+1=>by
  have ba:=JP k;refine b3 [(166,xy.spec),(431,(JO k).spec),(172,zI.spec),(274,JF.spec)] ME.1 ?_;intro(n:Nat) ⟨(I:n<k+1),(U:n<=1000000000)⟩ H aN;refine J ?_;refine cV (fun h=> ?_) (fun h=> ?_)
  ·have h:n=0:=by omega
   subst h;refine J ?_;refine a9 vq () trivial (J ?_);exact aA rfl (.refl _)
  have h:n≠0:=by omega
  refine av 9 ?_;refine aB 9 (.i .i64 ((n/2:Nat):Int)) rfl (by show aj.i _ (IntKind.i64.wrap ((n/2:Nat):Int))=_;exact cX rfl (by omega) (by omega)) ?_;refine a9 ba (n/2) ⟨by show n/2<k;omega,by show n/2<=_;omega⟩ (J ?_);have hq:=sv (n/2);refine a9 rq (2^(n/2),2^(n/2)) ⟨de hq (by omega),de hq (by omega)⟩ (av 15 ?_);refine aB 15 (.i .i64 ((n%2:Nat):Int)) rfl rfl ?_;have e:2^(n/2)*2^(n/2)=2^(n/2+n/2):=(zat 2 _ _).symm;have uV:ed 1073741824 (2^(n/2)*2^(n/2)):=by rw[e];exact de (sv _) (by omega)
  refine J ?_;refine cV (fun h=> ?_) (fun h=> ?_)
  ·have h:n%2=1:=by omega
   refine J ?_;refine a9 Px (2^(n/2)*2^(n/2),2^(n/2)*2^(n/2)) ⟨uV,uV⟩ (J ?_);refine aA rfl (.of (congrArg c9 ?_));show 2^(n/2)*2^(n/2)+2^(n/2)*2^(n/2)=2^n;rw[e,<-Nat.two_mul,<-Nat.pow_succ'];congr 1;omega
  ·have h:n%2=0:=by omega
   refine J ?_;refine aA rfl (.of (congrArg c9 ?_));show 2^(n/2)*2^(n/2)=2^n;rw[e];congr 1;omega
def JE:bU where
 L:=Rat
 args:=fun x=>[cT x]
 pre:=fun _=>True
 res:=fun x=>cT (jz x)
def Pw:bD aX.ctx 392 JE.spec:=by
 refine b3 [] V7.1 ?_;intro(x:Rat) _ H aN;refine J ?_;refine aA rfl (.of ?_);show aj.agg [.i _ (IntKind.i64.wrap (x.num.sign*x.num.sign)),c9 x.num.natAbs,dw (if x.num=0 then[]else bb 1000000000 x.den)]=aj.agg [.i _ _,c9 (jz x).num.natAbs,dw (if(jz x).num=0 then[]else bb 1000000000 (jz x).den)];rw[(rK x).1,(rK x).2,Int.natAbs_natCast];have e:IntKind.i64.wrap (x.num.sign*x.num.sign)=((x.num.natAbs:Nat):Int).sign:=by
  rcases(show x.num<0∨x.num=0∨0<x.num by omega)with h|h|h
  ·rw[zcc h,zbE (by omega)];rfl
  ·rw[h];rfl
  ·rw[zbE h,zbE (by omega)];rfl
 rw[e];by_cases h:x.num=0
 ·rw[h];rfl
 ·rw[zaa h,zaa (by omega)]
def LB{n:Nat}:n<2^k↔b2 n<=k:=⟨GU,fun h=>by
 by_cases h0:n=0
 ·subst h0;exact zaE k
 ·exact fx (sQ h0).2 (zaL (by decide) h)⟩
def Sh{n:Nat}:29*((bb 1000000000 n).length-1)<=b2 n∧b2 n<=30*(bb 1000000000 n).length:=by
 constructor
 ·refine Nat.le_of_not_lt fun h=> ?_;have hl:0<(bb 1000000000 n).length:=by omega
  have I:=(AN (b:=1000000000) (n:=n) (i:=(bb 1000000000 n).length-1) (by decide)).1 (by omega);have U:1000000000^((bb 1000000000 n).length-1)<=n:=Nat.le_of_not_lt fun aG=>I (zbO aG);have ag:(2^29)^((bb 1000000000 n).length-1)<=1000000000^((bb 1000000000 n).length-1):=zdA (by decide) _;rw[<-zbT]at ag;have:=LB.2 (zbo h);omega
 ·refine GU (fx (sW (cf _)) ?_);rw[zbT];exact zdA (by decide) _
def aa8:bU where
 L:=Nat
 args:=fun n=>[c9 n]
 pre:=fun n=>ed 30000000 n
 res:=fun n=>.i .i64 (b2 n:Nat)
def aa9:bD aX.ctx 419 aa8.spec:=by
 refine b3 [(431,(JO 1000000001).spec),(165,tL.spec)] Wl.1 ?_;intro(n:Nat) (hn:(bb _ n).length<=_) H aN;obtain⟨c1,dx⟩:= @Sh n;obtain⟨l,hl⟩:∃l,l=(bb 1000000000 n).length:=⟨_,rfl⟩;rw[<-hl]at c1 dx hn;refine av 9 ?_;rw[<-hl];refine aB 9 (.i .i64 (29*((l:Int)-1))) rfl (congrArg (aj.i .i64) (by rw[hK (n:=(l:Int)-1) (by omega) (by omega)];exact vJ rfl (by omega) (by omega))) (av 10 ?_);refine aB 10 (.i .i64 ((29*(l-1):Nat):Int)) rfl (congrArg (aj.i .i64) (by omega)) (av 13 ?_)
 try rw[<-hl]
 refine aB 13 (.i .i64 ((30*l:Nat):Int)) rfl cX (J ?_);refine df (L:=Nat×Nat) (fun(aK,ae)=>aK<=b2 n∧b2 n<=ae∧ae<=900000000) (fun((aK:Nat),(ae:Nat))=>⟨[],0,[(0,c9 n),(3,.i .i64 aK),(4,.i .i64 ae)]⟩) (fun l=>l.2-l.1) [] (29*(l-1),30*l) ⟨c1,dx,by omega⟩ (by show 30*l-29*(l-1)<b0+1;unfold b0;omega) dW ?_;rintro⟨aK,ae⟩ ⟨I,U,ag⟩;refine J ?_;refine cV (fun h=> ?_) (fun h=> ?_)
 ·have h:aK<ae:=by omega
  refine av 19 ?_;refine aB 19 (.i .i64 ((aK+ae:Nat):Int)) rfl cX (av 20 ?_);refine aB 20 (.i .i64 (((aK+ae)/2:Nat):Int)) rfl (by show aj.i _ (IntKind.i64.wrap (((aK+ae)/2:Nat):Int))=_;exact cX rfl (by omega) (by omega)) (J ?_);refine a9 (JP 1000000001) ((aK+ae)/2) ⟨by show(aK+ae)/2<_;omega,by show(aK+ae)/2<=_;omega⟩ ?_;refine a9 ss (n,2^((aK+ae)/2)) ⟨by show(bb _ n).length<=_;omega,de (sv _) (by omega)⟩ (J ?_);refine cV (fun hc=> ?_) (fun hc=> ?_)
  ·have hc:=LB.1 (AE hc);refine J ?_;exact br [] (aK,(aK+ae)/2) ⟨by show(aK+ae)/2-aK<ae-aK;omega,I,hc,by omega⟩ dW
  ·have hc:(aK+ae)/2<b2 n:=Nat.lt_of_not_le fun aG=>zds.2 (AF hc) (LB.2 aG);refine J ?_;exact br [] ((aK+ae)/2+1,ae) ⟨by show ae-((aK+ae)/2+1)<ae-aK;omega,hc,U,ag⟩ (kx ⟨rfl,fI,rfl,trivial⟩)
 ·have he:aK=b2 n:=by omega
  refine J ?_;exact aA rfl (.of (by rw[he];rfl))
def ev(k:Nat)(x:Rat):Prop:=ed k x.num.natAbs∧ed k x.den
variable{x:Rat}{a b d:Nat}{y:Rat}{l r n p q:Nat}{s:Int}
def nG(ha:ed k a)(hb:ed l b):ed (k+l) (a*b):=mD (by decide) (by rw[zat];exact zel (sW ha) (sW hb))
def xz:bU where
 L:=Rat×Rat
 args:=fun(x,y)=>[cT x,cT y]
 pre:=fun(x,y)=>ev 268435456 x∧ev 268435456 y
 res:=fun(x,y)=>.i .i64 (ej x y)
def CA(n:Int): -1<=n.sign∧n.sign<=1:=by
 rcases(show n<0∨n=0∨0<n by omega)with h|h|h
 ·rw[zcc h];decide
 ·rw[h];decide
 ·rw[zbE h];decide
def vt:bD aX.ctx 77 xz.spec:=by
 refine b3 [(173,zE.spec),(172,zI.spec),(165,tL.spec)] WE.1 ?_;intro⟨x,y⟩ ⟨(aa:ev _ x),(aJ:ev _ y)⟩ H aN;obtain⟨eF,e5,nh⟩:=SN x y;have hV:=CA x.num;have nL:=CA y.num;refine J ?_;refine cV (fun h=> ?_) (fun h=> ?_)
 ·refine J ?_;exact aA rfl (.of (by show aj.i .i64 (-1)=aj.i .i64 (ej x y);rw[eF h]))
 refine J ?_;refine cV (fun I=> ?_) (fun I=> ?_)
 ·refine J ?_;exact aA rfl (.of (by show aj.i .i64 1=aj.i .i64 (ej x y);rw[e5 I]))
 have he:x.num.sign=y.num.sign:=by omega
 refine J ?_;refine cq sr y trivial (J ?_);refine cq rq (x.num.natAbs,y.den) ⟨de aa.1,de aJ.2⟩ (J ?_);refine cq sr x trivial (J ?_);refine cq rq (y.num.natAbs,x.den) ⟨de aJ.1,de aa.2⟩ (J ?_);refine cq ss (x.num.natAbs*y.den,y.num.natAbs*x.den) ⟨de (nG aa.1 aJ.2),de (nG aJ.1 aa.2)⟩ (J ?_);refine aA rfl (.of ?_);show aj.i .i64 (IntKind.i64.wrap (x.num.sign*ji _ _))=aj.i .i64 (ej x y);rw[nh he];refine congrArg _ (vJ rfl ?_ ?_)
 all_goals
  have ah:x.num.sign= -1∨x.num.sign=0∨x.num.sign=1:=by omega
  unfold ji;rcases ah with h|h|h<;>rw[h]<;>split<;>(try split)<;>decide
def PB:bU where
 L:=Nat×Nat
 args:=fun(a,b)=>[c9 a,c9 b]
 pre:=fun(a,b)=>ed 268435456 a∧ed 268435456 b∧b≠0
 res:=fun(a,b)=>.bn [c9 (a/b),c9 (a%b)]
def arG{W m:Nat}(hb:(bb 1000000000 b).length=m+1)(e7:b<=W)(aT:W<1000000000*b):
 0<b/1000000000^m∧b/1000000000^m<1000000000∧W/1000000000^m/(b/1000000000^m+1)<=W/b∧W/b<=min ((W/1000000000^m+1)/(b/1000000000^m)) 999999999∧W/1000000000^m<1000000000*1000000000∧0<W/b∧W<1000000000^(m+2):=by
 have kF:0<b:=by
  refine zbs fun e=> ?_;rw[e,hQ]at hb;simp at hb
 have hi:0<1000000000^m:=zcA (by decide);have I:=(AN (b:=1000000000) (n:=b) (i:=m) (by decide)).1 (by omega);have U:=Tc (b:=1000000000) (by decide) (zdm hb);have ki:b=b/1000000000^m*1000000000^m+b%1000000000^m:=by rw[zam];exact(zbN _ _).symm
 have wC:W=W/1000000000^m*1000000000^m+W%1000000000^m:=by rw[zam];exact(zbN _ _).symm
 have uD:W<1000000000^(m+2):=by
  rw[show m+2=(m+1)+1 from rfl,zan,zam];exact fx aT (nQ _ (zbo U))
 refine⟨zbs I,?_,al2 ki (zai _ hi) wC kF,?_,?_,zcZ e7 kF,uD⟩
 ·exact zes (by rwa [zan]at U)
 ·have ag:=al1 ki (zai W hi) wC (zbs I) hi;have au:W/b<1000000000:=zes (by rw[zam];exact aT);omega
 ·refine zes ?_;rw[show m+2=m+(1+1)from rfl,zat,zat,Nat.pow_one]at uD;exact uD
def yt(h0:d≠0)(h:d<1000000000):bb 1000000000 d=[d]:=by
 rw[qQ (by decide) h0,hy h,zbO h,hQ]
def QD(h:d<1000000000):e1 (d::bb 1000000000 r)=bb 1000000000 (d+1000000000*r):=by
 rw[zV (b:=1000000000) (by decide) (fun x aa=>by
  rcases zah.1 aa with rfl|aa
  ·exact h
  ·exact hg (by decide) r x aa)]
 simp only[val];rw[gO (by decide)]
def SP:ji a b<=0↔a<=b:=by
 unfold ji;split
 ·omega
 ·split<;>omega
def arE(h:r<b)(hb:ed k b):ed k r:=mD (by decide) (Nat.lt_trans h (sW hb))
def arF{i:Nat}{dA:ac Nat}:(List.replicate (i+1) 0++dA).set i d=List.replicate i 0++d::dA:=by
 rw[List.replicate_succ',zbF,List.set_append_right _ _ (by simp)];simp
def PA(xs dA:ac Nat)(b m i W:Nat)(e:bQ):cB:=⟨[.a 2 false 1 Nat gn (List.replicate (i+1) 0++dA)],1,(0,dw xs)::(1,dw (bb 1000000000 b))::(6,.a5 0 1 0 xs.length xs.length)::(7,.i .i64 ((m+1:Nat):Int))::(8,c9 W)::(9,.i .i64 i)::e⟩
def PC:bD aX.ctx 168 PB.spec:=by
 refine b3 [(169,xA.spec),(165,tL.spec),(172,zI.spec),(273,JS.spec)] UL.1 ?_;intro⟨a,b⟩ ⟨(ha:(bb _ a).length<=_),(hb:(bb _ b).length<=_),(kF:b≠0)⟩ H aN;have I:=hg (b:=1000000000) (by decide) a;have jL:=gO (b:=1000000000) (by decide) a;obtain⟨m,hm⟩:∃m,(bb 1000000000 b).length=m+1:=⟨(bb 1000000000 b).length-1,by
  have:(bb 1000000000 b).length≠0:=fun e=>kF ((sX (by decide)).1 (zaX e));omega⟩
 have wQ:=adh (b:=1000000000) (by decide) hm;show aW.ok _ ⟨_,_,⟨_,_,[(0,dw (bb 1000000000 a)),(1,dw (bb 1000000000 b))]⟩⟩;generalize nt:bb 1000000000 a=xs at *;refine J ?_;refine qn gn 0 ?_;refine J ?_;rw[hm];refine pF 8 (dw []) rfl b7.nl ?_;refine aB 8 (c9 0) rfl (by unfold c9;rw[hQ]) ?_;refine df (L:=Nat×ac Nat×Nat) (fun(k,dA,r)=>k+dA.length=xs.length∧dg 1000000000 dA∧r<b∧val 1000000000 (xs.drop k)=val 1000000000 dA*b+r)
  (fun((k:Nat),(dA:ac Nat),(r:Nat))=>⟨[.a 2 false 1 Nat gn (List.replicate k 0++dA)],1,[(0,dw xs),(1,dw (bb 1000000000 b)),(6,.a5 0 1 0 xs.length xs.length),(7,.i .i64 ((m+1:Nat):Int)),(8,c9 r),(9,.i .i64 ((k:Int)-1))]⟩)
  (fun l=>l.1) [0] (xs.length,[],0) ⟨by simp,fun x aa=>by simp at aa,by omega,by simp[val]⟩ (by show xs.length<b0+1;unfold b0;omega) ?_ ?_
 ·exact fh ⟨rfl,rfl,rfl,rfl,rfl,fI,trivial⟩ ⟨_,rfl,by simp,fun _=>rfl⟩
 rintro⟨k,dA,r⟩ ⟨ab,bR,aD,aE⟩;cases k with
 |zero=>
  refine J ?_;refine iw 99 ?_;refine a9 xB dA (by show dA.length<=_;omega) (J ?_);refine aA rfl (.of ?_);show aj.bn [dw (e1 dA),c9 r]=aj.bn [c9 (a/b),c9 (a%b)];rw[zaq,jL]at aE;have ay:=Nat.div_mod_unique (zbs kF) (a:=a) (c:=r) (d:=val 1000000000 dA);obtain⟨az,e2⟩:=ay.2 ⟨by rw[aE,zam];exact zbY _ _,aD⟩;rw[zV (by decide) bR,az,e2];rfl
 |succ i=>
  have aa:i<xs.length:=by omega
  have mg:=I _ (dp aa);obtain⟨W,e7⟩:∃W,W=xs[i]+1000000000*r:=⟨_,rfl⟩;have amD:W<1000000000*b:=by omega
  have tk:∀q dV:Nat,q*b+dV=W->val 1000000000 (xs.drop i)=val 1000000000 (q::dA)*b+dV:=fun q dV h=>by
   rw[hx aa];simp only[val];rw[aE,zak,zaI,zaA];omega
  have jo:=arE aD hb;refine aB 9 (.i .i64 (i:Nat)) rfl gg (J ?_);refine aB 23 (.b true) rfl (by simp) (av 26 ?_);refine ks (L:=Unit) (fun _=>True) (fun _=>PA xs dA b m i W []) ?_ ?_
  ·refine J ?_;refine dv xs[i] (bg aa) ?_;refine J ?_;refine oi 1 gn [xs[i]] ?_;by_cases q7:r=0
   ·subst q7;refine aB 31 (dw []) rfl (by unfold c9;rw[hQ]) ?_;refine ase (R:=gn) (tS rfl (fun _=>rfl) (fun _=>rfl)) ?_;refine iw 32 ?_;refine a9 xB [xs[i]] (by show 1<=_;decide) (J ?_);refine br [0] () trivial (fh ⟨rfl,rfl,rfl,rfl,congrArg (fun l=>some (dw l)) ?_,rfl,trivial⟩ ⟨_,rfl,rfl,fun _=>rfl⟩);have:=QD (d:=xs[i]) (r:=0) mg;rw[hQ]at this;rw[e7];exact this
   ·have hne:bb 1000000000 r≠[]:=fun e=>q7 ((sX (by decide)).1 e);have hl:0<(bb 1000000000 r).length:=zbi.2 hne;have jo:(bb 1000000000 r).length<=268435456:=jo;refine J8 (R:=gn) (bb 1000000000 r) (tS rfl (fun _=>rfl) (fun _=>rfl)) (xs[i]::bb 1000000000 r) ?_ (h0:=hne);refine iw 32 ?_;refine a9 xB (xs[i]::bb 1000000000 r) (by show(bb _ r).length+1<=_;omega) (J ?_);refine br [0] () trivial (fh ⟨rfl,rfl,rfl,rfl,congrArg (fun l=>some (dw l)) ?_,rfl,trivial⟩ ⟨_,rfl,rfl,fun _=>rfl⟩);rw[e7];exact QD mg
  intro _ _;have MU:ed 268435457 W:=by
   have:=QD (d:=xs[i]) (r:=r) mg;have U:=adA (xs[i]::bb 1000000000 r);rw[this,<-e7]at U;exact zag U (Nat.succ_le_succ jo)
  refine J ?_;refine a9 ss (W,b) ⟨de MU,de hb⟩ (J ?_);refine cV (fun h=> ?_) (fun h=> ?_)
  ·have h:W<b:=AE h;refine J ?_;refine br [0] (i,0::dA,W) ⟨by simp,by simp;omega,?_,h,tk 0 W (by omega)⟩ (fh ⟨rfl,rfl,rfl,rfl,rfl,fI,trivial⟩ ⟨_,rfl,by rw[List.replicate_succ',zbF];rfl,fun _=>rfl⟩);intro x aa;rcases zah.1 aa with rfl|aa
   ·decide
   ·exact bR x aa
  have mL:b<=W:=AF h;obtain⟨t1,t2,t3,t4,t5,t6,t7⟩:=arG hm mL amD;have Gc:m<(bb 1000000000 W).length:=(AN (by decide)).2 (by have:=Nat.div_le_div_right (c:=1000000000^m) mL;omega);have axA:=mD (b:=1000000000) (by decide) t7;have QG:∃iO:Nat,(bb 1000000000 W)[m]? =some iO∧(((bb 1000000000 W).length=m+1∧iO=W/1000000000^m)∨((bb 1000000000 W).length=m+2∧∃y:Nat,(bb 1000000000 W)[m+1]? =some y∧iO+1000000000*y=W/1000000000^m)):=by
   rcases(show(bb 1000000000 W).length=m+1∨(bb 1000000000 W).length=m+2 by omega)with h|h
   ·exact⟨_,adh (by decide) h,.inl ⟨h,rfl⟩⟩
   ·obtain⟨g1,aP,bd⟩:=avh (b:=1000000000) (by decide) (show m+1<_ by omega) t7;exact⟨_,g1,.inr ⟨h,_,aP,bd⟩⟩
  generalize w5:b/1000000000^m=v at *;generalize en:W/1000000000^m=w at *;obtain⟨iO,EL,QG⟩:=QG;refine J ?_;refine aB 40 (.i .i64 (m:Nat)) rfl cX (J ?_);refine dv iO EL ?_;refine av 10 ?_
  iterate 3 refine iL ?_
  refine ks (L:=Unit) (fun _=>True) (fun _=>PA xs dA b m i W [(10,.i .i64 (w:Nat))]) ?_ ?_
  ·refine J ?_;rcases QG with⟨g1,aP⟩|⟨g1,y,aP,bd⟩
   ·refine aB 46 (.b false) rfl (by rw[g1];simp) (J ?_);exact br [0] () trivial (fh ⟨rfl,rfl,rfl,rfl,rfl,rfl,by rw[<-aP];rfl,trivial⟩ ⟨_,rfl,rfl,fun _=>rfl⟩)
   ·refine aB 46 (.b true) rfl (by rw[g1];simp) (J ?_);refine dv y aP ?_;refine J ?_;refine br [0] () trivial (fh ⟨rfl,rfl,rfl,rfl,rfl,rfl,?_,trivial⟩ ⟨_,rfl,rfl,fun _=>rfl⟩);exact congrArg (fun n=>some (aj.i .i64 n)) (by rw[hK (n:=1000000000*(y:Int)) (by omega) (by omega),hK (by omega) (by omega)];omega)
  intro _ _;refine J ?_;refine eU 57 (.i .i64 (m:Nat)) rfl rfl cX ?_;refine e3 v wQ ?_;refine av 60 ?_;refine eU 60 (.i .i64 ((v+1:Nat):Int)) rfl rfl cX ?_;refine S7 ?_;refine av 63 ?_;refine eU 63 (.i .i64 ((w+1:Nat):Int)) rfl rfl cX ?_;refine av 66 ?_;refine eU 66 (.i .i64 (m:Nat)) rfl rfl cX ?_;refine e3 v wQ ?_;refine J ?_;refine S7 ?_;refine av 70 ?_;obtain⟨aK,gx⟩:∃aK,aK=w/(v+1):=⟨_,rfl⟩;obtain⟨ae,g0⟩:∃ae,ae=min ((w+1)/v) 999999999:=⟨_,rfl⟩;rw[<-gx]at t3;rw[<-g0]at t4;refine eU 61 (.i .i64 (aK:Nat)) rfl rfl (by rw[gx]) ?_;refine eU 70 (.i .i64 (ae:Nat)) rfl rfl (by rw[g0];exact gg (by generalize(w+1)/v=u;omega)) ?_;have anj:ae<=999999999:=by generalize(w+1)/v=u at *;omega
  have aqc:∀d:Nat,d≠0->d<1000000000->ed 268435457 (b*d):=fun d h0 h=>nG (k:=268435456) (l:=1) hb (by show(bb _ d).length<=1;rw[yt h0 h];exact cf _);generalize p7:W/b=q at *;have jn:0<b:=zbs kF;refine J ?_;refine df (L:=Nat×Nat) (fun(l,h)=>l<=q∧q<=h∧h<=999999999) (fun((l:Nat),(h:Nat))=>PA xs dA b m i W [(11,.i .i64 l),(12,.i .i64 h)]) (fun l=>l.2-l.1) [0] (aK,ae) ⟨t3,t4,anj⟩ (by show ae-aK<b0+1;unfold b0;omega) dX ?_;rintro⟨l,h⟩ ⟨g1,aP,bd⟩;refine J ?_;refine cV (fun aT=> ?_) (fun aT=> ?_)
  ·have aT:l<h:=by omega
   obtain⟨lT,anx⟩:∃lT,lT=(l+h+1)/2:=⟨_,rfl⟩;refine av 76 ?_;refine aB 76 (.i .i64 ((l+h:Nat):Int)) rfl cX (av 77 ?_);refine aB 77 (.i .i64 ((l+h+1:Nat):Int)) rfl cX (av 78 ?_);refine aB 78 (.i .i64 (lT:Nat)) rfl (by rw[anx];show aj.i _ (IntKind.i64.wrap (((l+h+1)/2:Nat):Int))=_;exact cX rfl (by omega) (by omega)) ?_;have Bm:lT≠0:=by omega
   have yU:lT<1000000000:=by omega
   refine J ?_;refine oi 1 gn [lT] ?_;refine iw 81 ?_;refine aB 81 (c9 lT) rfl (by unfold c9;rw[yt Bm yU];rfl) ?_;refine a9 rq (b,lT) ⟨de hb,by show(bb _ lT).length<=_;rw[yt Bm yU];exact jw rfl⟩ (J ?_);refine a9 ss (b*lT,W) ⟨de (aqc lT Bm yU),de MU⟩ (J ?_);have D7:b*lT<=W↔lT<=q:=by rw[<-p7,zbU jn,zam]
   refine cV (fun hc=> ?_) (fun hc=> ?_)
   ·have hc:=D7.1 (SP.1 hc);refine J ?_;exact br [0] (lT,h) ⟨by show h-lT<h-l;omega,hc,aP,bd⟩ dX
   ·have hc:q<lT:=Nat.lt_of_not_le fun aG=>hc (SP.2 (D7.2 aG));refine J ?_;exact br [0] (l,lT-1) ⟨by show lT-1-l<h-l;omega,g1,by show q<=lT-1;omega,by show lT-1<=_;omega⟩ (fh ⟨rfl,rfl,rfl,rfl,rfl,rfl,rfl,fI,trivial⟩ ⟨_,rfl,rfl,fun _=>rfl⟩)
  ·have he:l=q:=by omega
   subst he;have yU:l<1000000000:=by omega
   have Bm:l≠0:=by omega
   have Bq:b*l<=W:=by rw[<-p7];exact Nat.mul_div_le W b
   refine J ?_;refine kt ?_;refine mq l ?_;refine J ?_;refine oi 1 gn [l] ?_;refine iw 96 ?_;refine aB 96 (c9 l) rfl (by unfold c9;rw[yt Bm yU];rfl) ?_;refine a9 rq (b,l) ⟨de hb,by show(bb _ l).length<=_;rw[yt Bm yU];exact jw rfl⟩ ?_;refine a9 FG (W,b*l) ⟨de MU,Bq⟩ (J ?_);have anB:W-b*l=W%b:=by have:=zbN W b;rw[p7]at this;omega
   refine br [0] (i,l::dA,W-b*l) ⟨by simp,by simp;omega,?_,by rw[anB];exact zai _ jn,tk l _ (by rw[zam l b];omega)⟩ (fh ⟨rfl,rfl,rfl,rfl,rfl,fI,trivial⟩ ⟨_,rfl,by rw[arF],fun _=>rfl⟩);intro x aa;rcases zah.1 aa with rfl|aa
   ·exact yU
   ·exact bR x aa
def o2(h:ed k b)(hl:a<=b):ed k a:=mD (by decide) (zbD hl (sW h))
def rp(h:ed k a):b2 a<=30*k:=zag Sh.2 (nQ _ h)
def IS:(bb 1000000000 n).length=0↔n=0:=by rw[zen];exact sX (by decide)
def aaX:bU where
 L:=Nat×Nat
 args:=fun(a,b)=>[c9 a,c9 b]
 pre:=fun(a,b)=>ed 268435456 a∧ed 268435456 b∧b≠0
 res:=fun(a,b)=>c9 (Nat.gcd a b)
def zG(x y t:Nat):cB:=⟨[],0,[(0,c9 x),(1,c9 y),(5,.i .i64 t)]⟩
def arK:bD aX.ctx 167 aaX.spec:=by
 refine b3 [(168,PB.spec),(271,abf.spec),(272,aaZ.spec),(165,tL.spec),(273,JS.spec),(274,JF.spec)] UK.1 ?_;intro⟨a,b⟩ ⟨(ha:ed _ a),(hb:ed _ b),(kF:b≠0)⟩ H aN;refine J ?_;refine a9 PC (a,b) ⟨ha,hb,kF⟩ (J ?_);have aD:a%b<b:=zai _ (zbs kF);have aM:Nat.gcd (a%b) b=Nat.gcd a b:=by rw[zdw a b,Nat.gcd_rec b a]
 have qr:ed 268435456 (a%b):=o2 hb (zbo aD);generalize aa:a%b=iO at *;refine cV (fun h=> ?_) (fun h=> ?_)
 ·have h:iO=0:=IS.1 (by omega);subst h;refine J ?_;exact aA rfl (.of (by show c9 b=c9 (Nat.gcd a b);rw[<-aM,zet]))
 have h:iO≠0:=fun e=>h (by rw[e,hQ];rfl);refine J ?_;refine nH (L:=Nat×Nat×Nat) (fun(x,y,t)=>x≠0∧y≠0∧ed 268435456 x∧ed 268435456 y∧t<=10000000000∧2^t*Nat.gcd x y=Nat.gcd a b∧Nat.gcd x y%2=1) (fun(x,y,t)=>zG x y t) ?_ ?_
 ·refine df (L:=Nat×Nat×Nat) (fun(x,y,t)=>x≠0∧y≠0∧ed 268435456 x∧ed 268435456 y∧t+b2 x<=10000000000∧2^t*Nat.gcd x y=Nat.gcd a b) (fun(x,y,t)=>zG x y t) (fun l=>b2 l.1) [] (iO,b,0) ⟨h,kF,qr,hb,by have:=rp qr;show 0+_<=_;omega,by rw[zbV,zbm,aM]⟩ (by have:=rp qr;show b2 iO<b0+1;unfold b0;omega) dW ?_;rintro⟨x,y,t⟩ ⟨g1,aP,bd,cu,dh,ey⟩;refine J ?_;refine a9 JM x trivial (J ?_);by_cases uZ:x%2=1
  ·refine aB 20 (.b false) rfl (by rw[zae uZ];rfl) (J ?_);exact br [] (x,y,t) ⟨g1,aP,bd,cu,by omega,ey,WL (fun h=>by omega)⟩ dW
  refine aB 20 (.b true) rfl (by rw[zad uZ];rfl) (J ?_);have uZ:x%2=0:=by omega
  refine a9 JM y trivial (J ?_);by_cases Ix:y%2=1
  ·refine aB 24 (.b false) rfl (by rw[zae Ix];rfl) (J ?_);exact br [] (x,y,t) ⟨g1,aP,bd,cu,by omega,ey,WL (fun h=>by omega)⟩ dW
  refine aB 24 (.b true) rfl (by rw[zad Ix];rfl) ?_;have Ix:y%2=0:=by omega
  refine J ?_;refine a9 JK x (de bd) (J ?_);refine a9 JK y (de cu) (J ?_);have n3:=we (n:=x) (by omega);have mK:=gcd_both uZ Ix;exact br [] (x/2,y/2,t+1) ⟨by show b2 (x/2)<b2 x;omega,by show x/2≠0;omega,by show y/2≠0;omega,o2 bd (zbg _ _),o2 cu (zbg _ _),by show t+1+b2 (x/2)<=_;omega,by rw[zan,zaA,mK];exact ey⟩ (kx ⟨rfl,rfl,fI,trivial⟩)
 rintro⟨X,Y,t⟩ ⟨g1,aP,bd,cu,dh,ey,gp⟩;obtain⟨g,H6⟩:∃g,g=Nat.gcd X Y:=⟨_,rfl⟩;rw[<-H6]at ey gp;refine J ?_;refine nH (L:=Unit) (fun _=>True) (fun _=>⟨[],0,[(1,c9 g),(5,.i .i64 t)]⟩) ?_ ?_
 ·refine df (L:=Nat×Nat) (fun(x,y)=>y≠0∧ed 268435456 x∧ed 268435456 y∧Nat.gcd x y=g) (fun(x,y)=>zG x y t) (fun l=>2*(b2 l.1+b2 l.2)+l.1%2) [] (X,Y) ⟨aP,bd,cu,H6.symm⟩ (by have:=rp bd;have:=rp cu;show 2*(b2 X+b2 Y)+X%2<b0+1;unfold b0;omega) dW ?_;rintro⟨x,y⟩ ⟨I,U,ag,au⟩;refine J ?_;refine cV (fun hl=> ?_) (fun hl=> ?_)
  ·have EL:x≠0:=fun e=>by rw[e,hQ]at hl;simp at hl
   refine J ?_;refine nH (L:=Nat) (fun ez=>ez%2=1∧ed 268435456 ez∧Nat.gcd ez y=g∧2*b2 ez<=2*b2 x+x%2-1) (fun ez=>zG ez y t) ?_ ?_
   ·refine df (L:=Nat) (fun ez=>ez≠0∧ed 268435456 ez∧Nat.gcd ez y=g∧b2 ez<=b2 x∧(ez=x∨b2 ez<b2 x)) (fun ez=>zG ez y t) b2 [] x ⟨EL,U,au,cf _,.inl rfl⟩ (by have:=rp U;show b2 x<b0+1;unfold b0;omega) dW ?_;rintro ez ⟨bl,bK,ee,va,IK⟩;refine J ?_;refine a9 JM ez trivial (J ?_);refine Co (fun al=> ?_) (fun al=> ?_)
    ·have n3:=we (n:=ez) (by omega);have al:ez%2=0:=by omega
     refine J ?_;refine a9 JK ez (de bK) (J ?_);exact br [] (ez/2) ⟨by show b2 (ez/2)<b2 ez;omega,by omega,o2 bK (zbg _ _),by rw[WJ al (by rw[ee];exact gp)];exact ee,by omega,.inr (by omega)⟩ dW
    ·refine J ?_;exact br [] ez ⟨al,bK,ee,by rcases IK with rfl|IK<;>omega⟩ dW
   rintro ez ⟨bl,bK,ee,va⟩;refine J ?_;refine nH (L:=Nat) (fun fC=>fC%2=1∧ed 268435456 fC∧Nat.gcd ez fC=g∧b2 fC<=b2 y) (fun fC=>zG ez fC t) ?_ ?_
   ·refine df (L:=Nat) (fun fC=>fC≠0∧ed 268435456 fC∧Nat.gcd ez fC=g∧b2 fC<=b2 y) (fun fC=>zG ez fC t) b2 [] y ⟨I,ag,ee,cf _⟩ (by have:=rp ag;show b2 y<b0+1;unfold b0;omega) dW ?_;rintro fC ⟨u9,hs,xb,YA⟩;refine J ?_;refine a9 JM fC trivial (J ?_);refine Co (fun al=> ?_) (fun al=> ?_)
    ·have n3:=we (n:=fC) (by omega);have al:fC%2=0:=by omega
     refine J ?_;refine a9 JK fC (de hs) (J ?_);exact br [] (fC/2) ⟨by show b2 (fC/2)<b2 fC;omega,by omega,o2 hs (zbg _ _),by rw[alJ al (by rw[xb];exact gp)];exact xb,by omega⟩ dW
    ·refine J ?_;exact br [] fC ⟨al,hs,xb,YA⟩ dW
   rintro fC ⟨u9,hs,xb,YA⟩;refine J ?_;by_cases aox:fC=1
   ·subst aox;rw[zeo]at xb;refine aB 1 (dw [1]) rfl (by unfold c9;rw[wA]) ?_;refine aB 47 (.b true) rfl (by rw[wA];rfl) (J ?_);refine dv (j:=0) 1 rfl ?_;refine J ?_;exact br [] () trivial (kx ⟨by rw[<-xb];unfold c9;rw[wA];rfl,rfl,trivial⟩)
   refine ks (L:=Unit) (fun _=>True) (fun _=>⟨[],0,[(0,c9 ez),(1,c9 fC),(5,.i .i64 t),(52,.b false)]⟩) ?_ ?_
   ·by_cases nq:(bb 1000000000 fC).length=1
    ·have Ya:fC<1000000000:=sW (k:=1) (zdm nq);refine aB 47 (.b true) rfl (by rw[nq];rfl) ?_;refine aB 1 (dw [fC]) rfl (by unfold c9;rw[yt (by omega) Ya]) (J ?_);refine dv (j:=0) fC rfl ?_;refine J ?_;exact br [] () trivial (kx ⟨rfl,by unfold c9;rw[yt (by omega) Ya];rfl,rfl,congrArg (fun b=>some (aj.b b)) (zad (by omega)),trivial⟩)
    ·refine aB 47 (.b false) rfl (by rw[zad (by omega)]) (J ?_);exact br [] () trivial dW
   intro _ _;refine J ?_;refine a9 ss (ez,fC) ⟨de bK,de hs⟩ (J ?_);have XJ:=we (n:=ez) (by omega);refine cV (fun hc=> ?_) (fun hc=> ?_)
   ·have hc:=AE hc;refine J ?_;refine a9 FG (fC,ez) ⟨de hs,zbo hc⟩ (J ?_);have jn:=LC (zbP fC ez);exact br [] (fC-ez,ez) ⟨by show 2*(b2 (fC-ez)+b2 ez)+(fC-ez)%2<2*(b2 x+b2 y)+x%2;omega,by show ez≠0;omega,o2 hs (zbP _ _),bK,by rw[WK (zbo hc),zdw];exact xb⟩ dW
   ·have hc:=AF hc;refine J ?_;refine a9 FG (ez,fC) ⟨de bK,hc⟩ (J ?_);have jn:=LC (zbP ez fC);exact br [] (ez-fC,fC) ⟨by show 2*(b2 (ez-fC)+b2 fC)+(ez-fC)%2<2*(b2 x+b2 y)+x%2;omega,by show fC≠0;omega,o2 bK (zbP _ _),hs,by rw[WK hc];exact xb⟩ dW
  ·have EL:x=0:=IS.1 (by omega);subst EL;rw[zet]at au;refine J ?_;exact br [] () trivial (kx ⟨by rw[<-au];rfl,rfl,trivial⟩)
 intro _ _;refine J ?_;refine df (L:=Nat) (fun i=>i<=t) (fun(i:Nat)=>⟨[],0,[(1,c9 (2^i*g)),(5,.i .i64 t),(6,.i .i64 i)]⟩) (fun i=>t-i) [] 0 (zaf _) (by show t-0<b0+1;unfold b0;omega) (kx ⟨by rw[zbV,zbm];rfl,rfl,rfl,trivial⟩) ?_;intro(i:Nat) ae;refine J ?_;refine cV (fun h=> ?_) (fun h=> ?_)
 ·have h:i<t:=by omega
  have db:2^i*g<=b:=zag (ix g (zaL (by decide) ae)) (by rw[ey];exact zep _ (zbs kF));refine J ?_;refine a9 Px (2^i*g,2^i*g) ⟨de (o2 hb db),de (o2 hb db)⟩ (J ?_);exact br [] (i+1) ⟨by show t-(i+1)<t-i;omega,h⟩ (kx ⟨congrArg (fun n=>some (c9 n)) (by rw[zan,zam (2^i) 2,zaA];omega),rfl,fI,trivial⟩)
 ·have he:i=t:=by omega
  subst he;refine J ?_;exact aA rfl (.of (by show c9 _=c9 _;rw[ey]))
def aa6:b7 (.agg [.i .i64 0,.nl,.nl]) (cT 0):=b7.agg ⟨.refl _,b7.nl.trans (.of (by show dw []=dw (bb _ 0);rw[hQ])),b7.nl,trivial⟩
def aaN{n:Bool}(hp:p≠0)(hq:q≠0):cT (mkRat (if n then -(p:Int)else p) q)= .agg [.i .i64 (if n then -1 else 1),c9 (p/p.gcd q),c9 (q/p.gcd q)]:=by
 obtain⟨I,U⟩:=ZB (neg:=n) hp hq;have aM:0<p.gcd q:=zem _ (by omega);have ay:0<p/p.gcd q:=zcZ (Nat.le_of_dvd (by omega) (zdx p q)) aM;unfold cT;rw[I,U];generalize p/p.gcd q=a at *;cases n
 ·simp only[zaW,if_false];rw[zaa (by omega),zbE (by omega)];rfl
 ·simp only[if_true];rw[zaa (by omega),zcc (by omega),zda];rfl
def xx:bU where
 L:=Int×Nat×Nat
 args:=fun(s,p,q)=>[.i .i64 s,c9 p,c9 q]
 pre:=fun(s,p,q)=> -1<=s∧s<=1∧ed 268435456 p∧ed 268435456 q∧q≠0
 res:=fun(s,p,q)=>cT (mkRat (s*p) q)
def arz(I: -1<=s)(U:s<=1)(ah:s≠0)(hp:p≠0)(hq:q≠0):cT (mkRat (s*p) q)= .agg [.i .i64 s,c9 (p/p.gcd q),c9 (q/p.gcd q)]:=by
 rcases(show s=1∨s= -1 by omega)with rfl|rfl
 ·have:=aaN (n:=false) hp hq;rw[zaa (by decide),zaa (by decide)]at this;rw[Int.one_mul];exact this
 ·have:=aaN (n:=true) hp hq;rw[zab rfl,zab rfl]at this;rw[zch,Int.one_mul];exact this
def AG:ji a b=0↔a=b:=by
 unfold ji;split
 ·omega
 ·split<;>omega
def FD:ed 1073741824 1:=by show(bb _ 1).length<=_;rw[wA];exact jw rfl
def vp:bD aX.ctx 74 xx.spec:=by
 refine b3 [(166,xy.spec),(165,tL.spec),(167,aaX.spec),(168,PB.spec)] WB.1 ?_;intro⟨s,p,q⟩ ⟨(I: -1<=s),(U:s<=1),(hp:ed _ p),(hq:ed _ q),(qb:q≠0)⟩ H aN;have zero:s*(p:Int)=0->b7 (.agg [.i .i64 0,.nl,.nl]) (xx.res (s,p,q)):=fun h=>aa6.trans (.of (by show cT 0=cT (mkRat (s*p) q);rw[h,Rat.zero_mkRat]));refine av 11 ?_;by_cases tc:p=0
 ·refine aB 11 (.b true) rfl (by show aj.b (decide (((bb 1000000000 p).length:Int)=0))=_;rw[zae (by have:=IS.2 tc;omega)]) (J ?_);exact aA rfl (zero (by rw[tc];simp))
 refine aB 11 (.b false) rfl (by show aj.b (decide (((bb 1000000000 p).length:Int)=0))=_;rw[zad (by have:=mt IS.1 tc;omega)]) (av 13 ?_);by_cases tf:s=0
 ·refine dS 13 tf (J ?_);exact aA rfl (zero (by rw[tf];simp))
 refine ep 13 tf ?_;have gP:=arz I U tf tc qb;have fin:∀{gK gl:Nat},gK=p/p.gcd q->gl=q/p.gcd q->b7 (.agg [.i .i64 s,c9 gK,c9 gl]) (xx.res (s,p,q)):=fun az e2=>.of (by rw[az,e2];exact gP.symm);refine J ?_;refine a9 vq () trivial ?_;refine a9 ss (p,1) ⟨de hp,FD⟩ (av 20 ?_);by_cases w1:p=1
 ·refine aB 20 (.b true) rfl (by show aj.b (decide _)=_;rw[zae (AG.2 w1)]) (J ?_);exact aA rfl (fin (by rw[w1];simp) (by rw[w1];simp))
 refine aB 20 (.b false) rfl (by show aj.b (decide _)=_;rw[zad (mt AG.1 w1)]) (J ?_);refine a9 vq () trivial (J ?_);refine a9 ss (q,1) ⟨de hq,FD⟩ (av 24 ?_);by_cases qc:q=1
 ·refine aB 24 (.b true) rfl (by show aj.b (decide _)=_;rw[zae (AG.2 qc)]) (J ?_);exact aA rfl (fin (by rw[qc];simp) (by rw[qc];simp))
 refine aB 24 (.b false) rfl (by show aj.b (decide _)=_;rw[zad (mt AG.1 qc)]) ?_;have aM:0<p.gcd q:=Nat.gcd_pos_of_pos_right _ (zbs qb);have H7:ed 268435456 (p.gcd q):=o2 hq (zep _ (zbs qb));refine J ?_;refine a9 arK (p,q) ⟨hp,hq,qb⟩ (J ?_);refine a9 vq () trivial ?_;refine a9 ss (p.gcd q,1) ⟨de H7,FD⟩ (J ?_);refine ks (L:=Nat×Nat) (fun(gK,gl)=>gK=p/p.gcd q∧gl=q/p.gcd q) (fun(gK,gl)=>⟨[.c 103 [.i .i64 0,.nl,.nl]],1,[(0,.i .i64 s),(1,c9 gK),(2,c9 gl),(6,.p 0 0)]⟩) ?_ ?_
 ·refine cV (fun hc=> ?_) (fun hc=> ?_)
  ·refine J ?_;refine a9 PC (p,p.gcd q) ⟨hp,H7,by show p.gcd q≠0;omega⟩ (J ?_);refine a9 PC (q,p.gcd q) ⟨hq,H7,by show p.gcd q≠0;omega⟩ (J ?_);exact br [0] (p/p.gcd q,q/p.gcd q) ⟨rfl,rfl⟩ dX
  ·have hc:p.gcd q=1:=AG.1 (Decidable.not_not.1 hc);refine J ?_;exact br [0] (p,q) ⟨by rw[hc,zcb],by rw[hc,zcb]⟩ dX
 rintro⟨gK,gl⟩ ⟨az,e2⟩;refine J ?_;exact aA rfl (fin az e2)
def PF:bU where
 L:=Int
 args:=fun n=>[.i .i64 n]
 pre:=fun n=> -9223372036854775808<=n∧n<9223372036854775808
 res:=fun n=>cT (mkRat n 1)
def aaO(h:n<18446744073709551616):ed 3 n:=mD (by decide) (by omega)
def aa1:bD aX.ctx 415 PF.spec:=by
 refine b3 [(430,abb.spec),(166,xy.spec),(74,xx.spec)] Wh.1 ?_;intro(n:Int) ⟨(I:_<=n),(U:n<_)⟩ H aN;have cO:ed 268435456 1:=by show(bb _ 1).length<=_;rw[wA];exact jw rfl
 refine J ?_;refine cV (fun h=> ?_) (fun h=> ?_)
 ·obtain⟨m,hm⟩:∃m:Nat,m=n.natAbs:=⟨_,rfl⟩;refine av 6 ?_;refine aB 6 (.i .i64 (n+1)) rfl (cX rfl (by omega) (by omega)) (av 7 ?_);refine aB 7 (.i .i64 ((m-1:Nat):Int)) rfl cX (av 9 ?_);have ahP:((m-1)%18446744073709551616+1)%18446744073709551616=m:=by omega
  refine aB 9 (.i .u64 (m:Nat)) rfl (congrArg (fun n:Nat=>aj.i .u64 (n:Int)) ahP) ?_;refine a9 abc m (by show m<_;omega) (J ?_);refine a9 vq () trivial ?_;refine a9 vp (-1,m,1) ⟨by decide,by decide,de (aaO (by omega)),cO,by decide⟩ (J ?_);exact aA rfl (.of (by show cT _=cT _;rw[show -1*(m:Int)=n by omega]))
 ·obtain⟨m,hm⟩:∃m:Nat,n=(m:Int):=⟨n.toNat,by omega⟩;subst hm;refine av 14 ?_;refine aB 14 (.i .u64 (m:Nat)) rfl gg ?_;refine a9 abc m (by show m<_;omega) (J ?_);refine a9 vq () trivial ?_;refine a9 vp (1,m,1) ⟨by decide,by decide,de (aaO (by omega)),cO,by decide⟩ (J ?_);exact aA rfl (.of (by show cT _=cT _;rw[Int.one_mul]))
def Py(h:s*(k:Int)=x.num*y.den+y.num*x.den):mkRat (s*k) (x.den*y.den)=x+y:=by rw[h,zdc]
def acg(n:Int):n=n.sign*(n.natAbs:Int):=(zcD n).symm
def jI(x:Rat):ac aj:=[.i .i64 x.num.sign,c9 x.num.natAbs,dw (if x.num=0 then[]else bb 1000000000 x.den)]
def abi:bU where
 L:=Rat×Rat
 args:=fun(x,y)=>[cT x,cT y]
 pre:=fun(x,y)=>ev 67108864 x∧ev 67108864 y
 res:=fun(x,y)=>cT (x+y)
def ar3:bD aX.ctx 428 abi.spec:=by
 refine b3 [(173,zE.spec),(172,zI.spec),(274,JF.spec),(273,JS.spec),(165,tL.spec),(74,xx.spec)] Wn.1 ?_;intro⟨x,y⟩ ⟨(aa:ev _ x),(aJ:ev _ y)⟩ H aN;have fO:ed 134217728 (x.num.natAbs*y.den):=nG aa.1 aJ.2;have ja:ed 134217728 (y.num.natAbs*x.den):=nG aJ.1 aa.2;have se:ed 134217728 (x.den*y.den):=nG aa.2 aJ.2;have ag:x.den*y.den≠0:=zbx x.den_nz y.den_nz;have hV:=CA x.num;have nL:=CA y.num;refine J ?_;refine cq sr y trivial (J ?_);refine cq rq (x.num.natAbs,y.den) ⟨de aa.1,de aJ.2⟩ (J ?_);refine cq sr x trivial (J ?_);refine cq rq (y.num.natAbs,x.den) ⟨de aJ.1,de aa.2⟩ (J ?_);refine cq sr x trivial (J ?_);refine cq sr y trivial (J ?_);refine cq rq (x.den,y.den) ⟨de aa.2,de aJ.2⟩ (av 27 ?_);refine ks (L:=Bool) (fun t=>t=decide (x.num.sign=0∨y.num.sign=0∨x.num.sign=y.num.sign)) (fun t=>⟨[.c 103 (jI x),.c 103 (jI y),.c 103 [.i .i64 0,.nl,.nl]],3,[(2,.p 0 0),(3,.p 1 0),(4,.p 2 0),(5,c9 (x.num.natAbs*y.den)),(6,c9 (y.num.natAbs*x.den)),(7,c9 (x.den*y.den)),(38,.b t)]⟩) ?_ ?_
 ·by_cases eF:x.num.sign=0
  ·refine aB 27 (.b true) rfl (by rw[zae eF]) (J ?_);exact br [0,1,2] true (by simp[eF]) sB
  refine aB 27 (.b false) rfl (by rw[zad eF]) (av 32 ?_);by_cases e5:y.num.sign=0
  ·refine aB 32 (.b true) rfl (by rw[zae e5]) (J ?_);exact br [0,1,2] true (by simp[e5]) sB
  refine aB 32 (.b false) rfl (by rw[zad e5]) (J ?_);exact br [0,1,2] (decide (x.num.sign=y.num.sign)) (by simp only[eF,e5,false_or]) sB
 intro t aV;have ex:=acg x.num;have uz:=acg y.num;by_cases hc:x.num.sign=0∨y.num.sign=0∨x.num.sign=y.num.sign
 ·refine aB 38 (.b true) rfl (by rw[aV,zae hc]) (J ?_);refine ks (L:=Int) (fun s=> -1<=s∧s<=1∧s*((x.num.natAbs*y.den+y.num.natAbs*x.den:Nat):Int)=x.num*y.den+y.num*x.den) (fun s=>⟨[.c 103 (jI x),.c 103 (jI y),.c 103 [.i .i64 0,.nl,.nl]],3,[(4,.p 2 0),(5,c9 (x.num.natAbs*y.den)),(6,c9 (y.num.natAbs*x.den)),(7,c9 (x.den*y.den)),(8,.i .i64 s)]⟩) ?_ ?_
  ·refine cV (fun h=> ?_) (fun h=> ?_)
   ·refine J ?_;refine br [0,1,2] y.num.sign ⟨nL.1,nL.2,?_⟩ sB;have h0:x.num=0:=zcE.1 h
    conv=>rhs;rw[uz]
    rw[h0];simp[zbw]
   ·refine J ?_;refine br [0,1,2] x.num.sign ⟨hV.1,hV.2,?_⟩ sB;have w6:y.num=x.num.sign*(y.num.natAbs:Int):=by
     rcases hc with aG|aG|aG
     ·exact absurd aG h
     ·rw[zcE.1 aG];simp
     ·rw[aG];exact uz
    conv=>rhs;rw[ex,w6]
    rw[Int.natCast_add,zaY,zaY,Int.mul_add,zbw,zbw]
  rintro s ⟨s1,s2,sz⟩;refine J ?_;refine a9 Px (x.num.natAbs*y.den,y.num.natAbs*x.den) ⟨de fO,de ja⟩ (J ?_);refine a9 vp (s,x.num.natAbs*y.den+y.num.natAbs*x.den,x.den*y.den) ⟨s1,s2,de (Lh fO ja),de se,ag⟩ (J ?_);exact aA rfl (.of (congrArg cT (Py sz)))
 ·refine aB 38 (.b false) rfl (by rw[aV,zad hc]) ?_;have Ik:y.num.sign= -x.num.sign:=by omega
  refine J ?_;refine a9 ss (x.num.natAbs*y.den,y.num.natAbs*x.den) ⟨de fO,de ja⟩ (J ?_);have key:∀(s:Int) (a b:Nat),b<=a->s*((a-b:Nat):Int)=s*a+(-s)*b:=fun s a b h=>by rw[show((a-b:Nat):Int)=(a:Int)-b by omega,Int.mul_sub,zch];rfl
  refine cV (fun h=> ?_) (fun h=> ?_)
  ·have aT:=AE h;refine J ?_;refine cq FG (y.num.natAbs*x.den,x.num.natAbs*y.den) ⟨de ja,zbo aT⟩ (J ?_);refine cq vp (y.num.sign,y.num.natAbs*x.den-x.num.natAbs*y.den,x.den*y.den) ⟨nL.1,nL.2,de (o2 ja (zbP _ _)),de se,ag⟩ (J ?_);refine aA rfl (.of (congrArg cT (Py ?_)));rw[key _ _ _ (zbo aT)]
   conv=>rhs;rw[ex,uz]
   rw[Ik,zaY,zaY,Int.neg_neg,zbw,zbw,Int.add_comm]
  ·have mL:=AF h;refine J ?_;refine cq FG (x.num.natAbs*y.den,y.num.natAbs*x.den) ⟨de fO,mL⟩ (J ?_);refine cq vp (x.num.sign,x.num.natAbs*y.den-y.num.natAbs*x.den,x.den*y.den) ⟨hV.1,hV.2,de (o2 fO (zbP _ _)),de se,ag⟩ (J ?_);refine aA rfl (.of (congrArg cT (Py ?_)));rw[key _ _ _ mL]
   conv=>rhs;rw[ex,uz]
   rw[Ik,zaY,zaY,zbw,zbw]
def abl:bU where
 L:=Rat×Rat
 args:=fun(x,y)=>[cT x,cT y]
 pre:=fun(x,y)=>ev 67108864 x∧ev 67108864 y
 res:=fun(x,y)=>cT (x-y)
def Zx(h:ev k x):ev k (-x):=by
 unfold ev;rw[zcC,zdb,zda];exact h
def ar6:bD aX.ctx 414 abl.spec:=by
 refine b3 [(429,abd.spec),(428,abi.spec)] Wg.1 ?_;intro⟨x,y⟩ ⟨(aa:ev _ x),(aJ:ev _ y)⟩ H aN;refine J ?_;refine cq arX y trivial (J ?_);refine cq ar3 (x,-y) ⟨aa,Zx aJ⟩ (J ?_);exact aA rfl (.of (by show cT (x+ -y)=cT (x-y);rw[zdy]))
def PK:bU where
 L:=Rat×Int
 args:=fun(x,k)=>[cT x,.i .i64 k]
 pre:=fun(x,k)=>ev 67108864 x∧-100000000<=k∧k<=100000000
 res:=fun(x,k)=>cT (ef x k)
def abm:bD aX.ctx 416 PK.spec:=by
 refine b3 [(173,zE.spec),(431,(JO 1000000001).spec),(172,zI.spec),(74,xx.spec)] Wi.1 ?_;intro⟨x,k⟩ ⟨(aa:ev _ x),(I:_<=k),(U:k<=_)⟩ H aN;have hV:=CA x.num;refine J ?_;refine cV (fun h=> ?_) (fun h=> ?_)
 ·obtain⟨n,hn⟩:∃n:Nat,k= -(n:Int):=⟨(-k).toNat,by omega⟩;subst hn;refine J ?_;refine cq sr x trivial (av 14 ?_);refine eU 14 (.i .i64 (n:Nat)) rfl rfl cX ?_;refine cq (JP 1000000001) n ⟨by show n<_;omega,by show n<=_;omega⟩ (J ?_);refine cq rq (x.den,2^n) ⟨de aa.2,de (sv n) (by omega)⟩ (J ?_);refine cq vp (x.num.sign,x.num.natAbs,x.den*2^n) ⟨hV.1,hV.2,de aa.1,de (nG aa.2 (sv n)) (by omega),zbx x.den_nz (by have:=zaE n;omega)⟩ (J ?_);refine aA rfl (.of (congrArg cT ?_));show _=ef x (-(n:Int));unfold ef;rw[zab (by omega),zcD,show(- -(n:Int)).toNat=n by omega]
 ·obtain⟨n,hn⟩:∃n:Nat,k=(n:Int):=⟨k.toNat,by omega⟩;subst hn;refine J ?_;refine cq (JP 1000000001) n ⟨by show n<_;omega,by show n<=_;omega⟩ (J ?_);refine cq rq (x.num.natAbs,2^n) ⟨de aa.1,de (sv n) (by omega)⟩ (J ?_);refine cq sr x trivial (J ?_);refine cq vp (x.num.sign,x.num.natAbs*2^n,x.den) ⟨hV.1,hV.2,de (nG aa.1 (sv n)) (by omega),de aa.2,x.den_nz⟩ (J ?_);refine aA rfl (.of (congrArg cT ?_));show _=ef x (n:Int);unfold ef;rw[zaa (by omega),zaY,<-zbw,zcD,zer,show((n:Int)).toNat=n by omega];rfl
def Cg:bU where
 L:=Int
 args:=fun k=>[.i .i64 k]
 pre:=fun k=> -100000000<=k∧k<=100000000
 res:=fun k=>cT (ef (mkRat 1 1) k)
def BX:ev 1 (mkRat 1 1):=by
 show ed 1 1∧ed 1 1;unfold ed;rw[wA];exact⟨cf _,cf _⟩
def jH(h:ev k x)(hl:k<=l:=by decide):ev l x:=⟨de h.1 hl,de h.2 hl⟩
def FH:bD aX.ctx 397 Cg.spec:=by
 refine b3 [(415,PF.spec),(416,PK.spec)] Wc.1 ?_;intro(k:Int) ⟨(I:_<=k),(U:k<=_)⟩ H aN;refine J ?_;refine a9 aa1 (1:Int) ⟨by decide,by decide⟩ (J ?_);refine a9 abm (mkRat 1 1,k) ⟨jH BX,I,U⟩ (J ?_);exact aA rfl (.refl _)
def aa2:bU where
 L:=Rat
 args:=fun x=>[cT x]
 pre:=fun x=>ev 67108864 x
 res:=fun x=>.b (decide (x.den=1))
def arO:bD aX.ctx 171 aa2.spec:=by
 refine b3 [(173,zE.spec),(166,xy.spec),(165,tL.spec)] MD.1 ?_;intro(x:Rat) (aa:ev _ x) H aN;refine J ?_;refine a9 sr x trivial ?_;refine a9 vq () trivial ?_;refine a9 ss (x.den,1) ⟨de aa.2,FD⟩ (J ?_);exact aA rfl (.of (by show aj.b (decide _)=aj.b (decide _);congr 1;rw[decide_eq_decide];exact AG))
def zR(k:Int):(ef (mkRat 1 1) k).num=2^k.toNat∧(ef (mkRat 1 1) k).den=2^(-k).toNat:=by
 have HR:(mkRat 1 1).num=1∧(mkRat 1 1).den=1:=⟨rfl,rfl⟩;unfold ef;rw[HR.1,HR.2];split
 ·obtain⟨I,U⟩:=zr 1 (1*2^(-k).toNat) (by have:=zaE (-k).toNat;omega);rw[I,U,show k.toNat=0 by omega];simp
 ·obtain⟨I,U⟩:=zr (1*2^k.toNat) 1 (by decide);rw[I,U,show(-k).toNat=0 by omega];simp
def Ow{x:Rat}{k:Int}:jz x<ef (mkRat 1 1) k↔x.num.natAbs*2^(-k).toNat<x.den*2^k.toNat:=by
 rw[Rat.lt_iff,(rK x).1,(rK x).2,(zR k).1,(zR k).2];rw[show(x.num.natAbs:Int)*((2^(-k).toNat:Nat):Int)=((x.num.natAbs*2^(-k).toNat:Nat):Int)from(zaY _ _).symm,show(2:Int)^k.toNat*(x.den:Int)=((x.den*2^k.toNat:Nat):Int) by rw[zaY,zer,Int.mul_comm];rfl];exact Int.ofNat_lt
def ON(h:ev k x):ev k (jz x):=by
 unfold ev;rw[(rK x).1,(rK x).2];exact h
def OP{c:Nat}{k:Int}(I: -(c:Int)<=k)(U:k<=c):ev (c+1) (ef (mkRat 1 1) k):=by
 obtain⟨az,e2⟩:=zR k;unfold ev;rw[az,e2,zdz];exact⟨de (sv _) (by omega),de (sv _) (by omega)⟩
def SL:ej x y<0↔x<y:=by
 unfold ej;constructor
 ·intro h;split at h
  ·assumption
  split at h<;>omega
 ·intro h;rw[zab h];decide
def aba:bU where
 L:=Rat
 args:=fun x=>[cT x]
 pre:=fun x=>ev 3000000 x∧x.num≠0
 res:=fun x=>.i .i64 (kc x.num.natAbs x.den)
def arU:bD aX.ctx 398 aba.spec:=by
 refine b3 [(419,aa8.spec),(392,JE.spec),(397,Cg.spec),(77,xz.spec)] Wd.1 ?_;intro(x:Rat) ⟨(aa:ev _ x),(h0:x.num≠0)⟩ H aN;have c1:=rp aa.1;have dx:=rp aa.2;refine J ?_;refine cV (fun h=> ?_) (fun h=> ?_)
 ·exact absurd (zcE.1 h) h0
 refine J ?_;refine cq aa9 x.num.natAbs (de aa.1) (J ?_);refine eU 11 (c9 x.den) rfl rfl (by rw[zaa h0];rfl) ?_;refine cq aa9 x.den (de aa.2) ?_;obtain⟨p,hp⟩:∃p,p=b2 x.num.natAbs:=⟨_,rfl⟩;obtain⟨q,hq⟩:∃q,q=b2 x.den:=⟨_,rfl⟩;have hl:kc x.num.natAbs x.den=if x.num.natAbs*2^((q:Int)-p).toNat<x.den*2^((p:Int)-q).toNat then(p:Int)-q-1 else(p:Int)-q:=by rw[hp,hq];rfl
 rw[<-hp]at c1;rw[<-hq]at dx;refine av 13 ?_;obtain⟨k,ab⟩:∃k:Int,k=(p:Int)-q:=⟨_,rfl⟩;refine aB 13 (.i .i64 k) rfl (by rw[ab,hp,hq];exact cX rfl (by omega) (by omega)) (J ?_);refine a9 Pw x trivial (J ?_);refine a9 FH k ⟨by show _<=k;omega,by show k<=_;omega⟩ ?_;refine a9 vt (jz x,ef (mkRat 1 1) k) ⟨jH (ON aa),jH (OP (c:=100000000) (by omega) (by omega))⟩ ?_;have D7:ej (jz x) (ef (mkRat 1 1) k)<0↔x.num.natAbs*2^((q:Int)-p).toNat<x.den*2^((p:Int)-q).toNat:=by
  rw[SL,Ow,ab,show -((p:Int)-q)=(q:Int)-p by omega]
 refine J ?_;refine cV (fun hc=> ?_) (fun hc=> ?_)
 ·have hc:=D7.1 hc;refine J ?_;exact aA rfl (.of (by
   show aj.i _ _=aj.i .i64 (kc _ _);rw[hl,zab hc];exact cX))
 ·have hc:=mt D7.2 hc;refine J ?_;exact aA rfl (.of (by
   show aj.i _ _=aj.i .i64 (kc _ _);rw[hl,zaa hc,ab]))
def aa7:bU where
 L:=Int×Int
 args:=fun(e,p)=>[qT e p]
 pre:=fun(e,p)=>fY e p
 res:=fun(e,p)=>cT (ef (mkRat 1 1) (2-e9 e-p))
def arT:bD aX.ctx 396 aa7.spec:=by
 refine b3 [(417,JG.spec),(397,Cg.spec)] Wb.1 ?_;intro⟨e,p⟩ ao H aN;obtain⟨I,U,ag,au,a0⟩:=ao;obtain⟨c1,dx⟩:=qF I U;refine J ?_;refine cq Pz (e,p) ⟨I,U,ag,au,a0⟩ (av 5 ?_);refine aB 5 (.i .i64 (2-e9 e)) rfl (cX rfl (by omega) (by omega)) (av 8 ?_);refine aB 8 (.i .i64 (2-e9 e-p)) rfl (cX rfl (by omega) (by omega)) ?_;refine cq FH (2-e9 e-p) ⟨by show _<=2-e9 e-p;omega,by show 2-e9 e-p<=_;omega⟩ (J ?_);exact aA rfl (.refl _)
def abe:bU where
 L:=Int×Int
 args:=fun(e,p)=>[qT e p]
 pre:=fun(e,p)=>fY e p
 res:=fun(e,p)=>cT (ef (mkRat 1 1) (1-e9 e))
def arZ:bD aX.ctx 418 abe.spec:=by
 refine b3 [(417,JG.spec),(397,Cg.spec)] Wk.1 ?_;intro⟨e,p⟩ ao H aN;obtain⟨I,U,ag,au,a0⟩:=ao;obtain⟨c1,dx⟩:=qF I U;refine J ?_;refine a9 Pz (e,p) ⟨I,U,ag,au,a0⟩ (av 5 ?_);refine aB 5 (.i .i64 (1-e9 e)) rfl (cX rfl (by omega) (by omega)) ?_;refine a9 FH (1-e9 e) ⟨by show _<=1-e9 e;omega,by show 1-e9 e<=_;omega⟩ (J ?_);exact aA rfl (.refl _)
def zv{n:Int}(I:ed k n.natAbs)(U:ed k d)(ay:d≠0):ev k (mkRat n d):=by
 obtain⟨az,e2⟩:=zr n d ay;refine⟨o2 I ?_,o2 U ?_⟩
 ·rw[az,Int.natAbs_ediv_of_dvd (Int.ofNat_dvd_left.2 (zdx _ _))];exact zbg _ _
 ·rw[e2];exact zbg _ _
def OO(c:Nat){k:Int}(h:ev a x)(I: -(c:Int)<=k)(U:k<=c):ev (a+c+1) (ef x k):=by
 unfold ef;split
 ·exact zv (de h.1 (by omega)) (de (nG h.2 (sv _)) (by omega)) (zbx x.den_nz (by have:=zaE (-k).toNat;omega))
 ·refine zv ?_ (de h.2 (by omega)) x.den_nz;rw[zcd,zdz];exact de (nG h.1 (sv _)) (by omega)
def aqy(I:ev a x)(U:ev b y):ev (a+b+1) (x+y):=by
 rw[zdc];have e6:=nG I.1 U.2;have a3:=nG U.1 I.2;refine zv (o2 (Lh e6 (de a3 (by omega))) ?_) (de (nG I.2 U.2) (by omega)) (zbx x.den_nz y.den_nz);have:=Int.natAbs_add_le (x.num*y.den) (y.num*x.den);rw[zcd,zcd]at this;simpa using this
def Zy(I:ev a x)(U:ev b y):ev (a+b+1) (x-y):=by
 rw[zdy];exact aqy I (Zx U)
def aqz{e p:Int}(h:fY e p):ev 2000 (oG e p):=by
 obtain⟨I,U,ag,au,a0⟩:=h;obtain⟨c1,dx⟩:=qF I U;exact jH (OO 1200 (Zy (OO 120 BX (by omega) (by omega)) BX) (by omega) (by omega))
def aaY:bU where
 L:=Int×Int
 args:=fun(e,p)=>[qT e p]
 pre:=fun(e,p)=>fY e p
 res:=fun(e,p)=>cT (oG e p)
def arL:bD aX.ctx 393 aaY.spec:=by
 refine b3 [(397,Cg.spec),(415,PF.spec),(414,abl.spec),(417,JG.spec),(416,PK.spec)] V8.1 ?_;intro⟨e,p⟩ ao H aN;obtain⟨I,U,ag,au,a0⟩:=ao;obtain⟨c1,dx⟩:=qF I U;have iK:=OO (k:=p) 120 BX (by omega) (by omega);refine J ?_;refine a9 FH p ⟨by omega,by omega⟩ ?_;refine a9 aa1 (1:Int) ⟨by decide,by decide⟩ ?_;refine a9 ar6 (ef (mkRat 1 1) p,mkRat 1 1) ⟨jH iK,jH BX⟩ (J ?_);refine cq Pz (e,p) ⟨I,U,ag,au,a0⟩ (av 14 ?_);refine aB 14 (.i .i64 (e9 e-p)) rfl (cX rfl (by omega) (by omega)) (av 15 ?_);refine aB 15 (.i .i64 (e9 e-p+1)) rfl (cX rfl (by omega) (by omega)) ?_;refine cq abm (ef (mkRat 1 1) p-mkRat 1 1,e9 e-p+1) ⟨jH (Zy iK BX),by show _<=e9 e-p+1;omega,by show e9 e-p+1<=_;omega⟩ (J ?_);exact aA rfl (.refl _)
def aaR:bU where
 L:=Int×Int×Rat
 args:=fun(e,p,x)=>[qT e p,cT x]
 pre:=fun(e,p,x)=>fY e p∧ev 67108864 x
 res:=fun(e,p,x)=>.b (decide (jz x<ef (mkRat 1 1) (1-e9 e)))
def arB:bD aX.ctx 395 aaR.spec:=by
 refine b3 [(392,JE.spec),(418,abe.spec),(77,xz.spec)] Wa.1 ?_;intro⟨e,p,x⟩ ⟨ao,(aa:ev _ x)⟩ H aN;have cl:=ao;obtain⟨I,U,ag,au,a0⟩:=cl;obtain⟨c1,dx⟩:=qF I U;refine J ?_;refine cq Pw x trivial (J ?_);refine cq arZ (e,p) ao (J ?_);refine cq vt (jz x,ef (mkRat 1 1) (1-e9 e)) ⟨jH (ON aa),jH (OP (c:=2000) (by omega) (by omega))⟩ (J ?_);exact aA rfl (.of (by show aj.b (decide _)=aj.b (decide _);congr 1;rw[decide_eq_decide];exact SL))
def om(e p:Int)(x:Rat):Int:=if jz x<ef (mkRat 1 1) (1-e9 e)then 2-e9 e-p else kc x.num.natAbs x.den-p+1
def abo:bU where
 L:=Int×Int×Rat
 args:=fun(e,p,x)=>[qT e p,cT x]
 pre:=fun(e,p,x)=>fY e p∧ev 3000000 x
 res:=fun(e,p,x)=>cT (ef (mkRat 1 1) (om e p x))
def abs_zero(h:x.num=0)(k:Int):jz x<ef (mkRat 1 1) k:=by
 rw[Ow,h];simp;exact zca (zbs x.den_nz) (zaE _)
def asa:bD aX.ctx 350 abo.spec:=by
 refine b3 [(395,aaR.spec),(396,aa7.spec),(398,aba.spec),(397,Cg.spec)] VP.1 ?_;intro⟨e,p,x⟩ ⟨ao,(aa:ev _ x)⟩ H aN;have cl:=ao;obtain⟨I,U,ag,au,a0⟩:=cl;obtain⟨c1,dx⟩:=qF I U;refine J ?_;refine a9 arB (e,p,x) ⟨ao,jH aa⟩ (J ?_);refine cV (fun h=> ?_) (fun h=> ?_)
 ·refine J ?_;refine a9 arT (e,p) ao (J ?_);exact aA rfl (.of (by show cT _=cT _;unfold om;rw[zab h]))
 ·have h0:x.num≠0:=fun aG=>h (abs_zero aG _);have j1:=IV x.num.natAbs x.den;have wa:=rp aa.1;have Dj:=rp aa.2;obtain⟨k,ab⟩:∃k:Int,k=kc x.num.natAbs x.den:=⟨_,rfl⟩;rw[<-ab]at j1;refine J ?_;refine cq arU x ⟨aa,h0⟩ (av 14 ?_);refine aB 14 (.i .i64 (k-p)) rfl (by rw[ab];exact cX rfl (by omega) (by omega)) (av 15 ?_);refine aB 15 (.i .i64 (k-p+1)) rfl (cX rfl (by omega) (by omega)) ?_;refine cq FH (k-p+1) ⟨by show _<=k-p+1;omega,by show k-p+1<=_;omega⟩ (J ?_);exact aA rfl (.of (by show cT _=cT _;unfold om;rw[zaa h,ab];rfl))
def arS{c:Int}:b7 (.bn [.agg [.i .i64 0,.nl,.nl],.i .i64 c]) (.bn [cT 0,.i .i64 c]):=.bn ⟨aa6,.refl _,trivial⟩
def pf(p q:Nat)(k:Int):Prop:=q*2^k.toNat<=p*2^(-k).toNat
variable{i:Nat}
def alH{k:Int}(h:pf p q (k+1)):pf p q k:=by
 unfold pf at *;rcases(show 0<=k∨k<0 by omega)with h0|h0
 ·rw[show(k+1).toNat=k.toNat+1 by omega,show(-(k+1)).toNat=0 by omega,zan]at h;rw[show(-k).toNat=0 by omega];exact zag (nQ q (by omega)) h
 ·rw[show(k+1).toNat=0 by omega]at h;rw[show k.toNat=0 by omega,show(-k).toNat=(-(k+1)).toNat+1 by omega,zan];exact zag h (nQ p (by omega))
def HJ{j k:Int}(im:j<=k)(h:pf p q k):pf p q j:=by
 obtain⟨n,rfl⟩:∃n:Nat,k=j+n:=⟨(k-j).toNat,by omega⟩
 induction n with
 |zero=>simpa using h
 |succ n ba=>exact ba (by omega) (alH (by rw[show j+(n:Int)+1=j+((n+1:Nat):Int) by omega];exact h))
def apQ(hp:p≠0)(hq:q≠0)(k:Int):k<=kc p q↔pf p q k:=by
 obtain⟨hL,fW⟩:=sQ hp;obtain⟨cO,cS⟩:=sQ hq;have eW:=we (n:=p) (by omega);have eQ:=we (n:=q) (by omega);have e:kc p q=if p*2^((b2 q:Int)-b2 p).toNat<q*2^((b2 p:Int)-b2 q).toNat then(b2 p:Int)-b2 q-1 else(b2 p:Int)-b2 q:=rfl;obtain⟨a,ha⟩:∃a,b2 p=a+1:=⟨_,eW⟩;obtain⟨b,hb⟩:∃b,b2 q=b+1:=⟨_,eQ⟩;rw[ha,show a+1-1=a by omega]at hL;rw[hb,show b+1-1=b by omega]at cO;rw[ha]at fW e;rw[hb]at cS e;have aK:pf p q ((a:Int)-b-1):=by
  unfold pf;rcases(show(b:Int)+1<=a∨(a:Int)<b+1 by omega)with h|h
  ·rw[show(-((a:Int)-b-1)).toNat=0 by omega,zbV,zbj];refine zag (ix _ (zbo cS)) ?_;rw[<-zat,show b+1+((a:Int)-b-1).toNat=a by omega];exact hL
  ·rw[show((a:Int)-b-1).toNat=0 by omega,zbV,zbj];refine zag (zbo cS) (zag ?_ (ix _ hL));rw[<-zat,show a+(-((a:Int)-b-1)).toNat=b+1 by omega];exact cf _
 have ae:¬pf p q ((a:Int)-b+1):=by
  unfold pf;rw[Nat.not_le];rcases(show(b:Int)<=a+1∨(a:Int)+1<b by omega)with h|h
  ·rw[show(-((a:Int)-b+1)).toNat=0 by omega,zbV,zbj];refine fx fW (zag ?_ (ix _ cO));rw[<-zat,show b+((a:Int)-b+1).toNat=a+1 by omega];exact cf _
  ·rw[show((a:Int)-b+1).toNat=0 by omega,zbV,zbj];refine fx (zeD fW (zaE _)) (zag ?_ cO);rw[<-zat,show a+1+(-((a:Int)-b+1)).toNat=b by omega];exact cf _
 have e2:(p*2^(((b+1:Nat):Int)-((a+1:Nat):Int)).toNat<q*2^(((a+1:Nat):Int)-((b+1:Nat):Int)).toNat)↔¬pf p q ((a:Int)-b):=by
  unfold pf;rw[Nat.not_le,show((b+1:Nat):Int)-((a+1:Nat):Int)= -((a:Int)-b) by omega,show((a+1:Nat):Int)-((b+1:Nat):Int)=(a:Int)-b by omega]
 by_cases hm:pf p q ((a:Int)-b)
 ·rw[zaa (fun h=>e2.1 h hm)]at e;rw[e];exact⟨fun h=>HJ (by omega) hm,fun h=>Int.not_lt.1 fun aG=>ae (HJ (by omega) h)⟩
 ·rw[zab (e2.2 hm)]at e;rw[e];exact⟨fun h=>HJ (by omega) aK,fun h=>Int.not_lt.1 fun aG=>hm (HJ (by omega) h)⟩
def acW{e p:Int}(h0:x.num≠0):Ku e p x=om e p x:=by
 have aa:x.num.natAbs≠0:=by omega
 have I:=apQ aa x.den_nz (1-e9 e);have U:= @Ow x (1-e9 e);unfold Ku om;rw[zaa h0];unfold pf at I;by_cases hc:jz x<ef (mkRat 1 1) (1-e9 e)
 ·rw[zab hc];have ag:=U.1 hc;have au:¬1-e9 e<=kc x.num.natAbs x.den:=fun h=>by have:=I.1 h;omega
  omega
 ·rw[zaa hc];have ag:=mt U.2 hc;have au:=I.2 (by omega);omega
def Zp:bU where
 L:=Nat
 args:=fun n=>[.i .i64 n]
 pre:=fun n=>n<1000000000
 res:=fun n=>.s (hE (lC 9 n).reverse)
def ari(n i:Nat):n/10^i<=n:=zbg _ _
def aqp:bD aX.ctx 275 Zp.spec:=by
 refine b3 [] Vq.1 ?_;intro(n:Nat) (hn:n<1000000000) H aN;refine J ?_;refine df (L:=Nat) (fun i=>i<=9) (fun(i:Nat)=>⟨[],0,[(0,.i .i64 (n/10^i:Nat)),(3,.s (hE (lC i n).reverse)),(4,.i .i64 i)]⟩) (fun i=>9-i) [] 0 (zaf _) (by show 9-0<b0+1;unfold b0;omega) (kx ⟨by simp;rfl,rfl,rfl,trivial⟩) ?_;intro(i:Nat) ae;have hm:=ari n i;have ah:n/10^(i+1)=n/10^i/10:=by rw[zan,zcX]
 have hl:hE (lC (i+1) n).reverse=hE [n/10^i%10]++hE (lC i n).reverse:=by rw[YU,zcG,RU];rfl
 have hlen:(hE (lC i n).reverse).length=i:=by rw[Dh,zaJ,E2]
 generalize mH:n/10^i=m at *;refine J ?_;refine cV (fun h=> ?_) (fun h=> ?_)
 ·have h:i<9:=by omega
  refine av 10 ?_;refine aB 10 (.i .i64 ((m%10:Nat):Int)) rfl rfl (av 11 ?_);refine aB 11 (.i .i64 ((48+m%10:Nat):Int)) rfl cX (av 12 ?_);refine aB 12 (.i .u8 ((UInt8.ofNat (48+m%10)).toNat:Int)) rfl (by rw[UInt8.toNat_ofNat']) (J ?_);refine oi 0 Ag [UInt8.ofNat (48+m%10)] ?_;refine ash (hE [m%10]) ?_;refine J ?_;refine FM ?_ (hl:=by rw[hlen];show 1+i<=_;omega);refine aB 16 (.s (hE (lC (i+1) n).reverse)) rfl (by rw[hl]) (J ?_);exact br [] (i+1) ⟨by show 9-(i+1)<9-i;omega,h⟩ (kx ⟨by rw[ah];show some (aj.i _ (IntKind.i64.wrap ((m/10:Nat):Int)))=_;exact fI rfl (by omega) (by omega),rfl,fI,trivial⟩)
 ·have he:i=9:=by omega
  subst he;refine J ?_;exact aA rfl (.refl _)
def abp:bU where
 L:=Nat
 args:=fun n=>[c9 n]
 pre:=fun n=>ed 1073741824 n
 res:=fun n=>.s (k3 n)
def ahj(h:d<10):dec d=[d]:=by
 unfold dec;split
 ·rename_i h0;rw[h0]
 ·rw[qQ (by decide) (by assumption),hy h,zbO h,hQ];rfl
def avj{dj:ac Nat}(h:d≠0):e1 (dj++[d])=dj++[d]:=by rw[tT,zaa h]
theorem Ms:∀l:ac Nat,(l.flatMap (lC 9)).length=9*l.length
 |[]=>rfl
 |x::l=>by rw[zcQ,zap,Ms l,E2,zay];omega
def abq:bD aX.ctx 170 abp.spec:=by
 refine b3 [(275,Zp.spec)] UN.1 ?_;intro(n:Nat) (hn:(bb _ n).length<=_) H aN;have I:=hg (b:=1000000000) (by decide) n;have avG:=gO (b:=1000000000) (by decide) n;show aW.ok _ ⟨_,_,⟨_,_,[(0,dw (bb 1000000000 n))]⟩⟩;generalize bb 1000000000 n=xs at *;refine J ?_;refine nH (L:=Unit) (fun _=>True) (fun _=>⟨[],0,[(3,.s (hE (xs.flatMap (lC 9)).reverse))]⟩) ?_ ?_
 ·refine df (L:=Nat) (fun k=>k<=xs.length) (fun(k:Nat)=>⟨[],0,[(0,dw xs),(3,.s (hE ((xs.drop k).flatMap (lC 9)).reverse)),(4,.i .i64 ((k:Int)-1))]⟩) id [] xs.length (cf _) (by show xs.length<b0+1;unfold b0;omega) (kx ⟨rfl,by rw[zcV];rfl,fI,trivial⟩) ?_;intro(k:Nat) ab;cases k with
  |zero=>
   refine J ?_;exact br [] () trivial dW
  |succ m=>
   have aa:m<xs.length:=by omega
   have mg:=I _ (dp aa);have mQ:=Ms (xs.drop (m+1));refine aB 4 (.i .i64 (m:Nat)) rfl gg (J ?_);refine aB 9 (.b true) rfl (by simp) (J ?_);refine dv xs[m] (bg aa) ?_;refine J ?_;refine a9 aqp xs[m] mg ?_;refine FM ?_ (hl:=by rw[Dh,Dh,zaJ,zaJ,mQ,E2,zaz];omega);refine aB 18 (.s (hE ((xs.drop m).flatMap (lC 9)).reverse)) rfl (by rw[hx aa,zcQ,zcG,RU]) (J ?_);exact br [] m ⟨by simp,by omega⟩ (kx ⟨rfl,rfl,fI,trivial⟩)
 intro _ _;have bR:=DX xs;have tk:=TS I;have hlen:=Ms xs;rw[avG]at tk;generalize xs.flatMap (lC 9)=Mf at *;refine J ?_;refine df (L:=ac Nat) (fun es=>dg 10 es∧val 10 es=n∧es.length<=Mf.length) (fun es=>⟨[],0,[(3,.s (hE es.reverse))]⟩) List.length [] Mf ⟨bR,tk,cf _⟩ (by show Mf.length<b0+1;unfold b0;omega) dW ?_;rintro es ⟨g1,aP,bd⟩;rcases zcy es with rfl|⟨dj,d,rfl⟩
 ·have q5:n=0:=by rw[<-aP];rfl
  refine J ?_;refine aA rfl (.of ?_);show aj.s [48]=aj.s (k3 n);rw[q5];rfl
 rw[zcz]at *;have ay:d<10:=g1 d (by simp);have ah:hE (dj++[d]).reverse=UInt8.ofNat (48+d)::hE dj.reverse:=by rw[zcG];rfl
 rw[nN]at aP;simp only[val,zcB,zba]at aP;refine aB 3 (.s (UInt8.ofNat (48+d)::hE dj.reverse)) rfl (by rw[ah]) (av 22 ?_);have hl:(hE dj.reverse).length=dj.length:=by rw[Dh,zaJ]
 by_cases ae:dj=[]
 ·subst ae;refine aB 22 (.b false) rfl (by simp[hE]) (J ?_);refine aA rfl (.of ?_);show aj.s (hE [d])=aj.s (k3 n);have:n=d:=by simp[val]at aP;exact aP.symm
  rw[this];congr 1;unfold k3;rw[ahj ay]
 have awT:0<dj.length:=zbi.2 ae;refine aB 22 (.b true) rfl (by rw[zay,hl];simp;omega) (J ?_);refine o4 (UInt8.ofNat (48+d)) (j:=0) rfl ?_;refine av 25 ?_;have j5:=Hj ay;by_cases yK:d=0
 ·refine aB 25 (.b true) rfl (by rw[j5,yK];rfl) (J ?_);refine zM (p:=1) (hE dj.reverse) ?_ (hp:=by simp) (hq:=by simp);refine J ?_;exact br [] dj ⟨by simp,fun x aa=>g1 x (by simp[aa]),by rw[yK]at aP;simpa using aP,by simp at bd;omega⟩ dW
 ·refine aB 25 (.b false) rfl (by rw[j5];exact congrArg aj.b (zad (by omega))) (J ?_);refine aA rfl (.of ?_);show aj.s (UInt8.ofNat (48+d)::hE dj.reverse)=aj.s (k3 n);rw[<-ah];have e:=DF (b:=10) (by decide) g1 (avj yK);rw[nN]at e;simp only[val,zcB,zba]at e;rw[aP]at e;have q5:n≠0:=fun h=>by rw[h,hQ]at e;simp at e
  unfold k3 dec;rw[zaa q5,e]
def RV(h:ed k n):(k3 n).length<=9*k+1:=by
 unfold k3 dec;rw[Dh];split
 ·simp
 ·rw[zaJ];refine zbe (mD (b:=10) (by decide) ?_);have:=sW h;rw[show(1000000000:Nat)=10^9 from rfl,<-zbT]at this;exact this
def aaM:bU where
 L:=Rat
 args:=fun x=>[cT x]
 pre:=fun x=>ev 67108864 x
 res:=fun x=>.s (o7 x)
def ary:bD aX.ctx 76 aaM.spec:=by
 refine b3 [(170,abp.spec),(171,aa2.spec)] WD.1 ?_;intro(x:Rat) (aa:ev _ x) H aN;have fO:=RV aa.1;have ja:=RV aa.2;refine J ?_;refine a9 abq x.num.natAbs (de aa.1) (J ?_);have acE:x.num.sign<0↔x.num<0:=Int.sign_neg_iff;obtain⟨u,hu⟩:∃u,u=(if x.num<0 then[45]else[])++k3 x.num.natAbs:=⟨_,rfl⟩;have w4:u.length<=9*67108864+2:=by
  rw[hu,zap];have:(if x.num<0 then([45]:ac ce)else[]).length<=1:=by split<;>simp
  omega
 refine ks (L:=Unit) (fun _=>True) (fun _=>⟨[.c 103 (jI x)],1,[(1,.p 0 0),(3,.s u)]⟩) ?_ ?_
 ·refine cV (fun h=> ?_) (fun h=> ?_)
  ·refine J ?_;refine FM ?_ (hl:=by show 1+(k3 _).length<=_;omega);refine J ?_;exact br [0] () trivial (fh ⟨rfl,by rw[hu,zab (acE.1 h)];rfl,trivial⟩ ⟨_,rfl,rfl⟩)
  ·refine J ?_;exact br [0] () trivial (fh ⟨rfl,by rw[hu,zaa (fun aG=>h (acE.2 aG))];rfl,trivial⟩ ⟨_,rfl,rfl⟩)
 intro _ _;refine J ?_;refine a9 arO x aa (J ?_);refine Co (fun h=> ?_) (fun h=> ?_)
 ·have h0:x.num≠0:=fun e=>h (by have:=x.reduced;rw[e]at this;simpa[Nat.Coprime]using this);refine J ?_;refine FM ?_ (hl:=by show u.length+1<=_;omega);refine av 18 ?_;refine aB 18 (c9 x.den) rfl (by rw[zaa h0];rfl) ?_;refine a9 abq x.den (de aa.2) ?_;refine FM ?_ (hl:=by rw[zap];show u.length+1+(k3 _).length<=_;omega);refine J ?_;refine aA rfl (.of ?_);show aj.s (u++[47]++k3 x.den)=aj.s (o7 x);unfold o7;rw[<-hu,zaa h,zbF];rfl
 ·refine J ?_;refine aA rfl (.of ?_);show aj.s u=aj.s (o7 x);unfold o7;rw[<-hu,zab h,zeq]
def PI:bU where
 L:=ac ce
 args:=fun s=>[.s s]
 pre:=fun s=>s.length<=1073741824
 res:=fun s=>.b (decide (iy s))
def aeo{s:ac ce}(h:i<s.length)(I:jZ (s.take i))(U:48<=s[i].toNat∧s[i].toNat<=57):jZ (s.take (i+1)):=by
 rw[zaP h];intro c hc;rcases zbl.1 hc with hc|hc
 ·exact I c hc
 ·simp at hc;subst hc;exact U
def PJ:bD aX.ctx 164 PI.spec:=by
 refine b3 [] UH.1 ?_;intro(s:ac ce) (ah:s.length<=_) H aN;refine J ?_;refine nH (L:=Unit) (fun _=>jZ s) (fun _=>⟨[],0,[(0,.s s)]⟩) ?_ ?_
 ·refine df (L:=Nat) (fun i=>i<=s.length∧jZ (s.take i)) (fun(i:Nat)=>⟨[],0,[(0,.s s),(3,.i .i64 i)]⟩) (fun i=>s.length-i) [] 0 ⟨zaf _,fun c hc=>by simp at hc⟩ (by show s.length-0<b0+1;unfold b0;omega) dW ?_;rintro(i:Nat) ⟨ae,ha⟩;refine J ?_;refine cV (fun h=> ?_) (fun h=> ?_)
  ·have h:i<s.length:=by omega
   have hm:s[i]∈s:=dp h;refine J ?_;refine o4 s[i] (bg h) ?_;refine av 14 ?_;have bad:¬(48<=s[i].toNat∧s[i].toNat<=57)->b7 (.b false) (PI.res s):=fun h=>.of (by show aj.b false=aj.b (decide _);rw[zad (fun hb=>h (hb.2.1 _ hm))]);by_cases I:s[i].toNat<48
   ·refine aB 14 (.b true) rfl (by rw[zae (by omega)]) (J ?_);exact aA rfl (bad (by omega))
   refine aB 14 (.b false) rfl (by rw[zad (by omega)]) (J ?_);refine o4 s[i] (bg h) ?_;refine J ?_;refine cV (fun U=> ?_) (fun U=> ?_)
   ·refine J ?_;exact aA rfl (bad (by omega))
   ·refine J ?_;exact br [] (i+1) ⟨by show s.length-(i+1)<s.length-i;omega,h,aeo h ha (by omega)⟩ (kx ⟨rfl,fI,trivial⟩)
  ·have he:i=s.length:=by omega
   subst he;rw[zbR]at ha;refine J ?_;exact br [] () ha dW
 intro _ dZ;cases s with
 |nil=>
  refine av 23 ?_;refine aB 23 (.b false) rfl rfl (J ?_);exact aA rfl (.of (by show aj.b false=aj.b (decide _);rw[zad (fun hb=>hb.1 rfl)]))
 |cons c t=>
  refine av 23 ?_;refine aB 23 (.b true) rfl (by simp) (av 26 ?_);by_cases hb:c::t=[48]
  ·refine aB 26 (.b true) rfl (by rw[hb];rfl) (J ?_);exact aA rfl (.of (by show aj.b true=aj.b (decide _);rw[zae ⟨by simp,dZ,.inl hb⟩]))
  refine aB 26 (.b false) rfl (by rw[zaM.2 hb]) (J ?_);refine o4 c (j:=0) rfl ?_;refine J ?_;refine aA rfl (.of ?_);show aj.b (decide _)=aj.b (decide _);congr 1;rw[decide_eq_decide];constructor
  ·intro h;refine⟨by simp,dZ,.inr fun e=>h ?_⟩;have e:c=48:=by simpa using e
   rw[e];rfl
  ·rintro⟨_,_,h|h⟩ e
   ·exact hb h
   ·exact h (congrArg some (zcn.1 (show c.toNat=48 by omega)))
def FT(s:ac ce):aj:=
 match(cutAt (ec s).2).2 with
 |none=>.bn [.s (ec s).2,.s [49],.i .i64 (if(ec s).1=true then -1 else 1),.b (decide (iy (ec s).2∧¬((ec s).1=true∧(ec s).2=[48])))]
 |some q=>.bn [.s (cutAt (ec s).2).1,.s q,.i .i64 (if(ec s).1=true then -1 else 1),.b (decide (iy (cutAt (ec s).2).1∧iy q∧q≠[48]∧q≠[49]∧¬((ec s).1=true∧(cutAt (ec s).2).1=[48])))]
def Ta{p:Prop}[Decidable p]{b:Bool}:decide p=b↔(p↔b=true):=by cases b<;>simp
def JR:bU where
 L:=ac ce
 args:=fun s=>[.s s]
 pre:=fun s=>s.length<=1073741824
 res:=fun s=>FT s
def ag0{s:ac ce}(h:i<s.length)(I:(47:ce)∉s.take i)(U:s[i]=47):cutAt s=(s.take i,some (s.drop (i+1))):=by
 refine Hc I ?_;rw[<-U,<-hx h,zbp]
def ar5:bD aX.ctx 73 JR.spec:=by
 refine b3 [(164,PI.spec)] WA.1 ?_;intro(s:ac ce) (ah:s.length<=_) H aN;have Iq:(ec s).2.length<=s.length:=by
  unfold ec;split
  ·exact zaf _
  ·split<;>simp
 refine av 7 ?_
 iterate 3 refine iL ?_
 refine ks (L:=Unit) (fun _=>True) (fun _=>⟨[],0,[(6,.s (ec s).2),(7,.i .i64 (if(ec s).1=true then -1 else 1))]⟩) ?_ ?_
 ·cases s with
  |nil=>
   refine J ?_;exact br [] () trivial dW
  |cons c t=>
   refine av 15 ?_;refine aB 15 (.b true) rfl (by simp) (J ?_);refine o4 c (j:=0) rfl ?_;refine J ?_;by_cases hc:c=45
   ·subst hc;refine aB 19 (.b true) rfl rfl (J ?_);refine zM (p:=1) t ?_ (hp:=by simp) (hq:=by simp);refine J ?_;exact br [] () trivial dW
   ·have aM:ec (c::t)=(false,c::t):=zaa hc;refine aB 19 (.b false) rfl (congrArg aj.b (zad (fun e=>hc (zcn.1 (show c.toNat=45 by omega))))) (J ?_);exact br [] () trivial (kx ⟨by rw[aM];rfl,by rw[aM];rfl,trivial⟩)
 intro _ _;obtain⟨⟨n,t⟩,aM⟩:∃g,g=ec s:=⟨_,rfl⟩;rw[<-aM]at Iq;have fin:∀{r},FT s=r->b7 r (JR.res s):=fun h=>.of h.symm;unfold FT at fin;rw[<-aM]at fin⊢;simp only at fin Iq;obtain⟨bY,oP⟩:∃bY:Int,bY=if n=true then -1 else 1:=⟨_,rfl⟩;have w2:decide (bY>0)= !n:=by rw[oP];cases n<;>rfl
 refine aB 7 (.i .i64 bY) rfl (by rw[oP]) ?_;rw[<-oP]at fin;refine J ?_;refine nH (L:=Unit) (fun _=>(47:ce)∉t) (fun _=>⟨[],0,[(6,.s t),(7,.i .i64 bY)]⟩) ?_ ?_
 ·refine df (L:=Nat) (fun i=>i<=t.length∧(47:ce)∉t.take i) (fun(i:Nat)=>⟨[],0,[(6,.s t),(7,.i .i64 bY),(8,.i .i64 i)]⟩) (fun i=>t.length-i) [] 0 ⟨zaf _,fun hm=>by simp at hm⟩ (by show t.length-0<b0+1;unfold b0;omega) dW ?_;rintro(i:Nat) ⟨ae,ha⟩;refine J ?_;refine cV (fun h=> ?_) (fun h=> ?_)
  ·have h:i<t.length:=by omega
   refine J ?_;refine o4 t[i] (bg h) ?_;refine J ?_;refine cV (fun hc=> ?_) (fun hc=> ?_)
   ·have hc:t[i]=47:=zcn.1 (show t[i].toNat=47 by omega);have iE:=ag0 h ha hc;rw[iE]at fin;simp only at fin;generalize hi:t.take i=P at *;generalize p7:t.drop (i+1)=Q at *;have Oj:P.length<=t.length:=by rw[<-hi];simp;omega
    have apz:Q.length<=t.length:=by rw[<-p7];simp
    refine J ?_;refine Hf P ?_ (hl:=by rw[<-hi];simp);refine av 37 ?_;refine eU 37 (.i .i64 ((i+1:Nat):Int)) rfl rfl cX ?_;refine Hf Q ?_ (hl:=by rw[<-p7];exact zau (by simp));refine J ?_;have bad:¬(iy P∧iy Q∧Q≠[48]∧Q≠[49]∧¬(n=true∧P=[48]))->b7 (.bn [.s P,.s Q,.i .i64 bY,.b false]) (JR.res s):=fun h=>fin (by rw[zad h]);refine a9 PJ P (by show P.length<=_;omega) (av 44 ?_);by_cases I:iy P
    ·refine dS 44 I (J ?_);refine a9 PJ Q (by show Q.length<=_;omega) (av 48 ?_);by_cases U:iy Q
     ·refine dS 48 U (av 52 ?_);by_cases ag:Q=[48]
      ·refine aB 52 (.b false) rfl (by rw[ag];rfl) (J ?_);exact aA rfl (bad (fun h=>h.2.2.1 ag))
      refine aB 52 (.b true) rfl (by rw[zaM.2 ag];rfl) (av 56 ?_);by_cases au:Q=[49]
      ·refine aB 56 (.b false) rfl (by rw[au];rfl) (J ?_);exact aA rfl (bad (fun h=>h.2.2.2.1 au))
      refine aB 56 (.b true) rfl (by rw[zaM.2 au];rfl) (av 59 ?_);by_cases a0:P=[48]
      ·refine aB 59 (.b false) rfl (by rw[a0];rfl) (J ?_);refine aA rfl (fin ?_);rw[w2];refine congrArg (fun b=>aj.bn [.s P,.s Q,.i .i64 bY,.b b]) ?_;rw[Ta];simp[U,ag,au,a0];exact fun _=>a0▸I
      ·refine aB 59 (.b true) rfl (by rw[zaM.2 a0];rfl) (J ?_);exact aA rfl (fin (by rw[zae ⟨I,U,ag,au,fun h=>a0 h.2⟩]))
     ·refine ep 48 U (J ?_);exact aA rfl (bad (fun h=>U h.2.1))
    ·refine ep 44 I (J ?_);exact aA rfl (bad (fun h=>I h.1))
   ·have hc:t[i]≠47:=fun e=>hc (by rw[e];rfl);refine J ?_;refine br [] (i+1) ⟨by show t.length-(i+1)<t.length-i;omega,h,?_⟩ (kx ⟨rfl,rfl,fI,trivial⟩);rw[zaP h];intro hm;rcases zbl.1 hm with hm|hm
    ·exact ha hm
    ·simp at hm;exact hc hm.symm
  ·have he:i=t.length:=by omega
   subst he;rw[zbR]at ha;refine J ?_;exact br [] () ha dW
 intro _ gG;rw[S0 gG]at fin;simp only at fin;refine J ?_;refine a9 PJ t (by show t.length<=_;omega) (av 68 ?_);by_cases hb:iy t
 ·refine dS 68 hb (av 71 ?_);by_cases h0:t=[48]
  ·refine aB 71 (.b false) rfl (by rw[h0];rfl) (J ?_);refine aA rfl (fin ?_);rw[w2];refine congrArg (fun b=>aj.bn [.s t,.s [49],.i .i64 bY,.b b]) ?_;rw[Ta];simp[h0];exact fun _=>h0▸hb
  ·refine aB 71 (.b true) rfl (by rw[zaM.2 h0];rfl) (J ?_);refine aA rfl (fin ?_);rw[zae ⟨hb,fun h=>h0 h.2⟩]
 ·refine ep 68 hb (J ?_);refine aA rfl (fin ?_);rw[zad (fun h=>hb h.1)]
def P6(u v:ac ce):cd (u++v)=cd v+10^v.length*cd u:=by
 unfold cd nX;rw[List.map_append,zcG,nN,zaJ,zbB]
def P8(w:ac ce)(c:ce):cd (w++[c])=(c.toNat-48)+10*cd w:=by
 rw[P6];simp[cd,nX,val]
def sy{s:ac ce}(h:jZ s):cd s<10^s.length:=by
 have:=ll (b:=10) (ds:=(nX s).reverse) (fun d ay=>Te h d (zeu.1 ay));rw[zaJ]at this;unfold nX at this;rw[zbB]at this;exact this
def abj:bU where
 L:=ac ce
 args:=fun s=>[.s s]
 pre:=fun s=>jZ s∧s.length<=1073741824
 res:=fun s=>c9 (cd s)
def ar2(s:ac ce)(i:Int):ac Nat->cB
 |[]=>⟨[],0,[(0,.s s),(3,.nl),(4,.i .i64 i)]⟩
 |d::ds=>⟨[.a 2 true 1 Nat gn (d::ds)],1,[(0,.s s),(3,.a5 0 1 0 (d::ds).length (d::ds).length),(4,.i .i64 i)]⟩
def asG{s:ac ce}{es:ac Nat}{aK:Nat}(h:cd s=val 1000000000 es+1000000000^es.length*cd (s.take r))(aD:r<=s.length)(gx:aK=r-9):
 cd s=val 1000000000 (es++[cd ((s.take r).drop aK)])+1000000000^(es++[cd ((s.take r).drop aK)]).length*cd (s.take aK):=by
 have e:s.take r=s.take aK++(s.take r).drop aK:=by
  conv=>lhs;rw[<-zbp aK (s.take r)]
  rw[zdp,zaF (by omega)]
 have e2:cd (s.take r)=cd ((s.take r).drop aK)+1000000000*cd (s.take aK):=by
  conv=>lhs;rw[e,P6]
  congr 1;rcases(show aK=0∨r=aK+9 by omega)with h0|h0
  ·subst h0;simp[cd,nX,val]
  ·rw[zaz,zao,zaF aD,h0,zec]
 rw[h,e2,nN,zap,zat];simp only[val,zay,List.length_nil,zcB,zba,zas,Nat.pow_one];rw[zaI,zaA];omega
def abk:bD aX.ctx 75 abj.spec:=by
 refine b3 [(169,xA.spec)] WC.1 ?_;intro(s:ac ce) ⟨(dZ:jZ s),(ah:s.length<=_)⟩ H aN;refine J ?_;refine df (L:=Int×ac Nat) (fun(i,es)=>i<=s.length∧-9<=i∧es.length+i.toNat<=s.length∧dg 1000000000 es∧cd s=val 1000000000 es+1000000000^es.length*cd (s.take i.toNat)) (fun(i,es)=>ar2 s i es) (fun l=>l.1.toNat) [] ((s.length:Int),[]) ⟨Int.le_refl _,by show -9<=(s.length:Int);omega,by simp,fun x aa=>by simp at aa,by simp[val]⟩ (by show((s.length:Int)).toNat<b0+1;unfold b0;omega) dW ?_;rintro⟨i,es⟩ ⟨I,U,ag,au,a0⟩;obtain⟨r,aD⟩:∃r,r=i.toNat:=⟨_,rfl⟩;rw[<-aD]at ag a0;obtain⟨aK,gx⟩:∃aK,aK=r-9:=⟨_,rfl⟩;have oQ:=asG a0 (by omega) gx;have j5:jZ ((s.take r).drop aK):=fun c hc=>dZ c (zbM (zcx hc));have aT:=sy j5;have awZ:cd ((s.take r).drop aK)<1000000000:=fx aT (zaL (n:=10) (by decide) (show _<=9 by simp;omega));have mJ:¬0<i->bb 1000000000 (cd s)=e1 es:=fun h=>by
  have:r=0:=by omega
  rw[this]at a0;rw[zV (b:=1000000000) (by decide) au,a0];simp[cd,nX,val]
 have piece:∀k:Nat,aK<=k->k<=r->cd ((s.take k).drop aK)<10^(k-aK):=fun k wW hI=>by
  have h:=sy (s:=(s.take k).drop aK) (fun c hc=>dZ c (zbM (zcx hc)))
  rwa [zaz,zao,zaF (by omega)]at h
 cases es with
 |nil=>
  refine J ?_;refine cV (fun ae=> ?_) (fun ae=> ?_)
  ·have oL:i=(r:Int):=by omega
   subst oL;refine av 14 ?_;refine aB 14 (.i .i64 ((r:Int)-9)) rfl (cX rfl (by omega) (by omega)) (av 15 ?_);refine aB 15 (.i .i64 (aK:Nat)) rfl gg (J ?_);refine nH (L:=Unit) (fun _=>True) (fun _=>⟨[],0,[(0,.s s),(3,.nl),(4,.i .i64 (r:Int)),(5,.i .i64 (cd ((s.take r).drop aK):Nat))]⟩) ?_ ?_
   ·refine df (L:=Nat) (fun k=>aK<=k∧k<=r) (fun(k:Nat)=>⟨[],0,[(0,.s s),(3,.nl),(4,.i .i64 (r:Int)),(5,.i .i64 (cd ((s.take k).drop aK):Nat)),(6,.i .i64 k)]⟩) (fun k=>r-k) [] aK ⟨cf _,by omega⟩ (by show r-aK<b0+1;unfold b0;omega) (kx ⟨rfl,rfl,rfl,by rw[zaH (by simp;omega)];rfl,rfl,trivial⟩) ?_;rintro(k:Nat) ⟨bl,bK⟩;refine J ?_;refine cV (fun ab=> ?_) (fun ab=> ?_)
    ·have ab:k<r:=by omega
     have s9:k<s.length:=by omega
     have hp:=piece k bl (by omega);have yZ:(10:Nat)^(k-aK)<=10^9:=zaL (by decide) (by omega);have hc:=dZ _ (dp s9);have w2:cd ((s.take (k+1)).drop aK)=(s[k].toNat-48)+10*cd ((s.take k).drop aK):=by
      rw[zaP s9,zdZ (by simp;omega),P8]
     generalize hn:cd ((s.take k).drop aK)=n at *;have anC:n<1000000000:=by omega
     refine J ?_;refine o4 s[k] (bg s9) ?_;refine av 26 ?_;have DK:(s[k].toNat+(256*48-48))%256=s[k].toNat-48:=by omega
     refine aB 26 (.i .u8 ((s[k].toNat-48:Nat):Int)) rfl (congrArg (fun n:Nat=>aj.i .u8 (n:Int)) DK) (J ?_);refine br [] (k+1) ⟨by show r-(k+1)<r-k;omega,by omega,ab⟩ (kx ⟨rfl,rfl,rfl,?_,fI,trivial⟩);rw[w2];exact congrArg (fun n=>some (aj.i .i64 n)) (by rw[hK (n:=10*(n:Int)) (by omega) (by omega),hK (n:=((s[k].toNat-48:Nat):Int)) (by omega) (by omega),hK (by omega) (by omega)];omega)
    ·have he:k=r:=by omega
     subst he;refine J ?_;exact br [] () trivial dW
   intro _ _;generalize hn:cd ((s.take r).drop aK)=n at *;refine J ?_;refine FL gn [n] (h9 (R:=gn) [n] rfl) ?_;refine J ?_;exact br [1] ((r:Int)-9,[n]) ⟨by show((r:Int)-9).toNat<((r:Int)).toNat;omega,by omega,by omega,by simp;omega,fun x aa=>by simp at aa;omega,by rw[show((r:Int)-9).toNat=aK by omega];exact oQ⟩ (Kz ⟨rfl,rfl,fI,trivial⟩ ⟨_,rfl,rfl,fun _=>rfl⟩)
  ·refine J ?_;refine pF 33 (dw []) rfl b7.nl ?_;refine a9 xB [] (by show 0<=_;decide) (J ?_);exact aA rfl (.of (by show dw (e1 [])=dw _;rw[<-mJ ae]))
 |cons d ds=>
  refine J ?_;refine cV (fun ae=> ?_) (fun ae=> ?_)
  ·have oL:i=(r:Int):=by omega
   subst oL;refine av 14 ?_;refine aB 14 (.i .i64 ((r:Int)-9)) rfl (cX rfl (by omega) (by omega)) (av 15 ?_);refine aB 15 (.i .i64 (aK:Nat)) rfl gg (J ?_);refine nH (L:=Unit) (fun _=>True) (fun _=>⟨[.a 2 true 1 Nat gn (d::ds)],1,[(0,.s s),(3,.a5 0 1 0 (d::ds).length (d::ds).length),(4,.i .i64 (r:Int)),(5,.i .i64 (cd ((s.take r).drop aK):Nat))]⟩) ?_ ?_
   ·refine df (L:=Nat) (fun k=>aK<=k∧k<=r) (fun(k:Nat)=>⟨[.a 2 true 1 Nat gn (d::ds)],1,[(0,.s s),(3,.a5 0 1 0 (d::ds).length (d::ds).length),(4,.i .i64 (r:Int)),(5,.i .i64 (cd ((s.take k).drop aK):Nat)),(6,.i .i64 k)]⟩) (fun k=>r-k) [0] aK ⟨cf _,by omega⟩ (by show r-aK<b0+1;unfold b0;omega) (fh ⟨rfl,rfl,rfl,by rw[zaH (by simp;omega)];rfl,rfl,trivial⟩ ⟨_,rfl,rfl,fun _=>rfl⟩) ?_;rintro(k:Nat) ⟨bl,bK⟩;refine J ?_;refine cV (fun ab=> ?_) (fun ab=> ?_)
    ·have ab:k<r:=by omega
     have s9:k<s.length:=by omega
     have hp:=piece k bl (by omega);have yZ:(10:Nat)^(k-aK)<=10^9:=zaL (by decide) (by omega);have hc:=dZ _ (dp s9);have w2:cd ((s.take (k+1)).drop aK)=(s[k].toNat-48)+10*cd ((s.take k).drop aK):=by
      rw[zaP s9,zdZ (by simp;omega),P8]
     generalize hn:cd ((s.take k).drop aK)=n at *;have anC:n<1000000000:=by omega
     refine J ?_;refine o4 s[k] (bg s9) ?_;refine av 26 ?_;have DK:(s[k].toNat+(256*48-48))%256=s[k].toNat-48:=by omega
     refine aB 26 (.i .u8 ((s[k].toNat-48:Nat):Int)) rfl (congrArg (fun n:Nat=>aj.i .u8 (n:Int)) DK) (J ?_);refine br [0] (k+1) ⟨by show r-(k+1)<r-k;omega,by omega,ab⟩ (fh ⟨rfl,rfl,rfl,?_,fI,trivial⟩ ⟨_,rfl,rfl,fun _=>rfl⟩);rw[w2];exact congrArg (fun n=>some (aj.i .i64 n)) (by rw[hK (n:=10*(n:Int)) (by omega) (by omega),hK (n:=((s[k].toNat-48:Nat):Int)) (by omega) (by omega),hK (by omega) (by omega)];omega)
    ·have he:k=r:=by omega
     subst he;refine J ?_;exact br [0] () trivial dX
   intro _ _;generalize hn:cd ((s.take r).drop aK)=n at *;refine J ?_;have iT:ds.length<=1073741824:=by simp at ag;omega
   refine FK (R:=gn) [n] (h9 (R:=gn) [n] rfl) ?_;refine J ?_;refine br [2] ((r:Int)-9,d::(ds++[n])) ⟨by show((r:Int)-9).toNat<((r:Int)).toNat;omega,by omega,by omega,by simp at ag ⊢;omega,?_,by rw[show((r:Int)-9).toNat=aK by omega];exact oQ⟩ (Kz ⟨rfl,congrArg (fun k=>some (aj.a5 2 1 0 k k)) (by simp),fI,trivial⟩ ⟨_,rfl,rfl,fun _=>rfl⟩);intro x aa;rcases zbl.1 (show x∈(d::ds)++[n]from aa)with h|h
   ·exact au x h
   ·simp at h;omega
  ·refine J ?_;refine iw 33 ?_;refine a9 xB (d::ds) (by show(d::ds).length<=_;omega) (J ?_);exact aA rfl (.of (by show dw (e1 (d::ds))=dw _;rw[<-mJ ae]))
def ach(s:ac ce):s=(if(ec s).1=true then[45]else[])++(ec s).2:=by
 unfold ec;split
 ·rfl
 ·split
  ·rename_i c t h;rw[h];rfl
  ·rfl
def aaP{s:ac ce}(h:jZ s)(hl:s.length<=9*k):ed k (cd s):=mD (by decide) (by
 refine fx (sy h) (zag (zaL (by decide) hl) ?_);rw[zbT];exact cf _)
def nD(s:ac ce):aj:=match cF s with
 |some x=>.bn [cT x,.i .i64 0]
 |none=>.bn [cT 0,.i .i64 6]
def vr:bU where
 L:=ac ce
 args:=fun s=>[.s s]
 pre:=fun s=>s.length<=2000
 res:=fun s=>nD s
def atn(n:Bool)(p:Nat):(if n=true then(-1:Int)else 1)*(p:Int)=jt n p:=by cases n<;>simp[jt]
def as2{N:Nat}{s:ac ce}(gP:1<=N)(ah:s.length<=N):∃P Q b,FT s= .bn [.s P,.s Q,.i .i64 (if(ec s).1=true then -1 else 1),.b b]∧(b=false->cF s=none)∧
 (b=true->iy P∧iy Q∧P.length<=N∧Q.length<=N∧cd Q≠0∧(o7 (mkRat (jt (ec s).1 (cd P)) (cd Q))=s->cF s=some (mkRat (jt (ec s).1 (cd P)) (cd Q)))∧(o7 (mkRat (jt (ec s).1 (cd P)) (cd Q))≠s->cF s=none)):=by
 have tg:=ach s;unfold cF FT;obtain⟨⟨n,t⟩,aM⟩:∃g,g=ec s:=⟨_,rfl⟩;rw[<-aM]at tg⊢;simp only at tg⊢;have y5:t.length<=N:=by have:=congrArg List.length tg;rw[zap]at this;omega
 obtain⟨eF,e5,nh⟩:=SZ t;obtain⟨⟨P,Q⟩,hq⟩:∃g,g=cutAt t:=⟨_,rfl⟩;rw[<-hq]at eF e5 nh⊢;simp only at eF e5 nh⊢;cases Q with
 |none=>
  have MS:=nh rfl;subst MS;refine⟨t,[49],_,rfl,fun h=>zaa (of_decide_eq_false h),fun h=> ?_⟩;have a3:=zbd h;have e:=avr a3.1 a3.2;exact⟨a3.1,by decide,y5,gP,by decide,fun _=>by rw[zab a3];rfl,fun h=>absurd (e.trans tg.symm) h⟩
 |some q=>
  have aV:=e5 q rfl;have Oj:P.length+q.length<=N:=by have:=congrArg List.length aV;rw[zap,zay]at this;omega
  refine⟨P,q,_,rfl,fun h=> ?_,fun h=> ?_⟩
  ·have a3:=of_decide_eq_false h;by_cases I:iy P∧¬(n=true∧P=[48])
   ·rw[zab I];exact zaa (fun h=>a3 ⟨I.1,h.1,h.2.1,h.2.2.1,I.2⟩)
   ·rw[zaa I]
  ·obtain⟨c1,dx,j1,wa,Dj⟩:=zbd h;have e:=avq c1 dx Dj j1 wa;rw[zbF,<-aV,<-tg]at e;refine⟨c1,dx,by omega,by omega,fun h=>j1 (yd dx h),fun h=> ?_,fun h=> ?_⟩
   ·rw[zab ⟨c1,Dj⟩];exact zab ⟨dx,j1,wa,e.1 h⟩
   ·rw[zab ⟨c1,Dj⟩];exact zaa (fun hh=>h (e.2 hh.2.2.2))
def o3:bD aX.ctx 35 vr.spec:=by
 refine b3 [(73,JR.spec),(75,abj.spec),(74,xx.spec),(76,aaM.spec)] VO.1 ?_;intro(s:ac ce) (ah:s.length<=2000) H aN;have hp:∀{r},cF s=r->b7 (match r with|some x=>.bn [cT x,.i .i64 0]|none=>.bn [cT 0,.i .i64 6]) (vr.res s):=fun h=>.of (by subst h;rfl);have fail:cF s=none->b7 (.bn [.agg [.i .i64 0,.nl,.nl],.i .i64 6]) (vr.res s):=fun h=>arS.trans (hp h);obtain⟨P,Q,b,cZ,ao,jm⟩:=as2 (by decide) ah;obtain⟨n,hn⟩:∃n,n=(ec s).1:=⟨_,rfl⟩;rw[<-hn]at cZ jm;have acf: -1<=(if n=true then(-1:Int)else 1)∧(if n=true then(-1:Int)else 1)<=1:=by cases n<;>decide
 refine J ?_;refine a9 ar5 s (by show s.length<=_;omega) ?_;refine aB 11 _ rfl cZ (J ?_);cases b with
 |false=>
  refine J ?_;exact aA rfl (fail (ao rfl))
 |true=>
  obtain⟨c1,dx,Oj,apz,o1,j1,wa⟩:=jm rfl;have aaK:=aaP (k:=223) c1.2.1 (by omega);have aaL:=aaP (k:=223) dx.2.1 (by omega);refine av 22 ?_;refine aB 22 (.b false) rfl (congrArg aj.b (zad (by omega))) (J ?_);refine cV (fun h=> ?_) (fun h=> ?_)
  ·omega
  refine J ?_;refine a9 abk P ⟨c1.2.1,by show P.length<=_;omega⟩ (J ?_);refine a9 abk Q ⟨dx.2.1,by show Q.length<=_;omega⟩ ?_;refine a9 vp (if n=true then -1 else 1,cd P,cd Q) ⟨acf.1,acf.2,de aaK,de aaL,o1⟩ ?_;refine aB 33 (cT (mkRat (jt n (cd P)) (cd Q))) rfl (by show cT _=_;rw[atn]) (J ?_);refine a9 ary (mkRat (jt n (cd P)) (cd Q)) (jH (zv (by rw[vB];exact aaK) aaL o1)) (av 37 ?_);by_cases aV:o7 (mkRat (jt n (cd P)) (cd Q))=s
  ·refine aB 37 (.b false) rfl (by show aj.b (!(o7 _==s))=_;rw[aV];simp) (J ?_);exact aA rfl (hp (j1 aV))
  ·refine aB 37 (.b true) rfl (by show aj.b (!(o7 _==s))=_;rw[zaM.2 aV];rfl) (J ?_);exact aA rfl (fail (wa aV))
def GA(b:Bool):ac aj:=[.b b]
def jS(c:ce):Bool:=decide (48<=c.toNat∧c.toNat<=57)
def yr:ac Bool:=(List.range 256).map fun j=>decide (48<=j∧j<=57)
def qP:ac aj:=yr.flatMap GA
def ahs{j:Nat}(h:j<256):qP.drop j= .b (decide (48<=j∧j<=57))::qP.drop (j+1):=by
 have e:qP=yr.map aj.b:=by unfold qP;rw[List.map_eq_flatMap];rfl
 have hl:j<yr.length:=by unfold yr;rw[zbB,zef];exact h
 rw[e,<-zeg,<-zeg,hx hl,zaQ];congr 2;simp[yr]
def MY:bU where
 L:=ce
 args:=fun c=>[.ip qP,.i .u8 (c.toNat:Int)]
 pre:=fun _=>True
 res:=fun c=>.b (jS c)
def Xi:bD aX.ctx 399 MY.spec:=by
 refine b3 [] We.1 ?_;intro(c:ce) _ H aN;have hc:c.toNat<256:=c.toNat_lt;refine J ?_;refine hd (aoF rfl rfl hc) ?_;refine aB 8 (.ip (.b (jS c)::qP.drop (c.toNat+1))) rfl (by rw[zbj,ahs hc];rfl) (J ?_);exact aA rfl (.refl _)
def ade:bU where
 L:=ac ce
 args:=fun s=>[.s s,.ip qP]
 pre:=fun s=>s.length<=1073741824
 res:=fun s=>.s (s.dropWhile jS)
def avf:bD aX.ctx 355 ade.spec:=by
 refine b3 [(399,MY.spec)] VS.1 ?_;intro(s:ac ce) (ah:s.length<=_) H aN;refine J ?_;refine df (L:=ac ce) (fun t=>t.dropWhile jS=s.dropWhile jS∧t.length<=s.length) (fun t=>⟨[],0,[(0,.s t),(1,.ip qP)]⟩) List.length [] s ⟨rfl,cf _⟩ (by show s.length<b0+1;unfold b0;omega) dW ?_;rintro t ⟨I,U⟩;cases t with
 |nil=>
  refine J ?_;exact aA rfl (.of (by show aj.s []=aj.s _;rw[<-I];rfl))
 |cons c t=>
  refine av 7 ?_;refine aB 7 (.b true) rfl (by simp) (J ?_);refine o4 c (j:=0) rfl ?_;refine a9 Xi c trivial (J ?_);by_cases hc:jS c=true
  ·refine aB 12 (.b false) rfl (by show aj.b (!jS c)=_;rw[hc];rfl) (J ?_);refine zM (p:=1) t ?_ (hp:=by simp) (hq:=by simp);refine J ?_;exact br [] t ⟨by simp,by rw[<-I,zdB,zab hc],by simp at U;omega⟩ dW
  ·have hc:jS c=false:=by simpa using hc
   refine aB 12 (.b true) rfl (by show aj.b (!jS c)=_;rw[hc];rfl) (J ?_);exact aA rfl (.of (by show aj.s (c::t)=aj.s _;rw[<-I,zdB,zaa (by rw[hc];decide)]))
def oq(s:ac ce):ac ce:=(s.reverse.dropWhile jS).reverse
def ac1(t:ac ce)(c:ce):oq (t++[c])=if jS c=true then oq t else t++[c]:=by
 unfold oq;rw[zcG];show((c::t.reverse).dropWhile jS).reverse=_;rw[zdB];split
 ·rfl
 ·simp
def ads:bU where
 L:=ac ce
 args:=fun s=>[.s s,.ip qP]
 pre:=fun s=>s.length<=1073741824
 res:=fun s=>.s (oq s)
def avi:bD aX.ctx 356 ads.spec:=by
 refine b3 [(399,MY.spec)] VT.1 ?_;intro(s:ac ce) (ah:s.length<=_) H aN;refine J ?_;refine df (L:=ac ce) (fun t=>oq t=oq s∧t.length<=s.length) (fun t=>⟨[],0,[(0,.s t),(1,.ip qP)]⟩) List.length [] s ⟨rfl,cf _⟩ (by show s.length<b0+1;unfold b0;omega) dW ?_;rintro t ⟨I,U⟩;rcases zcy t with rfl|⟨t,c,rfl⟩
 ·refine J ?_;exact aA rfl (.of (by show aj.s []=aj.s _;rw[<-I];rfl))
 ·rw[zcz]at *;have hl:(t++[c]).length=t.length+1:=by simp
  refine av 7 ?_;refine aB 7 (.b true) rfl (by simp) (av 12 ?_);refine aB 12 (.i .i64 (t.length:Nat)) rfl (by rw[hl];exact cX) ?_;refine o4 c (show(t++[c])[t.length]? =some c by simp) ?_;refine a9 Xi c trivial (J ?_);by_cases hc:jS c=true
  ·refine aB 15 (.b false) rfl (by show aj.b (!jS c)=_;rw[hc];rfl) (av 19 ?_);refine aB 19 (.i .i64 (t.length:Nat)) rfl (by rw[hl];exact cX) ?_;refine zM (p:=0) t ?_ (hp:=zaf _) (hq:=by simp);refine J ?_;exact br [] t ⟨by simp,by rw[<-I,ac1,zab hc],by omega⟩ dW
  ·refine aB 15 (.b true) rfl (by show aj.b (!jS c)=_;rw[show jS c=false by simpa using hc];rfl) (J ?_);exact aA rfl (.of (by show aj.s (t++[c])=aj.s _;rw[<-I,ac1,zaa hc]))
def Cz:Nat->ac Bool
 |0=>List.replicate 256 false
 |n+1=>(Cz n).set (48+n) true
theorem acd:∀n,(Cz n).length=256
 |0=>List.length_replicate
 |n+1=>by unfold Cz;rw[zbv];exact acd n
def atk:Cz 10=yr:=by kernel_rfl
def DG:ac ce:=[48,49,50,51,52,53,54,55,56,57]
def ahx(h:i<10):DG[i]? =some (UInt8.ofNat (48+i)):=by
 rcases(show i=0∨i=1∨i=2∨i=3∨i=4∨i=5∨i=6∨i=7∨i=8∨i=9 by omega)with rfl|rfl|rfl|rfl|rfl|rfl|rfl|rfl|rfl|rfl<;>rfl
def Zd:bU where
 L:=Unit
 args:=fun _=>[.s DG]
 pre:=fun _=>True
 res:=fun _=>.bn [.agg qP,.b true]
def ap9:bD aX.ctx 354 Zd.spec:=by
 refine b3 [] VR.1 ?_;intro _ _ H aN;refine av 3 ?_;refine oi 0 GA (Cz 0) ?_;refine J ?_;refine df (L:=Nat) (fun i=>i<=10) (fun(i:Nat)=>⟨[.a 403 false 1 Bool GA (Cz i)],1,[(0,.s DG),(2,.p 0 0),(4,.i .i64 i)]⟩) (fun i=>10-i) [0] 0 (zaf _) (by show 10-0<b0+1;unfold b0;omega) dX ?_;intro(i:Nat) ae;refine J ?_;have hl:((DG.length:Nat):Int)=10:=rfl;refine cV (fun h=> ?_) (fun h=> ?_)
 ·have h:i<10:=by omega
  have hn:(UInt8.ofNat (48+i)).toNat=48+i:=Hj h;refine J ?_;refine o4 (UInt8.ofNat (48+i)) (ahx h) ?_;refine aB 14 (.i .u8 ((48+i:Nat):Int)) rfl (by rw[hn]) (J ?_);refine cV (fun aG=> ?_) (fun aG=> ?_)
  ·omega
  refine J ?_;refine Ka ?_;refine mq true ?_ (hj:=by rw[acd];omega);refine J ?_;exact br [0] (i+1) ⟨by show 10-(i+1)<10-i;omega,h⟩ (fh ⟨rfl,rfl,fI,trivial⟩ ⟨_,rfl,rfl,fun _=>rfl⟩)
 ·have he:i=10:=by omega
  subst he;rw[atk];refine J ?_;refine asg 0 ?_;refine J ?_;exact aA rfl (.of rfl)
def adz:bU where
 L:=ac ce
 args:=fun s=>[.s s,.s DG]
 pre:=fun s=>s.length<=1073741824
 res:=fun s=>.s ((oq s).dropWhile jS)
def au1(s:ac ce):(oq s).length<=s.length:=by
 unfold oq;rw[zaJ,<-(zaJ:s.reverse.length=s.length)];exact(List.dropWhile_sublist _).length_le
def au0:bD aX.ctx 268 adz.spec:=by
 refine b3 [(354,Zd.spec),(356,ads.spec),(355,ade.spec)] Vi.1 ?_;intro(s:ac ce) (ah:s.length<=_) H aN;refine av 9 ?_;by_cases h:s=[]
 ·subst h;refine J ?_;exact aA rfl (.refl _)
 refine aB 9 (.b false) rfl (by rw[zaM.2 h]) (J ?_);refine a9 ap9 () trivial (J ?_);refine oi 0 GA yr ?_;refine asn 5 ?_;refine aB 5 (.ip qP) rfl rfl ?_;refine a9 avi s ah (J ?_);refine a9 avf (oq s) (zag (au1 s) ah) (J ?_);exact aA rfl (.refl _)
theorem drop_nil:∀{s:ac ce},s.dropWhile jS=[]↔∀c∈s,jS c=true
 |[]=>by simp
 |c::s=>by
  rw[zdB];by_cases h:jS c=true
  ·rw[zab h,drop_nil];simp[h]
  ·rw[zaa h];simp[h]
def Yv{c:ce}:jS c=true↔48<=c.toNat∧c.toNat<=57:=by unfold jS;rw[decide_eq_true_iff]
def strip_nil{s:ac ce}:(oq s).dropWhile jS=[]↔jZ s:=by
 rw[drop_nil];unfold jZ;constructor
 ·intro h;have I:oq s=[]:=by
   rcases zcy (oq s)with h0|⟨t,c,h0⟩
   ·exact h0
   ·rw[zcz]at h0;have hc:=h c (by rw[h0];simp);have e:s.reverse.dropWhile jS=c::t.reverse:=by
     have:=congrArg List.reverse h0;unfold oq at this;rw[List.reverse_reverse,zcG]at this;exact this
    have:=List.head_dropWhile_not jS (l:=s.reverse) (by rw[e];simp);simp only[e,List.head_cons]at this;rw[hc]at this;cases this
  unfold oq at I;have U:=drop_nil.1 (List.reverse_eq_nil_iff.1 I);exact fun c hc=>Yv.1 (U c (zeu.2 hc))
 ·intro h;have U:s.reverse.dropWhile jS=[]:=drop_nil.2 fun c hc=>Yv.2 (h c (zeu.1 hc));unfold oq;rw[U];intro c hc;simp at hc
def abY:bU where
 L:=ac ce
 args:=fun s=>[.s s]
 pre:=fun s=>s.length<=1073741824
 res:=fun s=>.b (decide (iy s))
def Qd:bD aX.ctx 155 abY.spec:=by
 refine b3 [(268,adz.spec)] Uy.1 ?_;intro(s:ac ce) (ah:s.length<=_) H aN;refine av 5 ?_;cases s with
 |nil=>
  refine aB 5 (.b false) rfl rfl (J ?_);exact aA rfl (.of (by show aj.b false=aj.b (decide _);rw[zad (fun hb=>hb.1 rfl)]))
 |cons c t=>
  refine aB 5 (.b true) rfl rfl (J ?_);refine a9 au0 (c::t) ah (av 10 ?_);by_cases dZ:jZ (c::t)
  ·refine aB 10 (.b true) rfl (by show aj.b (_==[])=_;rw[strip_nil.2 dZ];rfl) (av 13 ?_);by_cases hb:c::t=[48]
   ·refine aB 13 (.b true) rfl (by rw[hb];rfl) (J ?_);exact aA rfl (.of (by show aj.b true=aj.b (decide _);rw[zae ⟨by simp,dZ,.inl hb⟩]))
   refine aB 13 (.b false) rfl (by rw[zaM.2 hb]) (J ?_);refine o4 c (j:=0) rfl ?_;refine J ?_;refine aA rfl (.of ?_);show aj.b (decide _)=aj.b (decide _);congr 1;rw[decide_eq_decide];constructor
   ·intro h;refine⟨by simp,dZ,.inr fun e=>h ?_⟩;have e:c=48:=by simpa using e
    rw[e];rfl
   ·rintro⟨_,_,h|h⟩ e
    ·exact hb h
    ·exact h (congrArg some (zcn.1 (show c.toNat=48 by omega)))
  ·refine aB 10 (.b false) rfl (by show aj.b (_==[])=_;rw[zaM.2 (mt strip_nil.1 dZ)]) (J ?_);exact aA rfl (.of (by show aj.b false=aj.b (decide _);rw[zad (fun hb=>dZ hb.2.1)]))
theorem Yl:∀s:ac ce,(match ra 47 s with
 |none=>cutAt s=(s,none)
 |some i=>i<s.length∧cutAt s=(s.take i,some (s.drop (i+1))))
 |[]=>rfl
 |c::s=>by
  have ba:=Yl s;have e:ra 47 (c::s)=cond (Nat.beq c.toNat (47:ce).toNat) (some 0) (bp (ra 47 s) (fun i=>some (Nat.succ i)) none):=rfl;by_cases hc:c=47
  ·subst hc;rw[e,show Nat.beq (47:ce).toNat (47:ce).toNat=true from rfl];exact⟨zdt _,rfl⟩
  ·have hb:Nat.beq c.toNat (47:ce).toNat=false:=by
    rw[zbG];exact fun h=>hc (zcn.1 (dI h))
   have e2:cutAt (c::s)=(c::(cutAt s).1,(cutAt s).2):=zaa hc;rw[e,hb,cond_false];cases h:ra 47 s with
   |none=>
    rw[h]at ba;show cutAt (c::s)=_;rw[e2,show cutAt s=(s,none)from ba]
   |some i=>
    rw[h]at ba;obtain⟨I,U⟩:=ba;show i+1<s.length+1∧cutAt (c::s)=_;rw[e2,U];exact⟨by omega,rfl⟩
def XT:bU where
 L:=ac ce
 args:=fun s=>[.s s,.s [45]]
 pre:=fun s=>s.length<=1073741824
 res:=fun s=>.b (ec s).1
def anN:bD aX.ctx 281 XT.spec:=by
 refine b3 [] Vt.1 ?_;intro(s:ac ce) (ah:s.length<=_) H aN;refine av 10 ?_;cases s with
 |nil=>
  refine aB 10 (.b false) rfl rfl (J ?_);exact aA rfl (.refl _)
 |cons c t=>
  refine aB 10 (.b true) rfl (by simp;omega) (J ?_);refine zM (p:=0) (q:=1) [c] ?_ (hq:=by simp);refine J ?_;refine aA rfl (.of ?_);show aj.b ([c]==[45])=aj.b (ec (c::t)).1;by_cases hc:c=45
  ·subst hc;rfl
  ·rw[show ec (c::t)=(false,c::t)from zaa hc,zaM.2 (by simpa using hc)]
def G8:bU where
 L:=ac ce
 args:=fun s=>[.s s,.s [45]]
 pre:=fun s=>s.length<=1073741824
 res:=fun s=>.bn [.s (ec s).2,.b (ec s).1]
def afZ:bD aX.ctx 266 G8.spec:=by
 refine b3 [(281,XT.spec)] Vg.1 ?_;intro(s:ac ce) (ah:s.length<=_) H aN;refine J ?_;refine a9 anN s ah (J ?_);cases s with
 |nil=>
  refine J ?_;exact aA rfl (.refl _)
 |cons c t=>
  by_cases hc:c=45
  ·subst hc;refine aB 9 (.b false) rfl rfl (J ?_);refine zM (p:=1) t ?_ (hp:=by simp) (hq:=by simp);refine J ?_;exact aA rfl (.refl _)
  ·have aM:ec (c::t)=(false,c::t):=zaa hc;refine aB 9 (.b true) rfl (by show aj.b (!(ec (c::t)).1)=_;rw[aM];rfl) (J ?_);exact aA rfl (.of (by show aj.bn _=aj.bn [.s (ec (c::t)).2,.b (ec (c::t)).1];rw[aM]))
def afY:bD aX.ctx 153 G8.spec:=by
 refine b3 [(266,G8.spec)] Uw.1 ?_;intro(s:ac ce) (ah:s.length<=_) H aN;refine J ?_;refine a9 afZ s ah (J ?_);exact aA rfl (.refl _)
def Yz:bU where
 L:=ac ce
 args:=fun s=>[.s s,.i .u8 47]
 pre:=fun s=>s.length<=1073741824
 res:=fun s=>.i .i64 (u1 47 s)
def ao9:bD aX.ctx 282 Yz.spec:=by
 refine b3 [] Vu.1 ?_;intro(s:ac ce) (ah:s.length<=_) H aN;refine J ?_;refine hd (aoJ (c:=47) rfl rfl) ?_;refine J ?_;exact aA rfl (.refl _)
def Yy:bU where
 L:=ac ce
 args:=fun s=>[.s s,.s [47]]
 pre:=fun s=>s.length<=1073741824
 res:=fun s=>.i .i64 (u1 47 s)
def ao8:bD aX.ctx 280 Yy.spec:=by
 refine b3 [(282,Yz.spec)] Vs.1 ?_;intro(s:ac ce) (ah:s.length<=_) H aN;refine J ?_;by_cases h:[47]=s
 ·refine aB 16 (.b true) rfl (by rw[<-h];rfl) (J ?_);exact aA rfl (.of (by show aj.i _ 0=aj.i _ (u1 47 s);rw[<-h];rfl))
 refine aB 16 (.b false) rfl (by rw[zaM.2 h]) (J ?_);refine o4 47 (j:=0) rfl ?_;refine a9 ao9 s ah (J ?_);exact aA rfl (.refl _)
def pV(s:ac ce):aj:=match(cutAt s).2 with
 |none=>.bn [.s s,.s [],.b false]
 |some q=>.bn [.s (cutAt s).1,.s q,.b true]
def DD:bU where
 L:=ac ce
 args:=fun s=>[.s s,.s [47]]
 pre:=fun s=>s.length<=1073741824
 res:=fun s=>pV s
def ag3:bD aX.ctx 267 DD.spec:=by
 refine b3 [(280,Yy.spec)] Vh.1 ?_;intro(s:ac ce) (ah:s.length<=_) H aN;have ae:=Yl s;have fin:∀{r},pV s=r->b7 r (DD.res s):=fun h=>.of h.symm;unfold pV at fin;refine J ?_;refine a9 ao8 s ah ?_;cases aa:ra 47 s with
 |none=>
  rw[aa]at ae;have ae:cutAt s=(s,none):=ae;rw[ae]at fin;refine aB 10 (.i .i64 (-1)) rfl (by show aj.i _ (u1 47 s)=_;unfold u1;rw[aa]) (J ?_);exact aA rfl (fin rfl)
 |some i=>
  rw[aa]at ae;obtain⟨I,U⟩:i<s.length∧cutAt s=(s.take i,some (s.drop (i+1))):=ae;rw[U]at fin;refine aB 10 (.i .i64 (i:Nat)) rfl (by show aj.i _ (u1 47 s)=_;unfold u1;rw[aa]) (J ?_);refine Hf (s.take i) ?_ (hl:=by simp);refine av 20 ?_;refine eU 20 (.i .i64 ((i+1:Nat):Int)) rfl rfl (cX (by simp) (by simp;omega) (by simp;omega)) ?_;refine Hf (s.drop (i+1)) ?_ (hl:=zau (by simp));refine J ?_;exact aA rfl (fin rfl)
def ag1:bD aX.ctx 154 DD.spec:=by
 refine b3 [(267,DD.spec)] Ux.1 ?_;intro(s:ac ce) (ah:s.length<=_) H aN;refine J ?_;refine a9 ag3 s ah ?_;cases aa:(cutAt s).2 with
 |none=>
  refine aB 9 (.bn [.s s,.s [],.b false]) rfl (by show pV s=_;unfold pV;rw[aa]) (J ?_);exact aA rfl (.of (by show _=pV s;unfold pV;rw[aa]))
 |some q=>
  refine aB 9 (.bn [.s (cutAt s).1,.s q,.b true]) rfl (by show pV s=_;unfold pV;rw[aa]) (J ?_);exact aA rfl (.of (by show _=pV s;unfold pV;rw[aa]))
def arh:ac aj:=(List.range 20).map fun k=>.i .u64 ((10^k:Nat):Int)
def C2(H:bm):Prop:=∃vs el bk bc,H 5=some (.cells vs el bk bc)∧∀a2,c4 a2 arh [] vs
def C2.up{H a2:bm}(h:dm H a2):C2 H->C2 a2:=fun⟨vs,el,bk,bc,I,U⟩=>⟨vs,el,bk,bc,h _ _ I,U⟩
