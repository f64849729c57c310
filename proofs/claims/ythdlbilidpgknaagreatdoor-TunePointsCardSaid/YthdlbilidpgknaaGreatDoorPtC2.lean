/- What the functions of the program and of the document compute, for every input (part 2); conditions as in the statements. -/
import Derived.Test.YthdlbilidpgknaaGreatDoorPtC1
import Derived.Test.YthdlbilidpgknaaGreatDoorPtS1
import Derived.Test.YthdlbilidpgknaaGreatDoorPtL
import Derived.Test.YthdlbilidpgknaaGreatDoorPtS2
noncomputable section
set_option linter.all false
namespace Go.ak.a2
open Go.ak
set_option maxRecDepth 100000
set_option maxHeartbeats 4000000
variable{k:Nat}
def yE:bc where
 L:=Int×Int
 args:=fun(e,p)=>[hz e p]
 pre:=fun(e,p)=>True
 res:=fun(e,p)=>.i .i64 (if b0 e p then 0 else 2)
def El:a6 aS.ctx 135 yE.spec:=by
 refine bq [] SN.1 ?_;intro⟨e,p⟩ _ H aH;have bad:¬b0 e p->bY (.i .i64 2) (yE.res (e,p)):=fun h=>.of (by show _=ah.i .i64 (if _ then _ else _);rw[zaa h]);refine an 5 ?_;by_cases J:e<2
 ·refine dG 5 J (I ?_);exact au rfl (bad (by unfold b0;omega))
 refine dW 5 J (an 9 ?_);by_cases U:11<e
 ·refine dG 9 U (I ?_);exact au rfl (bad (by unfold b0;omega))
 refine dW 9 U (an 14 ?_);by_cases af:p<2
 ·refine dG 14 af (I ?_);exact au rfl (bad (by unfold b0;omega))
 refine dW 14 af (an 19 ?_);by_cases ax:113<p
 ·refine dG 19 ax (I ?_);exact au rfl (bad (by unfold b0;omega))
 refine dW 19 ax (an 26 ?_);refine ag 26 (.i .i64 (e+p)) rfl (bo rfl (by omega) (by omega)) (an 27 ?_);by_cases a0:e+p<5
 ·refine dG 27 a0 (I ?_);exact au rfl (bad (by unfold b0;omega))
 refine dW 27 a0 (I ?_);exact au rfl (.of (by show _=ah.i .i64 (if _ then _ else _);rw[zab (by unfold b0;omega)]))
def yD:bc where
 L:=Int×Int
 args:=fun(e,p)=>[hz e p]
 pre:=fun(e,p)=>b0 e p
 res:=fun(e,p)=>.i .i64 (ch e)
def A7:a6 aS.ctx 252 yD.spec:=by
 refine bq [] T4.1 ?_;intro⟨e,p⟩ ⟨J,U,af,ax,a0⟩ H aH;obtain⟨n,hn⟩:∃n:Nat,e=(n:Int)+1:=⟨(e-1).toNat,by omega⟩;subst hn;have IE:∀i:Nat,i<=10->1<=2^i∧2^i<=1024:=fun i hi=>⟨zag i,zax (by decide) hi⟩;refine I ?_;refine df (L:=Nat) (fun i=>i<=n) (fun(i:Nat)=>⟨[.c 76 [.i .i64 ((n:Int)+1),.i .i64 p]],1,[(1,.p 0 0),(3,.i .i64 ((2^i:Nat):Int)),(4,.i .i64 ((i:Int)+1))]⟩) (fun i=>n-i) [0] 0 (zaf _) (by show n-0<bT+1;unfold bT;omega) du ?_;intro(i:Nat) hi;have hp:=IE i (by omega);refine I ?_;refine cf (fun h=> ?_) (fun h=> ?_)
 ·refine I ?_;refine ba [0] (i+1) ⟨by show n-(i+1)<n-i;omega,by show i+1<=n;omega⟩ (dK ⟨rfl,?_,?_,trivial⟩ ⟨_,rfl,rfl⟩)
  ·exact congrArg (fun n=>some (ah.i .i64 n)) (uX (by rw[zak];omega) (by omega) (by omega))
  ·exact congrArg (fun n=>some (ah.i .i64 n)) (uX (by omega) (by omega) (by omega))
 ·have he:i=n:=by omega
  subst he;refine I ?_;refine au rfl (.of (congrArg (ah.i .i64) (uX ?_ (by omega) (by omega))));unfold ch;rw[show((i:Int)+1-1).toNat=i by omega,zeG];rfl
def pw(n:Nat):dy (n+1) (2^n):=hL (by decide) (fy (Nat.pow_lt_pow_right (by decide) (zce n)) (zdo (by decide) (n+1)))
def ct{l a:Nat}(h:dy k a)(hl:k<=l):dy l a:=zaj h hl
def IZ(k:Nat):bc where
 L:=Nat
 args:=fun n=>[.i .i64 n]
 pre:=fun n=>n<k∧n<=1000000000
 res:=fun n=>cS (2^n)
theorem I0:∀k:Nat,a6 aS.ctx 337 (IZ k).spec
 |0=>by
  refine bq [(77,uC.spec)] LL.1 ?_;intro(n:Nat) h H aH;exact absurd h.1 (zdC _)
 |k+1=>by
  have a8:=I0 k;refine bq [(77,uC.spec),(337,(IZ k).spec),(74,wz.spec),(81,Ei.spec)] LL.1 ?_;intro(n:Nat) ⟨(J:n<k+1),(U:n<=1000000000)⟩ H aH;refine I ?_;refine cf (fun h=> ?_) (fun h=> ?_)
  ·have h:n=0:=by omega
   subst h;refine I ?_;refine aC rF () trivial (I ?_);exact au rfl (.refl _)
  have h:n≠0:=by omega
  refine an 9 ?_;refine ag 9 (.i .i64 ((n/2:Nat):Int)) rfl (by show ah.i _ (IntKind.i64.wrap ((n/2:Nat):Int))=_;exact bo rfl (by omega) (by omega)) ?_;refine aC a8 (n/2) ⟨by show n/2<k;omega,by show n/2<=_;omega⟩ (I ?_);have hq:=pw (n/2);refine aC oA (2^(n/2),2^(n/2)) ⟨ct hq (by omega),ct hq (by omega)⟩ (an 15 ?_);refine ag 15 (.i .i64 ((n%2:Nat):Int)) rfl rfl ?_;have e:2^(n/2)*2^(n/2)=2^(n/2+n/2):=(zal 2 _ _).symm;have vL:dy 1073741824 (2^(n/2)*2^(n/2)):=by rw[e];exact ct (pw _) (by omega)
  refine I ?_;refine cf (fun h=> ?_) (fun h=> ?_)
  ·have h:n%2=1:=by omega
   refine I ?_;refine aC IF (2^(n/2)*2^(n/2),2^(n/2)*2^(n/2)) ⟨vL,vL⟩ (I ?_);refine au rfl (.of (congrArg cS ?_));show 2^(n/2)*2^(n/2)+2^(n/2)*2^(n/2)=2^n;rw[e,<-Nat.two_mul,<-Nat.pow_succ'];congr 1;omega
  ·have h:n%2=0:=by omega
   refine I ?_;refine au rfl (.of (congrArg cS ?_));show 2^(n/2)*2^(n/2)=2^n;rw[e];congr 1;omega
def A6:bc where
 L:=Rat
 args:=fun x=>[bg x]
 pre:=fun _=>True
 res:=fun x=>bg (fD x)
def Eh:a6 aS.ctx 248 A6.spec:=by
 refine bq [] TZ.1 ?_;intro(x:Rat) _ H aH;refine I ?_;refine au rfl (.of ?_);show ah.agg [.i _ (IntKind.i64.wrap (x.num.sign*x.num.sign)),cS x.num.natAbs,c4 (if x.num=0 then[]else aT 1000000000 x.den)]=ah.agg [.i _ _,cS (fD x).num.natAbs,c4 (if(fD x).num=0 then[]else aT 1000000000 (fD x).den)];rw[(mN x).1,(mN x).2,zaq];have e:IntKind.i64.wrap (x.num.sign*x.num.sign)=((x.num.natAbs:Nat):Int).sign:=by
  rcases(show x.num<0∨x.num=0∨0<x.num by omega)with h|h|h
  ·rw[zbx h,zby (by omega)];rfl
  ·rw[h];rfl
  ·rw[zby h,zby (by omega)];rfl
 rw[e];by_cases h:x.num=0
 ·rw[h];rfl
 ·rw[zaa h,zaa (by omega)]
def FF{n:Nat}:n<2^k↔bI n<=k:=⟨FG,fun h=>by
 by_cases h0:n=0
 ·subst h0;exact zag k
 ·exact fy (qP h0).2 (zax (by decide) h)⟩
def Q7{n:Nat}:29*((aT 1000000000 n).length-1)<=bI n∧bI n<=30*(aT 1000000000 n).length:=by
 constructor
 ·refine zcx fun h=> ?_;have hl:0<(aT 1000000000 n).length:=by omega
  have J:=(xo (b:=1000000000) (n:=n) (i:=(aT 1000000000 n).length-1) (by decide)).1 (by omega);have U:1000000000^((aT 1000000000 n).length-1)<=n:=zcx fun aB=>J (zaX aB);have af:(2^29)^((aT 1000000000 n).length-1)<=1000000000^((aT 1000000000 n).length-1):=zdo (by decide) _;rw[<-zbD]at af;have:=FF.2 (zbf h);omega
 ·refine FG (fy (r3 (b5 _)) ?_);rw[zbD];exact zdo (by decide) _
def ZZ:bc where
 L:=Nat
 args:=fun n=>[cS n]
 pre:=fun n=>dy 30000000 n
 res:=fun n=>.i .i64 (bI n:Nat)
def Z0:a6 aS.ctx 387 ZZ.spec:=by
 refine bq [(337,(IZ 1000000001).spec),(155,sL.spec)] U2.1 ?_;intro(n:Nat) (hn:(aT _ n).length<=_) H aH;obtain⟨cD,db⟩:= @Q7 n;obtain⟨l,hl⟩:∃l,l=(aT 1000000000 n).length:=⟨_,rfl⟩;rw[<-hl]at cD db hn;refine an 9 ?_;rw[<-hl];refine ag 9 (.i .i64 (29*((l:Int)-1))) rfl (congrArg (ah.i .i64) (by rw[gd (n:=(l:Int)-1) (by omega) (by omega)];exact uX rfl (by omega) (by omega))) (an 10 ?_);refine ag 10 (.i .i64 ((29*(l-1):Nat):Int)) rfl (congrArg (ah.i .i64) (by omega)) (an 13 ?_)
 try rw[<-hl]
 refine ag 13 (.i .i64 ((30*l:Nat):Int)) rfl bo (I ?_);refine df (L:=Nat×Nat) (fun(aL,hi)=>aL<=bI n∧bI n<=hi∧hi<=900000000) (fun((aL:Nat),(hi:Nat))=>⟨[],0,[(0,cS n),(3,.i .i64 aL),(4,.i .i64 hi)]⟩) (fun l=>l.2-l.1) [] (29*(l-1),30*l) ⟨cD,db,by omega⟩ (by show 30*l-29*(l-1)<bT+1;unfold bT;omega) ew ?_;rintro⟨aL,hi⟩ ⟨J,U,af⟩;refine I ?_;refine cf (fun h=> ?_) (fun h=> ?_)
 ·have h:aL<hi:=by omega
  refine an 19 ?_;refine ag 19 (.i .i64 ((aL+hi:Nat):Int)) rfl bo (an 20 ?_);refine ag 20 (.i .i64 (((aL+hi)/2:Nat):Int)) rfl (by show ah.i _ (IntKind.i64.wrap (((aL+hi)/2:Nat):Int))=_;exact bo rfl (by omega) (by omega)) (I ?_);refine aC (I0 1000000001) ((aL+hi)/2) ⟨by show(aL+hi)/2<_;omega,by show(aL+hi)/2<=_;omega⟩ ?_;refine aC rC (n,2^((aL+hi)/2)) ⟨by show(aT _ n).length<=_;omega,ct (pw _) (by omega)⟩ (I ?_);refine cf (fun hc=> ?_) (fun hc=> ?_)
  ·have hc:=FF.1 (zy hc);refine I ?_;exact ba [] (aL,(aL+hi)/2) ⟨by show(aL+hi)/2-aL<hi-aL;omega,J,hc,by omega⟩ ew
  ·have hc:(aL+hi)/2<bI n:=Nat.lt_of_not_le fun aB=>Nat.not_lt.2 (zz hc) (FF.2 aB);refine I ?_;exact ba [] ((aL+hi)/2+1,hi) ⟨by show hi-((aL+hi)/2+1)<hi-aL;omega,hc,U,af⟩ (iC ⟨rfl,eC,rfl,trivial⟩)
 ·have he:aL=bI n:=by omega
  refine I ?_;exact au rfl (.of (by rw[he];rfl))
def cq(k:Nat)(x:Rat):Prop:=dy k x.num.natAbs∧dy k x.den
variable{x:Rat}{a b d:Nat}{y:Rat}{l r n p q:Nat}{s:Int}
def lj(aY:dy k a)(hb:dy l b):dy (k+l) (a*b):=hL (by decide) (by rw[zal];exact zeA (r3 aY) (r3 hb))
def px:bc where
 L:=Rat×Rat
 args:=fun(x,y)=>[bg x,bg y]
 pre:=fun(x,y)=>cq 268435456 x∧cq 268435456 y
 res:=fun(x,y)=>.i .i64 (ho x y)
def uM(n:Int): -1<=n.sign∧n.sign<=1:=by
 rcases(show n<0∨n=0∨0<n by omega)with h|h|h
 ·rw[zbx h];decide
 ·rw[h];decide
 ·rw[zby h];decide
def py:a6 aS.ctx 79 px.spec:=by
 refine bq [(75,uB.spec),(74,wz.spec),(155,sL.spec)] VD.1 ?_;intro⟨x,y⟩ ⟨(aa:cq _ x),(aF:cq _ y)⟩ H aH;obtain⟨ee,fa,n6⟩:=Rr x y;have gy:=uM x.num;have mJ:=uM y.num;refine I ?_;refine cf (fun h=> ?_) (fun h=> ?_)
 ·refine I ?_;exact au rfl (.of (by show ah.i .i64 (-1)=ah.i .i64 (ho x y);rw[ee h]))
 refine I ?_;refine cf (fun J=> ?_) (fun J=> ?_)
 ·refine I ?_;exact au rfl (.of (by show ah.i .i64 1=ah.i .i64 (ho x y);rw[fa J]))
 have he:x.num.sign=y.num.sign:=by omega
 refine I ?_;refine aZ oz y trivial (I ?_);refine aZ oA (x.num.natAbs,y.den) ⟨ct aa.1 (by decide),ct aF.2 (by decide)⟩ (I ?_);refine aZ oz x trivial (I ?_);refine aZ oA (y.num.natAbs,x.den) ⟨ct aF.1 (by decide),ct aa.2 (by decide)⟩ (I ?_);refine aZ rC (x.num.natAbs*y.den,y.num.natAbs*x.den) ⟨ct (lj aa.1 aF.2) (by decide),ct (lj aF.1 aa.2) (by decide)⟩ (I ?_);refine au rfl (.of ?_);show ah.i .i64 (IntKind.i64.wrap (x.num.sign*hJ _ _))=ah.i .i64 (ho x y);rw[n6 he];refine congrArg _ (uX rfl ?_ ?_)
 all_goals
  have ai:x.num.sign= -1∨x.num.sign=0∨x.num.sign=1:=by omega
  unfold hJ;rcases ai with h|h|h<;>rw[h]<;>split<;>(try split)<;>decide
def IJ:bc where
 L:=Nat×Nat
 args:=fun(a,b)=>[cS a,cS b]
 pre:=fun(a,b)=>dy 268435456 a∧dy 268435456 b∧b≠0
 res:=fun(a,b)=>.bu [cS (a/b),cS (a%b)]
def apo{W m:Nat}(hb:(aT 1000000000 b).length=m+1)(gG:b<=W)(a4:W<1000000000*b):
 0<b/1000000000^m∧b/1000000000^m<1000000000∧W/1000000000^m/(b/1000000000^m+1)<=W/b∧W/b<=min ((W/1000000000^m+1)/(b/1000000000^m)) 999999999∧W/1000000000^m<1000000000*1000000000∧0<W/b∧W<1000000000^(m+2):=by
 have k4:0<b:=by
  refine zaV fun e=> ?_;rw[e,ft]at hb;simp at hb
 have fP:0<1000000000^m:=zcu (by decide);have J:=(xo (b:=1000000000) (n:=b) (i:=m) (by decide)).1 (by omega);have U:=F1 (b:=1000000000) (by decide) (zcZ hb);have o0:b=b/1000000000^m*1000000000^m+b%1000000000^m:=by rw[zai];exact(zaN _ _).symm
 have R1:W=W/1000000000^m*1000000000^m+W%1000000000^m:=by rw[zai];exact(zaN _ _).symm
 have tC:W<1000000000^(m+2):=by
  rw[show m+2=(m+1)+1 from rfl,zak,zai];exact fy a4 (lp _ (zbf U))
 refine⟨zaV J,?_,ajI o0 (zae _ fP) R1 k4,?_,?_,zdk gG k4,tC⟩
 ·exact zdR (by rwa [zak]at U)
 ·have af:=ajH o0 (zae W fP) R1 (zaV J) fP;have ax:W/b<1000000000:=zdR (by rw[zai];exact a4);omega
 ·refine zdR ?_;rw[show m+2=m+(1+1)from rfl,zal,zal,Nat.pow_one]at tC;exact tC
def xp(h0:d≠0)(h:d<1000000000):aT 1000000000 d=[d]:=by
 rw[nv (by decide) h0,dH h,zaX h,ft]
def PB(h:d<1000000000):eF (d::aT 1000000000 r)=aT 1000000000 (d+1000000000*r):=by
 rw[yV (b:=1000000000) (by decide) (fun x aa=>by
  rcases zar.1 aa with rfl|aa
  ·exact h
  ·exact fW (by decide) r x aa)]
 simp only[val];rw[fE (by decide)]
def Rt:hJ a b<=0↔a<=b:=by
 unfold hJ;split
 ·omega
 ·split<;>omega
def apm(h:r<b)(hb:dy k b):dy k r:=hL (by decide) (zcO h (r3 hb))
def apn{i:Nat}{dh:ac Nat}:(List.replicate (i+1) 0++dh).set i d=List.replicate i 0++d::dh:=by
 rw[List.replicate_succ',zbW,List.set_append_right _ _ (by simp)];simp
def Oy(xs dh:ac Nat)(b m i W:Nat)(e:bX):cW:=⟨[.a 2 false 1 Nat fO (List.replicate (i+1) 0++dh)],1,(0,c4 xs)::(1,c4 (aT 1000000000 b))::(6,.bj 0 1 0 xs.length xs.length)::(7,.i .i64 ((m+1:Nat):Int))::(8,cS W)::(9,.i .i64 i)::e⟩
def IK:a6 aS.ctx 80 IJ.spec:=by
 refine bq [(157,wC.spec),(155,sL.spec),(74,wz.spec),(158,I6.spec)] VE.1 ?_;intro⟨a,b⟩ ⟨(aY:(aT _ a).length<=_),(hb:(aT _ b).length<=_),(k4:b≠0)⟩ H aH;have J:=fW (b:=1000000000) (by decide) a;have iF:=fE (b:=1000000000) (by decide) a;obtain⟨m,hm⟩:∃m,(aT 1000000000 b).length=m+1:=⟨(aT 1000000000 b).length-1,by
  have:(aT 1000000000 b).length≠0:=fun e=>k4 ((nu (by decide)).1 (zbz e));omega⟩
 have z0:=ab3 (b:=1000000000) (by decide) hm;show a1.ok _ ⟨_,_,⟨_,_,[(0,c4 (aT 1000000000 a)),(1,c4 (aT 1000000000 b))]⟩⟩;generalize x3:aT 1000000000 a=xs at *;refine I ?_;refine pz fO 0 ?_;refine I ?_;rw[hm];refine Bj 8 (c4 []) rfl bY.nl ?_;refine ag 8 (cS 0) rfl (by unfold cS;rw[ft]) ?_;refine df (L:=Nat×ac Nat×Nat) (fun(k,dh,r)=>k+dh.length=xs.length∧cX 1000000000 dh∧r<b∧val 1000000000 (xs.drop k)=val 1000000000 dh*b+r)
  (fun((k:Nat),(dh:ac Nat),(r:Nat))=>⟨[.a 2 false 1 Nat fO (List.replicate k 0++dh)],1,[(0,c4 xs),(1,c4 (aT 1000000000 b)),(6,.bj 0 1 0 xs.length xs.length),(7,.i .i64 ((m+1:Nat):Int)),(8,cS r),(9,.i .i64 ((k:Int)-1))]⟩)
  (fun l=>l.1) [0] (xs.length,[],0) ⟨by simp,fun x aa=>by simp at aa,by omega,by simp[val]⟩ (by show xs.length<bT+1;unfold bT;omega) ?_ ?_
 ·exact dK ⟨rfl,rfl,rfl,rfl,rfl,eC,trivial⟩ ⟨_,rfl,by simp,fun _=>rfl⟩
 rintro⟨k,dh,r⟩ ⟨ab,bE,hr,aI⟩;cases k with
 |zero=>
  refine I ?_;refine jh 99 ?_;refine aC wD dh (by show dh.length<=_;omega) (I ?_);refine au rfl (.of ?_);show ah.bu [c4 (eF dh),cS r]=ah.bu [cS (a/b),cS (a%b)];rw[zap,iF]at aI;have aq:=Nat.div_mod_unique (zaV k4) (a:=a) (c:=r) (d:=val 1000000000 dh);obtain⟨aw,e2⟩:=aq.2 ⟨by rw[aI,zai];exact zbt _ _,hr⟩;rw[yV (by decide) bE,aw,e2];rfl
 |succ i=>
  have aa:i<xs.length:=by omega
  have la:=J _ (ea aa);obtain⟨W,gG⟩:∃W,W=xs[i]+1000000000*r:=⟨_,rfl⟩;have akh:W<1000000000*b:=by omega
  have tV:∀q dJ:Nat,q*b+dJ=W->val 1000000000 (xs.drop i)=val 1000000000 (q::dh)*b+dJ:=fun q dJ h=>by
   rw[hk aa];simp only[val];rw[aI,zan,zaz,zat];omega
  have MK:=apm hr hb;refine ag 9 (.i .i64 (i:Nat)) rfl dY (I ?_);refine ag 23 (.b true) rfl (by simp) (an 26 ?_);refine fK (L:=Unit) (fun _=>True) (fun _=>Oy xs dh b m i W []) ?_ ?_
  ·refine I ?_;refine ep xs[i] (bV aa) ?_;refine I ?_;refine mD 1 fO [xs[i]] ?_;by_cases kb:r=0
   ·subst kb;refine ag 31 (c4 []) rfl (by unfold cS;rw[ft]) ?_;refine apS (R:=fO) (JG rfl (fun _=>rfl) (fun _=>rfl)) ?_;refine jh 32 ?_;refine aC wD [xs[i]] (by show 1<=_;decide) (I ?_);refine ba [0] () trivial (dK ⟨rfl,rfl,rfl,rfl,congrArg (fun l=>some (c4 l)) ?_,rfl,trivial⟩ ⟨_,rfl,rfl,fun _=>rfl⟩);have:=PB (d:=xs[i]) (r:=0) la;rw[ft]at this;rw[gG];exact this
   ·have cx:aT 1000000000 r≠[]:=fun e=>kb ((nu (by decide)).1 e);have hl:0<(aT 1000000000 r).length:=zbg.2 cx;have MK:(aT 1000000000 r).length<=268435456:=MK;refine aav (R:=fO) (aT 1000000000 r) (JG rfl (fun _=>rfl) (fun _=>rfl)) (xs[i]::aT 1000000000 r) ?_ (h0:=cx);refine jh 32 ?_;refine aC wD (xs[i]::aT 1000000000 r) (by show(aT _ r).length+1<=_;omega) (I ?_);refine ba [0] () trivial (dK ⟨rfl,rfl,rfl,rfl,congrArg (fun l=>some (c4 l)) ?_,rfl,trivial⟩ ⟨_,rfl,rfl,fun _=>rfl⟩);rw[gG];exact PB la
  intro _ _;have LX:dy 268435457 W:=by
   have:=PB (d:=xs[i]) (r:=r) la;have U:=acf (xs[i]::aT 1000000000 r);rw[this,<-gG]at U;exact zaj U (Nat.succ_le_succ MK)
  refine I ?_;refine aC rC (W,b) ⟨ct LX (by decide),ct hb (by decide)⟩ (I ?_);refine cf (fun h=> ?_) (fun h=> ?_)
  ·have h:W<b:=zy h;refine I ?_;refine ba [0] (i,0::dh,W) ⟨by simp,by simp;omega,?_,h,tV 0 W (by omega)⟩ (dK ⟨rfl,rfl,rfl,rfl,rfl,eC,trivial⟩ ⟨_,rfl,by rw[List.replicate_succ',zbW];rfl,fun _=>rfl⟩);intro x aa;rcases zar.1 aa with rfl|aa
   ·decide
   ·exact bE x aa
  have lD:b<=W:=zz h;obtain⟨t1,t2,t3,t4,t5,t6,t7⟩:=apo hm lD akh;have EV:m<(aT 1000000000 W).length:=(xo (by decide)).2 (by have:=Nat.div_le_div_right (c:=1000000000^m) lD;omega);have avm:=hL (b:=1000000000) (by decide) t7;have PE:∃hT:Nat,(aT 1000000000 W)[m]? =some hT∧(((aT 1000000000 W).length=m+1∧hT=W/1000000000^m)∨((aT 1000000000 W).length=m+2∧∃y:Nat,(aT 1000000000 W)[m+1]? =some y∧hT+1000000000*y=W/1000000000^m)):=by
   rcases(show(aT 1000000000 W).length=m+1∨(aT 1000000000 W).length=m+2 by omega)with h|h
   ·exact⟨_,ab3 (by decide) h,.inl ⟨h,rfl⟩⟩
   ·obtain⟨aM,aN,bf⟩:=asS (b:=1000000000) (by decide) (show m+1<_ by omega) t7;exact⟨_,aM,.inr ⟨h,_,aN,bf⟩⟩
  generalize Ho:b/1000000000^m=v at *;generalize eg:W/1000000000^m=w at *;obtain⟨hT,x2,PE⟩:=PE;refine I ?_;refine ag 40 (.i .i64 (m:Nat)) rfl bo (I ?_);refine ep hT x2 ?_;refine an 10 ?_
  iterate 3 refine ha ?_
  refine fK (L:=Unit) (fun _=>True) (fun _=>Oy xs dh b m i W [(10,.i .i64 (w:Nat))]) ?_ ?_
  ·refine I ?_;rcases PE with⟨aM,aN⟩|⟨aM,y,aN,bf⟩
   ·refine ag 46 (.b false) rfl (by rw[aM];simp) (I ?_);exact ba [0] () trivial (dK ⟨rfl,rfl,rfl,rfl,rfl,rfl,by rw[<-aN];rfl,trivial⟩ ⟨_,rfl,rfl,fun _=>rfl⟩)
   ·refine ag 46 (.b true) rfl (by rw[aM];simp) (I ?_);refine ep y aN ?_;refine I ?_;refine ba [0] () trivial (dK ⟨rfl,rfl,rfl,rfl,rfl,rfl,?_,trivial⟩ ⟨_,rfl,rfl,fun _=>rfl⟩);exact congrArg (fun n=>some (ah.i .i64 n)) (by rw[gd (n:=1000000000*(y:Int)) (by omega) (by omega),gd (by omega) (by omega)];omega)
  intro _ _;refine I ?_;refine cm 57 (.i .i64 (m:Nat)) rfl rfl bo ?_;refine hK v z0 ?_;refine an 60 ?_;refine cm 60 (.i .i64 ((v+1:Nat):Int)) rfl rfl bo ?_;refine RI ?_;refine an 63 ?_;refine cm 63 (.i .i64 ((w+1:Nat):Int)) rfl rfl bo ?_;refine an 66 ?_;refine cm 66 (.i .i64 (m:Nat)) rfl rfl bo ?_;refine hK v z0 ?_;refine I ?_;refine RI ?_;refine an 70 ?_;obtain⟨aL,fH⟩:∃aL,aL=w/(v+1):=⟨_,rfl⟩;obtain⟨hi,gu⟩:∃hi,hi=min ((w+1)/v) 999999999:=⟨_,rfl⟩;rw[<-fH]at t3;rw[<-gu]at t4;refine cm 61 (.i .i64 (aL:Nat)) rfl rfl (by rw[fH]) ?_;refine cm 70 (.i .i64 (hi:Nat)) rfl rfl (by rw[gu];exact dY (by generalize(w+1)/v=u;omega)) ?_;have ak6:hi<=999999999:=by generalize(w+1)/v=u at *;omega
  have anT:∀d:Nat,d≠0->d<1000000000->dy 268435457 (b*d):=fun d h0 h=>lj (k:=268435456) (l:=1) hb (by show(aT _ d).length<=1;rw[xp h0 h];exact b5 _);generalize o6:W/b=q at *;have gR:0<b:=zaV k4;refine I ?_;refine df (L:=Nat×Nat) (fun(l,h)=>l<=q∧q<=h∧h<=999999999) (fun((l:Nat),(h:Nat))=>Oy xs dh b m i W [(11,.i .i64 l),(12,.i .i64 h)]) (fun l=>l.2-l.1) [0] (aL,hi) ⟨t3,t4,ak6⟩ (by show hi-aL<bT+1;unfold bT;omega) du ?_;rintro⟨l,h⟩ ⟨aM,aN,bf⟩;refine I ?_;refine cf (fun a4=> ?_) (fun a4=> ?_)
  ·have a4:l<h:=by omega
   obtain⟨kT,aln⟩:∃kT,kT=(l+h+1)/2:=⟨_,rfl⟩;refine an 76 ?_;refine ag 76 (.i .i64 ((l+h:Nat):Int)) rfl bo (an 77 ?_);refine ag 77 (.i .i64 ((l+h+1:Nat):Int)) rfl bo (an 78 ?_);refine ag 78 (.i .i64 (kT:Nat)) rfl (by rw[aln];show ah.i _ (IntKind.i64.wrap (((l+h+1)/2:Nat):Int))=_;exact bo rfl (by omega) (by omega)) ?_;have Ab:kT≠0:=by omega
   have xO:kT<1000000000:=by omega
   refine I ?_;refine mD 1 fO [kT] ?_;refine jh 81 ?_;refine ag 81 (cS kT) rfl (by unfold cS;rw[xp Ab xO];rfl) ?_;refine aC oA (b,kT) ⟨ct hb (by decide),by show(aT _ kT).length<=_;rw[xp Ab xO];exact jw rfl⟩ (I ?_);refine aC rC (b*kT,W) ⟨ct (anT kT Ab xO) (by decide),ct LX (by decide)⟩ (I ?_);have C0:b*kT<=W↔kT<=q:=by rw[<-o6,zbM gR,zai]
   refine cf (fun hc=> ?_) (fun hc=> ?_)
   ·have hc:=C0.1 (Rt.1 hc);refine I ?_;exact ba [0] (kT,h) ⟨by show h-kT<h-l;omega,hc,aN,bf⟩ du
   ·have hc:q<kT:=Nat.lt_of_not_le fun aB=>hc (Rt.2 (C0.2 aB));refine I ?_;exact ba [0] (l,kT-1) ⟨by show kT-1-l<h-l;omega,aM,by show q<=kT-1;omega,by show kT-1<=_;omega⟩ (dK ⟨rfl,rfl,rfl,rfl,rfl,rfl,rfl,eC,trivial⟩ ⟨_,rfl,rfl,fun _=>rfl⟩)
  ·have he:l=q:=by omega
   subst he;have xO:l<1000000000:=by omega
   have Ab:l≠0:=by omega
   have Ag:b*l<=W:=by rw[<-o6];exact Nat.mul_div_le W b
   refine I ?_;refine jS ?_;refine kX l ?_;refine I ?_;refine mD 1 fO [l] ?_;refine jh 96 ?_;refine ag 96 (cS l) rfl (by unfold cS;rw[xp Ab xO];rfl) ?_;refine aC oA (b,l) ⟨ct hb (by decide),by show(aT _ l).length<=_;rw[xp Ab xO];exact jw rfl⟩ ?_;refine aC Et (W,b*l) ⟨ct LX (by decide),Ag⟩ (I ?_);have alq:W-b*l=W%b:=by have:=zaN W b;rw[o6]at this;omega
   refine ba [0] (i,l::dh,W-b*l) ⟨by simp,by simp;omega,?_,by rw[alq];exact zae _ gR,tV l _ (by rw[zai l b];omega)⟩ (dK ⟨rfl,rfl,rfl,rfl,rfl,eC,trivial⟩ ⟨_,rfl,by rw[apn],fun _=>rfl⟩);intro x aa;rcases zar.1 aa with rfl|aa
   ·exact xO
   ·exact bE x aa
def lg(h:dy k b)(hl:a<=b):dy k a:=hL (by decide) (zaG hl (r3 h))
def qw(h:dy k a):bI a<=30*k:=zaj Q7.2 (lp _ h)
def DL:(aT 1000000000 n).length=0↔n=0:=by rw[zeD];exact nu (by decide)
def ZT:bc where
 L:=Nat×Nat
 args:=fun(a,b)=>[cS a,cS b]
 pre:=fun(a,b)=>dy 268435456 a∧dy 268435456 b∧b≠0
 res:=fun(a,b)=>cS (Nat.gcd a b)
def yF(x y t:Nat):cW:=⟨[],0,[(0,cS x),(1,cS y),(5,.i .i64 t)]⟩
def apt:a6 aS.ctx 156 ZT.spec:=by
 refine bq [(80,IJ.spec),(262,Z8.spec),(263,ZU.spec),(155,sL.spec),(158,I6.spec),(81,Ei.spec)] Tb.1 ?_;intro⟨a,b⟩ ⟨(aY:dy _ a),(hb:dy _ b),(k4:b≠0)⟩ H aH;refine I ?_;refine aC IK (a,b) ⟨aY,hb,k4⟩ (I ?_);have hr:a%b<b:=zae _ (zaV k4);have aO:Nat.gcd (a%b) b=Nat.gcd a b:=by rw[zdQ a b,Nat.gcd_rec b a]
 have qr:dy 268435456 (a%b):=lg hb (zbf hr);generalize aa:a%b=hT at *;refine cf (fun h=> ?_) (fun h=> ?_)
 ·have h:hT=0:=DL.1 (by omega);subst h;refine I ?_;exact au rfl (.of (by show cS b=cS (Nat.gcd a b);rw[<-aO,zeH]))
 have h:hT≠0:=fun e=>h (by rw[e,ft];rfl);refine I ?_;refine m6 (L:=Nat×Nat×Nat) (fun(x,y,t)=>x≠0∧y≠0∧dy 268435456 x∧dy 268435456 y∧t<=10000000000∧2^t*Nat.gcd x y=Nat.gcd a b∧Nat.gcd x y%2=1) (fun(x,y,t)=>yF x y t) ?_ ?_
 ·refine df (L:=Nat×Nat×Nat) (fun(x,y,t)=>x≠0∧y≠0∧dy 268435456 x∧dy 268435456 y∧t+bI x<=10000000000∧2^t*Nat.gcd x y=Nat.gcd a b) (fun(x,y,t)=>yF x y t) (fun l=>bI l.1) [] (hT,b,0) ⟨h,k4,qr,hb,by have:=qw qr;show 0+_<=_;omega,by rw[zbi,zaw,aO]⟩ (by have:=qw qr;show bI hT<bT+1;unfold bT;omega) ew ?_;rintro⟨x,y,t⟩ ⟨aM,aN,bf,cb,cQ,ei⟩;refine I ?_;refine aC IU x trivial (I ?_);by_cases tW:x%2=1
  ·refine ag 20 (.b false) rfl (by rw[zad tW];rfl) (I ?_);exact ba [] (x,y,t) ⟨aM,aN,bf,cb,by omega,ei,VY (fun h=>by omega)⟩ ew
  refine ag 20 (.b true) rfl (by rw[zac tW];rfl) (I ?_);have tW:x%2=0:=by omega
  refine aC IU y trivial (I ?_);by_cases Hr:y%2=1
  ·refine ag 24 (.b false) rfl (by rw[zad Hr];rfl) (I ?_);exact ba [] (x,y,t) ⟨aM,aN,bf,cb,by omega,ei,VY (fun h=>by omega)⟩ ew
  refine ag 24 (.b true) rfl (by rw[zac Hr];rfl) ?_;have Hr:y%2=0:=by omega
  refine I ?_;refine aC IN x (ct bf (by decide)) (I ?_);refine aC IN y (ct cb (by decide)) (I ?_);have nA:=vf (n:=x) (by omega);have se:=gcd_both tW Hr;exact ba [] (x/2,y/2,t+1) ⟨by show bI (x/2)<bI x;omega,by show x/2≠0;omega,by show y/2≠0;omega,lg bf (zau _ _),lg cb (zau _ _),by show t+1+bI (x/2)<=_;omega,by rw[zak,zat,se];exact ei⟩ (iC ⟨rfl,rfl,eC,trivial⟩)
 rintro⟨X,Y,t⟩ ⟨aM,aN,bf,cb,cQ,ei,gn⟩;obtain⟨g,G2⟩:∃g,g=Nat.gcd X Y:=⟨_,rfl⟩;rw[<-G2]at ei gn;refine I ?_;refine m6 (L:=Unit) (fun _=>True) (fun _=>⟨[],0,[(1,cS g),(5,.i .i64 t)]⟩) ?_ ?_
 ·refine df (L:=Nat×Nat) (fun(x,y)=>y≠0∧dy 268435456 x∧dy 268435456 y∧Nat.gcd x y=g) (fun(x,y)=>yF x y t) (fun l=>2*(bI l.1+bI l.2)+l.1%2) [] (X,Y) ⟨aN,bf,cb,G2.symm⟩ (by have:=qw bf;have:=qw cb;show 2*(bI X+bI Y)+X%2<bT+1;unfold bT;omega) ew ?_;rintro⟨x,y⟩ ⟨J,U,af,ax⟩;refine I ?_;refine cf (fun hl=> ?_) (fun hl=> ?_)
  ·have x2:x≠0:=fun e=>by rw[e,ft]at hl;simp at hl
   refine I ?_;refine m6 (L:=Nat) (fun dR=>dR%2=1∧dy 268435456 dR∧Nat.gcd dR y=g∧2*bI dR<=2*bI x+x%2-1) (fun dR=>yF dR y t) ?_ ?_
   ·refine df (L:=Nat) (fun dR=>dR≠0∧dy 268435456 dR∧Nat.gcd dR y=g∧bI dR<=bI x∧(dR=x∨bI dR<bI x)) (fun dR=>yF dR y t) bI [] x ⟨x2,U,ax,b5 _,.inl rfl⟩ (by have:=qw U;show bI x<bT+1;unfold bT;omega) ew ?_;rintro dR ⟨a5,bD,dt,ud,HG⟩;refine I ?_;refine aC IU dR trivial (I ?_);refine Bi (fun ao=> ?_) (fun ao=> ?_)
    ·have nA:=vf (n:=dR) (by omega);have ao:dR%2=0:=by omega
     refine I ?_;refine aC IN dR (ct bD (by decide)) (I ?_);exact ba [] (dR/2) ⟨by show bI (dR/2)<bI dR;omega,by omega,lg bD (zau _ _),by rw[VW ao (by rw[dt];exact gn)];exact dt,by omega,.inr (by omega)⟩ ew
    ·refine I ?_;exact ba [] dR ⟨ao,bD,dt,by rcases HG with rfl|HG<;>omega⟩ ew
   rintro dR ⟨a5,bD,dt,ud⟩;refine I ?_;refine m6 (L:=Nat) (fun fk=>fk%2=1∧dy 268435456 fk∧Nat.gcd dR fk=g∧bI fk<=bI y) (fun fk=>yF dR fk t) ?_ ?_
   ·refine df (L:=Nat) (fun fk=>fk≠0∧dy 268435456 fk∧Nat.gcd dR fk=g∧bI fk<=bI y) (fun fk=>yF dR fk t) bI [] y ⟨J,af,dt,b5 _⟩ (by have:=qw af;show bI y<bT+1;unfold bT;omega) ew ?_;rintro fk ⟨Xu,h4,vV,Xv⟩;refine I ?_;refine aC IU fk trivial (I ?_);refine Bi (fun ao=> ?_) (fun ao=> ?_)
    ·have nA:=vf (n:=fk) (by omega);have ao:fk%2=0:=by omega
     refine I ?_;refine aC IN fk (ct h4 (by decide)) (I ?_);exact ba [] (fk/2) ⟨by show bI (fk/2)<bI fk;omega,by omega,lg h4 (zau _ _),by rw[ajt ao (by rw[vV];exact gn)];exact vV,by omega⟩ ew
    ·refine I ?_;exact ba [] fk ⟨ao,h4,vV,Xv⟩ ew
   rintro fk ⟨Xu,h4,vV,Xv⟩;refine I ?_;by_cases amj:fk=1
   ·subst amj;rw[zeE]at vV;refine ag 1 (c4 [1]) rfl (by unfold cS;rw[qT]) ?_;refine ag 47 (.b true) rfl (by rw[qT];rfl) (I ?_);refine ep (j:=0) 1 rfl ?_;refine I ?_;exact ba [] () trivial (iC ⟨by rw[<-vV];unfold cS;rw[qT];rfl,rfl,trivial⟩)
   refine fK (L:=Unit) (fun _=>True) (fun _=>⟨[],0,[(0,cS dR),(1,cS fk),(5,.i .i64 t),(52,.b false)]⟩) ?_ ?_
   ·by_cases jH:(aT 1000000000 fk).length=1
    ·have W9:fk<1000000000:=r3 (k:=1) (zcZ jH);refine ag 47 (.b true) rfl (by rw[jH];rfl) ?_;refine ag 1 (c4 [fk]) rfl (by unfold cS;rw[xp (by omega) W9]) (I ?_);refine ep (j:=0) fk rfl ?_;refine I ?_;exact ba [] () trivial (iC ⟨rfl,by unfold cS;rw[xp (by omega) W9];rfl,rfl,congrArg (fun b=>some (ah.b b)) (zac (by omega)),trivial⟩)
    ·refine ag 47 (.b false) rfl (by rw[zac (by omega)]) (I ?_);exact ba [] () trivial ew
   intro _ _;refine I ?_;refine aC rC (dR,fk) ⟨ct bD (by decide),ct h4 (by decide)⟩ (I ?_);have Mo:=vf (n:=dR) (by omega);refine cf (fun hc=> ?_) (fun hc=> ?_)
   ·have hc:=zy hc;refine I ?_;refine aC Et (fk,dR) ⟨ct h4 (by decide),zbf hc⟩ (I ?_);have gR:=KU (zck fk dR);exact ba [] (fk-dR,dR) ⟨by show 2*(bI (fk-dR)+bI dR)+(fk-dR)%2<2*(bI x+bI y)+x%2;omega,by show dR≠0;omega,lg h4 (zck _ _),bD,by rw[VX (zbf hc),zdQ];exact vV⟩ ew
   ·have hc:=zz hc;refine I ?_;refine aC Et (dR,fk) ⟨ct bD (by decide),hc⟩ (I ?_);have gR:=KU (zck dR fk);exact ba [] (dR-fk,fk) ⟨by show 2*(bI (dR-fk)+bI fk)+(dR-fk)%2<2*(bI x+bI y)+x%2;omega,by show fk≠0;omega,lg bD (zck _ _),h4,by rw[VX hc];exact vV⟩ ew
  ·have x2:x=0:=DL.1 (by omega);subst x2;rw[zeH]at ax;refine I ?_;exact ba [] () trivial (iC ⟨by rw[<-ax];rfl,rfl,trivial⟩)
 intro _ _;refine I ?_;refine df (L:=Nat) (fun i=>i<=t) (fun(i:Nat)=>⟨[],0,[(1,cS (2^i*g)),(5,.i .i64 t),(6,.i .i64 i)]⟩) (fun i=>t-i) [] 0 (zaf _) (by show t-0<bT+1;unfold bT;omega) (iC ⟨by rw[zbi,zaw];rfl,rfl,rfl,trivial⟩) ?_;intro(i:Nat) hi;refine I ?_;refine cf (fun h=> ?_) (fun h=> ?_)
 ·have h:i<t:=by omega
  have dE:2^i*g<=b:=zaj (fq g (zax (by decide) hi)) (by rw[ei];exact zeF _ (zaV k4));refine I ?_;refine aC IF (2^i*g,2^i*g) ⟨ct (lg hb dE) (by decide),ct (lg hb dE) (by decide)⟩ (I ?_);exact ba [] (i+1) ⟨by show t-(i+1)<t-i;omega,h⟩ (iC ⟨congrArg (fun n=>some (cS n)) (by rw[zak,zai (2^i) 2,zat];omega),rfl,eC,trivial⟩)
 ·have he:i=t:=by omega
  subst he;refine I ?_;exact au rfl (.of (by show cS _=cS _;rw[ei]))
def OD:bY (.agg [.i .i64 0,.nl,.nl]) (bg 0):=bY.agg ⟨.refl _,bY.nl.trans (.of (by show c4 []=c4 (aT _ 0);rw[ft])),bY.nl,trivial⟩
def ZE{n:Bool}(hp:p≠0)(hq:q≠0):bg (mkRat (if n then -(p:Int)else p) q)= .agg [.i .i64 (if n then -1 else 1),cS (p/p.gcd q),cS (q/p.gcd q)]:=by
 obtain⟨J,U⟩:=YM (neg:=n) hp hq;have aO:0<p.gcd q:=zeB _ (by omega);have aq:0<p/p.gcd q:=zdk (Nat.le_of_dvd (by omega) (zdl p q)) aO;unfold bg;rw[J,U];generalize p/p.gcd q=a at *;cases n
 ·simp only[zaU,if_false];rw[zaa (by omega),zby (by omega)];rfl
 ·simp only[if_true];rw[zaa (by omega),zbx (by omega),zbp];rfl
def sO:bc where
 L:=Int×Nat×Nat
 args:=fun(s,p,q)=>[.i .i64 s,cS p,cS q]
 pre:=fun(s,p,q)=> -1<=s∧s<=1∧dy 268435456 p∧dy 268435456 q∧q≠0
 res:=fun(s,p,q)=>bg (mkRat (s*p) q)
def apg(J: -1<=s)(U:s<=1)(ai:s≠0)(hp:p≠0)(hq:q≠0):bg (mkRat (s*p) q)= .agg [.i .i64 s,cS (p/p.gcd q),cS (q/p.gcd q)]:=by
 rcases(show s=1∨s= -1 by omega)with rfl|rfl
 ·have:=ZE (n:=false) hp hq;rw[zaa (by decide),zaa (by decide)]at this;rw[zaZ];exact this
 ·have:=ZE (n:=true) hp hq;rw[zab rfl,zab rfl]at this;rw[zaT,zaZ];exact this
def zA:hJ a b=0↔a=b:=by
 unfold hJ;split
 ·omega
 ·split<;>omega
def Ej:dy 1073741824 1:=by show(aT _ 1).length<=_;rw[qT];exact jw rfl
def rE:a6 aS.ctx 73 sO.spec:=by
 refine bq [(77,uC.spec),(155,sL.spec),(156,ZT.spec),(80,IJ.spec)] Vy.1 ?_;intro⟨s,p,q⟩ ⟨(J: -1<=s),(U:s<=1),(hp:dy _ p),(hq:dy _ q),(g7:q≠0)⟩ H aH;have zero:s*(p:Int)=0->bY (.agg [.i .i64 0,.nl,.nl]) (sO.res (s,p,q)):=fun h=>OD.trans (.of (by show bg 0=bg (mkRat (s*p) q);rw[h,zcy]));refine an 11 ?_;by_cases oo:p=0
 ·refine ag 11 (.b true) rfl (by show ah.b (decide (((aT 1000000000 p).length:Int)=0))=_;rw[zad (by have:=DL.2 oo;omega)]) (I ?_);exact au rfl (zero (by rw[oo];simp))
 refine ag 11 (.b false) rfl (by show ah.b (decide (((aT 1000000000 p).length:Int)=0))=_;rw[zac (by have:=mt DL.1 oo;omega)]) (an 13 ?_);by_cases sk:s=0
 ·refine dG 13 sk (I ?_);exact au rfl (zero (by rw[sk];simp))
 refine dW 13 sk ?_;have iM:=apg J U sk oo g7;have fin:∀{dA fJ:Nat},dA=p/p.gcd q->fJ=q/p.gcd q->bY (.agg [.i .i64 s,cS dA,cS fJ]) (sO.res (s,p,q)):=fun aw e2=>.of (by rw[aw,e2];exact iM.symm);refine I ?_;refine aC rF () trivial ?_;refine aC rC (p,1) ⟨ct hp (by decide),Ej⟩ (an 20 ?_);by_cases vK:p=1
 ·refine ag 20 (.b true) rfl (by show ah.b (decide _)=_;rw[zad (zA.2 vK)]) (I ?_);exact au rfl (fin (by rw[vK];simp) (by rw[vK];simp))
 refine ag 20 (.b false) rfl (by show ah.b (decide _)=_;rw[zac (mt zA.1 vK)]) (I ?_);refine aC rF () trivial (I ?_);refine aC rC (q,1) ⟨ct hq (by decide),Ej⟩ (an 24 ?_);by_cases xT:q=1
 ·refine ag 24 (.b true) rfl (by show ah.b (decide _)=_;rw[zad (zA.2 xT)]) (I ?_);exact au rfl (fin (by rw[xT];simp) (by rw[xT];simp))
 refine ag 24 (.b false) rfl (by show ah.b (decide _)=_;rw[zac (mt zA.1 xT)]) ?_;have aO:0<p.gcd q:=zeW _ (zaV g7);have G3:dy 268435456 (p.gcd q):=lg hq (zeF _ (zaV g7));refine I ?_;refine aC apt (p,q) ⟨hp,hq,g7⟩ (I ?_);refine aC rF () trivial ?_;refine aC rC (p.gcd q,1) ⟨ct G3 (by decide),Ej⟩ (I ?_);refine fK (L:=Nat×Nat) (fun(dA,fJ)=>dA=p/p.gcd q∧fJ=q/p.gcd q) (fun(dA,fJ)=>⟨[.c 83 [.i .i64 0,.nl,.nl]],1,[(0,.i .i64 s),(1,cS dA),(2,cS fJ),(6,.p 0 0)]⟩) ?_ ?_
 ·refine cf (fun hc=> ?_) (fun hc=> ?_)
  ·refine I ?_;refine aC IK (p,p.gcd q) ⟨hp,G3,by show p.gcd q≠0;omega⟩ (I ?_);refine aC IK (q,p.gcd q) ⟨hq,G3,by show p.gcd q≠0;omega⟩ (I ?_);exact ba [0] (p/p.gcd q,q/p.gcd q) ⟨rfl,rfl⟩ du
  ·have hc:p.gcd q=1:=zA.1 (Decidable.not_not.1 hc);refine I ?_;exact ba [0] (p,q) ⟨by rw[hc,zbV],by rw[hc,zbV]⟩ du
 rintro⟨dA,fJ⟩ ⟨aw,e2⟩;refine I ?_;exact au rfl (fin aw e2)
def sN:bc where
 L:=Int
 args:=fun n=>[.i .i64 n]
 pre:=fun n=> -9223372036854775808<=n∧n<9223372036854775808
 res:=fun n=>bg (mkRat n 1)
def IG(h:n<18446744073709551616):dy 3 n:=hL (by decide) (by omega)
def mC:a6 aS.ctx 27 sN.spec:=by
 refine bq [(76,Z4.spec),(77,uC.spec),(73,sO.spec)] Uk.1 ?_;intro(n:Int) ⟨(J:_<=n),(U:n<_)⟩ H aH;have cP:dy 268435456 1:=by show(aT _ 1).length<=_;rw[qT];exact jw rfl
 refine I ?_;refine cf (fun h=> ?_) (fun h=> ?_)
 ·obtain⟨m,hm⟩:∃m:Nat,m=n.natAbs:=⟨_,rfl⟩;refine an 6 ?_;refine ag 6 (.i .i64 (n+1)) rfl (bo rfl (by omega) (by omega)) (an 7 ?_);refine ag 7 (.i .i64 ((m-1:Nat):Int)) rfl bo (an 9 ?_);have af8:((m-1)%18446744073709551616+1)%18446744073709551616=m:=by omega
  refine ag 9 (.i .u64 (m:Nat)) rfl (congrArg (fun n:Nat=>ah.i .u64 (n:Int)) af8) ?_;refine aC Z5 m (by show m<_;omega) (I ?_);refine aC rF () trivial ?_;refine aC rE (-1,m,1) ⟨by decide,by decide,ct (IG (by omega)) (by decide),cP,by decide⟩ (I ?_);exact au rfl (.of (by show bg _=bg _;rw[show -1*(m:Int)=n by omega]))
 ·obtain⟨m,hm⟩:∃m:Nat,n=(m:Int):=⟨n.toNat,by omega⟩;subst hm;refine an 14 ?_;refine ag 14 (.i .u64 (m:Nat)) rfl dY ?_;refine aC Z5 m (by show m<_;omega) (I ?_);refine aC rF () trivial ?_;refine aC rE (1,m,1) ⟨by decide,by decide,ct (IG (by omega)) (by decide),cP,by decide⟩ (I ?_);exact au rfl (.of (by show bg _=bg _;rw[zaZ]))
def Ou(h:s*(k:Int)=x.num*y.den+y.num*x.den):mkRat (s*k) (x.den*y.den)=x+y:=by rw[h,zdm]
def abg(n:Int):n=n.sign*(n.natAbs:Int):=(zcj n).symm
def pr(x:Rat):ac ah:=[.i .i64 x.num.sign,cS x.num.natAbs,c4 (if x.num=0 then[]else aT 1000000000 x.den)]
def uD:bc where
 L:=Rat×Rat
 args:=fun(x,y)=>[bg x,bg y]
 pre:=fun(x,y)=>cq 67108864 x∧cq 67108864 y
 res:=fun(x,y)=>bg (x+y)
def uE:a6 aS.ctx 143 uD.spec:=by
 refine bq [(75,uB.spec),(74,wz.spec),(81,Ei.spec),(158,I6.spec),(155,sL.spec),(73,sO.spec)] SX.1 ?_;intro⟨x,y⟩ ⟨(aa:cq _ x),(aF:cq _ y)⟩ H aH;have eW:dy 134217728 (x.num.natAbs*y.den):=lj aa.1 aF.2;have g1:dy 134217728 (y.num.natAbs*x.den):=lj aF.1 aa.2;have rk:dy 134217728 (x.den*y.den):=lj aa.2 aF.2;have af:x.den*y.den≠0:=zaO x.den_nz y.den_nz;have gy:=uM x.num;have mJ:=uM y.num;refine I ?_;refine aZ oz y trivial (I ?_);refine aZ oA (x.num.natAbs,y.den) ⟨ct aa.1 (by decide),ct aF.2 (by decide)⟩ (I ?_);refine aZ oz x trivial (I ?_);refine aZ oA (y.num.natAbs,x.den) ⟨ct aF.1 (by decide),ct aa.2 (by decide)⟩ (I ?_);refine aZ oz x trivial (I ?_);refine aZ oz y trivial (I ?_);refine aZ oA (x.den,y.den) ⟨ct aa.2 (by decide),ct aF.2 (by decide)⟩ (an 27 ?_);refine fK (L:=Bool) (fun t=>t=decide (x.num.sign=0∨y.num.sign=0∨x.num.sign=y.num.sign)) (fun t=>⟨[.c 83 (pr x),.c 83 (pr y),.c 83 [.i .i64 0,.nl,.nl]],3,[(2,.p 0 0),(3,.p 1 0),(4,.p 2 0),(5,cS (x.num.natAbs*y.den)),(6,cS (y.num.natAbs*x.den)),(7,cS (x.den*y.den)),(38,.b t)]⟩) ?_ ?_
 ·by_cases ee:x.num.sign=0
  ·refine ag 27 (.b true) rfl (by rw[zad ee]) (I ?_);exact ba [0,1,2] true (by simp[ee]) kf
  refine ag 27 (.b false) rfl (by rw[zac ee]) (an 32 ?_);by_cases fa:y.num.sign=0
  ·refine ag 32 (.b true) rfl (by rw[zad fa]) (I ?_);exact ba [0,1,2] true (by simp[fa]) kf
  refine ag 32 (.b false) rfl (by rw[zac fa]) (I ?_);exact ba [0,1,2] (decide (x.num.sign=y.num.sign)) (by simp only[ee,fa,false_or]) kf
 intro t aV;have ex:=abg x.num;have tA:=abg y.num;by_cases hc:x.num.sign=0∨y.num.sign=0∨x.num.sign=y.num.sign
 ·refine ag 38 (.b true) rfl (by rw[aV,zad hc]) (I ?_);refine fK (L:=Int) (fun s=> -1<=s∧s<=1∧s*((x.num.natAbs*y.den+y.num.natAbs*x.den:Nat):Int)=x.num*y.den+y.num*x.den) (fun s=>⟨[.c 83 (pr x),.c 83 (pr y),.c 83 [.i .i64 0,.nl,.nl]],3,[(4,.p 2 0),(5,cS (x.num.natAbs*y.den)),(6,cS (y.num.natAbs*x.den)),(7,cS (x.den*y.den)),(8,.i .i64 s)]⟩) ?_ ?_
  ·refine cf (fun h=> ?_) (fun h=> ?_)
   ·refine I ?_;refine ba [0,1,2] y.num.sign ⟨mJ.1,mJ.2,?_⟩ kf;have h0:x.num=0:=zbF.1 h
    conv=>rhs;rw[tA]
    rw[h0];simp[zbE]
   ·refine I ?_;refine ba [0,1,2] x.num.sign ⟨gy.1,gy.2,?_⟩ kf;have vR:y.num=x.num.sign*(y.num.natAbs:Int):=by
     rcases hc with aB|aB|aB
     ·exact absurd aB h
     ·rw[zbF.1 aB];simp
     ·rw[aB];exact tA
    conv=>rhs;rw[ex,vR]
    rw[zbU,zam,zam,Int.mul_add,zbE,zbE]
  rintro s ⟨s1,s2,yP⟩;refine I ?_;refine aC IF (x.num.natAbs*y.den,y.num.natAbs*x.den) ⟨ct eW (by decide),ct g1 (by decide)⟩ (I ?_);refine aC rE (s,x.num.natAbs*y.den+y.num.natAbs*x.den,x.den*y.den) ⟨s1,s2,ct (BZ eW g1) (by decide),ct rk (by decide),af⟩ (I ?_);exact au rfl (.of (congrArg bg (Ou yP)))
 ·refine ag 38 (.b false) rfl (by rw[aV,zac hc]) ?_;have Hc:y.num.sign= -x.num.sign:=by omega
  refine I ?_;refine aC rC (x.num.natAbs*y.den,y.num.natAbs*x.den) ⟨ct eW (by decide),ct g1 (by decide)⟩ (I ?_);have key:∀(s:Int) (a b:Nat),b<=a->s*((a-b:Nat):Int)=s*a+(-s)*b:=fun s a b h=>by rw[show((a-b:Nat):Int)=(a:Int)-b by omega,Int.mul_sub,zaT];rfl
  refine cf (fun h=> ?_) (fun h=> ?_)
  ·have a4:=zy h;refine I ?_;refine aZ Et (y.num.natAbs*x.den,x.num.natAbs*y.den) ⟨ct g1 (by decide),zbf a4⟩ (I ?_);refine aZ rE (y.num.sign,y.num.natAbs*x.den-x.num.natAbs*y.den,x.den*y.den) ⟨mJ.1,mJ.2,ct (lg g1 (zck _ _)) (by decide),ct rk (by decide),af⟩ (I ?_);refine au rfl (.of (congrArg bg (Ou ?_)));rw[key _ _ _ (zbf a4)]
   conv=>rhs;rw[ex,tA]
   rw[Hc,zam,zam,zdS,zbE,zbE,Int.add_comm]
  ·have lD:=zz h;refine I ?_;refine aZ Et (x.num.natAbs*y.den,y.num.natAbs*x.den) ⟨ct eW (by decide),lD⟩ (I ?_);refine aZ rE (x.num.sign,x.num.natAbs*y.den-y.num.natAbs*x.den,x.den*y.den) ⟨gy.1,gy.2,ct (lg eW (zck _ _)) (by decide),ct rk (by decide),af⟩ (I ?_);refine au rfl (.of (congrArg bg (Ou ?_)));rw[key _ _ _ lD]
   conv=>rhs;rw[ex,tA]
   rw[Hc,zam,zam,zbE,zbE]
def wB:bc where
 L:=Rat×Rat
 args:=fun(x,y)=>[bg x,bg y]
 pre:=fun(x,y)=>cq 67108864 x∧cq 67108864 y
 res:=fun(x,y)=>bg (x-y)
def NN(h:cq k x):cq k (-x):=by
 unfold cq;rw[zbN,zci,zbp];exact h
def Er:a6 aS.ctx 144 wB.spec:=by
 refine bq [(242,A8.spec),(143,uD.spec)] SY.1 ?_;intro⟨x,y⟩ ⟨(aa:cq _ x),(aF:cq _ y)⟩ H aH;refine I ?_;refine aZ wA y trivial (I ?_);refine aZ uE (x,-y) ⟨aa,NN aF⟩ (I ?_);exact au rfl (.of (by show bg (x+ -y)=bg (x-y);rw[zcM]))
def uF:bc where
 L:=Rat×Int
 args:=fun(x,k)=>[bg x,.i .i64 k]
 pre:=fun(x,k)=>cq 67108864 x∧-100000000<=k∧k<=100000000
 res:=fun(x,k)=>bg (b9 x k)
def sP:a6 aS.ctx 251 uF.spec:=by
 refine bq [(75,uB.spec),(337,(IZ 1000000001).spec),(74,wz.spec),(73,sO.spec)] T3.1 ?_;intro⟨x,k⟩ ⟨(aa:cq _ x),(J:_<=k),(U:k<=_)⟩ H aH;have gy:=uM x.num;refine I ?_;refine cf (fun h=> ?_) (fun h=> ?_)
 ·obtain⟨n,hn⟩:∃n:Nat,k= -(n:Int):=⟨(-k).toNat,by omega⟩;subst hn;refine I ?_;refine aZ oz x trivial (an 14 ?_);refine cm 14 (.i .i64 (n:Nat)) rfl rfl bo ?_;refine aZ (I0 1000000001) n ⟨by show n<_;omega,by show n<=_;omega⟩ (I ?_);refine aZ oA (x.den,2^n) ⟨ct aa.2 (by decide),ct (pw n) (by omega)⟩ (I ?_);refine aZ rE (x.num.sign,x.num.natAbs,x.den*2^n) ⟨gy.1,gy.2,ct aa.1 (by decide),ct (lj aa.2 (pw n)) (by omega),zaO x.den_nz (by have:=zag n;omega)⟩ (I ?_);refine au rfl (.of (congrArg bg ?_));show _=b9 x (-(n:Int));unfold b9;rw[zab (by omega),zcj,show(- -(n:Int)).toNat=n by omega]
 ·obtain⟨n,hn⟩:∃n:Nat,k=(n:Int):=⟨k.toNat,by omega⟩;subst hn;refine I ?_;refine aZ (I0 1000000001) n ⟨by show n<_;omega,by show n<=_;omega⟩ (I ?_);refine aZ oA (x.num.natAbs,2^n) ⟨ct aa.1 (by decide),ct (pw n) (by omega)⟩ (I ?_);refine aZ oz x trivial (I ?_);refine aZ rE (x.num.sign,x.num.natAbs*2^n,x.den) ⟨gy.1,gy.2,ct (lj aa.1 (pw n)) (by omega),ct aa.2 (by decide),x.den_nz⟩ (I ?_);refine au rfl (.of (congrArg bg ?_));show _=b9 x (n:Int);unfold b9;rw[zaa (by omega),zam,<-zbE,zcj,zeG,show((n:Int)).toNat=n by omega];rfl
def rG:bc where
 L:=Int
 args:=fun k=>[.i .i64 k]
 pre:=fun k=> -100000000<=k∧k<=100000000
 res:=fun k=>bg (b9 (mkRat 1 1) k)
def AJ:cq 1 (mkRat 1 1):=by
 show dy 1 1∧dy 1 1;unfold dy;rw[qT];exact⟨b5 _,b5 _⟩
def cJ(h:cq k x)(hl:k<=l):cq l x:=⟨ct h.1 hl,ct h.2 hl⟩
def rH:a6 aS.ctx 250 rG.spec:=by
 refine bq [(27,sN.spec),(251,uF.spec)] T2.1 ?_;intro(k:Int) ⟨(J:_<=k),(U:k<=_)⟩ H aH;refine I ?_;refine aC mC (1:Int) ⟨by decide,by decide⟩ (I ?_);refine aC sP (mkRat 1 1,k) ⟨cJ AJ (by decide),J,U⟩ (I ?_);exact au rfl (.refl _)
def OC:bc where
 L:=Rat
 args:=fun x=>[bg x]
 pre:=fun x=>cq 67108864 x
 res:=fun x=>.b (decide (x.den=1))
def ZW:a6 aS.ctx 78 OC.spec:=by
 refine bq [(75,uB.spec),(77,uC.spec),(155,sL.spec)] LM.1 ?_;intro(x:Rat) (aa:cq _ x) H aH;refine I ?_;refine aC oz x trivial ?_;refine aC rF () trivial ?_;refine aC rC (x.den,1) ⟨ct aa.2 (by decide),Ej⟩ (I ?_);exact au rfl (.of (by show ah.b (decide _)=ah.b (decide _);congr 1;rw[decide_eq_decide];exact zA))
def sT(k:Int):(b9 (mkRat 1 1) k).num=2^k.toNat∧(b9 (mkRat 1 1) k).den=2^(-k).toNat:=by
 have GH:(mkRat 1 1).num=1∧(mkRat 1 1).den=1:=⟨rfl,rfl⟩;unfold b9;rw[GH.1,GH.2];split
 ·obtain⟨J,U⟩:=sz 1 (1*2^(-k).toNat) (by have:=zag (-k).toNat;omega);rw[J,U,show k.toNat=0 by omega];simp
 ·obtain⟨J,U⟩:=sz (1*2^k.toNat) 1 (by decide);rw[J,U,show(-k).toNat=0 by omega];simp
def Nq{x:Rat}{k:Int}:fD x<b9 (mkRat 1 1) k↔x.num.natAbs*2^(-k).toNat<x.den*2^k.toNat:=by
 rw[Rat.lt_iff,(mN x).1,(mN x).2,(sT k).1,(sT k).2];rw[show(x.num.natAbs:Int)*((2^(-k).toNat:Nat):Int)=((x.num.natAbs*2^(-k).toNat:Nat):Int)from(zam _ _).symm,show(2:Int)^k.toNat*(x.den:Int)=((x.den*2^k.toNat:Nat):Int) by rw[zam,zeG,zdT];rfl];exact Int.ofNat_lt
def NM(h:cq k x):cq k (fD x):=by
 unfold cq;rw[(mN x).1,(mN x).2];exact h
def AL{c:Nat}{k:Int}(J: -(c:Int)<=k)(U:k<=c):cq (c+1) (b9 (mkRat 1 1) k):=by
 obtain⟨aw,e2⟩:=sT k;unfold cq;rw[aw,e2,zdn];exact⟨ct (pw _) (by omega),ct (pw _) (by omega)⟩
def Rp:ho x y<0↔x<y:=by
 unfold ho;constructor
 ·intro h;split at h
  ·assumption
  split at h<;>omega
 ·intro h;rw[zab h];decide
def OF:bc where
 L:=Rat
 args:=fun x=>[bg x]
 pre:=fun x=>cq 3000000 x∧x.num≠0
 res:=fun x=>.i .i64 (gf x.num.natAbs x.den)
def Z1:a6 aS.ctx 334 OF.spec:=by
 refine bq [(387,ZZ.spec),(248,A6.spec),(250,rG.spec),(79,px.spec)] UI.1 ?_;intro(x:Rat) ⟨(aa:cq _ x),(h0:x.num≠0)⟩ H aH;have cD:=qw aa.1;have db:=qw aa.2;refine I ?_;refine cf (fun h=> ?_) (fun h=> ?_)
 ·exact absurd (zbF.1 h) h0
 refine I ?_;refine aZ Z0 x.num.natAbs (ct aa.1 (by decide)) (I ?_);refine cm 11 (cS x.den) rfl rfl (by rw[zaa h0];rfl) ?_;refine aZ Z0 x.den (ct aa.2 (by decide)) ?_;obtain⟨p,hp⟩:∃p,p=bI x.num.natAbs:=⟨_,rfl⟩;obtain⟨q,hq⟩:∃q,q=bI x.den:=⟨_,rfl⟩;have hl:gf x.num.natAbs x.den=if x.num.natAbs*2^((q:Int)-p).toNat<x.den*2^((p:Int)-q).toNat then(p:Int)-q-1 else(p:Int)-q:=by rw[hp,hq];rfl
 rw[<-hp]at cD;rw[<-hq]at db;refine an 13 ?_;obtain⟨k,ab⟩:∃k:Int,k=(p:Int)-q:=⟨_,rfl⟩;refine ag 13 (.i .i64 k) rfl (by rw[ab,hp,hq];exact bo rfl (by omega) (by omega)) (I ?_);refine aC Eh x trivial (I ?_);refine aC rH k ⟨by show _<=k;omega,by show k<=_;omega⟩ ?_;refine aC py (fD x,b9 (mkRat 1 1) k) ⟨cJ (NM aa) (by decide),cJ (AL (c:=100000000) (by omega) (by omega)) (by decide)⟩ ?_;have C0:ho (fD x) (b9 (mkRat 1 1) k)<0↔x.num.natAbs*2^((q:Int)-p).toNat<x.den*2^((p:Int)-q).toNat:=by
  rw[Rp,Nq,ab,show -((p:Int)-q)=(q:Int)-p by omega]
 refine I ?_;refine cf (fun hc=> ?_) (fun hc=> ?_)
 ·have hc:=C0.1 hc;refine I ?_;exact au rfl (.of (by
   show ah.i _ _=ah.i .i64 (gf _ _);rw[hl,zab hc];exact bo))
 ·have hc:=mt C0.2 hc;refine I ?_;exact au rfl (.of (by
   show ah.i _ _=ah.i .i64 (gf _ _);rw[hl,zaa hc,ab]))
def IT:bc where
 L:=Int×Int
 args:=fun(e,p)=>[hz e p]
 pre:=fun(e,p)=>b0 e p
 res:=fun(e,p)=>bg (b9 (mkRat 1 1) (2-ch e-p))
def OE:a6 aS.ctx 260 IT.spec:=by
 refine bq [(252,yD.spec),(250,rG.spec)] Ud.1 ?_;intro⟨e,p⟩ az H aH;obtain⟨J,U,af,ax,a0⟩:=az;obtain⟨cD,db⟩:=ia J U;refine I ?_;refine aZ A7 (e,p) ⟨J,U,af,ax,a0⟩ (an 5 ?_);refine ag 5 (.i .i64 (2-ch e)) rfl (bo rfl (by omega) (by omega)) (an 8 ?_);refine ag 8 (.i .i64 (2-ch e-p)) rfl (bo rfl (by omega) (by omega)) ?_;refine aZ rH (2-ch e-p) ⟨by show _<=2-ch e-p;omega,by show 2-ch e-p<=_;omega⟩ (I ?_);exact au rfl (.refl _)
def Z6:bc where
 L:=Int×Int
 args:=fun(e,p)=>[hz e p]
 pre:=fun(e,p)=>b0 e p
 res:=fun(e,p)=>bg (b9 (mkRat 1 1) (1-ch e))
def apD:a6 aS.ctx 386 Z6.spec:=by
 refine bq [(252,yD.spec),(250,rG.spec)] U1.1 ?_;intro⟨e,p⟩ az H aH;obtain⟨J,U,af,ax,a0⟩:=az;obtain⟨cD,db⟩:=ia J U;refine I ?_;refine aC A7 (e,p) ⟨J,U,af,ax,a0⟩ (an 5 ?_);refine ag 5 (.i .i64 (1-ch e)) rfl (bo rfl (by omega) (by omega)) ?_;refine aC rH (1-ch e) ⟨by show _<=1-ch e;omega,by show 1-ch e<=_;omega⟩ (I ?_);exact au rfl (.refl _)
def sD{n:Int}(J:dy k n.natAbs)(U:dy k d)(aq:d≠0):cq k (mkRat n d):=by
 obtain⟨aw,e2⟩:=sz n d aq;refine⟨lg J ?_,lg U ?_⟩
 ·rw[aw,Int.natAbs_ediv_of_dvd (Int.ofNat_dvd_left.2 (zdl _ _))];exact zau _ _
 ·rw[e2];exact zau _ _
def AK(c:Nat){k:Int}(h:cq a x)(J: -(c:Int)<=k)(U:k<=c):cq (a+c+1) (b9 x k):=by
 unfold b9;split
 ·exact sD (ct h.1 (by omega)) (ct (lj h.2 (pw _)) (by omega)) (zaO x.den_nz (by have:=zag (-k).toNat;omega))
 ·refine sD ?_ (ct h.2 (by omega)) x.den_nz;rw[zbq,zdn];exact ct (lj h.1 (pw _)) (by omega)
def aok(J:cq a x)(U:cq b y):cq (a+b+1) (x+y):=by
 rw[zdm];have er:=lj J.1 U.2;have bb:=lj U.1 J.2;refine sD (lg (BZ er (ct bb (by omega))) ?_) (ct (lj J.2 U.2) (by omega)) (zaO x.den_nz y.den_nz);have:=Int.natAbs_add_le (x.num*y.den) (y.num*x.den);rw[zbq,zbq]at this;simpa using this
def YD(J:cq a x)(U:cq b y):cq (a+b+1) (x-y):=by
 rw[zcM];exact aok J (NN U)
def YB{e p:Int}(h:b0 e p):cq 2000 (ib e p):=by
 obtain⟨J,U,af,ax,a0⟩:=h;obtain⟨cD,db⟩:=ia J U;exact cJ (AK 1200 (YD (AK 120 AJ (by omega) (by omega)) AJ) (by omega) (by omega)) (by decide)
def IM:bc where
 L:=Int×Int
 args:=fun(e,p)=>[hz e p]
 pre:=fun(e,p)=>b0 e p
 res:=fun(e,p)=>bg (ib e p)
def OB:a6 aS.ctx 149 IM.spec:=by
 refine bq [(250,rG.spec),(27,sN.spec),(144,wB.spec),(252,yD.spec),(251,uF.spec)] S3.1 ?_;intro⟨e,p⟩ az H aH;obtain⟨J,U,af,ax,a0⟩:=az;obtain⟨cD,db⟩:=ia J U;have iS:=AK (k:=p) 120 AJ (by omega) (by omega);refine I ?_;refine aC rH p ⟨by omega,by omega⟩ ?_;refine aC mC (1:Int) ⟨by decide,by decide⟩ ?_;refine aC Er (b9 (mkRat 1 1) p,mkRat 1 1) ⟨cJ iS (by decide),cJ AJ (by decide)⟩ (I ?_);refine aZ A7 (e,p) ⟨J,U,af,ax,a0⟩ (an 14 ?_);refine ag 14 (.i .i64 (ch e-p)) rfl (bo rfl (by omega) (by omega)) (an 15 ?_);refine ag 15 (.i .i64 (ch e-p+1)) rfl (bo rfl (by omega) (by omega)) ?_;refine aZ sP (b9 (mkRat 1 1) p-mkRat 1 1,ch e-p+1) ⟨cJ (YD iS AJ) (by decide),by show _<=ch e-p+1;omega,by show ch e-p+1<=_;omega⟩ (I ?_);exact au rfl (.refl _)
def Ov:bc where
 L:=Int×Int×Rat
 args:=fun(e,p,x)=>[hz e p,bg x]
 pre:=fun(e,p,x)=>b0 e p∧cq 67108864 x
 res:=fun(e,p,x)=>.b (decide (fD x<b9 (mkRat 1 1) (1-ch e)))
def ZJ:a6 aS.ctx 333 Ov.spec:=by
 refine bq [(248,A6.spec),(386,Z6.spec),(79,px.spec)] UH.1 ?_;intro⟨e,p,x⟩ ⟨az,(aa:cq _ x)⟩ H aH;have ef:=az;obtain⟨J,U,af,ax,a0⟩:=ef;obtain⟨cD,db⟩:=ia J U;refine I ?_;refine aZ Eh x trivial (I ?_);refine aZ apD (e,p) az (I ?_);refine aZ py (fD x,b9 (mkRat 1 1) (1-ch e)) ⟨cJ (NM aa) (by decide),cJ (AL (c:=2000) (by omega) (by omega)) (by decide)⟩ (I ?_);exact au rfl (.of (by show ah.b (decide _)=ah.b (decide _);congr 1;rw[decide_eq_decide];exact Rp))
def hS(e p:Int)(x:Rat):Int:=if fD x<b9 (mkRat 1 1) (1-ch e)then 2-ch e-p else gf x.num.natAbs x.den-p+1
def OT:bc where
 L:=Int×Int×Rat
 args:=fun(e,p,x)=>[hz e p,bg x]
 pre:=fun(e,p,x)=>b0 e p∧cq 3000000 x
 res:=fun(e,p,x)=>bg (b9 (mkRat 1 1) (hS e p x))
def abs_zero(h:x.num=0)(k:Int):fD x<b9 (mkRat 1 1) k:=by
 rw[Nq,h];simp;exact zbe (zaV x.den_nz) (zag _)
def aac:a6 aS.ctx 243 OT.spec:=by
 refine bq [(333,Ov.spec),(260,IT.spec),(334,OF.spec),(250,rG.spec)] TU.1 ?_;intro⟨e,p,x⟩ ⟨az,(aa:cq _ x)⟩ H aH;have ef:=az;obtain⟨J,U,af,ax,a0⟩:=ef;obtain⟨cD,db⟩:=ia J U;refine I ?_;refine aC ZJ (e,p,x) ⟨az,cJ aa (by decide)⟩ (I ?_);refine cf (fun h=> ?_) (fun h=> ?_)
 ·refine I ?_;refine aC OE (e,p) az (I ?_);exact au rfl (.of (by show bg _=bg _;unfold hS;rw[zab h]))
 ·have h0:x.num≠0:=fun aB=>h (abs_zero aB _);have hV:=DN x.num.natAbs x.den;have ti:=qw aa.1;have B6:=qw aa.2;obtain⟨k,ab⟩:∃k:Int,k=gf x.num.natAbs x.den:=⟨_,rfl⟩;rw[<-ab]at hV;refine I ?_;refine aZ Z1 x ⟨aa,h0⟩ (an 14 ?_);refine ag 14 (.i .i64 (k-p)) rfl (by rw[ab];exact bo rfl (by omega) (by omega)) (an 15 ?_);refine ag 15 (.i .i64 (k-p+1)) rfl (bo rfl (by omega) (by omega)) ?_;refine aZ rH (k-p+1) ⟨by show _<=k-p+1;omega,by show k-p+1<=_;omega⟩ (I ?_);exact au rfl (.of (by show bg _=bg _;unfold hS;rw[zaa h,ab];rfl))
def apy{c:Int}:bY (.bu [.agg [.i .i64 0,.nl,.nl],.i .i64 c]) (.bu [bg 0,.i .i64 c]):=.bu ⟨OD,.refl _,trivial⟩
def mc(p q:Nat)(k:Int):Prop:=q*2^k.toNat<=p*2^(-k).toNat
variable{i:Nat}
def ajs{k:Int}(h:mc p q (k+1)):mc p q k:=by
 unfold mc at *;rcases(show 0<=k∨k<0 by omega)with h0|h0
 ·rw[show(k+1).toNat=k.toNat+1 by omega,show(-(k+1)).toNat=0 by omega,zak]at h;rw[show(-k).toNat=0 by omega];exact zaj (lp q (by omega)) h
 ·rw[show(k+1).toNat=0 by omega]at h;rw[show k.toNat=0 by omega,show(-k).toNat=(-(k+1)).toNat+1 by omega,zak];exact zaj h (lp p (by omega))
def Gz{j k:Int}(mi:j<=k)(h:mc p q k):mc p q j:=by
 obtain⟨n,rfl⟩:∃n:Nat,k=j+n:=⟨(k-j).toNat,by omega⟩
 induction n with
 |zero=>simpa using h
 |succ n a8=>exact a8 (by omega) (ajs (by rw[show j+(n:Int)+1=j+((n+1:Nat):Int) by omega];exact h))
def DO(hp:p≠0)(hq:q≠0)(k:Int):k<=gf p q↔mc p q k:=by
 obtain⟨gU,gV⟩:=qP hp;obtain⟨cP,cT⟩:=qP hq;have fC:=vf (n:=p) (by omega);have gO:=vf (n:=q) (by omega);have e:gf p q=if p*2^((bI q:Int)-bI p).toNat<q*2^((bI p:Int)-bI q).toNat then(bI p:Int)-bI q-1 else(bI p:Int)-bI q:=rfl;obtain⟨a,aY⟩:∃a,bI p=a+1:=⟨_,fC⟩;obtain⟨b,hb⟩:∃b,bI q=b+1:=⟨_,gO⟩;rw[aY,show a+1-1=a by omega]at gU;rw[hb,show b+1-1=b by omega]at cP;rw[aY]at gV e;rw[hb]at cT e;have aL:mc p q ((a:Int)-b-1):=by
  unfold mc;rcases(show(b:Int)+1<=a∨(a:Int)<b+1 by omega)with h|h
  ·rw[show(-((a:Int)-b-1)).toNat=0 by omega,zbi,zaE];refine zaj (fq _ (zbf cT)) ?_;rw[<-zal,show b+1+((a:Int)-b-1).toNat=a by omega];exact gU
  ·rw[show((a:Int)-b-1).toNat=0 by omega,zbi,zaE];refine zaj (zbf cT) (zaj ?_ (fq _ gU));rw[<-zal,show a+(-((a:Int)-b-1)).toNat=b+1 by omega];exact b5 _
 have hi:¬mc p q ((a:Int)-b+1):=by
  unfold mc;rw[Nat.not_le];rcases(show(b:Int)<=a+1∨(a:Int)+1<b by omega)with h|h
  ·rw[show(-((a:Int)-b+1)).toNat=0 by omega,zbi,zaE];refine fy gV (zaj ?_ (fq _ cP));rw[<-zal,show b+((a:Int)-b+1).toNat=a+1 by omega];exact b5 _
  ·rw[show((a:Int)-b+1).toNat=0 by omega,zbi,zaE];refine fy (zcv gV (zag _)) (zaj ?_ cP);rw[<-zal,show a+1+(-((a:Int)-b+1)).toNat=b by omega];exact b5 _
 have e2:(p*2^(((b+1:Nat):Int)-((a+1:Nat):Int)).toNat<q*2^(((a+1:Nat):Int)-((b+1:Nat):Int)).toNat)↔¬mc p q ((a:Int)-b):=by
  unfold mc;rw[Nat.not_le,show((b+1:Nat):Int)-((a+1:Nat):Int)= -((a:Int)-b) by omega,show((a+1:Nat):Int)-((b+1:Nat):Int)=(a:Int)-b by omega]
 by_cases hm:mc p q ((a:Int)-b)
 ·rw[zaa (fun h=>e2.1 h hm)]at e;rw[e];exact⟨fun h=>Gz (by omega) hm,fun h=>zcl.1 fun aB=>hi (Gz (by omega) h)⟩
 ·rw[zab (e2.2 hm)]at e;rw[e];exact⟨fun h=>Gz (by omega) aL,fun h=>zcl.1 fun aB=>hm (Gz (by omega) h)⟩
def Pv{e p:Int}(h0:x.num≠0):EP e p x=hS e p x:=by
 have aa:x.num.natAbs≠0:=by omega
 have J:=DO aa x.den_nz (1-ch e);have U:= @Nq x (1-ch e);unfold EP hS;rw[zaa h0];unfold mc at J;by_cases hc:fD x<b9 (mkRat 1 1) (1-ch e)
 ·rw[zab hc];have af:=U.1 hc;have ax:¬1-ch e<=gf x.num.natAbs x.den:=fun h=>by have:=J.1 h;omega
  omega
 ·rw[zaa hc];have af:=mt U.2 hc;have ax:=J.2 (by omega);omega
def Yt:bc where
 L:=Nat
 args:=fun n=>[.i .i64 n]
 pre:=fun n=>n<1000000000
 res:=fun n=>.s (gD (h6 9 n).reverse)
def ao4(n i:Nat):n/10^i<=n:=zau _ _
def aoc:a6 aS.ctx 261 Yt.spec:=by
 refine bq [] Ue.1 ?_;intro(n:Nat) (hn:n<1000000000) H aH;refine I ?_;refine df (L:=Nat) (fun i=>i<=9) (fun(i:Nat)=>⟨[],0,[(0,.i .i64 (n/10^i:Nat)),(3,.s (gD (h6 i n).reverse)),(4,.i .i64 i)]⟩) (fun i=>9-i) [] 0 (zaf _) (by show 9-0<bT+1;unfold bT;omega) (iC ⟨by simp;rfl,rfl,rfl,trivial⟩) ?_;intro(i:Nat) hi;have hm:=ao4 n i;have ai:n/10^(i+1)=n/10^i/10:=by rw[zak,zaY]
 have hl:gD (h6 (i+1) n).reverse=gD [n/10^i%10]++gD (h6 i n).reverse:=by rw[XU,zbX,FD];rfl
 have hlen:(gD (h6 i n).reverse).length=i:=by rw[tg,zbr,yc]
 generalize j8:n/10^i=m at *;refine I ?_;refine cf (fun h=> ?_) (fun h=> ?_)
 ·have h:i<9:=by omega
  refine an 10 ?_;refine ag 10 (.i .i64 ((m%10:Nat):Int)) rfl rfl (an 11 ?_);refine ag 11 (.i .i64 ((48+m%10:Nat):Int)) rfl bo (an 12 ?_);refine ag 12 (.i .u8 ((UInt8.ofNat (48+m%10)).toNat:Int)) rfl (by rw[UInt8.toNat_ofNat']) (I ?_);refine mD 0 kE [UInt8.ofNat (48+m%10)] ?_;refine O1 (gD [m%10]) ?_;refine I ?_;refine sR ?_ (hl:=by rw[hlen];show 1+i<=_;omega);refine ag 16 (.s (gD (h6 (i+1) n).reverse)) rfl (by rw[hl]) (I ?_);exact ba [] (i+1) ⟨by show 9-(i+1)<9-i;omega,h⟩ (iC ⟨by rw[ai];show some (ah.i _ (IntKind.i64.wrap ((m/10:Nat):Int)))=_;exact eC rfl (by omega) (by omega),rfl,eC,trivial⟩)
 ·have he:i=9:=by omega
  subst he;refine I ?_;exact au rfl (.refl _)
def aad:bc where
 L:=Nat
 args:=fun n=>[cS n]
 pre:=fun n=>dy 1073741824 n
 res:=fun n=>.s (dP n)
def RO(h:d<10):dec d=[d]:=by
 unfold dec;split
 ·rename_i h0;rw[h0]
 ·rw[nv (by decide) (by assumption),dH h,zaX h,ft];rfl
def asU{c2:ac Nat}(h:d≠0):eF (c2++[d])=c2++[d]:=by rw[rQ,zaa h]
theorem LB:∀l:ac Nat,(l.flatMap (h6 9)).length=9*l.length
 |[]=>rfl
 |x::l=>by rw[zdJ,zaL,LB l,yc,zaD];omega
def aae:a6 aS.ctx 154 aad.spec:=by
 refine bq [(261,Yt.spec)] S9.1 ?_;intro(n:Nat) (hn:(aT _ n).length<=_) H aH;have J:=fW (b:=1000000000) (by decide) n;have atl:=fE (b:=1000000000) (by decide) n;show a1.ok _ ⟨_,_,⟨_,_,[(0,c4 (aT 1000000000 n))]⟩⟩;generalize aT 1000000000 n=xs at *;refine I ?_;refine m6 (L:=Unit) (fun _=>True) (fun _=>⟨[],0,[(3,.s (gD (xs.flatMap (h6 9)).reverse))]⟩) ?_ ?_
 ·refine df (L:=Nat) (fun k=>k<=xs.length) (fun(k:Nat)=>⟨[],0,[(0,c4 xs),(3,.s (gD ((xs.drop k).flatMap (h6 9)).reverse)),(4,.i .i64 ((k:Int)-1))]⟩) id [] xs.length (b5 _) (by show xs.length<bT+1;unfold bT;omega) (iC ⟨rfl,by rw[zct];rfl,eC,trivial⟩) ?_;intro(k:Nat) ab;cases k with
  |zero=>
   refine I ?_;exact ba [] () trivial ew
  |succ m=>
   have aa:m<xs.length:=by omega
   have la:=J _ (ea aa);have p8:=LB (xs.drop (m+1));refine ag 4 (.i .i64 (m:Nat)) rfl dY (I ?_);refine ag 9 (.b true) rfl (by simp) (I ?_);refine ep xs[m] (bV aa) ?_;refine I ?_;refine aC aoc xs[m] la ?_;refine sR ?_ (hl:=by rw[tg,tg,zbr,zbr,p8,yc,zaH];omega);refine ag 18 (.s (gD ((xs.drop m).flatMap (h6 9)).reverse)) rfl (by rw[hk aa,zdJ,zbX,FD]) (I ?_);exact ba [] m ⟨by simp,by omega⟩ (iC ⟨rfl,rfl,eC,trivial⟩)
 intro _ _;have bE:=CJ xs;have tV:=Sn J;have hlen:=LB xs;rw[atl]at tV;generalize xs.flatMap (h6 9)=Lp at *;refine I ?_;refine df (L:=ac Nat) (fun es=>cX 10 es∧val 10 es=n∧es.length<=Lp.length) (fun es=>⟨[],0,[(3,.s (gD es.reverse))]⟩) List.length [] Lp ⟨bE,tV,b5 _⟩ (by show Lp.length<bT+1;unfold bT;omega) ew ?_;rintro es ⟨aM,aN,bf⟩;rcases zcg es with rfl|⟨c2,d,rfl⟩
 ·have ka:n=0:=by rw[<-aN];rfl
  refine I ?_;refine au rfl (.of ?_);show ah.s [48]=ah.s (dP n);rw[ka];rfl
 rw[zch]at *;have aq:d<10:=aM d (by simp);have ai:gD (c2++[d]).reverse=UInt8.ofNat (48+d)::gD c2.reverse:=by rw[zbX];rfl
 rw[k0]at aN;simp only[val,zbw,zaJ]at aN;refine ag 3 (.s (UInt8.ofNat (48+d)::gD c2.reverse)) rfl (by rw[ai]) (an 22 ?_);have hl:(gD c2.reverse).length=c2.length:=by rw[tg,zbr]
 by_cases hi:c2=[]
 ·subst hi;refine ag 22 (.b false) rfl (by simp[gD]) (I ?_);refine au rfl (.of ?_);show ah.s (gD [d])=ah.s (dP n);have:n=d:=by simp[val]at aN;exact aN.symm
  rw[this];congr 1;unfold dP;rw[RO aq]
 have auG:0<c2.length:=zbg.2 hi;refine ag 22 (.b true) rfl (by rw[zaD,hl];simp;omega) (I ?_);refine mF (UInt8.ofNat (48+d)) (j:=0) rfl ?_;refine an 25 ?_;have jG:=F3 aq;by_cases tG:d=0
 ·refine ag 25 (.b true) rfl (by rw[jG,tG];rfl) (I ?_);refine rI (p:=1) (gD c2.reverse) ?_ (hp:=by simp) (hq:=by simp);refine I ?_;exact ba [] c2 ⟨by simp,fun x aa=>aM x (by simp[aa]),by rw[tG]at aN;simpa using aN,by simp at bf;omega⟩ ew
 ·refine ag 25 (.b false) rfl (by rw[jG];exact congrArg ah.b (zac (by omega))) (I ?_);refine au rfl (.of ?_);show ah.s (UInt8.ofNat (48+d)::gD c2.reverse)=ah.s (dP n);rw[<-ai];have e:=zH (b:=10) (by decide) aM (asU tG);rw[k0]at e;simp only[val,zbw,zaJ]at e;rw[aN]at e;have ka:n≠0:=fun h=>by rw[h,ft]at e;simp at e
  unfold dP dec;rw[zaa ka,e]
def QI(h:dy k n):(dP n).length<=9*k+1:=by
 unfold dP dec;rw[tg];split
 ·simp
 ·rw[zbr];refine zdt (hL (b:=10) (by decide) ?_);have:=r3 h;rw[show(1000000000:Nat)=10^9 from rfl,<-zbD]at this;exact this
def Ot:bc where
 L:=Rat
 args:=fun x=>[bg x]
 pre:=fun x=>cq 67108864 x
 res:=fun x=>.s (kg x)
def ZD:a6 aS.ctx 72 Ot.spec:=by
 refine bq [(154,aad.spec),(78,OC.spec)] Vx.1 ?_;intro(x:Rat) (aa:cq _ x) H aH;have eW:=QI aa.1;have g1:=QI aa.2;refine I ?_;refine aC aae x.num.natAbs (ct aa.1 (by decide)) (I ?_);have abB:x.num.sign<0↔x.num<0:=zeI;obtain⟨u,hu⟩:∃u,u=(if x.num<0 then[45]else[])++dP x.num.natAbs:=⟨_,rfl⟩;have tU:u.length<=9*67108864+2:=by
  rw[hu,zaL];have:(if x.num<0 then([45]:ac bv)else[]).length<=1:=by split<;>simp
  omega
 refine fK (L:=Unit) (fun _=>True) (fun _=>⟨[.c 83 (pr x)],1,[(1,.p 0 0),(3,.s u)]⟩) ?_ ?_
 ·refine cf (fun h=> ?_) (fun h=> ?_)
  ·refine I ?_;refine sR ?_ (hl:=by show 1+(dP _).length<=_;omega);refine I ?_;exact ba [0] () trivial (dK ⟨rfl,by rw[hu,zab (abB.1 h)];rfl,trivial⟩ ⟨_,rfl,rfl⟩)
  ·refine I ?_;exact ba [0] () trivial (dK ⟨rfl,by rw[hu,zaa (fun aB=>h (abB.2 aB))];rfl,trivial⟩ ⟨_,rfl,rfl⟩)
 intro _ _;refine I ?_;refine aC ZW x aa (I ?_);refine Bi (fun h=> ?_) (fun h=> ?_)
 ·have h0:x.num≠0:=fun e=>h (by have:=x.reduced;rw[e]at this;simpa[Nat.Coprime]using this);refine I ?_;refine sR ?_ (hl:=by show u.length+1<=_;omega);refine an 18 ?_;refine ag 18 (cS x.den) rfl (by rw[zaa h0];rfl) ?_;refine aC aae x.den (ct aa.2 (by decide)) ?_;refine sR ?_ (hl:=by rw[zaL];show u.length+1+(dP _).length<=_;omega);refine I ?_;refine au rfl (.of ?_);show ah.s (u++[47]++dP x.den)=ah.s (kg x);unfold kg;rw[<-hu,zaa h,zbW];rfl
 ·refine I ?_;refine au rfl (.of ?_);show ah.s u=ah.s (kg x);unfold kg;rw[<-hu,zab h,zcN]
def OQ:bc where
 L:=ac bv
 args:=fun s=>[.s s]
 pre:=fun s=>s.length<=1073741824
 res:=fun s=>.b (decide (hG s))
def ads{s:ac bv}(h:i<s.length)(J:ja (s.take i))(U:48<=s[i].toNat∧s[i].toNat<=57):ja (s.take (i+1)):=by
 rw[zbs h];intro c hc;rcases zcd.1 hc with hc|hc
 ·exact J c hc
 ·simp at hc;subst hc;exact U
def OR:a6 aS.ctx 241 OQ.spec:=by
 refine bq [] TS.1 ?_;intro(s:ac bv) (ai:s.length<=_) H aH;refine I ?_;refine m6 (L:=Unit) (fun _=>ja s) (fun _=>⟨[],0,[(0,.s s)]⟩) ?_ ?_
 ·refine df (L:=Nat) (fun i=>i<=s.length∧ja (s.take i)) (fun(i:Nat)=>⟨[],0,[(0,.s s),(3,.i .i64 i)]⟩) (fun i=>s.length-i) [] 0 ⟨zaf _,fun c hc=>by simp at hc⟩ (by show s.length-0<bT+1;unfold bT;omega) ew ?_;rintro(i:Nat) ⟨hi,aY⟩;refine I ?_;refine cf (fun h=> ?_) (fun h=> ?_)
  ·have h:i<s.length:=by omega
   have hm:s[i]∈s:=ea h;refine I ?_;refine mF s[i] (bV h) ?_;refine an 14 ?_;have bad:¬(48<=s[i].toNat∧s[i].toNat<=57)->bY (.b false) (OQ.res s):=fun h=>.of (by show ah.b false=ah.b (decide _);rw[zac (fun hb=>h (hb.2.1 _ hm))]);by_cases J:s[i].toNat<48
   ·refine ag 14 (.b true) rfl (by rw[zad (by omega)]) (I ?_);exact au rfl (bad (by omega))
   refine ag 14 (.b false) rfl (by rw[zac (by omega)]) (I ?_);refine mF s[i] (bV h) ?_;refine I ?_;refine cf (fun U=> ?_) (fun U=> ?_)
   ·refine I ?_;exact au rfl (bad (by omega))
   ·refine I ?_;exact ba [] (i+1) ⟨by show s.length-(i+1)<s.length-i;omega,h,ads h aY (by omega)⟩ (iC ⟨rfl,eC,trivial⟩)
  ·have he:i=s.length:=by omega
   subst he;rw[zcb]at aY;refine I ?_;exact ba [] () aY ew
 intro _ eQ;cases s with
 |nil=>
  refine an 23 ?_;refine ag 23 (.b false) rfl rfl (I ?_);exact au rfl (.of (by show ah.b false=ah.b (decide _);rw[zac (fun hb=>hb.1 rfl)]))
 |cons c t=>
  refine an 23 ?_;refine ag 23 (.b true) rfl (by simp) (an 26 ?_);by_cases hb:c::t=[48]
  ·refine ag 26 (.b true) rfl (by rw[hb];rfl) (I ?_);exact au rfl (.of (by show ah.b true=ah.b (decide _);rw[zad ⟨by simp,eQ,.inl hb⟩]))
  refine ag 26 (.b false) rfl (by rw[zaS.2 hb]) (I ?_);refine mF c (j:=0) rfl ?_;refine I ?_;refine au rfl (.of ?_);show ah.b (decide _)=ah.b (decide _);congr 1;rw[decide_eq_decide];constructor
  ·intro h;refine⟨by simp,eQ,.inr fun e=>h ?_⟩;have e:c=48:=by simpa using e
   rw[e];rfl
  ·rintro⟨_,_,h|h⟩ e
   ·exact hb h
   ·exact h (congrArg some (zcD.1 (show c.toNat=48 by omega)))
def EG(s:ac bv):ah:=
 match(cutAt (dQ s).2).2 with
 |none=>.bu [.s (dQ s).2,.s [49],.i .i64 (if(dQ s).1=true then -1 else 1),.b (decide (hG (dQ s).2∧¬((dQ s).1=true∧(dQ s).2=[48])))]
 |some q=>.bu [.s (cutAt (dQ s).2).1,.s q,.i .i64 (if(dQ s).1=true then -1 else 1),.b (decide (hG (cutAt (dQ s).2).1∧hG q∧q≠[48]∧q≠[49]∧¬((dQ s).1=true∧(cutAt (dQ s).2).1=[48])))]
def RP{p:Prop}[Decidable p]{b:Bool}:decide p=b↔(p↔b=true):=by cases b<;>simp
def I3:bc where
 L:=ac bv
 args:=fun s=>[.s s]
 pre:=fun s=>s.length<=1073741824
 res:=fun s=>EG s
def afl{s:ac bv}(h:i<s.length)(J:(47:bv)∉s.take i)(U:s[i]=47):cutAt s=(s.take i,some (s.drop (i+1))):=by
 refine FV J ?_;rw[<-U,<-hk h,zbh]
def apJ:a6 aS.ctx 141 I3.spec:=by
 refine bq [(241,OQ.spec)] SV.1 ?_;intro(s:ac bv) (ai:s.length<=_) H aH;have Hk:(dQ s).2.length<=s.length:=by
  unfold dQ;split
  ·exact zaf _
  ·split<;>simp
 refine an 7 ?_
 iterate 3 refine ha ?_
 refine fK (L:=Unit) (fun _=>True) (fun _=>⟨[],0,[(6,.s (dQ s).2),(7,.i .i64 (if(dQ s).1=true then -1 else 1))]⟩) ?_ ?_
 ·cases s with
  |nil=>
   refine I ?_;exact ba [] () trivial ew
  |cons c t=>
   refine an 15 ?_;refine ag 15 (.b true) rfl (by simp) (I ?_);refine mF c (j:=0) rfl ?_;refine I ?_;by_cases hc:c=45
   ·subst hc;refine ag 19 (.b true) rfl rfl (I ?_);refine rI (p:=1) t ?_ (hp:=by simp) (hq:=by simp);refine I ?_;exact ba [] () trivial ew
   ·have aO:dQ (c::t)=(false,c::t):=zaa hc;refine ag 19 (.b false) rfl (congrArg ah.b (zac (fun e=>hc (zcD.1 (show c.toNat=45 by omega))))) (I ?_);exact ba [] () trivial (iC ⟨by rw[aO];rfl,by rw[aO];rfl,trivial⟩)
 intro _ _;obtain⟨⟨n,t⟩,aO⟩:∃g,g=dQ s:=⟨_,rfl⟩;rw[<-aO]at Hk;have fin:∀{r},EG s=r->bY r (I3.res s):=fun h=>.of h.symm;unfold EG at fin;rw[<-aO]at fin⊢;simp only at fin Hk;obtain⟨ca,k9⟩:∃ca:Int,ca=if n=true then -1 else 1:=⟨_,rfl⟩;have sm:decide (ca>0)= !n:=by rw[k9];cases n<;>rfl
 refine ag 7 (.i .i64 ca) rfl (by rw[k9]) ?_;rw[<-k9]at fin;refine I ?_;refine m6 (L:=Unit) (fun _=>(47:bv)∉t) (fun _=>⟨[],0,[(6,.s t),(7,.i .i64 ca)]⟩) ?_ ?_
 ·refine df (L:=Nat) (fun i=>i<=t.length∧(47:bv)∉t.take i) (fun(i:Nat)=>⟨[],0,[(6,.s t),(7,.i .i64 ca),(8,.i .i64 i)]⟩) (fun i=>t.length-i) [] 0 ⟨zaf _,fun hm=>by simp at hm⟩ (by show t.length-0<bT+1;unfold bT;omega) ew ?_;rintro(i:Nat) ⟨hi,aY⟩;refine I ?_;refine cf (fun h=> ?_) (fun h=> ?_)
  ·have h:i<t.length:=by omega
   refine I ?_;refine mF t[i] (bV h) ?_;refine I ?_;refine cf (fun hc=> ?_) (fun hc=> ?_)
   ·have hc:t[i]=47:=zcD.1 (show t[i].toNat=47 by omega);have p5:=afl h aY hc;rw[p5]at fin;simp only at fin;generalize fP:t.take i=P at *;generalize o6:t.drop (i+1)=Q at *;have Nf:P.length<=t.length:=by rw[<-fP];simp;omega
    have anm:Q.length<=t.length:=by rw[<-o6];simp
    refine I ?_;refine FY P ?_ (hl:=by rw[<-fP];simp);refine an 37 ?_;refine cm 37 (.i .i64 ((i+1:Nat):Int)) rfl rfl bo ?_;refine FY Q ?_ (hl:=by rw[<-o6];exact zaF (by simp));refine I ?_;have bad:¬(hG P∧hG Q∧Q≠[48]∧Q≠[49]∧¬(n=true∧P=[48]))->bY (.bu [.s P,.s Q,.i .i64 ca,.b false]) (I3.res s):=fun h=>fin (by rw[zac h]);refine aC OR P (by show P.length<=_;omega) (an 44 ?_);by_cases J:hG P
    ·refine dG 44 J (I ?_);refine aC OR Q (by show Q.length<=_;omega) (an 48 ?_);by_cases U:hG Q
     ·refine dG 48 U (an 52 ?_);by_cases af:Q=[48]
      ·refine ag 52 (.b false) rfl (by rw[af];rfl) (I ?_);exact au rfl (bad (fun h=>h.2.2.1 af))
      refine ag 52 (.b true) rfl (by rw[zaS.2 af];rfl) (an 56 ?_);by_cases ax:Q=[49]
      ·refine ag 56 (.b false) rfl (by rw[ax];rfl) (I ?_);exact au rfl (bad (fun h=>h.2.2.2.1 ax))
      refine ag 56 (.b true) rfl (by rw[zaS.2 ax];rfl) (an 59 ?_);by_cases a0:P=[48]
      ·refine ag 59 (.b false) rfl (by rw[a0];rfl) (I ?_);refine au rfl (fin ?_);rw[sm];refine congrArg (fun b=>ah.bu [.s P,.s Q,.i .i64 ca,.b b]) ?_;rw[RP];simp[U,af,ax,a0];exact fun _=>a0▸J
      ·refine ag 59 (.b true) rfl (by rw[zaS.2 a0];rfl) (I ?_);exact au rfl (fin (by rw[zad ⟨J,U,af,ax,fun h=>a0 h.2⟩]))
     ·refine dW 48 U (I ?_);exact au rfl (bad (fun h=>U h.2.1))
    ·refine dW 44 J (I ?_);exact au rfl (bad (fun h=>J h.1))
   ·have hc:t[i]≠47:=fun e=>hc (by rw[e];rfl);refine I ?_;refine ba [] (i+1) ⟨by show t.length-(i+1)<t.length-i;omega,h,?_⟩ (iC ⟨rfl,rfl,eC,trivial⟩);rw[zbs h];intro hm;rcases zcd.1 hm with hm|hm
    ·exact aY hm
    ·simp at hm;exact hc hm.symm
  ·have he:i=t.length:=by omega
   subst he;rw[zcb]at aY;refine I ?_;exact ba [] () aY ew
 intro _ gb;rw[RE gb]at fin;simp only at fin;refine I ?_;refine aC OR t (by show t.length<=_;omega) (an 68 ?_);by_cases hb:hG t
 ·refine dG 68 hb (an 71 ?_);by_cases h0:t=[48]
  ·refine ag 71 (.b false) rfl (by rw[h0];rfl) (I ?_);refine au rfl (fin ?_);rw[sm];refine congrArg (fun b=>ah.bu [.s t,.s [49],.i .i64 ca,.b b]) ?_;rw[RP];simp[h0];exact fun _=>h0▸hb
  ·refine ag 71 (.b true) rfl (by rw[zaS.2 h0];rfl) (I ?_);refine au rfl (fin ?_);rw[zad ⟨hb,fun h=>h0 h.2⟩]
 ·refine dW 68 hb (I ?_);refine au rfl (fin ?_);rw[zac (fun h=>hb h.1)]
def O5(u v:ac bv):b4 (u++v)=b4 v+10^v.length*b4 u:=by
 unfold b4 mT;rw[zcW,zbX,k0,zbr,zbA]
def O7(w:ac bv)(c:bv):b4 (w++[c])=(c.toNat-48)+10*b4 w:=by
 rw[O5];simp[b4,mT,val]
def rJ{s:ac bv}(h:ja s):b4 s<10^s.length:=by
 have:=jW (b:=10) (ds:=(mT s).reverse) (fun d aq=>RU h d (zeJ.1 aq));rw[zbr]at this;unfold mT at this;rw[zbA]at this;exact this
def aaa:bc where
 L:=ac bv
 args:=fun s=>[.s s]
 pre:=fun s=>ja s∧s.length<=1073741824
 res:=fun s=>cS (b4 s)
def apH(s:ac bv)(i:Int):ac Nat->cW
 |[]=>⟨[],0,[(0,.s s),(3,.nl),(4,.i .i64 i)]⟩
 |d::ds=>⟨[.a 2 true 1 Nat fO (d::ds)],1,[(0,.s s),(3,.bj 0 1 0 (d::ds).length (d::ds).length),(4,.i .i64 i)]⟩
def aqf{s:ac bv}{es:ac Nat}{aL:Nat}(h:b4 s=val 1000000000 es+1000000000^es.length*b4 (s.take r))(hr:r<=s.length)(fH:aL=r-9):
 b4 s=val 1000000000 (es++[b4 ((s.take r).drop aL)])+1000000000^(es++[b4 ((s.take r).drop aL)]).length*b4 (s.take aL):=by
 have e:s.take r=s.take aL++(s.take r).drop aL:=by
  conv=>lhs;rw[<-zbh aL (s.take r)]
  rw[zdH,zaB (by omega)]
 have e2:b4 (s.take r)=b4 ((s.take r).drop aL)+1000000000*b4 (s.take aL):=by
  conv=>lhs;rw[e,O5]
  congr 1;rcases(show aL=0∨r=aL+9 by omega)with h0|h0
  ·subst h0;simp[b4,mT,val]
  ·rw[zaH,zay,zaB hr,h0,zeU]
 rw[h,e2,k0,zaL,zal];simp only[val,zaD,List.length_nil,zbw,zaJ,zav,Nat.pow_one];rw[zaz,zat];omega
def aab:a6 aS.ctx 142 aaa.spec:=by
 refine bq [(157,wC.spec)] SW.1 ?_;intro(s:ac bv) ⟨(eQ:ja s),(ai:s.length<=_)⟩ H aH;refine I ?_;refine df (L:=Int×ac Nat) (fun(i,es)=>i<=s.length∧-9<=i∧es.length+i.toNat<=s.length∧cX 1000000000 es∧b4 s=val 1000000000 es+1000000000^es.length*b4 (s.take i.toNat)) (fun(i,es)=>apH s i es) (fun l=>l.1.toNat) [] ((s.length:Int),[]) ⟨zdp _,by show -9<=(s.length:Int);omega,by simp,fun x aa=>by simp at aa,by simp[val]⟩ (by show((s.length:Int)).toNat<bT+1;unfold bT;omega) ew ?_;rintro⟨i,es⟩ ⟨J,U,af,ax,a0⟩;obtain⟨r,hr⟩:∃r,r=i.toNat:=⟨_,rfl⟩;rw[<-hr]at af a0;obtain⟨aL,fH⟩:∃aL,aL=r-9:=⟨_,rfl⟩;have nH:=aqf a0 (by omega) fH;have jG:ja ((s.take r).drop aL):=fun c hc=>eQ c (zbL (zcJ hc));have a4:=rJ jG;have auK:b4 ((s.take r).drop aL)<1000000000:=fy a4 (zax (n:=10) (by decide) (show _<=9 by simp;omega));have kP:¬0<i->aT 1000000000 (b4 s)=eF es:=fun h=>by
  have:r=0:=by omega
  rw[this]at a0;rw[yV (b:=1000000000) (by decide) ax,a0];simp[b4,mT,val]
 have piece:∀k:Nat,aL<=k->k<=r->b4 ((s.take k).drop aL)<10^(k-aL):=fun k vE jq=>by
  have h:=rJ (s:=(s.take k).drop aL) (fun c hc=>eQ c (zbL (zcJ hc)))
  rwa [zaH,zay,zaB (by omega)]at h
 cases es with
 |nil=>
  refine I ?_;refine cf (fun hi=> ?_) (fun hi=> ?_)
  ·have nD:i=(r:Int):=by omega
   subst nD;refine an 14 ?_;refine ag 14 (.i .i64 ((r:Int)-9)) rfl (bo rfl (by omega) (by omega)) (an 15 ?_);refine ag 15 (.i .i64 (aL:Nat)) rfl dY (I ?_);refine m6 (L:=Unit) (fun _=>True) (fun _=>⟨[],0,[(0,.s s),(3,.nl),(4,.i .i64 (r:Int)),(5,.i .i64 (b4 ((s.take r).drop aL):Nat))]⟩) ?_ ?_
   ·refine df (L:=Nat) (fun k=>aL<=k∧k<=r) (fun(k:Nat)=>⟨[],0,[(0,.s s),(3,.nl),(4,.i .i64 (r:Int)),(5,.i .i64 (b4 ((s.take k).drop aL):Nat)),(6,.i .i64 k)]⟩) (fun k=>r-k) [] aL ⟨b5 _,by omega⟩ (by show r-aL<bT+1;unfold bT;omega) (iC ⟨rfl,rfl,rfl,by rw[zbj (by simp;omega)];rfl,rfl,trivial⟩) ?_;rintro(k:Nat) ⟨a5,bD⟩;refine I ?_;refine cf (fun ab=> ?_) (fun ab=> ?_)
    ·have ab:k<r:=by omega
     have xL:k<s.length:=by omega
     have hp:=piece k a5 (by omega);have xR:(10:Nat)^(k-aL)<=10^9:=zax (by decide) (by omega);have hc:=eQ _ (ea xL);have sm:b4 ((s.take (k+1)).drop aL)=(s[k].toNat-48)+10*b4 ((s.take k).drop aL):=by
      rw[zbs xL,zeo (by simp;omega),O7]
     generalize hn:b4 ((s.take k).drop aL)=n at *;have alr:n<1000000000:=by omega
     refine I ?_;refine mF s[k] (bV xL) ?_;refine an 26 ?_;have Cx:(s[k].toNat+(256*48-48))%256=s[k].toNat-48:=by omega
     refine ag 26 (.i .u8 ((s[k].toNat-48:Nat):Int)) rfl (congrArg (fun n:Nat=>ah.i .u8 (n:Int)) Cx) (I ?_);refine ba [] (k+1) ⟨by show r-(k+1)<r-k;omega,by omega,ab⟩ (iC ⟨rfl,rfl,rfl,?_,eC,trivial⟩);rw[sm];exact congrArg (fun n=>some (ah.i .i64 n)) (by rw[gd (n:=10*(n:Int)) (by omega) (by omega),gd (n:=((s[k].toNat-48:Nat):Int)) (by omega) (by omega),gd (by omega) (by omega)];omega)
    ·have he:k=r:=by omega
     subst he;refine I ?_;exact ba [] () trivial ew
   intro _ _;generalize hn:b4 ((s.take r).drop aL)=n at *;refine I ?_;refine yI fO [n] (ll (R:=fO) [n] rfl) ?_;refine I ?_;exact ba [1] ((r:Int)-9,[n]) ⟨by show((r:Int)-9).toNat<((r:Int)).toNat;omega,by omega,by omega,by simp;omega,fun x aa=>by simp at aa;omega,by rw[show((r:Int)-9).toNat=aL by omega];exact nH⟩ (ER ⟨rfl,rfl,eC,trivial⟩ ⟨_,rfl,rfl,fun _=>rfl⟩)
  ·refine I ?_;refine Bj 33 (c4 []) rfl bY.nl ?_;refine aC wD [] (by show 0<=_;decide) (I ?_);exact au rfl (.of (by show c4 (eF [])=c4 _;rw[<-kP hi]))
 |cons d ds=>
  refine I ?_;refine cf (fun hi=> ?_) (fun hi=> ?_)
  ·have nD:i=(r:Int):=by omega
   subst nD;refine an 14 ?_;refine ag 14 (.i .i64 ((r:Int)-9)) rfl (bo rfl (by omega) (by omega)) (an 15 ?_);refine ag 15 (.i .i64 (aL:Nat)) rfl dY (I ?_);refine m6 (L:=Unit) (fun _=>True) (fun _=>⟨[.a 2 true 1 Nat fO (d::ds)],1,[(0,.s s),(3,.bj 0 1 0 (d::ds).length (d::ds).length),(4,.i .i64 (r:Int)),(5,.i .i64 (b4 ((s.take r).drop aL):Nat))]⟩) ?_ ?_
   ·refine df (L:=Nat) (fun k=>aL<=k∧k<=r) (fun(k:Nat)=>⟨[.a 2 true 1 Nat fO (d::ds)],1,[(0,.s s),(3,.bj 0 1 0 (d::ds).length (d::ds).length),(4,.i .i64 (r:Int)),(5,.i .i64 (b4 ((s.take k).drop aL):Nat)),(6,.i .i64 k)]⟩) (fun k=>r-k) [0] aL ⟨b5 _,by omega⟩ (by show r-aL<bT+1;unfold bT;omega) (dK ⟨rfl,rfl,rfl,by rw[zbj (by simp;omega)];rfl,rfl,trivial⟩ ⟨_,rfl,rfl,fun _=>rfl⟩) ?_;rintro(k:Nat) ⟨a5,bD⟩;refine I ?_;refine cf (fun ab=> ?_) (fun ab=> ?_)
    ·have ab:k<r:=by omega
     have xL:k<s.length:=by omega
     have hp:=piece k a5 (by omega);have xR:(10:Nat)^(k-aL)<=10^9:=zax (by decide) (by omega);have hc:=eQ _ (ea xL);have sm:b4 ((s.take (k+1)).drop aL)=(s[k].toNat-48)+10*b4 ((s.take k).drop aL):=by
      rw[zbs xL,zeo (by simp;omega),O7]
     generalize hn:b4 ((s.take k).drop aL)=n at *;have alr:n<1000000000:=by omega
     refine I ?_;refine mF s[k] (bV xL) ?_;refine an 26 ?_;have Cx:(s[k].toNat+(256*48-48))%256=s[k].toNat-48:=by omega
     refine ag 26 (.i .u8 ((s[k].toNat-48:Nat):Int)) rfl (congrArg (fun n:Nat=>ah.i .u8 (n:Int)) Cx) (I ?_);refine ba [0] (k+1) ⟨by show r-(k+1)<r-k;omega,by omega,ab⟩ (dK ⟨rfl,rfl,rfl,?_,eC,trivial⟩ ⟨_,rfl,rfl,fun _=>rfl⟩);rw[sm];exact congrArg (fun n=>some (ah.i .i64 n)) (by rw[gd (n:=10*(n:Int)) (by omega) (by omega),gd (n:=((s[k].toNat-48:Nat):Int)) (by omega) (by omega),gd (by omega) (by omega)];omega)
    ·have he:k=r:=by omega
     subst he;refine I ?_;exact ba [0] () trivial du
   intro _ _;generalize hn:b4 ((s.take r).drop aL)=n at *;refine I ?_;have ga:ds.length<=1073741824:=by simp at af;omega
   refine Bh (R:=fO) [n] (ll (R:=fO) [n] rfl) ?_;refine I ?_;refine ba [2] ((r:Int)-9,d::(ds++[n])) ⟨by show((r:Int)-9).toNat<((r:Int)).toNat;omega,by omega,by omega,by simp at af ⊢;omega,?_,by rw[show((r:Int)-9).toNat=aL by omega];exact nH⟩ (ER ⟨rfl,congrArg (fun k=>some (ah.bj 2 1 0 k k)) (by simp),eC,trivial⟩ ⟨_,rfl,rfl,fun _=>rfl⟩);intro x aa;rcases zcd.1 (show x∈(d::ds)++[n]from aa)with h|h
   ·exact ax x h
   ·simp at h;omega
  ·refine I ?_;refine jh 33 ?_;refine aC wD (d::ds) (by show(d::ds).length<=_;omega) (I ?_);exact au rfl (.of (by show c4 (eF (d::ds))=c4 _;rw[<-kP hi]))
def abh(s:ac bv):s=(if(dQ s).1=true then[45]else[])++(dQ s).2:=by
 unfold dQ;split
 ·rfl
 ·split
  ·rename_i c t h;rw[h];rfl
  ·rfl
def ZH{s:ac bv}(h:ja s)(hl:s.length<=9*k):dy k (b4 s):=hL (by decide) (by
 refine fy (rJ h) (zaj (zax (by decide) hl) ?_);rw[zbD];exact b5 _)
def mA(s:ac bv):ah:=match fx s with
 |some x=>.bu [bg x,.i .i64 0]
 |none=>.bu [bg 0,.i .i64 6]
def A9:bc where
 L:=ac bv
 args:=fun s=>[.s s]
 pre:=fun s=>s.length<=2000
 res:=fun s=>mA s
def aqN(n:Bool)(p:Nat):(if n=true then(-1:Int)else 1)*(p:Int)=ik n p:=by cases n<;>simp[ik]
def aqs{N:Nat}{s:ac bv}(iM:1<=N)(ai:s.length<=N):∃P Q b,EG s= .bu [.s P,.s Q,.i .i64 (if(dQ s).1=true then -1 else 1),.b b]∧(b=false->fx s=none)∧
 (b=true->hG P∧hG Q∧P.length<=N∧Q.length<=N∧b4 Q≠0∧(kg (mkRat (ik (dQ s).1 (b4 P)) (b4 Q))=s->fx s=some (mkRat (ik (dQ s).1 (b4 P)) (b4 Q)))∧(kg (mkRat (ik (dQ s).1 (b4 P)) (b4 Q))≠s->fx s=none)):=by
 have sl:=abh s;unfold fx EG;obtain⟨⟨n,t⟩,aO⟩:∃g,g=dQ s:=⟨_,rfl⟩;rw[<-aO]at sl⊢;simp only at sl⊢;have x0:t.length<=N:=by have:=congrArg List.length sl;rw[zaL]at this;omega
 obtain⟨ee,fa,n6⟩:=RD t;obtain⟨⟨P,Q⟩,hq⟩:∃g,g=cutAt t:=⟨_,rfl⟩;rw[<-hq]at ee fa n6⊢;simp only at ee fa n6⊢;cases Q with
 |none=>
  have LV:=n6 rfl;subst LV;refine⟨t,[49],_,rfl,fun h=>zaa (of_decide_eq_false h),fun h=> ?_⟩;have bb:=zbT h;have e:=as3 bb.1 bb.2;exact⟨bb.1,by decide,x0,iM,by decide,fun _=>by rw[zab bb];rfl,fun h=>absurd (e.trans sl.symm) h⟩
 |some q=>
  have aV:=fa q rfl;have Nf:P.length+q.length<=N:=by have:=congrArg List.length aV;rw[zaL,zaD]at this;omega
  refine⟨P,q,_,rfl,fun h=> ?_,fun h=> ?_⟩
  ·have bb:=of_decide_eq_false h;by_cases J:hG P∧¬(n=true∧P=[48])
   ·rw[zab J];exact zaa (fun h=>bb ⟨J.1,h.1,h.2.1,h.2.2.1,J.2⟩)
   ·rw[zaa J]
  ·obtain⟨cD,db,hV,ti,B6⟩:=zbT h;have e:=as2 cD db B6 hV ti;rw[zbW,<-aV,<-sl]at e;refine⟨cD,db,by omega,by omega,fun h=>hV (w9 db h),fun h=> ?_,fun h=> ?_⟩
   ·rw[zab ⟨cD,B6⟩];exact zab ⟨db,hV,ti,e.1 h⟩
   ·rw[zab ⟨cD,B6⟩];exact zaa (fun hh=>h (e.2 hh.2.2.2))
def Ep:a6 aS.ctx 68 A9.spec:=by
 refine bq [(141,I3.spec),(142,aaa.spec),(73,sO.spec),(72,Ot.spec)] Vt.1 ?_;intro(s:ac bv) (ai:s.length<=2000) H aH;have hp:∀{r},fx s=r->bY (match r with|some x=>.bu [bg x,.i .i64 0]|none=>.bu [bg 0,.i .i64 6]) (A9.res s):=fun h=>.of (by subst h;rfl);have fail:fx s=none->bY (.bu [.agg [.i .i64 0,.nl,.nl],.i .i64 6]) (A9.res s):=fun h=>apy.trans (hp h);obtain⟨P,Q,b,dm,az,fY⟩:=aqs (by decide) ai;obtain⟨n,hn⟩:∃n,n=(dQ s).1:=⟨_,rfl⟩;rw[<-hn]at dm fY;have abd: -1<=(if n=true then(-1:Int)else 1)∧(if n=true then(-1:Int)else 1)<=1:=by cases n<;>decide
 refine I ?_;refine aC apJ s (by show s.length<=_;omega) ?_;refine ag 11 _ rfl dm (I ?_);cases b with
 |false=>
  refine I ?_;exact au rfl (fail (az rfl))
 |true=>
  obtain⟨cD,db,Nf,anm,oy,hV,ti⟩:=fY rfl;have ZB:=ZH (k:=223) cD.2.1 (by omega);have ZC:=ZH (k:=223) db.2.1 (by omega);refine an 22 ?_;refine ag 22 (.b false) rfl (congrArg ah.b (zac (by omega))) (I ?_);refine cf (fun h=> ?_) (fun h=> ?_)
  ·omega
  refine I ?_;refine aC aab P ⟨cD.2.1,by show P.length<=_;omega⟩ (I ?_);refine aC aab Q ⟨db.2.1,by show Q.length<=_;omega⟩ ?_;refine aC rE (if n=true then -1 else 1,b4 P,b4 Q) ⟨abd.1,abd.2,ct ZB (by decide),ct ZC (by decide),oy⟩ ?_;refine ag 33 (bg (mkRat (ik n (b4 P)) (b4 Q))) rfl (by show bg _=_;rw[aqN]) (I ?_);refine aC ZD (mkRat (ik n (b4 P)) (b4 Q)) (cJ (sD (by rw[uL];exact ZB) ZC oy) (by decide)) (an 37 ?_);by_cases aV:kg (mkRat (ik n (b4 P)) (b4 Q))=s
  ·refine ag 37 (.b false) rfl (by show ah.b (!(kg _==s))=_;rw[aV];simp) (I ?_);exact au rfl (hp (hV aV))
  ·refine ag 37 (.b true) rfl (by show ah.b (!(kg _==s))=_;rw[zaS.2 aV];rfl) (I ?_);exact au rfl (fail (ti aV))
def Fo(b:Bool):ac ah:=[.b b]
def iR(c:bv):Bool:=decide (48<=c.toNat∧c.toNat<=57)
def xn:ac Bool:=(List.range 256).map fun j=>decide (48<=j∧j<=57)
def pW:ac ah:=xn.flatMap Fo
def afM{j:Nat}(h:j<256):pW.drop j= .b (decide (48<=j∧j<=57))::pW.drop (j+1):=by
 have e:pW=xn.map ah.b:=by unfold pW;rw[List.map_eq_flatMap];rfl
 have hl:j<xn.length:=by unfold xn;rw[zbA,zes];exact h
 rw[e,<-zet,<-zet,hk hl,zaR];congr 2;simp[xn]
def L0:bc where
 L:=bv
 args:=fun c=>[.ip pW,.i .u8 (c.toNat:Int)]
 pre:=fun _=>True
 res:=fun c=>.b (iR c)
def Wk:a6 aS.ctx 269 L0.spec:=by
 refine bq [] Uj.1 ?_;intro(c:bv) _ H aH;have hc:c.toNat<256:=c.toNat_lt;refine I ?_;refine e7 (amq rfl rfl hc) ?_;refine ag 8 (.ip (.b (iR c)::pW.drop (c.toNat+1))) rfl (by rw[zaE,afM hc];rfl) (I ?_);exact au rfl (.refl _)
def abZ:bc where
 L:=ac bv
 args:=fun s=>[.s s,.ip pW]
 pre:=fun s=>s.length<=1073741824
 res:=fun s=>.s (s.dropWhile iR)
def asR:a6 aS.ctx 171 abZ.spec:=by
 refine bq [(269,L0.spec)] Tn.1 ?_;intro(s:ac bv) (ai:s.length<=_) H aH;refine I ?_;refine df (L:=ac bv) (fun t=>t.dropWhile iR=s.dropWhile iR∧t.length<=s.length) (fun t=>⟨[],0,[(0,.s t),(1,.ip pW)]⟩) List.length [] s ⟨rfl,b5 _⟩ (by show s.length<bT+1;unfold bT;omega) ew ?_;rintro t ⟨J,U⟩;cases t with
 |nil=>
  refine I ?_;exact au rfl (.of (by show ah.s []=ah.s _;rw[<-J];rfl))
 |cons c t=>
  refine an 7 ?_;refine ag 7 (.b true) rfl (by simp) (I ?_);refine mF c (j:=0) rfl ?_;refine aC Wk c trivial (I ?_);by_cases hc:iR c=true
  ·refine ag 12 (.b false) rfl (by show ah.b (!iR c)=_;rw[hc];rfl) (I ?_);refine rI (p:=1) t ?_ (hp:=by simp) (hq:=by simp);refine I ?_;exact ba [] t ⟨by simp,by rw[<-J,zdU,zab hc],by simp at U;omega⟩ ew
  ·have hc:iR c=false:=by simpa using hc
   refine ag 12 (.b true) rfl (by show ah.b (!iR c)=_;rw[hc];rfl) (I ?_);exact au rfl (.of (by show ah.s (c::t)=ah.s _;rw[<-J,zdU,zaa (by rw[hc];decide)]))
def nb(s:ac bv):ac bv:=(s.reverse.dropWhile iR).reverse
def abO(t:ac bv)(c:bv):nb (t++[c])=if iR c=true then nb t else t++[c]:=by
 unfold nb;rw[zbX];show((c::t.reverse).dropWhile iR).reverse=_;rw[zdU];split
 ·rfl
 ·simp
def acd:bc where
 L:=ac bv
 args:=fun s=>[.s s,.ip pW]
 pre:=fun s=>s.length<=1073741824
 res:=fun s=>.s (nb s)
def asT:a6 aS.ctx 172 acd.spec:=by
 refine bq [(269,L0.spec)] To.1 ?_;intro(s:ac bv) (ai:s.length<=_) H aH;refine I ?_;refine df (L:=ac bv) (fun t=>nb t=nb s∧t.length<=s.length) (fun t=>⟨[],0,[(0,.s t),(1,.ip pW)]⟩) List.length [] s ⟨rfl,b5 _⟩ (by show s.length<bT+1;unfold bT;omega) ew ?_;rintro t ⟨J,U⟩;rcases zcg t with rfl|⟨t,c,rfl⟩
 ·refine I ?_;exact au rfl (.of (by show ah.s []=ah.s _;rw[<-J];rfl))
 ·rw[zch]at *;have hl:(t++[c]).length=t.length+1:=by simp
  refine an 7 ?_;refine ag 7 (.b true) rfl (by simp) (an 12 ?_);refine ag 12 (.i .i64 (t.length:Nat)) rfl (by rw[hl];exact bo) ?_;refine mF c (show(t++[c])[t.length]? =some c by simp) ?_;refine aC Wk c trivial (I ?_);by_cases hc:iR c=true
  ·refine ag 15 (.b false) rfl (by show ah.b (!iR c)=_;rw[hc];rfl) (an 19 ?_);refine ag 19 (.i .i64 (t.length:Nat)) rfl (by rw[hl];exact bo) ?_;refine rI (p:=0) t ?_ (hp:=zaf _) (hq:=by simp);refine I ?_;exact ba [] t ⟨by simp,by rw[<-J,abO,zab hc],by omega⟩ ew
  ·refine ag 15 (.b true) rfl (by show ah.b (!iR c)=_;rw[show iR c=false by simpa using hc];rfl) (I ?_);exact au rfl (.of (by show ah.s (t++[c])=ah.s _;rw[<-J,abO,zaa hc]))
def Bq:Nat->ac Bool
 |0=>List.replicate 256 false
 |n+1=>(Bq n).set (48+n) true
theorem abc:∀n,(Bq n).length=256
 |0=>zcc
 |n+1=>by unfold Bq;rw[List.length_set];exact abc n
def aqL:Bq 10=xn:=by kernel_rfl
def Cs:ac bv:=[48,49,50,51,52,53,54,55,56,57]
def afS(h:i<10):Cs[i]? =some (UInt8.ofNat (48+i)):=by
 rcases(show i=0∨i=1∨i=2∨i=3∨i=4∨i=5∨i=6∨i=7∨i=8∨i=9 by omega)with rfl|rfl|rfl|rfl|rfl|rfl|rfl|rfl|rfl|rfl<;>rfl
def Yj:bc where
 L:=Unit
 args:=fun _=>[.s Cs]
 pre:=fun _=>True
 res:=fun _=>.bu [.agg pW,.b true]
def anQ:a6 aS.ctx 170 Yj.spec:=by
 refine bq [] Tm.1 ?_;intro _ _ H aH;refine an 3 ?_;refine mD 0 Fo (Bq 0) ?_;refine I ?_;refine df (L:=Nat) (fun i=>i<=10) (fun(i:Nat)=>⟨[.a 269 false 1 Bool Fo (Bq i)],1,[(0,.s Cs),(2,.p 0 0),(4,.i .i64 i)]⟩) (fun i=>10-i) [0] 0 (zaf _) (by show 10-0<bT+1;unfold bT;omega) du ?_;intro(i:Nat) hi;refine I ?_;have hl:((Cs.length:Nat):Int)=10:=rfl;refine cf (fun h=> ?_) (fun h=> ?_)
 ·have h:i<10:=by omega
  have hn:(UInt8.ofNat (48+i)).toNat=48+i:=F3 h;refine I ?_;refine mF (UInt8.ofNat (48+i)) (afS h) ?_;refine ag 14 (.i .u8 ((48+i:Nat):Int)) rfl (by rw[hn]) (I ?_);refine cf (fun aB=> ?_) (fun aB=> ?_)
  ·omega
  refine I ?_;refine Jk ?_;refine kX true ?_ (hj:=by rw[abc];omega);refine I ?_;exact ba [0] (i+1) ⟨by show 10-(i+1)<10-i;omega,h⟩ (dK ⟨rfl,rfl,eC,trivial⟩ ⟨_,rfl,rfl,fun _=>rfl⟩)
 ·have he:i=10:=by omega
  subst he;rw[aqL];refine I ?_;refine apW 0 ?_;refine I ?_;exact au rfl (.of rfl)
def ace:bc where
 L:=ac bv
 args:=fun s=>[.s s,.s Cs]
 pre:=fun s=>s.length<=1073741824
 res:=fun s=>.s ((nb s).dropWhile iR)
def asE(s:ac bv):(nb s).length<=s.length:=by
 unfold nb;rw[zbr,<-(zbr:s.reverse.length=s.length)];exact(List.dropWhile_sublist _).length_le
def asD:a6 aS.ctx 86 ace.spec:=by
 refine bq [(170,Yj.spec),(172,acd.spec),(171,abZ.spec)] VK.1 ?_;intro(s:ac bv) (ai:s.length<=_) H aH;refine an 9 ?_;by_cases h:s=[]
 ·subst h;refine I ?_;exact au rfl (.refl _)
 refine ag 9 (.b false) rfl (by rw[zaS.2 h]) (I ?_);refine aC anQ () trivial (I ?_);refine mD 0 Fo xn ?_;refine ap1 5 ?_;refine ag 5 (.ip pW) rfl rfl ?_;refine aC asT s ai (I ?_);refine aC asR (nb s) (zaj (asE s) ai) (I ?_);exact au rfl (.refl _)
theorem drop_nil:∀{s:ac bv},s.dropWhile iR=[]↔∀c∈s,iR c=true
 |[]=>by simp
 |c::s=>by
  rw[zdU];by_cases h:iR c=true
  ·rw[zab h,drop_nil];simp[h]
  ·rw[zaa h];simp[h]
def Xq{c:bv}:iR c=true↔48<=c.toNat∧c.toNat<=57:=by unfold iR;rw[decide_eq_true_iff]
def strip_nil{s:ac bv}:(nb s).dropWhile iR=[]↔ja s:=by
 rw[drop_nil];unfold ja;constructor
 ·intro h;have J:nb s=[]:=by
   rcases zcg (nb s)with h0|⟨t,c,h0⟩
   ·exact h0
   ·rw[zch]at h0;have hc:=h c (by rw[h0];simp);have e:s.reverse.dropWhile iR=c::t.reverse:=by
     have:=congrArg List.reverse h0;unfold nb at this;rw[List.reverse_reverse,zbX]at this;exact this
    have:=List.head_dropWhile_not iR (l:=s.reverse) (by rw[e];simp);simp only[e,List.head_cons]at this;rw[hc]at this;cases this
  unfold nb at J;have U:=drop_nil.1 (List.reverse_eq_nil_iff.1 J);exact fun c hc=>Xq.1 (U c (zeJ.2 hc))
 ·intro h;have U:s.reverse.dropWhile iR=[]:=drop_nil.2 fun c hc=>Xq.2 (h c (zeJ.1 hc));unfold nb;rw[U];intro c hc;simp at hc
def aaV:bc where
 L:=ac bv
 args:=fun s=>[.s s]
 pre:=fun s=>s.length<=1073741824
 res:=fun s=>.b (decide (hG s))
def O9:a6 aS.ctx 35 aaV.spec:=by
 refine bq [(86,ace.spec)] UN.1 ?_;intro(s:ac bv) (ai:s.length<=_) H aH;refine an 5 ?_;cases s with
 |nil=>
  refine ag 5 (.b false) rfl rfl (I ?_);exact au rfl (.of (by show ah.b false=ah.b (decide _);rw[zac (fun hb=>hb.1 rfl)]))
 |cons c t=>
  refine ag 5 (.b true) rfl rfl (I ?_);refine aC asD (c::t) ai (an 10 ?_);by_cases eQ:ja (c::t)
  ·refine ag 10 (.b true) rfl (by show ah.b (_==[])=_;rw[strip_nil.2 eQ];rfl) (an 13 ?_);by_cases hb:c::t=[48]
   ·refine ag 13 (.b true) rfl (by rw[hb];rfl) (I ?_);exact au rfl (.of (by show ah.b true=ah.b (decide _);rw[zad ⟨by simp,eQ,.inl hb⟩]))
   refine ag 13 (.b false) rfl (by rw[zaS.2 hb]) (I ?_);refine mF c (j:=0) rfl ?_;refine I ?_;refine au rfl (.of ?_);show ah.b (decide _)=ah.b (decide _);congr 1;rw[decide_eq_decide];constructor
   ·intro h;refine⟨by simp,eQ,.inr fun e=>h ?_⟩;have e:c=48:=by simpa using e
    rw[e];rfl
   ·rintro⟨_,_,h|h⟩ e
    ·exact hb h
    ·exact h (congrArg some (zcD.1 (show c.toNat=48 by omega)))
  ·refine ag 10 (.b false) rfl (by show ah.b (_==[])=_;rw[zaS.2 (mt strip_nil.1 eQ)]) (I ?_);exact au rfl (.of (by show ah.b false=ah.b (decide _);rw[zac (fun hb=>eQ hb.2.1)]))
theorem Xk:∀s:ac bv,(match qf 47 s with
 |none=>cutAt s=(s,none)
 |some i=>i<s.length∧cutAt s=(s.take i,some (s.drop (i+1))))
 |[]=>rfl
 |c::s=>by
  have a8:=Xk s;have e:qf 47 (c::s)=cond (Nat.beq c.toNat (47:bv).toNat) (some 0) (bm (qf 47 s) (fun i=>some (Nat.succ i)) none):=rfl;by_cases hc:c=47
  ·subst hc;rw[e,show Nat.beq (47:bv).toNat (47:bv).toNat=true from rfl];exact⟨Nat.succ_pos _,rfl⟩
  ·have hb:Nat.beq c.toNat (47:bv).toNat=false:=by
    rw[zbR];exact fun h=>hc (zcD.1 (eL h))
   have e2:cutAt (c::s)=(c::(cutAt s).1,(cutAt s).2):=zaa hc;rw[e,hb,cond_false];cases h:qf 47 s with
   |none=>
    rw[h]at a8;show cutAt (c::s)=_;rw[e2,show cutAt s=(s,none)from a8]
   |some i=>
    rw[h]at a8;obtain⟨J,U⟩:=a8;show i+1<s.length+1∧cutAt (c::s)=_;rw[e2,U];exact⟨by omega,rfl⟩
def WS:bc where
 L:=ac bv
 args:=fun s=>[.s s,.s [45]]
 pre:=fun s=>s.length<=1073741824
 res:=fun s=>.b (dQ s).1
def alF:a6 aS.ctx 166 WS.spec:=by
 refine bq [] LI.1 ?_;intro(s:ac bv) (ai:s.length<=_) H aH;refine an 10 ?_;cases s with
 |nil=>
  refine ag 10 (.b false) rfl rfl (I ?_);exact au rfl (.refl _)
 |cons c t=>
  refine ag 10 (.b true) rfl (by simp;omega) (I ?_);refine rI (p:=0) (q:=1) [c] ?_ (hq:=by simp);refine I ?_;refine au rfl (.of ?_);show ah.b ([c]==[45])=ah.b (dQ (c::t)).1;by_cases hc:c=45
  ·subst hc;rfl
  ·rw[show dQ (c::t)=(false,c::t)from zaa hc,zaS.2 (by simpa using hc)]
def FU:bc where
 L:=ac bv
 args:=fun s=>[.s s,.s [45]]
 pre:=fun s=>s.length<=1073741824
 res:=fun s=>.bu [.s (dQ s).2,.b (dQ s).1]
def aeD:a6 aS.ctx 84 FU.spec:=by
 refine bq [(166,WS.spec)] VI.1 ?_;intro(s:ac bv) (ai:s.length<=_) H aH;refine I ?_;refine aC alF s ai (I ?_);cases s with
 |nil=>
  refine I ?_;exact au rfl (.refl _)
 |cons c t=>
  by_cases hc:c=45
  ·subst hc;refine ag 9 (.b false) rfl rfl (I ?_);refine rI (p:=1) t ?_ (hp:=by simp) (hq:=by simp);refine I ?_;exact au rfl (.refl _)
  ·have aO:dQ (c::t)=(false,c::t):=zaa hc;refine ag 9 (.b true) rfl (by show ah.b (!(dQ (c::t)).1)=_;rw[aO];rfl) (I ?_);exact au rfl (.of (by show ah.bu _=ah.bu [.s (dQ (c::t)).2,.b (dQ (c::t)).1];rw[aO]))
def aeC:a6 aS.ctx 33 FU.spec:=by
 refine bq [(84,FU.spec)] UD.1 ?_;intro(s:ac bv) (ai:s.length<=_) H aH;refine I ?_;refine aC aeD s ai (I ?_);exact au rfl (.refl _)
def Xt:bc where
 L:=ac bv
 args:=fun s=>[.s s,.i .u8 47]
 pre:=fun s=>s.length<=1073741824
 res:=fun s=>.i .i64 (tY 47 s)
def amW:a6 aS.ctx 265 Xt.spec:=by
 refine bq [] Ui.1 ?_;intro(s:ac bv) (ai:s.length<=_) H aH;refine I ?_;refine e7 (amu (c:=47) rfl rfl) ?_;refine I ?_;exact au rfl (.refl _)
def Xs:bc where
 L:=ac bv
 args:=fun s=>[.s s,.s [47]]
 pre:=fun s=>s.length<=1073741824
 res:=fun s=>.i .i64 (tY 47 s)
def amV:a6 aS.ctx 167 Xs.spec:=by
 refine bq [(265,Xt.spec)] Tl.1 ?_;intro(s:ac bv) (ai:s.length<=_) H aH;refine I ?_;by_cases h:[47]=s
 ·refine ag 16 (.b true) rfl (by rw[<-h];rfl) (I ?_);exact au rfl (.of (by show ah.i _ 0=ah.i _ (tY 47 s);rw[<-h];rfl))
 refine ag 16 (.b false) rfl (by rw[zaS.2 h]) (I ?_);refine mF 47 (j:=0) rfl ?_;refine aC amW s ai (I ?_);exact au rfl (.refl _)
def oW(s:ac bv):ah:=match(cutAt s).2 with
 |none=>.bu [.s s,.s [],.b false]
 |some q=>.bu [.s (cutAt s).1,.s q,.b true]
def Cn:bc where
 L:=ac bv
 args:=fun s=>[.s s,.s [47]]
 pre:=fun s=>s.length<=1073741824
 res:=fun s=>oW s
def afo:a6 aS.ctx 85 Cn.spec:=by
 refine bq [(167,Xs.spec)] VJ.1 ?_;intro(s:ac bv) (ai:s.length<=_) H aH;have hi:=Xk s;have fin:∀{r},oW s=r->bY r (Cn.res s):=fun h=>.of h.symm;unfold oW at fin;refine I ?_;refine aC amV s ai ?_;cases aa:qf 47 s with
 |none=>
  rw[aa]at hi;have hi:cutAt s=(s,none):=hi;rw[hi]at fin;refine ag 10 (.i .i64 (-1)) rfl (by show ah.i _ (tY 47 s)=_;unfold tY;rw[aa]) (I ?_);exact au rfl (fin rfl)
 |some i=>
  rw[aa]at hi;obtain⟨J,U⟩:i<s.length∧cutAt s=(s.take i,some (s.drop (i+1))):=hi;rw[U]at fin;refine ag 10 (.i .i64 (i:Nat)) rfl (by show ah.i _ (tY 47 s)=_;unfold tY;rw[aa]) (I ?_);refine FY (s.take i) ?_ (hl:=by simp);refine an 20 ?_;refine cm 20 (.i .i64 ((i+1:Nat):Int)) rfl rfl (bo (by simp) (by simp;omega) (by simp;omega)) ?_;refine FY (s.drop (i+1)) ?_ (hl:=zaF (by simp));refine I ?_;exact au rfl (fin rfl)
def afm:a6 aS.ctx 34 Cn.spec:=by
 refine bq [(85,Cn.spec)] UL.1 ?_;intro(s:ac bv) (ai:s.length<=_) H aH;refine I ?_;refine aC afo s ai ?_;cases aa:(cutAt s).2 with
 |none=>
  refine ag 9 (.bu [.s s,.s [],.b false]) rfl (by show oW s=_;unfold oW;rw[aa]) (I ?_);exact au rfl (.of (by show _=oW s;unfold oW;rw[aa]))
 |some q=>
  refine ag 9 (.bu [.s (cutAt s).1,.s q,.b true]) rfl (by show oW s=_;unfold oW;rw[aa]) (I ?_);exact au rfl (.of (by show _=oW s;unfold oW;rw[aa]))
def yA:ac ah:=(List.range 20).map fun k=>.i .u64 ((10^k:Nat):Int)
def oL(H:bJ):Prop:=∃vs el bd a3,H 8=some (.cells vs el bd a3)∧∀bF,dj bF yA [] vs
def oL.up{H bF:bJ}(h:dp H bF):oL H->oL bF:=fun⟨vs,el,bd,a3,J,U⟩=>⟨vs,el,bd,a3,h _ _ J,U⟩
def ao3{j:Nat}(h:j<20):yA.drop j= .i .u64 ((10^j:Nat):Int)::yA.drop (j+1):=by
 have hl:j<yA.length:=by unfold yA;rw[zbA,zes];exact h
 rw[hk hl];congr 1;simp[yA]
def XL:bc where
 L:=Nat
 args:=fun n=>[.i .u64 n]
 pre:=fun n=>n<4294967296
 res:=fun n=>.i .i64 (bI n:Nat)
def anA:ac bv:=[0,1,2,2,3,3,3,3,4,4,4,4,4,4,4,4,5,5,5,5,5,5,5,5,5,5,5,5,5,5,5,5,6,6,6,6,6,6,6,6,6,6,6,6,6,6,6,6,6,6,6,6,6,6,6,6,6,6,6,6,6,6,6,6,7,7,7,7,7,7,7,7,7,7,7,7,7,7,7,7,7,7,7,7,7,7,7,7,7,7,7,7,7,7,7,7,7,7,7,7,7,7,7,7,7,7,7,7,7,7,7,7,7,7,7,7,7,7,7,7,7,7,7,7,7,7,7,7,8,8,8,8,8,8,8,8,8,8,8,8,8,8,8,8,8,8,8,8,8,8,8,8,8,8,8,8,8,8,8,8,8,8,8,8,8,8,8,8,8,8,8,8,8,8,8,8,8,8,8,8,8,8,8,8,8,8,8,8,8,8,8,8,8,8,8,8,8,8,8,8,8,8,8,8,8,8,8,8,8,8,8,8,8,8,8,8,8,8,8,8,8,8,8,8,8,8,8,8,8,8,8,8,8,8,8,8,8,8,8,8,8,8,8,8,8,8,8,8,8,8,8,8,8,8,8,8]
def anB:∀m,m<256->anA[m]? =some (UInt8.ofNat (bI m))∧bI m<=8:=by decide +kernel
def anx:a6 aS.ctx 385 XL.spec:=by
 refine bq [] U0.1 ?_;intro(n:Nat) (hn:n<4294967296) H aH;refine I ?_;refine cf (fun h=> ?_) (fun h=> ?_)
 ·omega
 refine I ?_;refine fK (fun((m:Nat),(k:Nat))=>m<65536∧k<=16∧bI n=bI m+k) (fun(m,k)=>⟨[],0,[(0,.i .u64 m),(2,.i .i64 k)]⟩) ?_ ?_
 ·refine cf (fun h=> ?_) (fun h=> ?_)
  ·refine I ?_;exact ba [] (n/65536,16) ⟨by omega,by decide,Ca 16 n (by omega)⟩ ew
  ·refine I ?_;exact ba [] (n,0) ⟨by omega,by decide,rfl⟩ ew
 rintro⟨m,k⟩ ⟨hm,ab,hb⟩;refine I ?_;refine fK (fun((m:Nat),(k:Nat))=>m<256∧k<=24∧bI n=bI m+k) (fun(m,k)=>⟨[],0,[(0,.i .u64 m),(2,.i .i64 k)]⟩) ?_ ?_
 ·refine cf (fun h=> ?_) (fun h=> ?_)
  ·refine I ?_;exact ba [] (m/256,k+8) ⟨by omega,by omega,by rw[hb,Ca 8 m (by omega),show(2:Nat)^8=256 from rfl];omega⟩ (iC ⟨rfl,eC,trivial⟩)
  ·refine I ?_;exact ba [] (m,k) ⟨by omega,by omega,hb⟩ ew
 rintro⟨m,k⟩ ⟨hm,ab,hb⟩;refine I ?_;refine ag 21 (.i .u8 (m:Nat)) rfl dY ?_;obtain⟨t1,t2⟩:=anB m hm;refine mF _ t1 ?_;refine I ?_;have e:(UInt8.ofNat (bI m)).toNat=bI m:=by simp;omega
 rw[e];refine au rfl (.of ?_);show ah.i _ _=ah.i .i64 (bI n:Nat);rw[hb,gd (n:=((bI m:Nat):Int)) (by omega) (by omega)];exact bo
def XD:bc where
 L:=Nat
 args:=fun b=>[.i .i64 b]
 pre:=fun b=>b<=64
 res:=fun b=>.i .i64 ((b*78913/262144:Nat):Int)
def ani:a6 aS.ctx 406 XD.spec:=by
 refine bq [] U6.1 ?_;intro(b:Nat) (hb:b<=64) H aH;refine an 4 ?_;refine ag 4 (.i .i64 ((b*78913:Nat):Int)) rfl bo (I ?_);exact au rfl (.refl _)
def QN:bc where
 L:=Bool
 args:=fun b=>[.b b]
 pre:=fun _=>True
 res:=fun b=>.i .i64 (if b=true then 1 else 0)
def adU:a6 aS.ctx 407 QN.spec:=by
 refine bq [] U7.1 ?_;intro(b:Bool) _ H aH;refine I ?_;cases b with
 |true=>
  refine I ?_;exact au rfl (.refl _)
 |false=>
  refine I ?_;exact au rfl (.refl _)
def an4:∀b,b<31->(b*78913/262144=0∨10^(b*78913/262144-1)<=2^(b-1))∧2^b<=10^(b*78913/262144+1)∧b*78913/262144<10:=by decide +kernel
def an3(h0:n≠0)(hn:n<1000000000):(aT 10 n).length=bI n*78913/262144+(if 10^(bI n*78913/262144)<=n then 1 else 0)∧bI n*78913/262144<10∧bI n<=30:=by
 obtain⟨J,U⟩:=qP h0;have hb:bI n<=30:=FF.1 (show n<2^30 by omega);obtain⟨t1,t2,t3⟩:=an4 (bI n) (by omega);generalize bI n*78913/262144=l at *;have hu:=hL (b:=10) (n:=n) (k:=l+1) (by decide) (by omega);refine⟨?_,t3,hb⟩;split
 ·rename_i h;have:=Cr (b:=10) (n:=n) (k:=l) (by decide) h;omega
 ·rename_i h;have af:=hL (b:=10) (n:=n) (k:=l) (by decide) (by omega);rcases t1 with t1|t1
  ·subst t1;omega
  ·rcases zcH l with ax|ax
   ·subst ax;omega
   ·have:=Cr (b:=10) (n:=n) (k:=l-1) (by decide) (by omega);omega
def Ys:bc where
 L:=Nat
 args:=fun n=>[.i .u64 n]
 pre:=fun n=>n≠0∧n<1000000000
 res:=fun n=>.i .i64 ((aT 10 n).length:Nat)
 hp:=oL
 hm:=oL.up
def an2:a6 aS.ctx 374 Ys.spec:=by
 refine kn [(385,XL.spec),(406,XD.spec),(407,QN.spec)] UR.1 ?_;intro(n:Nat) ⟨(h0:n≠0),(hn:n<1000000000)⟩ H aH ⟨vs,el,bd,a3,aO,aq⟩;obtain⟨aw,e2,bW⟩:=an3 h0 hn;refine I ?_;refine aC anx n (by show n<_;omega) ?_;refine aC ani (bI n) (by show bI n<=_;omega) ?_;generalize hl:bI n*78913/262144=l at *;refine ag 6 (.i .i64 (l:Nat)) rfl (by rw[<-hl];rfl) (I ?_);refine ap2 aO aq (j:=l) ?_;refine ag 10 (.ip (.i .u64 ((10^l:Nat):Int)::yA.drop (l+1))) rfl (by rw[ao3 (by omega)]) (an 12 ?_);refine ag 12 (.b (decide (10^l<=n))) rfl (congrArg ah.b (by rw[decide_eq_decide];exact Int.ofNat_le)) ?_;refine aC adU (decide (10^l<=n)) trivial ?_;obtain⟨q,hq⟩:∃q:Nat,q=if 10^l<=n then 1 else 0:=⟨_,rfl⟩;have xT:q<=1:=by rw[hq];split<;>decide
 rw[<-hq]at aw;refine ag 13 (.i .i64 (q:Nat)) rfl (by show ah.i _ (if decide _=true then 1 else 0)=_;rw[hq];by_cases h:10^l<=n<;>simp[h]) (I ?_);exact au rfl (.of (by
  show ah.i _ _=ah.i .i64 ((aT 10 n).length:Nat);rw[aw];exact bo))
def l3:ac bv:=[48,48,48,49,48,50,48,51,48,52,48,53,48,54,48,55,48,56,48,57,49,48,49,49,49,50,49,51,49,52,49,53,49,54,49,55,49,56,49,57,50,48,50,49,50,50,50,51,50,52,50,53,50,54,50,55,50,56,50,57,51,48,51,49,51,50,51,51,51,52,51,53,51,54,51,55,51,56,51,57,52,48,52,49,52,50,52,51,52,52,52,53,52,54,52,55,52,56,52,57,53,48,53,49,53,50,53,51,53,52,53,53,53,54,53,55,53,56,53,57,54,48,54,49,54,50,54,51,54,52,54,53,54,54,54,55,54,56,54,57,55,48,55,49,55,50,55,51,55,52,55,53,55,54,55,55,55,56,55,57,56,48,56,49,56,50,56,51,56,52,56,53,56,54,56,55,56,56,56,57,57,48,57,49,57,50,57,51,57,52,57,53,57,54,57,55,57,56,57,57]
def nV:∀k,k<100->l3[2*k]? =some (UInt8.ofNat (48+k/10))∧l3[2*k+1]? =some (UInt8.ofNat (48+k%10))∧(l3.drop (2*k)).take 2=[UInt8.ofNat (48+k/10),UInt8.ofNat (48+k%10)]:=by decide +kernel
def d36:ac bv:=[48,49,50,51,52,53,54,55,56,57,97,98,99,100,101,102,103,104,105,106,107,108,109,110,111,112,113,114,115,116,117,118,119,120,121,122]
def afp:∀k,k<10->(d36.drop k).take 1=[UInt8.ofNat (48+k)]:=by decide +kernel
def afE(J:10<=n)(U:n<100):dec n=[n/10,n%10]:=by
 unfold dec;rw[zaa (by omega),nv (by decide) (by omega),nv (by decide) (by omega),show n/10/10=0 by omega,ft,show n/10%10=n/10 by omega];rfl
def aby:bc where
 L:=Nat
 args:=fun n=>[.i .i64 n]
 pre:=fun n=>n<100
 res:=fun n=>.s (dP n)
def ar5:a6 aS.ctx 373 aby.spec:=by
 refine bq [] UQ.1 ?_;intro(n:Nat) (hn:n<100) H aH;refine I ?_;refine cf (fun h=> ?_) (fun h=> ?_)
 ·have h:n<10:=by omega
  refine an 7 ?_;refine ag 7 (.i .i64 ((n+1:Nat):Int)) rfl bo ?_;refine rI (l:=d36) (p:=n) (q:=n+1) [UInt8.ofNat (48+n)] ?_ (hl:=by rw[show n+1-n=1 by omega];exact afp n h) (hq:=by show n+1<=36;omega);refine I ?_;exact au rfl (.of (by show ah.s _=ah.s (dP n);unfold dP;rw[RO h];rfl))
 ·refine an 10 ?_;refine ag 10 (.i .i64 ((2*n:Nat):Int)) rfl bo (an 12 ?_);refine ag 12 (.i .i64 ((2*n:Nat):Int)) rfl bo (an 13 ?_);refine ag 13 (.i .i64 ((2*n+2:Nat):Int)) rfl bo ?_;refine rI (l:=l3) (p:=2*n) (q:=2*n+2) [UInt8.ofNat (48+n/10),UInt8.ofNat (48+n%10)] ?_ (hl:=by rw[show 2*n+2-2*n=2 by omega];exact(nV n hn).2.2) (hq:=by show 2*n+2<=200;omega);refine I ?_;exact au rfl (.of (by show ah.s _=ah.s (dP n);unfold dP;rw[afE (by omega) hn];rfl))
def FZ(n de j:Nat):bv:=UInt8.ofNat (48+n/10^(de-1-j)%10)
structure jx(n de i:Nat)(l:ac bv)(u:Nat):Prop where
 u:u=n/10^(de-i)
 len:l.length=24
 le:i<=de
 mS:∀j,i<=j->j<de->l[j]? =some (FZ n de j)
variable{u de:Nat}
def jx.two{l:ac bv}(h:jx n de (i+2) l u)(jJ:de<=24):jx n de i ((l.set (i+1) (UInt8.ofNat (48+u%100%10))).set i (UInt8.ofNat (48+u%100/10))) (u/100):=by
 obtain⟨J,U,af,ax⟩:=h;have aw:de-(i+2)=de-1-(i+1):=by omega
 have e2:de-1-i=de-(i+2)+1:=by omega
 refine⟨?_,by simp[U],by omega,fun j nE C7=> ?_⟩
 ·rw[J,show de-i=de-(i+2)+2 by omega,zal,zaY]
 ·rcases(show j=i∨j=i+1∨i+2<=j by omega)with rfl|rfl|h
  ·rw[zdN (by simp;omega)];unfold FZ;rw[e2,zak,<-zaY,<-J];congr 2;omega
  ·rw[zbv (by omega),zdN (by omega)];unfold FZ;rw[<-aw,<-J];congr 2;omega
  ·rw[zbv (by omega),zbv (by omega)];exact ax j h C7
def jx.one{l:ac bv}(h:jx n de 1 l u)(hu:u<10):jx n de 0 (l.set 0 (UInt8.ofNat (48+u))) 0:=by
 obtain⟨J,U,af,ax⟩:=h;refine⟨?_,by simp[U],by omega,fun j nE C7=> ?_⟩
 ·rw[show de-0=de-1+1 by omega,zak,<-zaY,<-J];omega
 ·rcases(show j=0∨1<=j by omega)with rfl|h
  ·rw[zdN (by omega)];unfold FZ;rw[show de-1-0=de-1 by omega,<-J,dH hu]
  ·rw[zbv (by omega)];exact ax j h C7
def jx.fin{l:ac bv}(h:jx n de 0 l u)(h0:n≠0)(jJ:de=(aT 10 n).length)(auq:de<=24):l.take de=dP n:=by
 obtain⟨J,U,af,ax⟩:=h;unfold dP dec;rw[zaa h0];apply zbJ;intro j;by_cases hj:j<de
 ·rw[zaK,zab hj,ax j (zaf _) hj];unfold gD;rw[zdE,List.getElem?_reverse (by omega),<-jJ,tv (by decide) (by omega)];rfl
 ·rw[zbK (by simp;omega),zbK (by rw[tg,zbr];omega)]
def w7(x:Nat):(2*(x%100)+1)%4294967296=2*(x%100)+1:=by omega
def vq(h:u<1000000000):(u%100000000%4294967296=u%100000000)∧(u/100000000%18446744073709551616=u/100000000)∧(u%100000000/10000%4294967296=u/10000%10000)∧(u%100000000%10000=u%10000)∧(u%10000/100%4294967296*2%4294967296=2*(u/100%100))∧(u%10000%100*2%4294967296=2*(u%100))∧(u/10000%10000/100%4294967296*2%4294967296=2*(u/100/100/100%100))∧(u/10000%10000%100*2%4294967296=2*(u/100/100%100)):=by
 have aa:u/10000=u/100/100:=by rw[zaY]
 have aF:u%100000000/10000=u/10000%10000:=by omega
 have f:∀x:Nat,x%10000/100%4294967296*2%4294967296=2*(x/100%100)∧x%10000%100*2%4294967296=2*(x%100):=fun x=>by omega
 refine⟨by omega,by omega,?_,by omega,(f u).1,(f u).2,?_,?_⟩
 ·rw[aF];generalize u/10000=x;omega
 ·rw[aa];exact(f _).1
 ·rw[aa];exact(f _).2
def Lv(h:u<1000000000):u/10000%4294967296=u/10000∧u%10000/100%4294967296*2%4294967296=2*(u/100%100)∧u%10000%100*2%4294967296=2*(u%100):=by omega
def Sf(h:u<1000000000):u%100*2%4294967296=2*(u%100)∧u/100%4294967296=u/100:=by omega
def n8{aE:fL}{K:ac e4}{own bZ:ac bp}{aP bn cj back:Nat}{e a7:bX}{d:Tmp}{ts:ac Tmp}{xs:ac (bK×cE)}{x i:bi}{l:ac bv}{j:Nat}{cp:d7}(qQ:bv)(hj:l[j]? =some qQ)(k:a1.ok aE ⟨K,.d xs bZ ((d,.i .u8 (qQ.toNat:Int))::a7) bn cj,⟨own,aP,(d,.i .u8 (qQ.toNat:Int))::e⟩⟩)(aa:bw (eV ts a7) x=some (.s l):=by rfl)(hi:bw (eV ts a7) i=some (.i cp (j:Int)):=by rfl)(hb:back<bn:=by decide):a1.ok aE ⟨K,.d ((⟨some d,.uc x i,none⟩,.read back ts)::xs) bZ a7 bn cj,⟨own,aP,e⟩⟩:=
 oX (d:=some d) (a:=.i .u8 (qQ.toNat:Int)) hb (fun H ids st fr ae _ _=>⟨.int .u8 (qQ.toNat:Int),rfl,fun dB _ _=>by
  have J:fr.aj x= .string ⟨⟨l⟩⟩:=ae.aj aa;have U:fr.aj i= .int cp (j:Int):=ae.aj hi;obtain⟨a4,aI⟩:=zah.1 hj;show hE (fr.aj x) (fun s=>gj (fr.aj i) (fun _ j=>g9 j (fun j=>iw s.data.toList j 1 (fun bU=>one bU (fun b=>aX.ok (.int .u8 (.ofNat b.toNat)) fr dB) aX.no) aX.no) aX.no) aX.no) aX.no=_;rw[J,Sym.BG,U,Sym.nf,Sym.pn];show iw l j 1 _ _=_;rw[Sym.zC (by omega),hk a4,aI];rfl⟩) k
def Gt:bc where
 L:=Nat
 args:=fun n=>[.i .u64 n,.i .i64 10]
 pre:=fun n=>n<1000000000
 res:=fun n=>.s (dP n)
 hp:=oL
 hm:=oL.up
def ag6:a6 aS.ctx 316 Gt.spec:=by
 refine kn [(373,aby.spec),(374,Ys.spec)] Us.1 ?_;intro(n:Nat) (hn:n<1000000000) H aH eB;refine I ?_;refine cf (fun h=> ?_) (fun h=> ?_)
 ·have h:n<100:=by omega
  refine I ?_;refine ag 14 (.i .i64 (n:Nat)) rfl (bo rfl (by omega) (by omega)) ?_;refine aC ar5 n h (I ?_);exact au rfl (.refl _)
 have ka:n≠0:=by omega
 obtain⟨de,jJ⟩:∃de,de=(aT 10 n).length:=⟨_,rfl⟩;have auP:de<=9:=by rw[jJ];exact hL (by decide) hn
 have auO:2<de:=by rw[jJ];exact Cr (by decide) (by omega)
 refine I ?_;refine aC an2 n ⟨ka,hn⟩ ?_ (hh:=eB);refine ag 17 (.i .i64 (de:Nat)) rfl (by rw[jJ];rfl) (I ?_);refine mD 0 kE (List.replicate 24 0) ?_;refine e7 (JD (p:=0) (q:=de) rfl rfl rfl ⟨_,rfl⟩ (zaf _) (by omega) (.inr rfl)) ?_;refine ag 19 (.bj 0 1 0 de 24) rfl (by simp) (I ?_);refine yK US.1 (by kernel_rfl) ?_;intro H1 i1 s1 hi _;have hi:i1.length=1:=hi;refine I ?_;refine m6 (L:=Nat×ac bv×Nat) (fun(i,l,u)=>jx n de i l u∧i<8) (fun(i,l,u)=>⟨[.a 449 false 1 bv kE l],1,[(0,.bj 0 1 0 de 24),(1,.i .u64 (u:Nat)),(4,.i .i64 (i:Nat))]⟩) ?_ ?_
 ·refine df (L:=Nat×ac bv×Nat) (fun(i,l,u)=>jx n de i l u) (fun(i,l,u)=>⟨[.a 449 false 1 bv kE l],1,[(0,.bj 0 1 0 de 24),(1,.i .u64 (u:Nat)),(4,.i .i64 (i:Nat))]⟩) (fun l=>l.1) [0] (de,List.replicate 24 0,n) ⟨by simp,by simp,b5 _,fun j J U=>by omega⟩ (by show de<4611686018427387904;omega) (dK ⟨rfl,rfl,rfl,trivial⟩ ⟨_,rfl,rfl,fun _=>rfl⟩ (hp:=by show pinned i1.length _ _=_;rw[hi];rfl)) ?_;rintro⟨i,l,u⟩ g5;have g5:jx n de i l u:=g5;have WA:=g5.le;have hu:u<=n:=by rw[g5.u];exact zau _ _
  refine I ?_;refine cf (fun gF=> ?_) (fun gF=> ?_)
  ·obtain⟨eu,rfl⟩:∃eu,i=eu+8:=⟨i-8,by omega⟩;have mm:u<1000000000:=by omega
   have d1:=jx.two (i:=eu+6) g5 (by omega);have d2:=jx.two (i:=eu+4) d1 (by omega);have d3:=jx.two (i:=eu+2) d2 (by omega);have d4:=jx.two (i:=eu) d3 (by omega);have eW:=g5.len;refine an 23 ?_;refine ag 23 (.i .u32 ((u%100000000:Nat):Int)) rfl (congrArg (fun n:Nat=>ah.i .u32 (n:Int)) (vq mm).1) (an 25 ?_);refine ag 25 (.i .u64 ((u/100000000:Nat):Int)) rfl (congrArg (fun n:Nat=>ah.i .u64 (n:Int)) (vq mm).2.1) (an 27 ?_);refine ag 27 (.i .u32 ((u/10000%10000:Nat):Int)) rfl (congrArg (fun n:Nat=>ah.i .u32 (n:Int)) (vq mm).2.2.1) (an 29 ?_);refine ag 29 (.i .u32 ((u%10000:Nat):Int)) rfl (congrArg (fun n:Nat=>ah.i .u32 (n:Int)) (vq mm).2.2.2.1) (an 32 ?_);refine ag 32 (.i .u32 ((2*(u/100%100):Nat):Int)) rfl (congrArg (fun n:Nat=>ah.i .u32 (n:Int)) (vq mm).2.2.2.2.1) (an 35 ?_);refine ag 35 (.i .u32 ((2*(u%100):Nat):Int)) rfl (congrArg (fun n:Nat=>ah.i .u32 (n:Int)) (vq mm).2.2.2.2.2.1) (an 38 ?_);refine ag 38 (.i .u32 ((2*(u/100/100/100%100):Nat):Int)) rfl (congrArg (fun n:Nat=>ah.i .u32 (n:Int)) (vq mm).2.2.2.2.2.2.1) (an 41 ?_);refine ag 41 (.i .u32 ((2*(u/100/100%100):Nat):Int)) rfl (congrArg (fun n:Nat=>ah.i .u32 (n:Int)) (vq mm).2.2.2.2.2.2.2) (an 44 ?_);refine cm 44 (.i .i64 (((eu+6)+1:Nat):Int)) rfl rfl bo ?_;refine an 49 ?_;refine cm 49 (.i .u32 ((2*(u%100)+1:Nat):Int)) rfl rfl (congrArg (fun n:Nat=>ah.i .u32 (n:Int)) (w7 u)) ?_;refine n8 (l:=l3) _ (nV _ (zae u (by decide))).2.1 ?_;refine lu ?_;refine n9 (UInt8.ofNat (48+u%100%10)) ?_;refine an 47 ?_;refine cm 47 (.i .i64 ((eu+6):Nat)) rfl rfl bo ?_;refine I ?_;refine n8 (l:=l3) _ (nV _ (zae u (by decide))).1 ?_;refine lu ?_;refine n9 (UInt8.ofNat (48+u%100/10)) ?_;refine an 57 ?_;refine cm 57 (.i .i64 (((eu+4)+1:Nat):Int)) rfl rfl bo ?_;refine an 62 ?_;refine cm 62 (.i .u32 ((2*((u/100)%100)+1:Nat):Int)) rfl rfl (congrArg (fun n:Nat=>ah.i .u32 (n:Int)) (w7 (u/100))) ?_;refine n8 (l:=l3) _ (nV _ (zae (u/100) (by decide))).2.1 ?_;refine lu ?_;refine n9 (UInt8.ofNat (48+(u/100)%100%10)) ?_;refine an 60 ?_;refine cm 60 (.i .i64 ((eu+4):Nat)) rfl rfl bo ?_;refine I ?_;refine n8 (l:=l3) _ (nV _ (zae (u/100) (by decide))).1 ?_;refine lu ?_;refine n9 (UInt8.ofNat (48+(u/100)%100/10)) ?_;refine an 70 ?_;refine cm 70 (.i .i64 (((eu+2)+1:Nat):Int)) rfl rfl bo ?_;refine an 75 ?_;refine cm 75 (.i .u32 ((2*((u/100/100)%100)+1:Nat):Int)) rfl rfl (congrArg (fun n:Nat=>ah.i .u32 (n:Int)) (w7 (u/100/100))) ?_;refine n8 (l:=l3) _ (nV _ (zae (u/100/100) (by decide))).2.1 ?_;refine lu ?_;refine n9 (UInt8.ofNat (48+(u/100/100)%100%10)) ?_;refine an 73 ?_;refine cm 73 (.i .i64 ((eu+2):Nat)) rfl rfl bo ?_;refine I ?_;refine n8 (l:=l3) _ (nV _ (zae (u/100/100) (by decide))).1 ?_;refine lu ?_;refine n9 (UInt8.ofNat (48+(u/100/100)%100/10)) ?_;refine an 83 ?_;refine cm 83 (.i .i64 ((eu+1:Nat):Int)) rfl rfl bo ?_;refine an 88 ?_;refine cm 88 (.i .u32 ((2*((u/100/100/100)%100)+1:Nat):Int)) rfl rfl (congrArg (fun n:Nat=>ah.i .u32 (n:Int)) (w7 (u/100/100/100))) ?_;refine n8 (l:=l3) _ (nV _ (zae (u/100/100/100) (by decide))).2.1 ?_;refine lu ?_;refine n9 (UInt8.ofNat (48+(u/100/100/100)%100%10)) ?_;refine an 86 ?_;refine cm 86 (.i .i64 (eu:Nat)) rfl rfl bo ?_;refine I ?_;refine n8 (l:=l3) _ (nV _ (zae (u/100/100/100) (by decide))).1 ?_;refine lu ?_;refine n9 (UInt8.ofNat (48+(u/100/100/100)%100/10)) ?_;refine I ?_;exact ba [0] (eu,_,u/100/100/100/100) ⟨by show eu<eu+8;omega,d4⟩ (dK ⟨rfl,congrArg (fun n:Nat=>some (ah.i .u64 (n:Int))) (show u/100000000=u/100/100/100/100 by rw[zaY,zaY,zaY]),eC,trivial⟩ ⟨_,rfl,rfl,fun _=>rfl⟩ (hp:=by show pinned i1.length _ _=_;rw[hi];rfl))
  ·refine I ?_;exact ba [0] (i,l,u) ⟨g5,by omega⟩ (dK ⟨rfl,rfl,rfl,trivial⟩ ⟨_,rfl,rfl,fun _=>rfl⟩ (hp:=by show pinned i1.length _ _=_;rw[hi];rfl))
 rintro⟨i,l,u⟩ ⟨g5,gF⟩;have g5:jx n de i l u:=g5;have gF:i<8:=gF;have hu:u<=n:=by rw[g5.u];exact zau _ _
 refine I ?_;refine ag 12 (.i .u32 (u:Nat)) rfl dY ?_;refine fK (L:=Nat×ac bv×Nat) (fun(i,l,u)=>jx n de i l u∧i<4∧u<=n) (fun(i,l,u)=>⟨[.a 449 false 1 bv kE l],1,[(0,.bj 0 1 0 de 24),(12,.i .u32 (u:Nat)),(4,.i .i64 (i:Nat))]⟩) ?_ ?_
 ·refine cf (fun ax=> ?_) (fun ax=> ?_)
  ·obtain⟨eu,rfl⟩:∃eu,i=eu+4:=⟨i-4,by omega⟩;have d1:=jx.two (i:=eu+2) g5 (by omega);have d2:=jx.two (i:=eu) d1 (by omega);have eW:=g5.len;have mm:u<1000000000:=by omega
   have WA:=g5.le;refine an 103 ?_;refine ag 103 (.i .u32 ((u/10000:Nat):Int)) rfl (congrArg (fun n:Nat=>ah.i .u32 (n:Int)) (Lv mm).1) (an 106 ?_);refine ag 106 (.i .u32 ((2*(u/100%100):Nat):Int)) rfl (congrArg (fun n:Nat=>ah.i .u32 (n:Int)) (Lv mm).2.1) (an 109 ?_);refine ag 109 (.i .u32 ((2*(u%100):Nat):Int)) rfl (congrArg (fun n:Nat=>ah.i .u32 (n:Int)) (Lv mm).2.2) (an 112 ?_);refine cm 112 (.i .i64 (((eu+2)+1:Nat):Int)) rfl rfl bo ?_;refine an 117 ?_;refine cm 117 (.i .u32 ((2*(u%100)+1:Nat):Int)) rfl rfl (congrArg (fun n:Nat=>ah.i .u32 (n:Int)) (w7 u)) ?_;refine n8 (l:=l3) _ (nV _ (zae u (by decide))).2.1 ?_;refine lu ?_;refine n9 (UInt8.ofNat (48+u%100%10)) ?_;refine an 115 ?_;refine cm 115 (.i .i64 ((eu+2):Nat)) rfl rfl bo ?_;refine I ?_;refine n8 (l:=l3) _ (nV _ (zae u (by decide))).1 ?_;refine lu ?_;refine n9 (UInt8.ofNat (48+u%100/10)) ?_;refine an 125 ?_;refine cm 125 (.i .i64 ((eu+1:Nat):Int)) rfl rfl bo ?_;refine an 130 ?_;refine cm 130 (.i .u32 ((2*((u/100)%100)+1:Nat):Int)) rfl rfl (congrArg (fun n:Nat=>ah.i .u32 (n:Int)) (w7 (u/100))) ?_;refine n8 (l:=l3) _ (nV _ (zae (u/100) (by decide))).2.1 ?_;refine lu ?_;refine n9 (UInt8.ofNat (48+(u/100)%100%10)) ?_;refine an 128 ?_;refine cm 128 (.i .i64 (eu:Nat)) rfl rfl bo ?_;refine I ?_;refine n8 (l:=l3) _ (nV _ (zae (u/100) (by decide))).1 ?_;refine lu ?_;refine n9 (UInt8.ofNat (48+(u/100)%100/10)) ?_;refine I ?_;exact ba [0] (eu,_,u/100/100) ⟨d2,by show eu<4;omega,zaj (zau _ _) (zaj (zau _ _) hu)⟩ (dK ⟨rfl,congrArg (fun n:Nat=>some (ah.i .u32 (n:Int))) (show u/10000=u/100/100 by rw[zaY]),eC,trivial⟩ ⟨_,rfl,rfl,fun _=>rfl⟩ (hp:=by show pinned i1.length _ _=_;rw[hi];rfl))
  ·refine I ?_;exact ba [0] (i,l,u) ⟨g5,by show i<4;omega,hu⟩ (dK ⟨rfl,rfl,rfl,trivial⟩ ⟨_,rfl,rfl,fun _=>rfl⟩ (hp:=by show pinned i1.length _ _=_;rw[hi];rfl))
 rintro⟨i,l,u⟩ ⟨g5,ax,hu⟩;have g5:jx n de i l u:=g5;have ax:i<4:=ax;refine I ?_;refine fK (L:=Nat×ac bv×Nat) (fun(i,l,u)=>jx n de i l u∧i<2∧u<=n) (fun(i,l,u)=>⟨[.a 449 false 1 bv kE l],1,[(0,.bj 0 1 0 de 24),(12,.i .u32 (u:Nat)),(4,.i .i64 (i:Nat))]⟩) ?_ ?_
 ·refine cf (fun U=> ?_) (fun U=> ?_)
  ·obtain⟨eu,rfl⟩:∃eu,i=eu+2:=⟨i-2,by omega⟩;have d1:=jx.two (i:=eu) g5 (by omega);have eW:=g5.len;have mm:u<1000000000:=by omega
   have WA:=g5.le;refine an 142 ?_;refine ag 142 (.i .u32 ((2*(u%100):Nat):Int)) rfl (congrArg (fun n:Nat=>ah.i .u32 (n:Int)) (Sf mm).1) (an 144 ?_);refine ag 144 (.i .u32 ((u/100:Nat):Int)) rfl (congrArg (fun n:Nat=>ah.i .u32 (n:Int)) (Sf mm).2) (an 147 ?_);refine cm 147 (.i .i64 ((eu+1:Nat):Int)) rfl rfl bo ?_;refine an 152 ?_;refine cm 152 (.i .u32 ((2*(u%100)+1:Nat):Int)) rfl rfl (congrArg (fun n:Nat=>ah.i .u32 (n:Int)) (w7 u)) ?_;refine n8 (l:=l3) _ (nV _ (zae u (by decide))).2.1 ?_;refine lu ?_;refine n9 (UInt8.ofNat (48+u%100%10)) ?_;refine an 150 ?_;refine cm 150 (.i .i64 (eu:Nat)) rfl rfl bo ?_;refine I ?_;refine n8 (l:=l3) _ (nV _ (zae u (by decide))).1 ?_;refine lu ?_;refine n9 (UInt8.ofNat (48+u%100/10)) ?_;refine I ?_;exact ba [0] (eu,_,u/100) ⟨d1,by show eu<2;omega,zaj (zau _ _) hu⟩ (dK ⟨rfl,rfl,eC,trivial⟩ ⟨_,rfl,rfl,fun _=>rfl⟩ (hp:=by show pinned i1.length _ _=_;rw[hi];rfl))
  ·refine I ?_;exact ba [0] (i,l,u) ⟨g5,by show i<2;omega,hu⟩ (dK ⟨rfl,rfl,rfl,trivial⟩ ⟨_,rfl,rfl,fun _=>rfl⟩ (hp:=by show pinned i1.length _ _=_;rw[hi];rfl))
 rintro⟨i,l,u⟩ ⟨g5,U,hu⟩;have g5:jx n de i l u:=g5;have U:i<2:=U;have eW:=g5.len;refine I ?_;refine cf (fun J=> ?_) (fun J=> ?_)
 ·have he:i=1:=by omega
  subst he;have mm:u<10:=by
   rw[g5.u];refine zdR ?_;have:=F1 (b:=10) (n:=n) (k:=de) (by decide) (by omega)
   rwa [show de=(de-1)+1 by omega,zak]at this
  have az:=g5.one mm;refine an 164 ?_;refine ag 164 (.i .u32 ((48+u:Nat):Int)) rfl (congrArg (fun n:Nat=>ah.i .u32 (n:Int)) (show(48+u)%4294967296=48+u by omega)) (an 165 ?_);refine ag 165 (.i .u8 ((UInt8.ofNat (48+u)).toNat:Int)) rfl (by rw[UInt8.toNat_ofNat']) ?_;refine jS (j:=0) ?_;refine kX (UInt8.ofNat (48+u)) ?_;refine I ?_;exact mE ⟨.inl rfl,_,rfl,by
   refine I ?_;refine e7 (JD (p:=0) (q:=de) rfl rfl rfl ⟨_,rfl⟩ (zaf _) (by omega) (.inr rfl)) ?_;refine ag 23 (.bj 0 1 0 de 24) rfl (by simp) ?_;refine O1 (dP n) ?_ (hn:=by rw[az.len];omega) (hl:=az.fin ka jJ (by omega));refine I ?_;exact au rfl (.refl _)⟩
 ·have he:i=0:=by omega
  subst he;have az:=g5;refine I ?_;exact mE ⟨.inl rfl,_,rfl,by
   refine I ?_;refine e7 (JD (p:=0) (q:=de) rfl rfl rfl ⟨_,rfl⟩ (zaf _) (by omega) (.inr rfl)) ?_;refine ag 23 (.bj 0 1 0 de 24) rfl (by simp) ?_;refine O1 (dP n) ?_ (hn:=by rw[az.len];omega) (hl:=az.fin ka jJ (by omega));refine I ?_;exact au rfl (.refl _)⟩
def HX:bc where
 L:=Nat
 args:=fun k=>[.i .u64 1,.i .u64 k]
 pre:=fun k=>k<9
 res:=fun k=>.bu [.i .u64 0,.i .u64 k]
def XX(h:k<9):k=0∨k=1∨k=2∨k=3∨k=4∨k=5∨k=6∨k=7∨k=8:=by omega
def anS:a6 aS.ctx 378 HX.spec:=by
 refine bq [] UT.1 ?_;intro(k:Nat) (ab:k<9) H aH;rcases XX ab with rfl|rfl|rfl|rfl|rfl|rfl|rfl|rfl|rfl
 all_goals
  refine I ?_;exact au rfl (.refl _)
def anV:a6 aS.ctx 317 HX.spec:=by
 refine bq [(378,HX.spec)] Ut.1 ?_;intro(k:Nat) (ab:k<9) H aH;refine I ?_;refine aC anS k ab (I ?_);exact au rfl (.refl _)
def He:bc where
 L:=bv×ac bv×bv
 args:=fun(a,t,c)=>[.s (a::t),.s [c]]
 pre:=fun(a,t,c)=>t.length<=1073741824
 res:=fun(a,t,c)=>.b ([a]==[c])
def alH:a6 aS.ctx 166 He.spec:=by
 refine bq [] LI.1 ?_;intro⟨a,t,c⟩ (aV:t.length<=_) H aH;refine an 10 ?_;refine ag 10 (.b true) rfl (by simp;omega) (I ?_);refine rI (p:=0) (q:=1) [a] ?_ (hq:=by simp);refine I ?_;exact au rfl (.refl _)
def MB:a6 aS.ctx 286 He.spec:=by
 refine bq [(166,He.spec)] Uo.1 ?_;intro⟨a,t,c⟩ (aV:t.length<=_) H aH;refine I ?_;refine aC alH (a,t,c) aV (I ?_);exact au rfl (.refl _)
def aaK:bc where
 L:=Nat
 args:=fun k=>[.s [48],.i .i64 k]
 pre:=fun k=>k<9
 res:=fun k=>.s (List.replicate k 48)
def aaL:a6 aS.ctx 224 aaK.spec:=by
 refine bq [(317,HX.spec),(286,He.spec)] TA.1 ?_;intro(k:Nat) (ab:k<9) H aH;rcases XX ab with rfl|rfl|rfl|rfl|rfl|rfl|rfl|rfl|rfl
 ·refine I ?_;exact au rfl (.refl _)
 ·refine I ?_;exact au rfl (.refl _)
 all_goals
  refine I ?_;refine aC anV _ ab (I ?_);refine mF 48 (j:=0) rfl ?_;refine I ?_;refine aC MB (32,List.replicate 127 32,48) (jw rfl) (I ?_);refine aC MB (45,List.replicate 127 45,48) (jw rfl) (I ?_);refine aC MB (48,List.replicate 63 48,48) (jw rfl) (I ?_);refine rI (p:=0) (l:=List.replicate 64 48) _ ?_ (hl:=rfl) (hq:=by decide);refine I ?_;exact au rfl (.refl _)
def Sw:a6 aS.ctx 223 Gt.spec:=by
 refine kn [(316,Gt.spec)] Tz.1 ?_;intro(n:Nat) (hn:n<1000000000) H aH eB;refine I ?_;refine aC ag6 n hn (I ?_) (hh:=eB);exact au rfl (.refl _)
def afP(hr:r<1000000000)(hq:q≠0):aT 10 (r+1000000000*q)=h6 9 r++aT 10 q:=by
 have ok:=aoz (XT 9 r) (fW (b:=10) (by decide) q);have aI:val 10 (h6 9 r++aT 10 q)=r+1000000000*q:=by
  rw[k0,XV,yc,fE (by decide)];have:r%10^9=r:=dH (by omega);rw[this]
 have aV:eF (h6 9 r++aT 10 q)=h6 9 r++aT 10 q:=by
  have h:=tw (b:=10) (by decide) q;rcases zcg (aT 10 q)with h0|⟨c2,d,h0⟩
  ·exact absurd ((nu (by decide)).1 h0) hq
  ·rw[zch]at h0;have aq:d≠0:=by rw[h0]at h;exact(AI (b:=10) h).2
   rw[h0,<-zbW,rQ,zaa aq]
 rw[<-aI];exact zH (by decide) ok aV
def anH(hr:r<1000000000):(h6 9 r).reverse=List.replicate (9-(dec r).length) 0++dec r:=by
 have hl:(aT 10 r).length<=9:=hL (by decide) (by omega);by_cases h0:r=0
 ·subst h0;decide +kernel
 have e:h6 9 r=aT 10 r++List.replicate (9-(aT 10 r).length) 0:=by
  apply zbJ;intro j;have g:∀j,j<9->(h6 9 r)[j]? =some (r/10^j%10):=fun j hj=>by simp[h6,hj]
  by_cases hj:j<9
  ·rw[g j hj];by_cases J:j<(aT 10 r).length
   ·rw[zbc J,tv (by decide) J]
   ·have aJ:r/10^j=0:=Decidable.not_not.1 (fun h=>J ((xo (by decide)).2 h));rw[zaQ (by omega),zew,zab (by omega),aJ]
  ·rw[zbK (by rw[yc];omega),zbK (by simp;omega)]
 have e2:dec r=(aT 10 r).reverse:=by unfold dec;rw[zaa h0]
 rw[e,zbX,List.reverse_replicate,e2,zbr]
def RM(hr:r<1000000000)(hq:q≠0):dP (r+1000000000*q)=dP q++(List.replicate (9-(dP r).length) 48++dP r):=by
 have e:dec (r+1000000000*q)=dec q++(List.replicate (9-(dec r).length) 0++dec r):=by
  rw[<-anH hr];have J:dec (r+1000000000*q)=(aT 10 (r+1000000000*q)).reverse:=by unfold dec;rw[zaa (by omega)]
  have U:dec q=(aT 10 q).reverse:=by unfold dec;rw[zaa hq]
  rw[J,U,afP hr hq,zbX]
 unfold dP;rw[e,FD,FD,tg];congr 2;unfold gD;rw[List.map_replicate];rfl
def gB(s:ac bv):ac ah:=[.s s]
def mo(ps:ac (ac bv)):ac bv:=ps.reverse.flatten
def Xx(ps:ac (ac bv))(s:ac bv):mo (ps++[s])=s++mo ps:=by unfold mo;rw[zbX];rfl
def amY{ps:ac (ac bv)}(h:k<ps.length):mo (ps.drop k)=mo (ps.drop (k+1))++ps[k]:=by
 unfold mo;rw[hk h,List.reverse_cons,List.flatten_append];simp
def aom(m:Nat):ac (ac bv)->cW
 |[]=>⟨[],0,[(0,c3 m),(3,.nl)]⟩
 |p::ps=>⟨[.a 9 true 1 (ac bv) gB (p::ps)],1,[(0,c3 m),(3,.bj 0 1 0 (p::ps).length (p::ps).length)]⟩
def ad9(ps:ac (ac bv))(k:Nat):ac bv->cW
 |[]=>⟨[.c 327 [.v (.pointer none),.nl]],1,[(3,.c5 1 (ac bv) gB ps),(7,.p 0 0),(8,.i .i64 ((k:Int)-1))]⟩
 |c::cs=>⟨[.c 327 [.p 0 0,.bj 1 1 0 (c::cs).length (c::cs).length],.a 5 true 1 bv kE (c::cs)],2,[(3,.c5 1 (ac bv) gB ps),(7,.p 0 0),(8,.i .i64 ((k:Int)-1))]⟩
def amZ:∀{ps:ac (ac bv)},(∀p∈ps,p.length<=9)->(mo ps).length<=9*ps.length:=fun{ps} h=>by
 unfold mo;rw[List.length_flatten]
 induction ps with
 |nil=>simp
 |cons p ps a8=>
  have J:=h p (by simp);have U:=a8 (fun q hq=>h q (zaM _ hq));rw[List.reverse_cons,zcW,List.sum_append];simp at U⊢;omega
def Ng(h:dI k n):(aT 10 n).length<=10*k:=hL (by decide) (by
 refine fy (vZ h) ?_;rw[zbD];exact zdo (by decide) k)
def RV{m:Nat}(h:m≠0):(aT 10 (m/1000000000)).length<(aT 10 m).length:=by
 rw[nv (b:=10) (n:=m) (by decide) h,zaD];refine Nat.lt_succ_of_le (hL (by decide) (zaG ?_ (F1 (by decide) (b5 _))));omega
def RK(h:r<1000000000):(dP r).length<=9:=by
 unfold dP dec;rw[tg];split
 ·simp
 ·rw[zbr];exact hL (by decide) (by omega)
def YG:bc where
 L:=Nat
 args:=fun n=>[c3 n]
 pre:=fun n=>dI 1073741823 n
 res:=fun n=>.s (dP n)
 hp:=oL
 hm:=oL.up
def YH:a6 aS.ctx 124 YG.spec:=by
 refine kn [(159,Pr.spec),(223,Gt.spec),(224,aaK.spec)] SD.1 ?_;intro(n:Nat) (hn:dI _ n) H aH eB;refine I ?_;refine cf (fun h=> ?_) (fun h=> ?_)
 ·have h0:n=0:=rm.1 (by omega);subst h0;refine I ?_;exact au rfl (.refl _)
 have ka:n≠0:=fun e=>h (by rw[e,ft];rfl);refine I ?_;refine m6 (L:=ac (ac bv)) (fun ps=>mo ps=dP n∧ps≠[]∧ps.length<=10737418230∧∀p∈ps,p≠[]∧p.length<=9) (fun ps=>⟨[],0,[(3,.c5 1 (ac bv) gB ps)]⟩) ?_ ?_
 ·refine df (L:=Nat×ac (ac bv)) (fun(m,ps)=>dI 1073741823 m∧ps.length+(aT 10 m).length<=10737418230∧dP n=(if m=0 then[]else dP m)++mo ps∧(m=0->ps≠[])∧∀p∈ps,p≠[]∧p.length<=9) (fun(m,ps)=>aom m ps) (fun l=>(aT 10 l.1).length) [] (n,[]) ?_ ?_ ew ?_
  ·exact⟨hn,by show 0+(aT 10 n).length<=_;have:=Ng hn;omega,by rw[zaa ka];simp[mo],fun h=>absurd h ka,fun p hp=>by simp at hp⟩
  ·show(aT 10 n).length<bT+1;have:=Ng hn;unfold bT;omega
  rintro⟨m,ps⟩ ⟨aM,aN,bf,cb,cQ⟩;cases ps with
  |nil=>
   refine I ?_;refine cf (fun hm=> ?_) (fun hm=> ?_)
   ·have hm:m≠0:=fun e=>by rw[e,ft]at hm;simp at hm
    have hr:m%1000000000<1000000000:=zae _ (by decide);have tH:=RV hm;have Mk:=RK hr;have z7:0<(dP (m%1000000000)).length:=zbg.2 (xj _);refine I ?_;refine aC Ps (m,1000000000) ⟨cH aM (by decide),by show 0<1000000000;decide,by show 1000000000<4294967296;decide⟩ (an 21 ?_);refine ag 21 (.i .u64 ((m%1000000000:Nat):Int)) rfl (congrArg (fun n:Nat=>ah.i .u64 (n:Int)) (dH (zcO hr (by decide)))) ?_;refine aC Sw (m%1000000000) hr ?_ (hh:=eB);have Df:m%1000000000+1000000000*(m/1000000000)=m:=zeu _ _;generalize m%1000000000=r at *;generalize hq:m/1000000000=q at *;refine an 6 ?_
    iterate 3 refine ha ?_
    refine fK (L:=ac bv) (fun dA=>dA≠[]∧dA.length<=9∧dP m=(if q=0 then[]else dP q)++dA) (fun dA=>⟨[],0,[(3,.nl),(4,c3 q),(6,.s dA)]⟩) ?_ ?_
    ·refine I ?_;refine cf (fun g7=> ?_) (fun g7=> ?_)
     ·have g7:q≠0:=fun e=>by rw[e,ft]at g7;simp at g7
      obtain⟨z,aJ⟩:∃z:Nat,z=9-(dP r).length:=⟨_,rfl⟩;refine an 28 ?_;refine ag 28 (.i .i64 (z:Nat)) rfl bo ?_;refine aC aaL z (by show z<9;omega) (I ?_);refine sR ?_ (hl:=by rw[zcc];omega);refine I ?_;refine ba [] (List.replicate z 48++dP r) ⟨by simp[xj],by rw[zaL,zcc];omega,by rw[zaa g7,<-Df,aJ];exact RM hr g7⟩ ew
     ·have g7:q=0:=rm.1 (by omega);refine I ?_;exact ba [] (dP r) ⟨xj _,Mk,by rw[zab g7,<-Df,g7];rfl⟩ ew
    rintro dA ⟨a5,bD,dt⟩;refine I ?_;refine yI gB [dA] (ll (R:=gB) [dA] rfl) ?_;refine I ?_;refine ba [1] (q,[dA]) ⟨by show(aT 10 q).length<(aT 10 m).length;exact tH,sw aM (by rw[<-hq];exact zau _ _),by show 1+(aT 10 q).length<=_;simp at aN;omega,by rw[bf,zaa hm,dt,zbW,show mo [dA]=dA++mo []from Xx [] dA],fun _=>by simp,?_⟩ du;intro x aa;have:x=dA:=by simpa using aa
    subst this;exact⟨a5,bD⟩
   ·have hm:m=0:=rm.1 (by omega);subst hm;exact absurd rfl (cb rfl)
  |cons p ps=>
   refine I ?_;refine cf (fun hm=> ?_) (fun hm=> ?_)
   ·have hm:m≠0:=fun e=>by rw[e,ft]at hm;simp at hm
    have hr:m%1000000000<1000000000:=zae _ (by decide);have tH:=RV hm;have Mk:=RK hr;have z7:0<(dP (m%1000000000)).length:=zbg.2 (xj _);refine I ?_;refine aC Ps (m,1000000000) ⟨cH aM (by decide),by show 0<1000000000;decide,by show 1000000000<4294967296;decide⟩ (an 21 ?_);refine ag 21 (.i .u64 ((m%1000000000:Nat):Int)) rfl (congrArg (fun n:Nat=>ah.i .u64 (n:Int)) (dH (zcO hr (by decide)))) ?_;refine aC Sw (m%1000000000) hr ?_ (hh:=eB);have Df:m%1000000000+1000000000*(m/1000000000)=m:=zeu _ _;generalize m%1000000000=r at *;generalize hq:m/1000000000=q at *;refine an 6 ?_
    iterate 3 refine ha ?_
    refine fK (L:=ac bv) (fun dA=>dA≠[]∧dA.length<=9∧dP m=(if q=0 then[]else dP q)++dA) (fun dA=>⟨[.a 9 true 1 (ac bv) gB (p::ps)],1,[(3,.bj 0 1 0 (p::ps).length (p::ps).length),(4,c3 q),(6,.s dA)]⟩) ?_ ?_
    ·refine I ?_;refine cf (fun g7=> ?_) (fun g7=> ?_)
     ·have g7:q≠0:=fun e=>by rw[e,ft]at g7;simp at g7
      obtain⟨z,aJ⟩:∃z:Nat,z=9-(dP r).length:=⟨_,rfl⟩;refine an 28 ?_;refine ag 28 (.i .i64 (z:Nat)) rfl bo ?_;refine aC aaL z (by show z<9;omega) (I ?_);refine sR ?_ (hl:=by rw[zcc];omega);refine I ?_;refine ba [0] (List.replicate z 48++dP r) ⟨by simp[xj],by rw[zaL,zcc];omega,by rw[zaa g7,<-Df,aJ];exact RM hr g7⟩ du
     ·have g7:q=0:=rm.1 (by omega);refine I ?_;exact ba [0] (dP r) ⟨xj _,Mk,by rw[zab g7,<-Df,g7];rfl⟩ du
    rintro dA ⟨a5,bD,dt⟩;refine I ?_;have jc:ps.length<=10737418230:=by simp at aN;omega
    refine Bh (R:=gB) [dA] (ll (R:=gB) [dA] rfl) ?_;refine I ?_;refine ba [2] (q,p::(ps++[dA])) ⟨by show(aT 10 q).length<(aT 10 m).length;exact tH,sw aM (by rw[<-hq];exact zau _ _),by simp at aN ⊢;omega,by rw[bf,zaa hm,dt,zbW,show mo (p::(ps++[dA]))=dA++mo (p::ps)from Xx (p::ps) dA],fun _=>by simp,?_⟩ (ER ⟨rfl,congrArg (fun k=>some (ah.bj 2 1 0 k k)) (by simp),trivial⟩ ⟨_,rfl,rfl,fun _=>rfl⟩);intro x aa;rcases zcd.1 (show x∈(p::ps)++[dA]from aa)with h|h
    ·exact cQ x h
    ·have:x=dA:=by simpa using h
     subst this;exact⟨a5,bD⟩
   ·have hm:m=0:=rm.1 (by omega);subst hm;refine O2 3 ?_;refine I ?_;exact ba [] (p::ps) ⟨by rw[bf,zab rfl];rfl,by simp,by simp at aN ⊢;omega,cQ⟩ ew
 rintro ps ⟨aM,aN,bf,cb⟩;have cQ:0<ps.length:=zbg.2 aN;have Xw:∀k,(mo (ps.drop k)).length<=9*ps.length:=fun k=>zaj (amZ fun p hp=>(cb p (zcJ hp)).2) (lp _ (by simp));refine I ?_;refine df (L:=Nat×ac bv) (fun(k,bU)=>k<=ps.length∧mo (ps.drop k)=bU) (fun(k,bU)=>ad9 ps k bU) (fun l=>l.1) [0] (ps.length,[]) ⟨b5 _,by rw[zct];rfl⟩ (by show ps.length<bT+1;unfold bT;omega) (dK ⟨rfl,rfl,eC,trivial⟩ ⟨_,rfl,rfl⟩) ?_;rintro⟨k,bU⟩ ⟨ab,hb⟩;cases k with
 |zero=>
  rw[zap,aM]at hb;cases bU with
  |nil=>exact absurd hb (xj n)
  |cons c cs=>
   have hO:=Xw 0;rw[zap,aM,hb]at hO;refine I ?_;refine yK TB.1 (by kernel_rfl) ?_;intro H1 i1 s1 _ _;refine I ?_;refine afw ?_ (hc:=by simp);refine I ?_;refine afy ?_ (h0:=by simp) (hb:=by omega);refine I ?_;refine mE ⟨.inr rfl,_,rfl,?_⟩;refine I ?_;exact au rfl (.of (by show ah.s (c::cs)=ah.s (dP n);rw[hb]))
 |succ m=>
  have hm:m<ps.length:=by omega
  obtain⟨a5,bD⟩:=cb _ (ea hm);have hj:=amY hm;rw[hb]at hj;have hO:=Xw (m+1);rw[hb]at hO;have ku:ps[m]? =some ps[m]:=bV hm;generalize ps[m]=s at *;cases bU with
  |nil=>
   obtain⟨c,cs,rfl⟩:∃c cs,s=c::cs:=by cases s with
    |nil=>exact absurd rfl a5
    |cons c cs=>exact⟨c,cs,rfl⟩
   refine ag 8 (.i .i64 (m:Nat)) rfl dY (I ?_);refine ag 41 (.b true) rfl (by simp) (I ?_);refine ep (c::cs) ku ?_;refine I ?_;refine yK LJ.1 (by kernel_rfl) ?_;intro H1 i1 s1 _ _;refine I ?_;refine yK LK.1 (by kernel_rfl) ?_;intro Kf i2 s2 _ _;refine I ?_;refine e7 (agv rfl rfl) ?_;refine I ?_;refine e7 (aeE rfl rfl (by decide)) ?_;refine I ?_;refine e7 (afk rfl rfl rfl) ?_;refine I ?_;refine mE ⟨.inl rfl,_,rfl,?_⟩;refine I ?_;refine apV ?_;refine I ?_;refine mE ⟨.inr rfl,_,rfl,?_⟩;refine I ?_;exact ba [0,1] (m,c::cs) ⟨by simp,by omega,hj⟩ (nW ⟨rfl,rfl,eC,trivial⟩ ⟨_,rfl,rfl⟩ ⟨_,rfl,rfl,fun _=>rfl⟩)
  |cons oU bU=>
   have nA:bU.length<=96636764070:=by simp at hO;omega
   have auX:s.length<=9:=bD;refine ag 8 (.i .i64 (m:Nat)) rfl dY (I ?_);refine ag 41 (.b true) rfl (by simp) (I ?_);refine ep s ku ?_;refine I ?_;refine yK LJ.1 (by kernel_rfl) ?_;intro H1 i1 s1 _ _;refine I ?_;refine yK LK.1 (by kernel_rfl) ?_;intro Kf i2 s2 _ _;refine I ?_;refine e7 (agw rfl rfl) ?_;refine I ?_;refine mE ⟨.inl rfl,_,rfl,?_⟩;refine I ?_;refine apU ?_ (h0:=a5);refine I ?_;refine mE ⟨.inr rfl,_,rfl,?_⟩;refine I ?_;exact ba [0,2] (m,oU::(bU++s)) ⟨by simp,by omega,hj⟩ (asI ⟨rfl,rfl,eC,trivial⟩ ⟨_,rfl,congrArg (fun k=>bp.c 327 [.p 0 0,.bj 2 1 0 k k]) (by simp;omega)⟩ ⟨_,rfl,rfl,fun _=>rfl⟩)
def RL(h:dI k n):(dP n).length<=10*k+1:=by
 have:=Ng h;unfold dP dec;rw[tg];split
 ·simp
 ·rw[zbr];omega
def aa4:bc where
 L:=Rat
 args:=fun x=>[bN x]
 pre:=fun x=>cK 268435456 x
 res:=fun x=>.s (kg x)
 hp:=oL
 hm:=oL.up
def aqu:a6 aS.ctx 60 aa4.spec:=by
 refine kn [(124,YG.spec)] Vl.1 ?_;intro(x:Rat) (aa:cK _ x) H aH eB;have eW:=RL aa.1;have g1:=RL aa.2;refine I ?_;refine aC YH x.num.natAbs (cH aa.1 (by decide)) (an 3 ?_) (hh:=eB)
 iterate 3 refine ha ?_
 obtain⟨u,hu⟩:∃u,u=(if x.num<0 then[45]else[])++dP x.num.natAbs:=⟨_,rfl⟩;have tU:u.length<=10*268435456+2:=by
  rw[hu,zaL];have:(if x.num<0 then([45]:ac bv)else[]).length<=1:=by split<;>simp
  omega
 refine fK (L:=Unit) (fun _=>True) (fun _=>⟨[.c 42 (nm x)],1,[(1,.p 0 0),(3,.s u)]⟩) ?_ ?_
 ·refine I ?_;refine cf (fun h=> ?_) (fun h=> ?_)
  ·refine I ?_;refine sR ?_ (hl:=by show 1+(dP _).length<=_;omega);refine I ?_;exact ba [0] () trivial (dK ⟨rfl,by rw[hu,zab h];rfl,trivial⟩ ⟨_,rfl,rfl⟩)
  ·refine I ?_;exact ba [0] () trivial (dK ⟨rfl,by rw[hu,zaa h];rfl,trivial⟩ ⟨_,rfl,rfl⟩)
 intro _ _;refine an 12 ?_;by_cases aq:x.den=1
 ·refine ag 12 (.ih 1 Nat eS []) rfl (by show r2 x.den=_;rw[aq];rfl) (I ?_);refine au rfl (.of ?_);show ah.s u=ah.s (kg x);unfold kg;rw[<-hu,zab aq,zcN]
 ·refine ag 12 (.ih 1 Nat eS (aT 4294967296 x.den)) rfl (Cp aq) ?_;have cx:(aT 4294967296 x.den).isEmpty=false:=zdG.2 (fun e=>x.den_nz ((nu (by decide)).1 e));refine I ?_;refine aaD rfl (by show j2 true _=true;rw[cx];rfl) ?_;refine an 16 ?_;refine Bj 16 (c3 x.den) rfl (RQ aq) ?_;refine aC YH x.den (cH aa.2 (by decide)) ?_ (hh:=eB);refine sR ?_ (hl:=by show 1+(dP _).length<=_;omega);refine sR ?_ (hl:=by rw[zaL];show u.length+(1+(dP _).length)<=_;omega);refine I ?_;refine au rfl (.of ?_);show ah.s (u++([47]++dP x.den))=ah.s (kg x);unfold kg;rw[<-hu,zaa aq];rfl
