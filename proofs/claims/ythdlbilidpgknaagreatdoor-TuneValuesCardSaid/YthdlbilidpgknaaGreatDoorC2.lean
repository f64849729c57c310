/- What the functions of the program and of the document compute, for every input (part 2); conditions as in the statements. -/
import Derived.Test.YthdlbilidpgknaaGreatDoorC1
import Derived.Test.YthdlbilidpgknaaGreatDoorS1
import Derived.Test.YthdlbilidpgknaaGreatDoorL
import Derived.Test.YthdlbilidpgknaaGreatDoorS2
noncomputable section
set_option linter.all false
namespace Go.aj.a3
open Go.aj
set_option maxRecDepth 100000
set_option maxHeartbeats 4000000
variable{k:Nat}
def Iz:bh where
 L:=Int×Int
 args:=fun(e,p)=>[m5 e p]
 pre:=fun(e,p)=>True
 res:=fun(e,p)=>.i .i64 (if cq e p then 0 else 2)
def Y7:a9 aT.ctx 135 Iz.spec:=by
 refine bH [] Sm.1 ?_;intro⟨e,p⟩ _ H aH;have bad:¬cq e p->bZ (.i .i64 2) (Iz.res (e,p)):=fun h=>.of (by show _=ab.i .i64 (if _ then _ else _);rw[zaa h]);refine ak 5 ?_;by_cases h1:e<2
 ·refine dx 5 h1 (I ?_);exact ar rfl (bad (by unfold cq;omega))
 refine ea 5 h1 (ak 9 ?_);by_cases h2:11<e
 ·refine dx 9 h2 (I ?_);exact ar rfl (bad (by unfold cq;omega))
 refine ea 9 h2 (ak 14 ?_);by_cases h3:p<2
 ·refine dx 14 h3 (I ?_);exact ar rfl (bad (by unfold cq;omega))
 refine ea 14 h3 (ak 19 ?_);by_cases au:113<p
 ·refine dx 19 au (I ?_);exact ar rfl (bad (by unfold cq;omega))
 refine ea 19 au (ak 26 ?_);refine ah 26 (.i .i64 (e+p)) rfl (bx rfl (by omega) (by omega)) (ak 27 ?_);by_cases aW:e+p<5
 ·refine dx 27 aW (I ?_);exact ar rfl (bad (by unfold cq;omega))
 refine ea 27 aW (I ?_);exact ar rfl (.of (by show _=ab.i .i64 (if _ then _ else _);rw[zab (by unfold cq;omega)]))
def Iy:bh where
 L:=Int×Int
 args:=fun(e,p)=>[m5 e p]
 pre:=fun(e,p)=>cq e p
 res:=fun(e,p)=>.i .i64 (ct e)
def Oh:a9 aT.ctx 252 Iy.spec:=by
 refine bH [] Tq.1 ?_;intro⟨e,p⟩ ⟨h1,h2,h3,au,aW⟩ H aH;obtain⟨n,hn⟩:∃n:Nat,e=(n:Int)+1:=⟨(e-1).toNat,by omega⟩;subst hn;have Iu:∀i:Nat,i<=10->1<=2^i∧2^i<=1024:=fun i hi=>⟨zah i,zat (by decide) hi⟩;refine I ?_;refine c6 (L:=Nat) (fun i=>i<=n) (fun(i:Nat)=>⟨[.c 76 [.i .i64 ((n:Int)+1),.i .i64 p]],1,[(1,.p 0 0),(3,.i .i64 ((2^i:Nat):Int)),(4,.i .i64 ((i:Int)+1))]⟩) (fun i=>n-i) [0] 0 (zag _) (by show n-0<bQ+1;unfold bQ;omega) dD ?_;intro(i:Nat) hi;have hp:=Iu i (by omega);refine I ?_;refine b9 (fun h=> ?_) (fun h=> ?_)
 ·refine I ?_;refine a1 [0] (i+1) ⟨by show n-(i+1)<n-i;omega,by show i+1<=n;omega⟩ (dH ⟨rfl,?_,?_,trivial⟩ ⟨_,rfl,rfl⟩)
  ·exact congrArg (fun n=>some (ab.i .i64 n)) (uK (by rw[zak];omega) (by omega) (by omega))
  ·exact congrArg (fun n=>some (ab.i .i64 n)) (uK (by omega) (by omega) (by omega))
 ·have he:i=n:=by omega
  subst he;refine I ?_;refine ar rfl (.of (congrArg (ab.i .i64) (uK ?_ (by omega) (by omega))));unfold ct;rw[show((i:Int)+1-1).toNat=i by omega,zeG];rfl
def rG(n:Nat):dR (n+1) (2^n):=iW (by decide) (fC (Nat.pow_lt_pow_right (by decide) (zbZ n)) (zdk (by decide) (n+1)))
def cZ{l a:Nat}(h:dR k a)(hl:k<=l):dR l a:=zai h hl
def IF(k:Nat):bh where
 L:=Nat
 args:=fun n=>[.i .i64 n]
 pre:=fun n=>n<k∧n<=1000000000
 res:=fun n=>cV (2^n)
theorem IG:∀k:Nat,a9 aT.ctx 337 (IF k).spec
 |0=>by
  refine bH [(77,wo.spec)] Lv.1 ?_;intro(n:Nat) h H aH;exact absurd h.1 (zcV _)
 |k+1=>by
  have aZ:=IG k;refine bH [(77,wo.spec),(337,(IF k).spec),(74,yz.spec),(81,Ix.spec)] Lv.1 ?_;intro(n:Nat) ⟨(h1:n<k+1),(h2:n<=1000000000)⟩ H aH;refine I ?_;refine b9 (fun h=> ?_) (fun h=> ?_)
  ·have h:n=0:=by omega
   subst h;refine I ?_;refine aL uq () trivial (I ?_);exact ar rfl (.refl _)
  have h:n≠0:=by omega
  refine ak 9 ?_;refine ah 9 (.i .i64 ((n/2:Nat):Int)) rfl (by show ab.i _ (IntKind.i64.wrap ((n/2:Nat):Int))=_;exact bx rfl (by omega) (by omega)) ?_;refine aL aZ (n/2) ⟨by show n/2<k;omega,by show n/2<=_;omega⟩ (I ?_);have hq:=rG (n/2);refine aL qz (2^(n/2),2^(n/2)) ⟨cZ hq (by omega),cZ hq (by omega)⟩ (ak 15 ?_);refine ah 15 (.i .i64 ((n%2:Nat):Int)) rfl rfl ?_;have e:2^(n/2)*2^(n/2)=2^(n/2+n/2):=(zal 2 _ _).symm;have G3:dR 1073741824 (2^(n/2)*2^(n/2)):=by rw[e];exact cZ (rG _) (by omega)
  refine I ?_;refine b9 (fun h=> ?_) (fun h=> ?_)
  ·have h:n%2=1:=by omega
   refine I ?_;refine aL Of (2^(n/2)*2^(n/2),2^(n/2)*2^(n/2)) ⟨G3,G3⟩ (I ?_);refine ar rfl (.of (congrArg cV ?_));show 2^(n/2)*2^(n/2)+2^(n/2)*2^(n/2)=2^n;rw[e,<-Nat.two_mul,<-Nat.pow_succ'];congr 1;omega
  ·have h:n%2=0:=by omega
   refine I ?_;refine ar rfl (.of (congrArg cV ?_));show 2^(n/2)*2^(n/2)=2^n;rw[e];congr 1;omega
def Iw:bh where
 L:=Rat
 args:=fun x=>[dj x]
 pre:=fun _=>True
 res:=fun x=>dj (gv x)
def Oe:a9 aT.ctx 248 Iw.spec:=by
 refine bH [] Tn.1 ?_;intro(x:Rat) _ H aH;refine I ?_;refine ar rfl (.of ?_);show ab.agg [.i _ (IntKind.i64.wrap (x.num.sign*x.num.sign)),cV x.num.natAbs,c8 (if x.num=0 then[]else aR 1000000000 x.den)]=ab.agg [.i _ _,cV (gv x).num.natAbs,c8 (if(gv x).num=0 then[]else aR 1000000000 (gv x).den)];rw[(mV x).1,(mV x).2,zaC];have e:IntKind.i64.wrap (x.num.sign*x.num.sign)=((x.num.natAbs:Nat):Int).sign:=by
  rcases(show x.num<0∨x.num=0∨0<x.num by omega)with h|h|h
  ·rw[zcc h,zby (by omega)];rfl
  ·rw[h];rfl
  ·rw[zby h,zby (by omega)];rfl
 rw[e];by_cases h:x.num=0
 ·rw[h];rfl
 ·rw[zaa h,zaa (by omega)]
def Fp{n:Nat}:n<2^k↔bs n<=k:=⟨Fq,fun h=>by
 by_cases h0:n=0
 ·subst h0;exact zah k
 ·exact fC (qP h0).2 (zat (by decide) h)⟩
def QH{n:Nat}:29*((aR 1000000000 n).length-1)<=bs n∧bs n<=30*(aR 1000000000 n).length:=by
 constructor
 ·refine zct fun h=> ?_;have hl:0<(aR 1000000000 n).length:=by omega
  have h1:=(xj (b:=1000000000) (n:=n) (i:=(aR 1000000000 n).length-1) (by decide)).1 (by omega);have h2:1000000000^((aR 1000000000 n).length-1)<=n:=zct fun az=>h1 (zaW az);have h3:(2^29)^((aR 1000000000 n).length-1)<=1000000000^((aR 1000000000 n).length-1):=zdk (by decide) _;rw[<-zbw]at h3;have:=Fp.2 (zaY h);omega
 ·refine Fq (fC (r0 (bY _)) ?_);rw[zbw];exact zdk (by decide) _
def Zj:bh where
 L:=Nat
 args:=fun n=>[cV n]
 pre:=fun n=>dR 30000000 n
 res:=fun n=>.i .i64 (bs n:Nat)
def Zk:a9 aT.ctx 387 Zj.spec:=by
 refine bH [(337,(IF 1000000001).spec),(155,sF.spec)] Uc.1 ?_;intro(n:Nat) (hn:(aR _ n).length<=_) H aH;obtain⟨cK,c9⟩:= @QH n;obtain⟨l,hl⟩:∃l,l=(aR 1000000000 n).length:=⟨_,rfl⟩;rw[<-hl]at cK c9 hn;refine ak 9 ?_;rw[<-hl];refine ah 9 (.i .i64 (29*((l:Int)-1))) rfl (congrArg (ab.i .i64) (by rw[gL (n:=(l:Int)-1) (by omega) (by omega)];exact uK rfl (by omega) (by omega))) (ak 10 ?_);refine ah 10 (.i .i64 ((29*(l-1):Nat):Int)) rfl (congrArg (ab.i .i64) (by omega)) (ak 13 ?_)
 try rw[<-hl]
 refine ah 13 (.i .i64 ((30*l:Nat):Int)) rfl bx (I ?_);refine c6 (L:=Nat×Nat) (fun(aM,hi)=>aM<=bs n∧bs n<=hi∧hi<=900000000) (fun((aM:Nat),(hi:Nat))=>⟨[],0,[(0,cV n),(3,.i .i64 aM),(4,.i .i64 hi)]⟩) (fun l=>l.2-l.1) [] (29*(l-1),30*l) ⟨cK,c9,by omega⟩ (by show 30*l-29*(l-1)<bQ+1;unfold bQ;omega) eP ?_;rintro⟨aM,hi⟩ ⟨h1,h2,h3⟩;refine I ?_;refine b9 (fun h=> ?_) (fun h=> ?_)
 ·have h:aM<hi:=by omega
  refine ak 19 ?_;refine ah 19 (.i .i64 ((aM+hi:Nat):Int)) rfl bx (ak 20 ?_);refine ah 20 (.i .i64 (((aM+hi)/2:Nat):Int)) rfl (by show ab.i _ (IntKind.i64.wrap (((aM+hi)/2:Nat):Int))=_;exact bx rfl (by omega) (by omega)) (I ?_);refine aL (IG 1000000001) ((aM+hi)/2) ⟨by show(aM+hi)/2<_;omega,by show(aM+hi)/2<=_;omega⟩ ?_;refine aL rF (n,2^((aM+hi)/2)) ⟨by show(aR _ n).length<=_;omega,cZ (rG _) (by omega)⟩ (I ?_);refine b9 (fun hc=> ?_) (fun hc=> ?_)
  ·have hc:=Fp.1 (zs hc);refine I ?_;exact a1 [] (aM,(aM+hi)/2) ⟨by show(aM+hi)/2-aM<hi-aM;omega,h1,hc,by omega⟩ eP
  ·have hc:(aM+hi)/2<bs n:=Nat.lt_of_not_le fun az=>Nat.not_lt.2 (zt hc) (Fp.2 az);refine I ?_;exact a1 [] ((aM+hi)/2+1,hi) ⟨by show hi-((aM+hi)/2+1)<hi-aM;omega,hc,h2,h3⟩ (iO ⟨rfl,eS,rfl,trivial⟩)
 ·have he:aM=bs n:=by omega
  refine I ?_;exact ar rfl (.of (by rw[he];rfl))
def eg(k:Nat)(x:Rat):Prop:=dR k x.num.natAbs∧dR k x.den
variable{x:Rat}{a b d:Nat}{y:Rat}{l r n p q:Nat}{s:Int}
def mM(ha:dR k a)(hb:dR l b):dR (k+l) (a*b):=iW (by decide) (by rw[zal];exact zeA (r0 ha) (r0 hb))
def D7:bh where
 L:=Rat×Rat
 args:=fun(x,y)=>[dj x,dj y]
 pre:=fun(x,y)=>eg 268435456 x∧eg 268435456 y
 res:=fun(x,y)=>.i .i64 (g4 x y)
def A4(n:Int): -1<=n.sign∧n.sign<=1:=by
 rcases(show n<0∨n=0∨0<n by omega)with h|h|h
 ·rw[zcc h];decide
 ·rw[h];decide
 ·rw[zby h];decide
def IH:a9 aT.ctx 79 D7.spec:=by
 refine bH [(75,yw.spec),(74,yz.spec),(155,sF.spec)] UL.1 ?_;intro⟨x,y⟩ ⟨(J:eg _ x),(aA:eg _ y)⟩ H aH;obtain⟨eK,fO,mW⟩:=Q0 x y;have hg:=A4 x.num;have mR:=A4 y.num;refine I ?_;refine b9 (fun h=> ?_) (fun h=> ?_)
 ·refine I ?_;exact ar rfl (.of (by show ab.i .i64 (-1)=ab.i .i64 (g4 x y);rw[eK h]))
 refine I ?_;refine b9 (fun h1=> ?_) (fun h1=> ?_)
 ·refine I ?_;exact ar rfl (.of (by show ab.i .i64 1=ab.i .i64 (g4 x y);rw[fO h1]))
 have he:x.num.sign=y.num.sign:=by omega
 refine I ?_;refine bo rE y trivial (I ?_);refine bo qz (x.num.natAbs,y.den) ⟨cZ J.1 (by decide),cZ aA.2 (by decide)⟩ (I ?_);refine bo rE x trivial (I ?_);refine bo qz (y.num.natAbs,x.den) ⟨cZ aA.1 (by decide),cZ J.2 (by decide)⟩ (I ?_);refine bo rF (x.num.natAbs*y.den,y.num.natAbs*x.den) ⟨cZ (mM J.1 aA.2) (by decide),cZ (mM aA.1 J.2) (by decide)⟩ (I ?_);refine ar rfl (.of ?_);show ab.i .i64 (IntKind.i64.wrap (x.num.sign*hR _ _))=ab.i .i64 (g4 x y);rw[mW he];refine congrArg _ (uK rfl ?_ ?_)
 all_goals
  have ae:x.num.sign= -1∨x.num.sign=0∨x.num.sign=1:=by omega
  unfold hR;rcases ae with h|h|h<;>rw[h]<;>split<;>(try split)<;>decide
def Oj:bh where
 L:=Nat×Nat
 args:=fun(a,b)=>[cV a,cV b]
 pre:=fun(a,b)=>dR 268435456 a∧dR 268435456 b∧b≠0
 res:=fun(a,b)=>.bu [cV (a/b),cV (a%b)]
def apz{W m:Nat}(hb:(aR 1000000000 b).length=m+1)(gx:b<=W)(aV:W<1000000000*b):
 0<b/1000000000^m∧b/1000000000^m<1000000000∧W/1000000000^m/(b/1000000000^m+1)<=W/b∧W/b<=min ((W/1000000000^m+1)/(b/1000000000^m)) 999999999∧W/1000000000^m<1000000000*1000000000∧0<W/b∧W<1000000000^(m+2):=by
 have lj:0<b:=by
  refine zbc fun e=> ?_;rw[e,fG]at hb;simp at hb
 have hH:0<1000000000^m:=zcH (by decide);have h1:=(xj (b:=1000000000) (n:=b) (i:=m) (by decide)).1 (by omega);have h2:=FN (b:=1000000000) (by decide) (zcX hb);have o4:b=b/1000000000^m*1000000000^m+b%1000000000^m:=by rw[zaj];exact(zaS _ _).symm
 have RA:W=W/1000000000^m*1000000000^m+W%1000000000^m:=by rw[zaj];exact(zaS _ _).symm
 have tu:W<1000000000^(m+2):=by
  rw[show m+2=(m+1)+1 from rfl,zak,zaj];exact fC aV (lF _ (zaY h2))
 refine⟨zbc h1,?_,ajO o4 (zaf _ hH) RA lj,?_,?_,zdg gx lj,tu⟩
 ·exact zdO (by rwa [zak]at h2)
 ·have h3:=ajN o4 (zaf W hH) RA (zbc h1) hH;have au:W/b<1000000000:=zdO (by rw[zaj];exact aV);omega
 ·refine zdO ?_;rw[show m+2=m+(1+1)from rfl,zal,zal,Nat.pow_one]at tu;exact tu
def xk(h0:d≠0)(h:d<1000000000):aR 1000000000 d=[d]:=by
 rw[nE (by decide) h0,dJ h,zaW h,fG]
def O8(h:d<1000000000):eG (d::aR 1000000000 r)=aR 1000000000 (d+1000000000*r):=by
 rw[yM (b:=1000000000) (by decide) (fun x J=>by
  rcases zao.1 J with rfl|J
  ·exact h
  ·exact gb (by decide) r x J)]
 simp only[val];rw[fP (by decide)]
def Q2:hR a b<=0↔a<=b:=by
 unfold hR;split
 ·omega
 ·split<;>omega
def apx(h:r<b)(hb:dR k b):dR k r:=iW (by decide) (zdP h (r0 hb))
def apy{i:Nat}{da:ac Nat}:(List.replicate (i+1) 0++da).set i d=List.replicate i 0++d::da:=by
 rw[List.replicate_succ',zbO,List.set_append_right _ _ (by simp)];simp
def Oi(xs da:ac Nat)(b m i W:Nat)(e:bO):cG:=⟨[.a 2 false 1 Nat fM (List.replicate (i+1) 0++da)],1,(0,c8 xs)::(1,c8 (aR 1000000000 b))::(6,.aY 0 1 0 xs.length xs.length)::(7,.i .i64 ((m+1:Nat):Int))::(8,cV W)::(9,.i .i64 i)::e⟩
def Ok:a9 aT.ctx 80 Oj.spec:=by
 refine bH [(157,wq.spec),(155,sF.spec),(74,yz.spec),(158,IJ.spec)] UM.1 ?_;intro⟨a,b⟩ ⟨(ha:(aR _ a).length<=_),(hb:(aR _ b).length<=_),(lj:b≠0)⟩ H aH;have h1:=gb (b:=1000000000) (by decide) a;have iR:=fP (b:=1000000000) (by decide) a;obtain⟨m,hm⟩:∃m,(aR 1000000000 b).length=m+1:=⟨(aR 1000000000 b).length-1,by
  have:(aR 1000000000 b).length≠0:=fun e=>lj ((nD (by decide)).1 (zbB e));omega⟩
 have zT:=abe (b:=1000000000) (by decide) hm;show aU.ok _ ⟨_,_,⟨_,_,[(0,c8 (aR 1000000000 a)),(1,c8 (aR 1000000000 b))]⟩⟩;generalize xX:aR 1000000000 a=xs at *;refine I ?_;refine pB fM 0 ?_;refine I ?_;rw[hm];refine Ej 8 (c8 []) rfl bZ.nl ?_;refine ah 8 (cV 0) rfl (by unfold cV;rw[fG]) ?_;refine c6 (L:=Nat×ac Nat×Nat) (fun(k,da,r)=>k+da.length=xs.length∧cT 1000000000 da∧r<b∧val 1000000000 (xs.drop k)=val 1000000000 da*b+r)
  (fun((k:Nat),(da:ac Nat),(r:Nat))=>⟨[.a 2 false 1 Nat fM (List.replicate k 0++da)],1,[(0,c8 xs),(1,c8 (aR 1000000000 b)),(6,.aY 0 1 0 xs.length xs.length),(7,.i .i64 ((m+1:Nat):Int)),(8,cV r),(9,.i .i64 ((k:Int)-1))]⟩)
  (fun l=>l.1) [0] (xs.length,[],0) ⟨by simp,fun x J=>by simp at J,by omega,by simp[val]⟩ (by show xs.length<bQ+1;unfold bQ;omega) ?_ ?_
 ·exact dH ⟨rfl,rfl,rfl,rfl,rfl,eS,trivial⟩ ⟨_,rfl,by simp,fun _=>rfl⟩
 rintro⟨k,da,r⟩ ⟨U,bI,hr,aF⟩;cases k with
 |zero=>
  refine I ?_;refine ko 99 ?_;refine aL wu da (by show da.length<=_;omega) (I ?_);refine ar rfl (.of ?_);show ab.bu [c8 (eG da),cV r]=ab.bu [cV (a/b),cV (a%b)];rw[zaq,iR]at aF;have al:=Nat.div_mod_unique (zbc lj) (a:=a) (c:=r) (d:=val 1000000000 da);obtain⟨aq,e2⟩:=al.2 ⟨by rw[aF,zaj];exact zbS _ _,hr⟩;rw[yM (by decide) bI,aq,e2];rfl
 |succ i=>
  have J:i<xs.length:=by omega
  have lo:=h1 _ (dV J);obtain⟨W,gx⟩:∃W,W=xs[i]+1000000000*r:=⟨_,rfl⟩;have akn:W<1000000000*b:=by omega
  have re:∀q dG:Nat,q*b+dG=W->val 1000000000 (xs.drop i)=val 1000000000 (q::da)*b+dG:=fun q dG h=>by
   rw[hB J];simp only[val];rw[aF,zam,zaB,zar];omega
  have se:=apx hr hb;refine ah 9 (.i .i64 (i:Nat)) rfl ev (I ?_);refine ah 23 (.b true) rfl (by simp) (ak 26 ?_);refine fJ (L:=Unit) (fun _=>True) (fun _=>Oi xs da b m i W []) ?_ ?_
  ·refine I ?_;refine dP xs[i] (bF J) ?_;refine I ?_;refine nk 1 fM [xs[i]] ?_;by_cases nd:r=0
   ·subst nd;refine ah 31 (c8 []) rfl (by unfold cV;rw[fG]) ?_;refine ap1 (R:=fM) (Jk rfl (fun _=>rfl) (fun _=>rfl)) ?_;refine ko 32 ?_;refine aL wu [xs[i]] (by show 1<=_;decide) (I ?_);refine a1 [0] () trivial (dH ⟨rfl,rfl,rfl,rfl,congrArg (fun l=>some (c8 l)) ?_,rfl,trivial⟩ ⟨_,rfl,rfl,fun _=>rfl⟩);have:=O8 (d:=xs[i]) (r:=0) lo;rw[fG]at this;rw[gx];exact this
   ·have cl:aR 1000000000 r≠[]:=fun e=>nd ((nD (by decide)).1 e);have hl:0<(aR 1000000000 r).length:=zbf.2 cl;have se:(aR 1000000000 r).length<=268435456:=se;refine Oz (R:=fM) (aR 1000000000 r) (Jk rfl (fun _=>rfl) (fun _=>rfl)) (xs[i]::aR 1000000000 r) ?_ (h0:=cl);refine ko 32 ?_;refine aL wu (xs[i]::aR 1000000000 r) (by show(aR _ r).length+1<=_;omega) (I ?_);refine a1 [0] () trivial (dH ⟨rfl,rfl,rfl,rfl,congrArg (fun l=>some (c8 l)) ?_,rfl,trivial⟩ ⟨_,rfl,rfl,fun _=>rfl⟩);rw[gx];exact O8 lo
  intro _ _;have LK:dR 268435457 W:=by
   have:=O8 (d:=xs[i]) (r:=r) lo;have h2:=abo (xs[i]::aR 1000000000 r);rw[this,<-gx]at h2;exact zai h2 (Nat.succ_le_succ se)
  refine I ?_;refine aL rF (W,b) ⟨cZ LK (by decide),cZ hb (by decide)⟩ (I ?_);refine b9 (fun h=> ?_) (fun h=> ?_)
  ·have h:W<b:=zs h;refine I ?_;refine a1 [0] (i,0::da,W) ⟨by simp,by simp;omega,?_,h,re 0 W (by omega)⟩ (dH ⟨rfl,rfl,rfl,rfl,rfl,eS,trivial⟩ ⟨_,rfl,by rw[List.replicate_succ',zbO];rfl,fun _=>rfl⟩);intro x J;rcases zao.1 J with rfl|J
   ·decide
   ·exact bI x J
  have lR:b<=W:=zt h;obtain⟨t1,t2,t3,t4,t5,t6,t7⟩:=apz hm lR akn;have EA:m<(aR 1000000000 W).length:=(xj (by decide)).2 (by have:=Nat.div_le_div_right (c:=1000000000^m) lR;omega);have avS:=iW (b:=1000000000) (by decide) t7;have Pb:∃h5:Nat,(aR 1000000000 W)[m]? =some h5∧(((aR 1000000000 W).length=m+1∧h5=W/1000000000^m)∨((aR 1000000000 W).length=m+2∧∃y:Nat,(aR 1000000000 W)[m+1]? =some y∧h5+1000000000*y=W/1000000000^m)):=by
   rcases(show(aR 1000000000 W).length=m+1∨(aR 1000000000 W).length=m+2 by omega)with h|h
   ·exact⟨_,abe (by decide) h,.inl ⟨h,rfl⟩⟩
   ·obtain⟨aG,aI,a4⟩:=atb (b:=1000000000) (by decide) (show m+1<_ by omega) t7;exact⟨_,aG,.inr ⟨h,_,aI,a4⟩⟩
  generalize Ha:b/1000000000^m=v at *;generalize ei:W/1000000000^m=w at *;obtain⟨h5,xW,Pb⟩:=Pb;refine I ?_;refine ah 40 (.i .i64 (m:Nat)) rfl bx (I ?_);refine dP h5 xW ?_;refine ak 10 ?_
  iterate 3 refine gW ?_
  refine fJ (L:=Unit) (fun _=>True) (fun _=>Oi xs da b m i W [(10,.i .i64 (w:Nat))]) ?_ ?_
  ·refine I ?_;rcases Pb with⟨aG,aI⟩|⟨aG,y,aI,a4⟩
   ·refine ah 46 (.b false) rfl (by rw[aG];simp) (I ?_);exact a1 [0] () trivial (dH ⟨rfl,rfl,rfl,rfl,rfl,rfl,by rw[<-aI];rfl,trivial⟩ ⟨_,rfl,rfl,fun _=>rfl⟩)
   ·refine ah 46 (.b true) rfl (by rw[aG];simp) (I ?_);refine dP y aI ?_;refine I ?_;refine a1 [0] () trivial (dH ⟨rfl,rfl,rfl,rfl,rfl,rfl,?_,trivial⟩ ⟨_,rfl,rfl,fun _=>rfl⟩);exact congrArg (fun n=>some (ab.i .i64 n)) (by rw[gL (n:=1000000000*(y:Int)) (by omega) (by omega),gL (by omega) (by omega)];omega)
  intro _ _;refine I ?_;refine cu 57 (.i .i64 (m:Nat)) rfl rfl bx ?_;refine hS v zT ?_;refine ak 60 ?_;refine cu 60 (.i .i64 ((v+1:Nat):Int)) rfl rfl bx ?_;refine Rj ?_;refine ak 63 ?_;refine cu 63 (.i .i64 ((w+1:Nat):Int)) rfl rfl bx ?_;refine ak 66 ?_;refine cu 66 (.i .i64 (m:Nat)) rfl rfl bx ?_;refine hS v zT ?_;refine I ?_;refine Rj ?_;refine ak 70 ?_;obtain⟨aM,fo⟩:∃aM,aM=w/(v+1):=⟨_,rfl⟩;obtain⟨hi,fI⟩:∃hi,hi=min ((w+1)/v) 999999999:=⟨_,rfl⟩;rw[<-fo]at t3;rw[<-fI]at t4;refine cu 61 (.i .i64 (aM:Nat)) rfl rfl (by rw[fo]) ?_;refine cu 70 (.i .i64 (hi:Nat)) rfl rfl (by rw[fI];exact ev (by generalize(w+1)/v=u;omega)) ?_;have alc:hi<=999999999:=by generalize(w+1)/v=u at *;omega
  have an2:∀d:Nat,d≠0->d<1000000000->dR 268435457 (b*d):=fun d h0 h=>mM (k:=268435456) (l:=1) hb (by show(aR _ d).length<=1;rw[xk h0 h];exact bY _);generalize pa:W/b=q at *;have gh:0<b:=zbc lj;refine I ?_;refine c6 (L:=Nat×Nat) (fun(l,h)=>l<=q∧q<=h∧h<=999999999) (fun((l:Nat),(h:Nat))=>Oi xs da b m i W [(11,.i .i64 l),(12,.i .i64 h)]) (fun l=>l.2-l.1) [0] (aM,hi) ⟨t3,t4,alc⟩ (by show hi-aM<bQ+1;unfold bQ;omega) dD ?_;rintro⟨l,h⟩ ⟨aG,aI,a4⟩;refine I ?_;refine b9 (fun aV=> ?_) (fun aV=> ?_)
  ·have aV:l<h:=by omega
   obtain⟨k6,alq⟩:∃k6,k6=(l+h+1)/2:=⟨_,rfl⟩;refine ak 76 ?_;refine ah 76 (.i .i64 ((l+h:Nat):Int)) rfl bx (ak 77 ?_);refine ah 77 (.i .i64 ((l+h+1:Nat):Int)) rfl bx (ak 78 ?_);refine ah 78 (.i .i64 (k6:Nat)) rfl (by rw[alq];show ab.i _ (IntKind.i64.wrap (((l+h+1)/2:Nat):Int))=_;exact bx rfl (by omega) (by omega)) ?_;have z2:k6≠0:=by omega
   have xJ:k6<1000000000:=by omega
   refine I ?_;refine nk 1 fM [k6] ?_;refine ko 81 ?_;refine ah 81 (cV k6) rfl (by unfold cV;rw[xk z2 xJ];rfl) ?_;refine aL qz (b,k6) ⟨cZ hb (by decide),by show(aR _ k6).length<=_;rw[xk z2 xJ];exact jN rfl⟩ (I ?_);refine aL rF (b*k6,W) ⟨cZ (an2 k6 z2 xJ) (by decide),cZ LK (by decide)⟩ (I ?_);have CB:b*k6<=W↔k6<=q:=by rw[<-pa,zbI gh,zaj]
   refine b9 (fun hc=> ?_) (fun hc=> ?_)
   ·have hc:=CB.1 (Q2.1 hc);refine I ?_;exact a1 [0] (k6,h) ⟨by show h-k6<h-l;omega,hc,aI,a4⟩ dD
   ·have hc:q<k6:=Nat.lt_of_not_le fun az=>hc (Q2.2 (CB.2 az));refine I ?_;exact a1 [0] (l,k6-1) ⟨by show k6-1-l<h-l;omega,aG,by show q<=k6-1;omega,by show k6-1<=_;omega⟩ (dH ⟨rfl,rfl,rfl,rfl,rfl,rfl,rfl,eS,trivial⟩ ⟨_,rfl,rfl,fun _=>rfl⟩)
  ·have he:l=q:=by omega
   subst he;have xJ:l<1000000000:=by omega
   have z2:l≠0:=by omega
   have z5:b*l<=W:=by rw[<-pa];exact Nat.mul_div_le W b
   refine I ?_;refine ix ?_;refine kp l ?_;refine I ?_;refine nk 1 fM [l] ?_;refine ko 96 ?_;refine ah 96 (cV l) rfl (by unfold cV;rw[xk z2 xJ];rfl) ?_;refine aL qz (b,l) ⟨cZ hb (by decide),by show(aR _ l).length<=_;rw[xk z2 xJ];exact jN rfl⟩ ?_;refine aL D8 (W,b*l) ⟨cZ LK (by decide),z5⟩ (I ?_);have alu:W-b*l=W%b:=by have:=zaS W b;rw[pa]at this;omega
   refine a1 [0] (i,l::da,W-b*l) ⟨by simp,by simp;omega,?_,by rw[alu];exact zaf _ gh,re l _ (by rw[zaj l b];omega)⟩ (dH ⟨rfl,rfl,rfl,rfl,rfl,eS,trivial⟩ ⟨_,rfl,by rw[apy],fun _=>rfl⟩);intro x J;rcases zao.1 J with rfl|J
   ·exact xJ
   ·exact bI x J
def n4(h:dR k b)(hl:a<=b):dR k a:=iW (by decide) (zaX hl (r0 h))
def qx(h:dR k a):bs a<=30*k:=zai QH.2 (lF _ h)
def Hy:(aR 1000000000 n).length=0↔n=0:=by rw[zeD];exact nD (by decide)
def Y9:bh where
 L:=Nat×Nat
 args:=fun(a,b)=>[cV a,cV b]
 pre:=fun(a,b)=>dR 268435456 a∧dR 268435456 b∧b≠0
 res:=fun(a,b)=>cV (Nat.gcd a b)
def yx(x y t:Nat):cG:=⟨[],0,[(0,cV x),(1,cV y),(5,.i .i64 t)]⟩
def apB:a9 aT.ctx 156 Y9.spec:=by
 refine bH [(80,Oj.spec),(262,Zq.spec),(263,Zb.spec),(155,sF.spec),(158,IJ.spec),(81,Ix.spec)] SB.1 ?_;intro⟨a,b⟩ ⟨(ha:dR _ a),(hb:dR _ b),(lj:b≠0)⟩ H aH;refine I ?_;refine aL Ok (a,b) ⟨ha,hb,lj⟩ (I ?_);have hr:a%b<b:=zaf _ (zbc lj);have aJ:Nat.gcd (a%b) b=Nat.gcd a b:=by rw[zdL a b,Nat.gcd_rec b a]
 have qr:dR 268435456 (a%b):=n4 hb (zaY hr);generalize J:a%b=h5 at *;refine b9 (fun h=> ?_) (fun h=> ?_)
 ·have h:h5=0:=Hy.1 (by omega);subst h;refine I ?_;exact ar rfl (.of (by show cV b=cV (Nat.gcd a b);rw[<-aJ,zeH]))
 have h:h5≠0:=fun e=>h (by rw[e,fG];rfl);refine I ?_;refine l7 (L:=Nat×Nat×Nat) (fun(x,y,t)=>x≠0∧y≠0∧dR 268435456 x∧dR 268435456 y∧t<=10000000000∧2^t*Nat.gcd x y=Nat.gcd a b∧Nat.gcd x y%2=1) (fun(x,y,t)=>yx x y t) ?_ ?_
 ·refine c6 (L:=Nat×Nat×Nat) (fun(x,y,t)=>x≠0∧y≠0∧dR 268435456 x∧dR 268435456 y∧t+bs x<=10000000000∧2^t*Nat.gcd x y=Nat.gcd a b) (fun(x,y,t)=>yx x y t) (fun l=>bs l.1) [] (h5,b,0) ⟨h,lj,qr,hb,by have:=qx qr;show 0+_<=_;omega,by rw[zbs,zaH,aJ]⟩ (by have:=qx qr;show bs h5<bQ+1;unfold bQ;omega) eP ?_;rintro⟨x,y,t⟩ ⟨aG,aI,a4,b2,cx,ef⟩;refine I ?_;refine aL ID x trivial (I ?_);by_cases tP:x%2=1
  ·refine ah 20 (.b false) rfl (by rw[zad tP];rfl) (I ?_);exact a1 [] (x,y,t) ⟨aG,aI,a4,b2,by omega,ef,Vd (fun h=>by omega)⟩ eP
  refine ah 20 (.b true) rfl (by rw[zac tP];rfl) (I ?_);have tP:x%2=0:=by omega
  refine aL ID y trivial (I ?_);by_cases Hd:y%2=1
  ·refine ah 24 (.b false) rfl (by rw[zad Hd];rfl) (I ?_);exact a1 [] (x,y,t) ⟨aG,aI,a4,b2,by omega,ef,Vd (fun h=>by omega)⟩ eP
  refine ah 24 (.b true) rfl (by rw[zac Hd];rfl) ?_;have Hd:y%2=0:=by omega
  refine I ?_;refine aL IB x (cZ a4 (by decide)) (I ?_);refine aL IB y (cZ b2 (by decide)) (I ?_);have kA:=u4 (n:=x) (by omega);have r8:=gcd_both tP Hd;exact a1 [] (x/2,y/2,t+1) ⟨by show bs (x/2)<bs x;omega,by show x/2≠0;omega,by show y/2≠0;omega,n4 a4 (zax _ _),n4 b2 (zax _ _),by show t+1+bs (x/2)<=_;omega,by rw[zak,zar,r8];exact ef⟩ (iO ⟨rfl,rfl,eS,trivial⟩)
 rintro⟨X,Y,t⟩ ⟨aG,aI,a4,b2,cx,ef,fR⟩;obtain⟨g,GM⟩:∃g,g=Nat.gcd X Y:=⟨_,rfl⟩;rw[<-GM]at ef fR;refine I ?_;refine l7 (L:=Unit) (fun _=>True) (fun _=>⟨[],0,[(1,cV g),(5,.i .i64 t)]⟩) ?_ ?_
 ·refine c6 (L:=Nat×Nat) (fun(x,y)=>y≠0∧dR 268435456 x∧dR 268435456 y∧Nat.gcd x y=g) (fun(x,y)=>yx x y t) (fun l=>2*(bs l.1+bs l.2)+l.1%2) [] (X,Y) ⟨aI,a4,b2,GM.symm⟩ (by have:=qx a4;have:=qx b2;show 2*(bs X+bs Y)+X%2<bQ+1;unfold bQ;omega) eP ?_;rintro⟨x,y⟩ ⟨h1,h2,h3,au⟩;refine I ?_;refine b9 (fun hl=> ?_) (fun hl=> ?_)
  ·have xW:x≠0:=fun e=>by rw[e,fG]at hl;simp at hl
   refine I ?_;refine l7 (L:=Nat) (fun dQ=>dQ%2=1∧dR 268435456 dQ∧Nat.gcd dQ y=g∧2*bs dQ<=2*bs x+x%2-1) (fun dQ=>yx dQ y t) ?_ ?_
   ·refine c6 (L:=Nat) (fun dQ=>dQ≠0∧dR 268435456 dQ∧Nat.gcd dQ y=g∧bs dQ<=bs x∧(dQ=x∨bs dQ<bs x)) (fun dQ=>yx dQ y t) bs [] x ⟨xW,h2,au,bY _,.inl rfl⟩ (by have:=qx h2;show bs x<bQ+1;unfold bQ;omega) eP ?_;rintro dQ ⟨a2,bw,dr,tV,Hs⟩;refine I ?_;refine aL ID dQ trivial (I ?_);refine AW (fun ai=> ?_) (fun ai=> ?_)
    ·have kA:=u4 (n:=dQ) (by omega);have ai:dQ%2=0:=by omega
     refine I ?_;refine aL IB dQ (cZ bw (by decide)) (I ?_);exact a1 [] (dQ/2) ⟨by show bs (dQ/2)<bs dQ;omega,by omega,n4 bw (zax _ _),by rw[Vb ai (by rw[dr];exact fR)];exact dr,by omega,.inr (by omega)⟩ eP
    ·refine I ?_;exact a1 [] dQ ⟨ai,bw,dr,by rcases Hs with rfl|Hs<;>omega⟩ eP
   rintro dQ ⟨a2,bw,dr,tV⟩;refine I ?_;refine l7 (L:=Nat) (fun fl=>fl%2=1∧dR 268435456 fl∧Nat.gcd dQ fl=g∧bs fl<=bs y) (fun fl=>yx dQ fl t) ?_ ?_
   ·refine c6 (L:=Nat) (fun fl=>fl≠0∧dR 268435456 fl∧Nat.gcd dQ fl=g∧bs fl<=bs y) (fun fl=>yx dQ fl t) bs [] y ⟨h1,h3,dr,bY _⟩ (by have:=qx h3;show bs y<bQ+1;unfold bQ;omega) eP ?_;rintro fl ⟨WI,ic,vP,WJ⟩;refine I ?_;refine aL ID fl trivial (I ?_);refine AW (fun ai=> ?_) (fun ai=> ?_)
    ·have kA:=u4 (n:=fl) (by omega);have ai:fl%2=0:=by omega
     refine I ?_;refine aL IB fl (cZ ic (by decide)) (I ?_);exact a1 [] (fl/2) ⟨by show bs (fl/2)<bs fl;omega,by omega,n4 ic (zax _ _),by rw[ajq ai (by rw[vP];exact fR)];exact vP,by omega⟩ eP
    ·refine I ?_;exact a1 [] fl ⟨ai,ic,vP,WJ⟩ eP
   rintro fl ⟨WI,ic,vP,WJ⟩;refine I ?_;by_cases amp:fl=1
   ·subst amp;rw[zeE]at vP;refine ah 1 (c8 [1]) rfl (by unfold cV;rw[ve]) ?_;refine ah 47 (.b true) rfl (by rw[ve];rfl) (I ?_);refine dP (j:=0) 1 rfl ?_;refine I ?_;exact a1 [] () trivial (iO ⟨by rw[<-vP];unfold cV;rw[ve];rfl,rfl,trivial⟩)
   refine fJ (L:=Unit) (fun _=>True) (fun _=>⟨[],0,[(0,cV dQ),(1,cV fl),(5,.i .i64 t),(52,.b false)]⟩) ?_ ?_
   ·by_cases hx:(aR 1000000000 fl).length=1
    ·have Wm:fl<1000000000:=r0 (k:=1) (zcX hx);refine ah 47 (.b true) rfl (by rw[hx];rfl) ?_;refine ah 1 (c8 [fl]) rfl (by unfold cV;rw[xk (by omega) Wm]) (I ?_);refine dP (j:=0) fl rfl ?_;refine I ?_;exact a1 [] () trivial (iO ⟨rfl,by unfold cV;rw[xk (by omega) Wm];rfl,rfl,congrArg (fun b=>some (ab.b b)) (zac (by omega)),trivial⟩)
    ·refine ah 47 (.b false) rfl (by rw[zac (by omega)]) (I ?_);exact a1 [] () trivial eP
   intro _ _;refine I ?_;refine aL rF (dQ,fl) ⟨cZ bw (by decide),cZ ic (by decide)⟩ (I ?_);have CP:=u4 (n:=dQ) (by omega);refine b9 (fun hc=> ?_) (fun hc=> ?_)
   ·have hc:=zs hc;refine I ?_;refine aL D8 (fl,dQ) ⟨cZ ic (by decide),zaY hc⟩ (I ?_);have gh:=Kv (zce fl dQ);exact a1 [] (fl-dQ,dQ) ⟨by show 2*(bs (fl-dQ)+bs dQ)+(fl-dQ)%2<2*(bs x+bs y)+x%2;omega,by show dQ≠0;omega,n4 ic (zce _ _),bw,by rw[Vc (zaY hc),zdL];exact vP⟩ eP
   ·have hc:=zt hc;refine I ?_;refine aL D8 (dQ,fl) ⟨cZ bw (by decide),hc⟩ (I ?_);have gh:=Kv (zce dQ fl);exact a1 [] (dQ-fl,fl) ⟨by show 2*(bs (dQ-fl)+bs fl)+(dQ-fl)%2<2*(bs x+bs y)+x%2;omega,by show fl≠0;omega,n4 bw (zce _ _),ic,by rw[Vc hc];exact vP⟩ eP
  ·have xW:x=0:=Hy.1 (by omega);subst xW;rw[zeH]at au;refine I ?_;exact a1 [] () trivial (iO ⟨by rw[<-au];rfl,rfl,trivial⟩)
 intro _ _;refine I ?_;refine c6 (L:=Nat) (fun i=>i<=t) (fun(i:Nat)=>⟨[],0,[(1,cV (2^i*g)),(5,.i .i64 t),(6,.i .i64 i)]⟩) (fun i=>t-i) [] 0 (zag _) (by show t-0<bQ+1;unfold bQ;omega) (iO ⟨by rw[zbs,zaH];rfl,rfl,rfl,trivial⟩) ?_;intro(i:Nat) hi;refine I ?_;refine b9 (fun h=> ?_) (fun h=> ?_)
 ·have h:i<t:=by omega
  have du:2^i*g<=b:=zai (fK g (zat (by decide) hi)) (by rw[ef];exact zeF _ (zbc lj));refine I ?_;refine aL Of (2^i*g,2^i*g) ⟨cZ (n4 hb du) (by decide),cZ (n4 hb du) (by decide)⟩ (I ?_);exact a1 [] (i+1) ⟨by show t-(i+1)<t-i;omega,h⟩ (iO ⟨congrArg (fun n=>some (cV n)) (by rw[zak,zaj (2^i) 2,zar];omega),rfl,eS,trivial⟩)
 ·have he:i=t:=by omega
  subst he;refine I ?_;exact ar rfl (.of (by show cV _=cV _;rw[ef]))
def Zh:bZ (.agg [.i .i64 0,.nl,.nl]) (dj 0):=bZ.agg ⟨.refl _,bZ.nl.trans (.of (by show c8 []=c8 (aR _ 0);rw[fG])),bZ.nl,trivial⟩
def Y1{n:Bool}(hp:p≠0)(hq:q≠0):dj (mkRat (if n then -(p:Int)else p) q)= .agg [.i .i64 (if n then -1 else 1),cV (p/p.gcd q),cV (q/p.gcd q)]:=by
 obtain⟨h1,h2⟩:=X6 (neg:=n) hp hq;have aJ:0<p.gcd q:=zeB _ (by omega);have al:0<p/p.gcd q:=zdg (Nat.le_of_dvd (by omega) (zdh p q)) aJ;unfold dj;rw[h1,h2];generalize p/p.gcd q=a at *;cases n
 ·simp only[zbb,if_false];rw[zaa (by omega),zby (by omega)];rfl
 ·simp only[if_true];rw[zaa (by omega),zcc (by omega),zbL];rfl
def wm:bh where
 L:=Int×Nat×Nat
 args:=fun(s,p,q)=>[.i .i64 s,cV p,cV q]
 pre:=fun(s,p,q)=> -1<=s∧s<=1∧dR 268435456 p∧dR 268435456 q∧q≠0
 res:=fun(s,p,q)=>dj (mkRat (s*p) q)
def aps(h1: -1<=s)(h2:s<=1)(ae:s≠0)(hp:p≠0)(hq:q≠0):dj (mkRat (s*p) q)= .agg [.i .i64 s,cV (p/p.gcd q),cV (q/p.gcd q)]:=by
 rcases(show s=1∨s= -1 by omega)with rfl|rfl
 ·have:=Y1 (n:=false) hp hq;rw[zaa (by decide),zaa (by decide)]at this;rw[zcf];exact this
 ·have:=Y1 (n:=true) hp hq;rw[zab rfl,zab rfl]at this;rw[zbe,zcf];exact this
def zu:hR a b=0↔a=b:=by
 unfold hR;split
 ·omega
 ·split<;>omega
def D3:dR 1073741824 1:=by show(aR _ 1).length<=_;rw[ve];exact jN rfl
def uo:a9 aT.ctx 73 wm.spec:=by
 refine bH [(77,wo.spec),(155,sF.spec),(156,Y9.spec),(80,Oj.spec)] UG.1 ?_;intro⟨s,p,q⟩ ⟨(h1: -1<=s),(h2:s<=1),(hp:dR _ p),(hq:dR _ q),(g7:q≠0)⟩ H aH;have zero:s*(p:Int)=0->bZ (.agg [.i .i64 0,.nl,.nl]) (wm.res (s,p,q)):=fun h=>Zh.trans (.of (by show dj 0=dj (mkRat (s*p) q);rw[h,zdl]));refine ak 11 ?_;by_cases q7:p=0
 ·refine ah 11 (.b true) rfl (by show ab.b (decide (((aR 1000000000 p).length:Int)=0))=_;rw[zad (by have:=Hy.2 q7;omega)]) (I ?_);exact ar rfl (zero (by rw[q7];simp))
 refine ah 11 (.b false) rfl (by show ab.b (decide (((aR 1000000000 p).length:Int)=0))=_;rw[zac (by have:=mt Hy.1 q7;omega)]) (ak 13 ?_);by_cases sf:s=0
 ·refine dx 13 sf (I ?_);exact ar rfl (zero (by rw[sf];simp))
 refine ea 13 sf ?_;have iq:=aps h1 h2 sf q7 g7;have fin:∀{dy e1:Nat},dy=p/p.gcd q->e1=q/p.gcd q->bZ (.agg [.i .i64 s,cV dy,cV e1]) (wm.res (s,p,q)):=fun aq e2=>.of (by rw[aq,e2];exact iq.symm);refine I ?_;refine aL uq () trivial ?_;refine aL rF (p,1) ⟨cZ hp (by decide),D3⟩ (ak 20 ?_);by_cases vE:p=1
 ·refine ah 20 (.b true) rfl (by show ab.b (decide _)=_;rw[zad (zu.2 vE)]) (I ?_);exact ar rfl (fin (by rw[vE];simp) (by rw[vE];simp))
 refine ah 20 (.b false) rfl (by show ab.b (decide _)=_;rw[zac (mt zu.1 vE)]) (I ?_);refine aL uq () trivial (I ?_);refine aL rF (q,1) ⟨cZ hq (by decide),D3⟩ (ak 24 ?_);by_cases xP:q=1
 ·refine ah 24 (.b true) rfl (by show ab.b (decide _)=_;rw[zad (zu.2 xP)]) (I ?_);exact ar rfl (fin (by rw[xP];simp) (by rw[xP];simp))
 refine ah 24 (.b false) rfl (by show ab.b (decide _)=_;rw[zac (mt zu.1 xP)]) ?_;have aJ:0<p.gcd q:=zeV _ (zbc g7);have GN:dR 268435456 (p.gcd q):=n4 hq (zeF _ (zbc g7));refine I ?_;refine aL apB (p,q) ⟨hp,hq,g7⟩ (I ?_);refine aL uq () trivial ?_;refine aL rF (p.gcd q,1) ⟨cZ GN (by decide),D3⟩ (I ?_);refine fJ (L:=Nat×Nat) (fun(dy,e1)=>dy=p/p.gcd q∧e1=q/p.gcd q) (fun(dy,e1)=>⟨[.c 83 [.i .i64 0,.nl,.nl]],1,[(0,.i .i64 s),(1,cV dy),(2,cV e1),(6,.p 0 0)]⟩) ?_ ?_
 ·refine b9 (fun hc=> ?_) (fun hc=> ?_)
  ·refine I ?_;refine aL Ok (p,p.gcd q) ⟨hp,GN,by show p.gcd q≠0;omega⟩ (I ?_);refine aL Ok (q,p.gcd q) ⟨hq,GN,by show p.gcd q≠0;omega⟩ (I ?_);exact a1 [0] (p/p.gcd q,q/p.gcd q) ⟨rfl,rfl⟩ dD
  ·have hc:p.gcd q=1:=zu.1 (Decidable.not_not.1 hc);refine I ?_;exact a1 [0] (p,q) ⟨by rw[hc,zcb],by rw[hc,zcb]⟩ dD
 rintro⟨dy,e1⟩ ⟨aq,e2⟩;refine I ?_;exact ar rfl (fin aq e2)
def Om:bh where
 L:=Int
 args:=fun n=>[.i .i64 n]
 pre:=fun n=> -9223372036854775808<=n∧n<9223372036854775808
 res:=fun n=>dj (mkRat n 1)
def Y2(h:n<18446744073709551616):dR 3 n:=iW (by decide) (by omega)
def Zd:a9 aT.ctx 27 Om.spec:=by
 refine bH [(76,Zm.spec),(77,wo.spec),(73,wm.spec)] Ty.1 ?_;intro(n:Int) ⟨(h1:_<=n),(h2:n<_)⟩ H aH;have cr:dR 268435456 1:=by show(aR _ 1).length<=_;rw[ve];exact jN rfl
 refine I ?_;refine b9 (fun h=> ?_) (fun h=> ?_)
 ·obtain⟨m,hm⟩:∃m:Nat,m=n.natAbs:=⟨_,rfl⟩;refine ak 6 ?_;refine ah 6 (.i .i64 (n+1)) rfl (bx rfl (by omega) (by omega)) (ak 7 ?_);refine ah 7 (.i .i64 ((m-1:Nat):Int)) rfl bx (ak 9 ?_);have afy:((m-1)%18446744073709551616+1)%18446744073709551616=m:=by omega
  refine ah 9 (.i .u64 (m:Nat)) rfl (congrArg (fun n:Nat=>ab.i .u64 (n:Int)) afy) ?_;refine aL Zn m (by show m<_;omega) (I ?_);refine aL uq () trivial ?_;refine aL uo (-1,m,1) ⟨by decide,by decide,cZ (Y2 (by omega)) (by decide),cr,by decide⟩ (I ?_);exact ar rfl (.of (by show dj _=dj _;rw[show -1*(m:Int)=n by omega]))
 ·obtain⟨m,hm⟩:∃m:Nat,n=(m:Int):=⟨n.toNat,by omega⟩;subst hm;refine ak 14 ?_;refine ah 14 (.i .u64 (m:Nat)) rfl ev ?_;refine aL Zn m (by show m<_;omega) (I ?_);refine aL uq () trivial ?_;refine aL uo (1,m,1) ⟨by decide,by decide,cZ (Y2 (by omega)) (by decide),cr,by decide⟩ (I ?_);exact ar rfl (.of (by show dj _=dj _;rw[zcf]))
def Og(h:s*(k:Int)=x.num*y.den+y.num*x.den):mkRat (s*k) (x.den*y.den)=x+y:=by rw[h,zdj]
def aar(n:Int):n=n.sign*(n.natAbs:Int):=(zcI n).symm
def D2(x:Rat):ac ab:=[.i .i64 x.num.sign,cV x.num.natAbs,c8 (if x.num=0 then[]else aR 1000000000 x.den)]
def Zt:bh where
 L:=Rat×Rat
 args:=fun(x,y)=>[dj x,dj y]
 pre:=fun(x,y)=>eg 67108864 x∧eg 67108864 y
 res:=fun(x,y)=>dj (x+y)
def apT:a9 aT.ctx 143 Zt.spec:=by
 refine bH [(75,yw.spec),(74,yz.spec),(81,Ix.spec),(158,IJ.spec),(155,sF.spec),(73,wm.spec)] Sv.1 ?_;intro⟨x,y⟩ ⟨(J:eg _ x),(aA:eg _ y)⟩ H aH;have fa:dR 134217728 (x.num.natAbs*y.den):=mM J.1 aA.2;have g8:dR 134217728 (y.num.natAbs*x.den):=mM aA.1 J.2;have rm:dR 134217728 (x.den*y.den):=mM J.2 aA.2;have h3:x.den*y.den≠0:=zbd x.den_nz y.den_nz;have hg:=A4 x.num;have mR:=A4 y.num;refine I ?_;refine bo rE y trivial (I ?_);refine bo qz (x.num.natAbs,y.den) ⟨cZ J.1 (by decide),cZ aA.2 (by decide)⟩ (I ?_);refine bo rE x trivial (I ?_);refine bo qz (y.num.natAbs,x.den) ⟨cZ aA.1 (by decide),cZ J.2 (by decide)⟩ (I ?_);refine bo rE x trivial (I ?_);refine bo rE y trivial (I ?_);refine bo qz (x.den,y.den) ⟨cZ J.2 (by decide),cZ aA.2 (by decide)⟩ (ak 27 ?_);refine fJ (L:=Bool) (fun t=>t=decide (x.num.sign=0∨y.num.sign=0∨x.num.sign=y.num.sign)) (fun t=>⟨[.c 83 (D2 x),.c 83 (D2 y),.c 83 [.i .i64 0,.nl,.nl]],3,[(2,.p 0 0),(3,.p 1 0),(4,.p 2 0),(5,cV (x.num.natAbs*y.den)),(6,cV (y.num.natAbs*x.den)),(7,cV (x.den*y.den)),(38,.b t)]⟩) ?_ ?_
 ·by_cases eK:x.num.sign=0
  ·refine ah 27 (.b true) rfl (by rw[zad eK]) (I ?_);exact a1 [0,1,2] true (by simp[eK]) jK
  refine ah 27 (.b false) rfl (by rw[zac eK]) (ak 32 ?_);by_cases fO:y.num.sign=0
  ·refine ah 32 (.b true) rfl (by rw[zad fO]) (I ?_);exact a1 [0,1,2] true (by simp[fO]) jK
  refine ah 32 (.b false) rfl (by rw[zac fO]) (I ?_);exact a1 [0,1,2] (decide (x.num.sign=y.num.sign)) (by simp only[eK,fO,false_or]) jK
 intro t aN;have ex:=aar x.num;have tn:=aar y.num;by_cases hc:x.num.sign=0∨y.num.sign=0∨x.num.sign=y.num.sign
 ·refine ah 38 (.b true) rfl (by rw[aN,zad hc]) (I ?_);refine fJ (L:=Int) (fun s=> -1<=s∧s<=1∧s*((x.num.natAbs*y.den+y.num.natAbs*x.den:Nat):Int)=x.num*y.den+y.num*x.den) (fun s=>⟨[.c 83 (D2 x),.c 83 (D2 y),.c 83 [.i .i64 0,.nl,.nl]],3,[(4,.p 2 0),(5,cV (x.num.natAbs*y.den)),(6,cV (y.num.natAbs*x.den)),(7,cV (x.den*y.den)),(8,.i .i64 s)]⟩) ?_ ?_
  ·refine b9 (fun h=> ?_) (fun h=> ?_)
   ·refine I ?_;refine a1 [0,1,2] y.num.sign ⟨mR.1,mR.2,?_⟩ jK;have h0:x.num=0:=zbM.1 h
    conv=>rhs;rw[tn]
    rw[h0];simp[zbz]
   ·refine I ?_;refine a1 [0,1,2] x.num.sign ⟨hg.1,hg.2,?_⟩ jK;have vK:y.num=x.num.sign*(y.num.natAbs:Int):=by
     rcases hc with az|az|az
     ·exact absurd az h
     ·rw[zbM.1 az];simp
     ·rw[az];exact tn
    conv=>rhs;rw[ex,vK]
    rw[zdA,zap,zap,Int.mul_add,zbz,zbz]
  rintro s ⟨s1,s2,yF⟩;refine I ?_;refine aL Of (x.num.natAbs*y.den,y.num.natAbs*x.den) ⟨cZ fa (by decide),cZ g8 (by decide)⟩ (I ?_);refine aL uo (s,x.num.natAbs*y.den+y.num.natAbs*x.den,x.den*y.den) ⟨s1,s2,cZ (J7 fa g8) (by decide),cZ rm (by decide),h3⟩ (I ?_);exact ar rfl (.of (congrArg dj (Og yF)))
 ·refine ah 38 (.b false) rfl (by rw[aN,zac hc]) ?_;have GY:y.num.sign= -x.num.sign:=by omega
  refine I ?_;refine aL rF (x.num.natAbs*y.den,y.num.natAbs*x.den) ⟨cZ fa (by decide),cZ g8 (by decide)⟩ (I ?_);have key:∀(s:Int) (a b:Nat),b<=a->s*((a-b:Nat):Int)=s*a+(-s)*b:=fun s a b h=>by rw[show((a-b:Nat):Int)=(a:Int)-b by omega,Int.mul_sub,zbe];rfl
  refine b9 (fun h=> ?_) (fun h=> ?_)
  ·have aV:=zs h;refine I ?_;refine bo D8 (y.num.natAbs*x.den,x.num.natAbs*y.den) ⟨cZ g8 (by decide),zaY aV⟩ (I ?_);refine bo uo (y.num.sign,y.num.natAbs*x.den-x.num.natAbs*y.den,x.den*y.den) ⟨mR.1,mR.2,cZ (n4 g8 (zce _ _)) (by decide),cZ rm (by decide),h3⟩ (I ?_);refine ar rfl (.of (congrArg dj (Og ?_)));rw[key _ _ _ (zaY aV)]
   conv=>rhs;rw[ex,tn]
   rw[GY,zap,zap,Int.neg_neg,zbz,zbz,Int.add_comm]
  ·have lR:=zt h;refine I ?_;refine bo D8 (x.num.natAbs*y.den,y.num.natAbs*x.den) ⟨cZ fa (by decide),lR⟩ (I ?_);refine bo uo (x.num.sign,x.num.natAbs*y.den-y.num.natAbs*x.den,x.den*y.den) ⟨hg.1,hg.2,cZ (n4 fa (zce _ _)) (by decide),cZ rm (by decide),h3⟩ (I ?_);refine ar rfl (.of (congrArg dj (Og ?_)));rw[key _ _ _ lR]
   conv=>rhs;rw[ex,tn]
   rw[GY,zap,zap,zbz,zbz]
def Zw:bh where
 L:=Rat×Rat
 args:=fun(x,y)=>[dj x,dj y]
 pre:=fun(x,y)=>eg 67108864 x∧eg 67108864 y
 res:=fun(x,y)=>dj (x-y)
def XX(h:eg k x):eg k (-x):=by
 unfold eg;rw[zbK,zcd,zbL];exact h
def apV:a9 aT.ctx 144 Zw.spec:=by
 refine bH [(242,Zo.spec),(143,Zt.spec)] Sw.1 ?_;intro⟨x,y⟩ ⟨(J:eg _ x),(aA:eg _ y)⟩ H aH;refine I ?_;refine bo apN y trivial (I ?_);refine bo apT (x,-y) ⟨J,XX aA⟩ (I ?_);exact ar rfl (.of (by show dj (x+ -y)=dj (x-y);rw[zcJ]))
def Ou:bh where
 L:=Rat×Int
 args:=fun(x,k)=>[dj x,.i .i64 k]
 pre:=fun(x,k)=>eg 67108864 x∧-100000000<=k∧k<=100000000
 res:=fun(x,k)=>dj (cS x k)
def Zx:a9 aT.ctx 251 Ou.spec:=by
 refine bH [(75,yw.spec),(337,(IF 1000000001).spec),(74,yz.spec),(73,wm.spec)] Tp.1 ?_;intro⟨x,k⟩ ⟨(J:eg _ x),(h1:_<=k),(h2:k<=_)⟩ H aH;have hg:=A4 x.num;refine I ?_;refine b9 (fun h=> ?_) (fun h=> ?_)
 ·obtain⟨n,hn⟩:∃n:Nat,k= -(n:Int):=⟨(-k).toNat,by omega⟩;subst hn;refine I ?_;refine bo rE x trivial (ak 14 ?_);refine cu 14 (.i .i64 (n:Nat)) rfl rfl bx ?_;refine bo (IG 1000000001) n ⟨by show n<_;omega,by show n<=_;omega⟩ (I ?_);refine bo qz (x.den,2^n) ⟨cZ J.2 (by decide),cZ (rG n) (by omega)⟩ (I ?_);refine bo uo (x.num.sign,x.num.natAbs,x.den*2^n) ⟨hg.1,hg.2,cZ J.1 (by decide),cZ (mM J.2 (rG n)) (by omega),zbd x.den_nz (by have:=zah n;omega)⟩ (I ?_);refine ar rfl (.of (congrArg dj ?_));show _=cS x (-(n:Int));unfold cS;rw[zab (by omega),zcI,show(- -(n:Int)).toNat=n by omega]
 ·obtain⟨n,hn⟩:∃n:Nat,k=(n:Int):=⟨k.toNat,by omega⟩;subst hn;refine I ?_;refine bo (IG 1000000001) n ⟨by show n<_;omega,by show n<=_;omega⟩ (I ?_);refine bo qz (x.num.natAbs,2^n) ⟨cZ J.1 (by decide),cZ (rG n) (by omega)⟩ (I ?_);refine bo rE x trivial (I ?_);refine bo uo (x.num.sign,x.num.natAbs*2^n,x.den) ⟨hg.1,hg.2,cZ (mM J.1 (rG n)) (by omega),cZ J.2 (by decide),x.den_nz⟩ (I ?_);refine ar rfl (.of (congrArg dj ?_));show _=cS x (n:Int);unfold cS;rw[zaa (by omega),zap,<-zbz,zcI,zeG,show((n:Int)).toNat=n by omega];rfl
def AO:bh where
 L:=Int
 args:=fun k=>[.i .i64 k]
 pre:=fun k=> -100000000<=k∧k<=100000000
 res:=fun k=>dj (cS (mkRat 1 1) k)
def Aw:eg 1 (mkRat 1 1):=by
 show dR 1 1∧dR 1 1;unfold dR;rw[ve];exact⟨bY _,bY _⟩
def lx(h:eg k x)(hl:k<=l):eg l x:=⟨cZ h.1 hl,cZ h.2 hl⟩
def D9:a9 aT.ctx 250 AO.spec:=by
 refine bH [(27,Om.spec),(251,Ou.spec)] To.1 ?_;intro(k:Int) ⟨(h1:_<=k),(h2:k<=_)⟩ H aH;refine I ?_;refine aL Zd (1:Int) ⟨by decide,by decide⟩ (I ?_);refine aL Zx (mkRat 1 1,k) ⟨lx Aw (by decide),h1,h2⟩ (I ?_);exact ar rfl (.refl _)
def Ze:bh where
 L:=Rat
 args:=fun x=>[dj x]
 pre:=fun x=>eg 67108864 x
 res:=fun x=>.b (decide (x.den=1))
def apE:a9 aT.ctx 78 Ze.spec:=by
 refine bH [(75,yw.spec),(77,wo.spec),(155,sF.spec)] Lx.1 ?_;intro(x:Rat) (J:eg _ x) H aH;refine I ?_;refine aL rE x trivial ?_;refine aL uq () trivial ?_;refine aL rF (x.den,1) ⟨cZ J.2 (by decide),D3⟩ (I ?_);exact ar rfl (.of (by show ab.b (decide _)=ab.b (decide _);congr 1;rw[decide_eq_decide];exact zu))
def yH(k:Int):(cS (mkRat 1 1) k).num=2^k.toNat∧(cS (mkRat 1 1) k).den=2^(-k).toNat:=by
 have Gs:(mkRat 1 1).num=1∧(mkRat 1 1).den=1:=⟨rfl,rfl⟩;unfold cS;rw[Gs.1,Gs.2];split
 ·obtain⟨h1,h2⟩:=ss 1 (1*2^(-k).toNat) (by have:=zah (-k).toNat;omega);rw[h1,h2,show k.toNat=0 by omega];simp
 ·obtain⟨h1,h2⟩:=ss (1*2^k.toNat) 1 (by decide);rw[h1,h2,show(-k).toNat=0 by omega];simp
def Nd{x:Rat}{k:Int}:gv x<cS (mkRat 1 1) k↔x.num.natAbs*2^(-k).toNat<x.den*2^k.toNat:=by
 rw[Rat.lt_iff,(mV x).1,(mV x).2,(yH k).1,(yH k).2];rw[show(x.num.natAbs:Int)*((2^(-k).toNat:Nat):Int)=((x.num.natAbs*2^(-k).toNat:Nat):Int)from(zap _ _).symm,show(2:Int)^k.toNat*(x.den:Int)=((x.den*2^k.toNat:Nat):Int) by rw[zap,zeG,Int.mul_comm];rfl];exact Int.ofNat_lt
def Ny(h:eg k x):eg k (gv x):=by
 unfold eg;rw[(mV x).1,(mV x).2];exact h
def NA{c:Nat}{k:Int}(h1: -(c:Int)<=k)(h2:k<=c):eg (c+1) (cS (mkRat 1 1) k):=by
 obtain⟨aq,e2⟩:=yH k;unfold eg;rw[aq,e2,zdM];exact⟨cZ (rG _) (by omega),cZ (rG _) (by omega)⟩
def QY:g4 x y<0↔x<y:=by
 unfold g4;constructor
 ·intro h;split at h
  ·assumption
  split at h<;>omega
 ·intro h;rw[zab h];decide
def Zl:bh where
 L:=Rat
 args:=fun x=>[dj x]
 pre:=fun x=>eg 3000000 x∧x.num≠0
 res:=fun x=>.i .i64 (gy x.num.natAbs x.den)
def apK:a9 aT.ctx 334 Zl.spec:=by
 refine bH [(387,Zj.spec),(248,Iw.spec),(250,AO.spec),(79,D7.spec)] TV.1 ?_;intro(x:Rat) ⟨(J:eg _ x),(h0:x.num≠0)⟩ H aH;have cK:=qx J.1;have c9:=qx J.2;refine I ?_;refine b9 (fun h=> ?_) (fun h=> ?_)
 ·exact absurd (zbM.1 h) h0
 refine I ?_;refine bo Zk x.num.natAbs (cZ J.1 (by decide)) (I ?_);refine cu 11 (cV x.den) rfl rfl (by rw[zaa h0];rfl) ?_;refine bo Zk x.den (cZ J.2 (by decide)) ?_;obtain⟨p,hp⟩:∃p,p=bs x.num.natAbs:=⟨_,rfl⟩;obtain⟨q,hq⟩:∃q,q=bs x.den:=⟨_,rfl⟩;have hl:gy x.num.natAbs x.den=if x.num.natAbs*2^((q:Int)-p).toNat<x.den*2^((p:Int)-q).toNat then(p:Int)-q-1 else(p:Int)-q:=by rw[hp,hq];rfl
 rw[<-hp]at cK;rw[<-hq]at c9;refine ak 13 ?_;obtain⟨k,U⟩:∃k:Int,k=(p:Int)-q:=⟨_,rfl⟩;refine ah 13 (.i .i64 k) rfl (by rw[U,hp,hq];exact bx rfl (by omega) (by omega)) (I ?_);refine aL Oe x trivial (I ?_);refine aL D9 k ⟨by show _<=k;omega,by show k<=_;omega⟩ ?_;refine aL IH (gv x,cS (mkRat 1 1) k) ⟨lx (Ny J) (by decide),lx (NA (c:=100000000) (by omega) (by omega)) (by decide)⟩ ?_;have CB:g4 (gv x) (cS (mkRat 1 1) k)<0↔x.num.natAbs*2^((q:Int)-p).toNat<x.den*2^((p:Int)-q).toNat:=by
  rw[QY,Nd,U,show -((p:Int)-q)=(q:Int)-p by omega]
 refine I ?_;refine b9 (fun hc=> ?_) (fun hc=> ?_)
 ·have hc:=CB.1 hc;refine I ?_;exact ar rfl (.of (by
   show ab.i _ _=ab.i .i64 (gy _ _);rw[hl,zab hc];exact bx))
 ·have hc:=mt CB.2 hc;refine I ?_;exact ar rfl (.of (by
   show ab.i _ _=ab.i .i64 (gy _ _);rw[hl,zaa hc,U]))
def Zi:bh where
 L:=Int×Int
 args:=fun(e,p)=>[m5 e p]
 pre:=fun(e,p)=>cq e p
 res:=fun(e,p)=>dj (cS (mkRat 1 1) (2-ct e-p))
def apJ:a9 aT.ctx 260 Zi.spec:=by
 refine bH [(252,Iy.spec),(250,AO.spec)] Tr.1 ?_;intro⟨e,p⟩ av H aH;obtain⟨h1,h2,h3,au,aW⟩:=av;obtain⟨cK,c9⟩:=jn h1 h2;refine I ?_;refine bo Oh (e,p) ⟨h1,h2,h3,au,aW⟩ (ak 5 ?_);refine ah 5 (.i .i64 (2-ct e)) rfl (bx rfl (by omega) (by omega)) (ak 8 ?_);refine ah 8 (.i .i64 (2-ct e-p)) rfl (bx rfl (by omega) (by omega)) ?_;refine bo D9 (2-ct e-p) ⟨by show _<=2-ct e-p;omega,by show 2-ct e-p<=_;omega⟩ (I ?_);exact ar rfl (.refl _)
def Zp:bh where
 L:=Int×Int
 args:=fun(e,p)=>[m5 e p]
 pre:=fun(e,p)=>cq e p
 res:=fun(e,p)=>dj (cS (mkRat 1 1) (1-ct e))
def apP:a9 aT.ctx 386 Zp.spec:=by
 refine bH [(252,Iy.spec),(250,AO.spec)] Ub.1 ?_;intro⟨e,p⟩ av H aH;obtain⟨h1,h2,h3,au,aW⟩:=av;obtain⟨cK,c9⟩:=jn h1 h2;refine I ?_;refine aL Oh (e,p) ⟨h1,h2,h3,au,aW⟩ (ak 5 ?_);refine ah 5 (.i .i64 (1-ct e)) rfl (bx rfl (by omega) (by omega)) ?_;refine aL D9 (1-ct e) ⟨by show _<=1-ct e;omega,by show 1-ct e<=_;omega⟩ (I ?_);exact ar rfl (.refl _)
def yj{n:Int}(h1:dR k n.natAbs)(h2:dR k d)(al:d≠0):eg k (mkRat n d):=by
 obtain⟨aq,e2⟩:=ss n d al;refine⟨n4 h1 ?_,n4 h2 ?_⟩
 ·rw[aq,Int.natAbs_ediv_of_dvd (Int.ofNat_dvd_left.2 (zdh _ _))];exact zax _ _
 ·rw[e2];exact zax _ _
def Nz(c:Nat){k:Int}(h:eg a x)(h1: -(c:Int)<=k)(h2:k<=c):eg (a+c+1) (cS x k):=by
 unfold cS;split
 ·exact yj (cZ h.1 (by omega)) (cZ (mM h.2 (rG _)) (by omega)) (zbd x.den_nz (by have:=zah (-k).toNat;omega))
 ·refine yj ?_ (cZ h.2 (by omega)) x.den_nz;rw[zbN,zdM];exact cZ (mM h.1 (rG _)) (by omega)
def aor(h1:eg a x)(h2:eg b y):eg (a+b+1) (x+y):=by
 rw[zdj];have e4:=mM h1.1 h2.2;have a5:=mM h2.1 h1.2;refine yj (n4 (J7 e4 (cZ a5 (by omega))) ?_) (cZ (mM h1.2 h2.2) (by omega)) (zbd x.den_nz y.den_nz);have:=Int.natAbs_add_le (x.num*y.den) (y.num*x.den);rw[zbN,zbN]at this;simpa using this
def XY(h1:eg a x)(h2:eg b y):eg (a+b+1) (x-y):=by
 rw[zcJ];exact aor h1 (XX h2)
def aos{e p:Int}(h:cq e p):eg 2000 (kU e p):=by
 obtain⟨h1,h2,h3,au,aW⟩:=h;obtain⟨cK,c9⟩:=jn h1 h2;exact lx (Nz 1200 (XY (Nz 120 Aw (by omega) (by omega)) Aw) (by omega) (by omega)) (by decide)
def Za:bh where
 L:=Int×Int
 args:=fun(e,p)=>[m5 e p]
 pre:=fun(e,p)=>cq e p
 res:=fun(e,p)=>dj (kU e p)
def apC:a9 aT.ctx 149 Za.spec:=by
 refine bH [(250,AO.spec),(27,Om.spec),(144,Zw.spec),(252,Iy.spec),(251,Ou.spec)] Sx.1 ?_;intro⟨e,p⟩ av H aH;obtain⟨h1,h2,h3,au,aW⟩:=av;obtain⟨cK,c9⟩:=jn h1 h2;have mF:=Nz (k:=p) 120 Aw (by omega) (by omega);refine I ?_;refine aL D9 p ⟨by omega,by omega⟩ ?_;refine aL Zd (1:Int) ⟨by decide,by decide⟩ ?_;refine aL apV (cS (mkRat 1 1) p,mkRat 1 1) ⟨lx mF (by decide),lx Aw (by decide)⟩ (I ?_);refine bo Oh (e,p) ⟨h1,h2,h3,au,aW⟩ (ak 14 ?_);refine ah 14 (.i .i64 (ct e-p)) rfl (bx rfl (by omega) (by omega)) (ak 15 ?_);refine ah 15 (.i .i64 (ct e-p+1)) rfl (bx rfl (by omega) (by omega)) ?_;refine bo Zx (cS (mkRat 1 1) p-mkRat 1 1,ct e-p+1) ⟨lx (XY mF Aw) (by decide),by show _<=ct e-p+1;omega,by show ct e-p+1<=_;omega⟩ (I ?_);exact ar rfl (.refl _)
def Y5:bh where
 L:=Int×Int×Rat
 args:=fun(e,p,x)=>[m5 e p,dj x]
 pre:=fun(e,p,x)=>cq e p∧eg 67108864 x
 res:=fun(e,p,x)=>.b (decide (gv x<cS (mkRat 1 1) (1-ct e)))
def apu:a9 aT.ctx 333 Y5.spec:=by
 refine bH [(248,Iw.spec),(386,Zp.spec),(79,D7.spec)] TU.1 ?_;intro⟨e,p,x⟩ ⟨av,(J:eg _ x)⟩ H aH;have eh:=av;obtain⟨h1,h2,h3,au,aW⟩:=eh;obtain⟨cK,c9⟩:=jn h1 h2;refine I ?_;refine bo Oe x trivial (I ?_);refine bo apP (e,p) av (I ?_);refine bo IH (gv x,cS (mkRat 1 1) (1-ct e)) ⟨lx (Ny J) (by decide),lx (NA (c:=2000) (by omega) (by omega)) (by decide)⟩ (I ?_);exact ar rfl (.of (by show ab.b (decide _)=ab.b (decide _);congr 1;rw[decide_eq_decide];exact QY))
def nn(e p:Int)(x:Rat):Int:=if gv x<cS (mkRat 1 1) (1-ct e)then 2-ct e-p else gy x.num.natAbs x.den-p+1
def Zy:bh where
 L:=Int×Int×Rat
 args:=fun(e,p,x)=>[m5 e p,dj x]
 pre:=fun(e,p,x)=>cq e p∧eg 3000000 x
 res:=fun(e,p,x)=>dj (cS (mkRat 1 1) (nn e p x))
def abs_zero(h:x.num=0)(k:Int):gv x<cS (mkRat 1 1) k:=by
 rw[Nd,h];simp;exact zbJ (zbc x.den_nz) (zah _)
def apY:a9 aT.ctx 243 Zy.spec:=by
 refine bH [(333,Y5.spec),(260,Zi.spec),(334,Zl.spec),(250,AO.spec)] Tl.1 ?_;intro⟨e,p,x⟩ ⟨av,(J:eg _ x)⟩ H aH;have eh:=av;obtain⟨h1,h2,h3,au,aW⟩:=eh;obtain⟨cK,c9⟩:=jn h1 h2;refine I ?_;refine aL apu (e,p,x) ⟨av,lx J (by decide)⟩ (I ?_);refine b9 (fun h=> ?_) (fun h=> ?_)
 ·refine I ?_;refine aL apJ (e,p) av (I ?_);exact ar rfl (.of (by show dj _=dj _;unfold nn;rw[zab h]))
 ·have h0:x.num≠0:=fun az=>h (abs_zero az _);have hQ:=Dv x.num.natAbs x.den;have u2:=qx J.1;have BG:=qx J.2;obtain⟨k,U⟩:∃k:Int,k=gy x.num.natAbs x.den:=⟨_,rfl⟩;rw[<-U]at hQ;refine I ?_;refine bo apK x ⟨J,h0⟩ (ak 14 ?_);refine ah 14 (.i .i64 (k-p)) rfl (by rw[U];exact bx rfl (by omega) (by omega)) (ak 15 ?_);refine ah 15 (.i .i64 (k-p+1)) rfl (bx rfl (by omega) (by omega)) ?_;refine bo D9 (k-p+1) ⟨by show _<=k-p+1;omega,by show k-p+1<=_;omega⟩ (I ?_);exact ar rfl (.of (by show dj _=dj _;unfold nn;rw[zaa h,U];rfl))
def apI{c:Int}:bZ (.bu [.agg [.i .i64 0,.nl,.nl],.i .i64 c]) (.bu [dj 0,.i .i64 c]):=.bu ⟨Zh,.refl _,trivial⟩
def ml(p q:Nat)(k:Int):Prop:=q*2^k.toNat<=p*2^(-k).toNat
variable{i:Nat}
def ajp{k:Int}(h:ml p q (k+1)):ml p q k:=by
 unfold ml at *;rcases(show 0<=k∨k<0 by omega)with h0|h0
 ·rw[show(k+1).toNat=k.toNat+1 by omega,show(-(k+1)).toNat=0 by omega,zak]at h;rw[show(-k).toNat=0 by omega];exact zai (lF q (by omega)) h
 ·rw[show(k+1).toNat=0 by omega]at h;rw[show k.toNat=0 by omega,show(-k).toNat=(-(k+1)).toNat+1 by omega,zak];exact zai h (lF p (by omega))
def Gl{j k:Int}(mv:j<=k)(h:ml p q k):ml p q j:=by
 obtain⟨n,rfl⟩:∃n:Nat,k=j+n:=⟨(k-j).toNat,by omega⟩
 induction n with
 |zero=>simpa using h
 |succ n aZ=>exact aZ (by omega) (ajp (by rw[show j+(n:Int)+1=j+((n+1:Nat):Int) by omega];exact h))
def Na(hp:p≠0)(hq:q≠0)(k:Int):k<=gy p q↔ml p q k:=by
 obtain⟨hd,hf⟩:=qP hp;obtain⟨cr,cz⟩:=qP hq;have fN:=u4 (n:=p) (by omega);have gY:=u4 (n:=q) (by omega);have e:gy p q=if p*2^((bs q:Int)-bs p).toNat<q*2^((bs p:Int)-bs q).toNat then(bs p:Int)-bs q-1 else(bs p:Int)-bs q:=rfl;obtain⟨a,ha⟩:∃a,bs p=a+1:=⟨_,fN⟩;obtain⟨b,hb⟩:∃b,bs q=b+1:=⟨_,gY⟩;rw[ha,show a+1-1=a by omega]at hd;rw[hb,show b+1-1=b by omega]at cr;rw[ha]at hf e;rw[hb]at cz e;have aM:ml p q ((a:Int)-b-1):=by
  unfold ml;rcases(show(b:Int)+1<=a∨(a:Int)<b+1 by omega)with h|h
  ·rw[show(-((a:Int)-b-1)).toNat=0 by omega,zbs,zaI];refine zai (fK _ (zaY cz)) ?_;rw[<-zal,show b+1+((a:Int)-b-1).toNat=a by omega];exact hd
  ·rw[show((a:Int)-b-1).toNat=0 by omega,zbs,zaI];refine zai (zaY cz) (zai ?_ (fK _ hd));rw[<-zal,show a+(-((a:Int)-b-1)).toNat=b+1 by omega];exact bY _
 have hi:¬ml p q ((a:Int)-b+1):=by
  unfold ml;rw[Nat.not_le];rcases(show(b:Int)<=a+1∨(a:Int)+1<b by omega)with h|h
  ·rw[show(-((a:Int)-b+1)).toNat=0 by omega,zbs,zaI];refine fC hf (zai ?_ (fK _ cr));rw[<-zal,show b+((a:Int)-b+1).toNat=a+1 by omega];exact bY _
  ·rw[show((a:Int)-b+1).toNat=0 by omega,zbs,zaI];refine fC (zcq hf (zah _)) (zai ?_ cr);rw[<-zal,show a+1+(-((a:Int)-b+1)).toNat=b by omega];exact bY _
 have e2:(p*2^(((b+1:Nat):Int)-((a+1:Nat):Int)).toNat<q*2^(((a+1:Nat):Int)-((b+1:Nat):Int)).toNat)↔¬ml p q ((a:Int)-b):=by
  unfold ml;rw[Nat.not_le,show((b+1:Nat):Int)-((a+1:Nat):Int)= -((a:Int)-b) by omega,show((a+1:Nat):Int)-((b+1:Nat):Int)=(a:Int)-b by omega]
 by_cases hm:ml p q ((a:Int)-b)
 ·rw[zaa (fun h=>e2.1 h hm)]at e;rw[e];exact⟨fun h=>Gl (by omega) hm,fun h=>zcu.1 fun az=>hi (Gl (by omega) h)⟩
 ·rw[zab (e2.2 hm)]at e;rw[e];exact⟨fun h=>Gl (by omega) aM,fun h=>zcu.1 fun az=>hm (Gl (by omega) h)⟩
def aaS{e p:Int}(h0:x.num≠0):Jm e p x=nn e p x:=by
 have J:x.num.natAbs≠0:=by omega
 have h1:=Na J x.den_nz (1-ct e);have h2:= @Nd x (1-ct e);unfold Jm nn;rw[zaa h0];unfold ml at h1;by_cases hc:gv x<cS (mkRat 1 1) (1-ct e)
 ·rw[zab hc];have h3:=h2.1 hc;have au:¬1-ct e<=gy x.num.natAbs x.den:=fun h=>by have:=h1.1 h;omega
  omega
 ·rw[zaa hc];have h3:=mt h2.2 hc;have au:=h1.2 (by omega);omega
def XQ:bh where
 L:=Nat
 args:=fun n=>[.i .i64 n]
 pre:=fun n=>n<1000000000
 res:=fun n=>.s (gw (ig 9 n).reverse)
def apd(n i:Nat):n/10^i<=n:=zax _ _
def aoi:a9 aT.ctx 261 XQ.spec:=by
 refine bH [] Ts.1 ?_;intro(n:Nat) (hn:n<1000000000) H aH;refine I ?_;refine c6 (L:=Nat) (fun i=>i<=9) (fun(i:Nat)=>⟨[],0,[(0,.i .i64 (n/10^i:Nat)),(3,.s (gw (ig i n).reverse)),(4,.i .i64 i)]⟩) (fun i=>9-i) [] 0 (zag _) (by show 9-0<bQ+1;unfold bQ;omega) (iO ⟨by simp;rfl,rfl,rfl,trivial⟩) ?_;intro(i:Nat) hi;have hm:=apd n i;have ae:n/10^(i+1)=n/10^i/10:=by rw[zak,zaT]
 have hl:gw (ig (i+1) n).reverse=gw [n/10^i%10]++gw (ig i n).reverse:=by rw[Xd,zbP,Fl];rfl
 have hlen:(gw (ig i n).reverse).length=i:=by rw[s6,zbp,x4]
 generalize kX:n/10^i=m at *;refine I ?_;refine b9 (fun h=> ?_) (fun h=> ?_)
 ·have h:i<9:=by omega
  refine ak 10 ?_;refine ah 10 (.i .i64 ((m%10:Nat):Int)) rfl rfl (ak 11 ?_);refine ah 11 (.i .i64 ((48+m%10:Nat):Int)) rfl bx (ak 12 ?_);refine ah 12 (.i .u8 ((UInt8.ofNat (48+m%10)).toNat:Int)) rfl (by rw[UInt8.toNat_ofNat']) (I ?_);refine nk 0 kK [UInt8.ofNat (48+m%10)] ?_;refine OA (gw [m%10]) ?_;refine I ?_;refine sG ?_ (hl:=by rw[hlen];show 1+i<=_;omega);refine ah 16 (.s (gw (ig (i+1) n).reverse)) rfl (by rw[hl]) (I ?_);exact a1 [] (i+1) ⟨by show 9-(i+1)<9-i;omega,h⟩ (iO ⟨by rw[ae];show some (ab.i _ (IntKind.i64.wrap ((m/10:Nat):Int)))=_;exact eS rfl (by omega) (by omega),rfl,eS,trivial⟩)
 ·have he:i=9:=by omega
  subst he;refine I ?_;exact ar rfl (.refl _)
def Zz:bh where
 L:=Nat
 args:=fun n=>[cV n]
 pre:=fun n=>dR 1073741824 n
 res:=fun n=>.s (de n)
def Ro(h:d<10):dec d=[d]:=by
 unfold dec;split
 ·rename_i h0;rw[h0]
 ·rw[nE (by decide) (by assumption),dJ h,zaW h,fG];rfl
def atd{cM:ac Nat}(h:d≠0):eG (cM++[d])=cM++[d]:=by rw[rN,zaa h]
theorem Lk:∀l:ac Nat,(l.flatMap (ig 9)).length=9*l.length
 |[]=>rfl
 |x::l=>by rw[zdF,zaG,Lk l,x4,zau];omega
def ZA:a9 aT.ctx 154 Zz.spec:=by
 refine bH [(261,XQ.spec)] Sz.1 ?_;intro(n:Nat) (hn:(aR _ n).length<=_) H aH;have h1:=gb (b:=1000000000) (by decide) n;have atI:=fP (b:=1000000000) (by decide) n;show aU.ok _ ⟨_,_,⟨_,_,[(0,c8 (aR 1000000000 n))]⟩⟩;generalize aR 1000000000 n=xs at *;refine I ?_;refine l7 (L:=Unit) (fun _=>True) (fun _=>⟨[],0,[(3,.s (gw (xs.flatMap (ig 9)).reverse))]⟩) ?_ ?_
 ·refine c6 (L:=Nat) (fun k=>k<=xs.length) (fun(k:Nat)=>⟨[],0,[(0,c8 xs),(3,.s (gw ((xs.drop k).flatMap (ig 9)).reverse)),(4,.i .i64 ((k:Int)-1))]⟩) id [] xs.length (bY _) (by show xs.length<bQ+1;unfold bQ;omega) (iO ⟨rfl,by rw[zcD];rfl,eS,trivial⟩) ?_;intro(k:Nat) U;cases k with
  |zero=>
   refine I ?_;exact a1 [] () trivial eP
  |succ m=>
   have J:m<xs.length:=by omega
   have lo:=h1 _ (dV J);have mw:=Lk (xs.drop (m+1));refine ah 4 (.i .i64 (m:Nat)) rfl ev (I ?_);refine ah 9 (.b true) rfl (by simp) (I ?_);refine dP xs[m] (bF J) ?_;refine I ?_;refine aL aoi xs[m] lo ?_;refine sG ?_ (hl:=by rw[s6,s6,zbp,zbp,mw,x4,zaE];omega);refine ah 18 (.s (gw ((xs.drop m).flatMap (ig 9)).reverse)) rfl (by rw[hB J,zdF,zbP,Fl]) (I ?_);exact a1 [] m ⟨by simp,by omega⟩ (iO ⟨rfl,rfl,eS,trivial⟩)
 intro _ _;have bI:=Cn xs;have re:=RT h1;have hlen:=Lk xs;rw[atI]at re;generalize xs.flatMap (ig 9)=K8 at *;refine I ?_;refine c6 (L:=ac Nat) (fun es=>cT 10 es∧val 10 es=n∧es.length<=K8.length) (fun es=>⟨[],0,[(3,.s (gw es.reverse))]⟩) List.length [] K8 ⟨bI,re,bY _⟩ (by show K8.length<bQ+1;unfold bQ;omega) eP ?_;rintro es ⟨aG,aI,a4⟩;rcases zbU es with rfl|⟨cM,d,rfl⟩
 ·have kk:n=0:=by rw[<-aI];rfl
  refine I ?_;refine ar rfl (.of ?_);show ab.s [48]=ab.s (de n);rw[kk];rfl
 rw[zbV]at *;have al:d<10:=aG d (by simp);have ae:gw (cM++[d]).reverse=UInt8.ofNat (48+d)::gw cM.reverse:=by rw[zbP];rfl
 rw[lD]at aI;simp only[val,zbx,zaQ]at aI;refine ah 3 (.s (UInt8.ofNat (48+d)::gw cM.reverse)) rfl (by rw[ae]) (ak 22 ?_);have hl:(gw cM.reverse).length=cM.length:=by rw[s6,zbp]
 by_cases hi:cM=[]
 ·subst hi;refine ah 22 (.b false) rfl (by simp[gw]) (I ?_);refine ar rfl (.of ?_);show ab.s (gw [d])=ab.s (de n);have:n=d:=by simp[val]at aI;exact aI.symm
  rw[this];congr 1;unfold de;rw[Ro al]
 have au8:0<cM.length:=zbf.2 hi;refine ah 22 (.b true) rfl (by rw[zau,hl];simp;omega) (I ?_);refine mN (UInt8.ofNat (48+d)) (j:=0) rfl ?_;refine ak 25 ?_;have ja:=B7 al;by_cases tA:d=0
 ·refine ah 25 (.b true) rfl (by rw[ja,tA];rfl) (I ?_);refine rH (p:=1) (gw cM.reverse) ?_ (hp:=by simp) (hq:=by simp);refine I ?_;exact a1 [] cM ⟨by simp,fun x J=>aG x (by simp[J]),by rw[tA]at aI;simpa using aI,by simp at a4;omega⟩ eP
 ·refine ah 25 (.b false) rfl (by rw[ja];exact congrArg ab.b (zac (by omega))) (I ?_);refine ar rfl (.of ?_);show ab.s (UInt8.ofNat (48+d)::gw cM.reverse)=ab.s (de n);rw[<-ae];have e:=zA (b:=10) (by decide) aG (atd tA);rw[lD]at e;simp only[val,zbx,zaQ]at e;rw[aI]at e;have kk:n≠0:=fun h=>by rw[h,fG]at e;simp at e
  unfold de dec;rw[zaa kk,e]
def Qh(h:dR k n):(de n).length<=9*k+1:=by
 unfold de dec;rw[s6];split
 ·simp
 ·rw[zbp];refine zdp (iW (b:=10) (by decide) ?_);have:=r0 h;rw[show(1000000000:Nat)=10^9 from rfl,<-zbw]at this;exact this
def Y0:bh where
 L:=Rat
 args:=fun x=>[dj x]
 pre:=fun x=>eg 67108864 x
 res:=fun x=>.s (il x)
def apr:a9 aT.ctx 72 Y0.spec:=by
 refine bH [(154,Zz.spec),(78,Ze.spec)] UF.1 ?_;intro(x:Rat) (J:eg _ x) H aH;have fa:=Qh J.1;have g8:=Qh J.2;refine I ?_;refine aL ZA x.num.natAbs (cZ J.1 (by decide)) (I ?_);have aaK:x.num.sign<0↔x.num<0:=zeI;obtain⟨u,hu⟩:∃u,u=(if x.num<0 then[45]else[])++de x.num.natAbs:=⟨_,rfl⟩;have tO:u.length<=9*67108864+2:=by
  rw[hu,zaG];have:(if x.num<0 then([45]:ac bv)else[]).length<=1:=by split<;>simp
  omega
 refine fJ (L:=Unit) (fun _=>True) (fun _=>⟨[.c 83 (D2 x)],1,[(1,.p 0 0),(3,.s u)]⟩) ?_ ?_
 ·refine b9 (fun h=> ?_) (fun h=> ?_)
  ·refine I ?_;refine sG ?_ (hl:=by show 1+(de _).length<=_;omega);refine I ?_;exact a1 [0] () trivial (dH ⟨rfl,by rw[hu,zab (aaK.1 h)];rfl,trivial⟩ ⟨_,rfl,rfl⟩)
  ·refine I ?_;exact a1 [0] () trivial (dH ⟨rfl,by rw[hu,zaa (fun az=>h (aaK.2 az))];rfl,trivial⟩ ⟨_,rfl,rfl⟩)
 intro _ _;refine I ?_;refine aL apE x J (I ?_);refine AW (fun h=> ?_) (fun h=> ?_)
 ·have h0:x.num≠0:=fun e=>h (by have:=x.reduced;rw[e]at this;simpa[Nat.Coprime]using this);refine I ?_;refine sG ?_ (hl:=by show u.length+1<=_;omega);refine ak 18 ?_;refine ah 18 (cV x.den) rfl (by rw[zaa h0];rfl) ?_;refine aL ZA x.den (cZ J.2 (by decide)) ?_;refine sG ?_ (hl:=by rw[zaG];show u.length+1+(de _).length<=_;omega);refine I ?_;refine ar rfl (.of ?_);show ab.s (u++[47]++de x.den)=ab.s (il x);unfold il;rw[<-hu,zaa h,zbO];rfl
 ·refine I ?_;refine ar rfl (.of ?_);show ab.s u=ab.s (il x);unfold il;rw[<-hu,zab h,zcs]
def Oq:bh where
 L:=ac bv
 args:=fun s=>[.s s]
 pre:=fun s=>s.length<=1073741824
 res:=fun s=>.b (decide (hD s))
def acN{s:ac bv}(h:i<s.length)(h1:jl (s.take i))(h2:48<=s[i].toNat∧s[i].toNat<=57):jl (s.take (i+1)):=by
 rw[zba h];intro c hc;rcases zbE.1 hc with hc|hc
 ·exact h1 c hc
 ·simp at hc;subst hc;exact h2
def Ot:a9 aT.ctx 241 Oq.spec:=by
 refine bH [] Tj.1 ?_;intro(s:ac bv) (ae:s.length<=_) H aH;refine I ?_;refine l7 (L:=Unit) (fun _=>jl s) (fun _=>⟨[],0,[(0,.s s)]⟩) ?_ ?_
 ·refine c6 (L:=Nat) (fun i=>i<=s.length∧jl (s.take i)) (fun(i:Nat)=>⟨[],0,[(0,.s s),(3,.i .i64 i)]⟩) (fun i=>s.length-i) [] 0 ⟨zag _,fun c hc=>by simp at hc⟩ (by show s.length-0<bQ+1;unfold bQ;omega) eP ?_;rintro(i:Nat) ⟨hi,ha⟩;refine I ?_;refine b9 (fun h=> ?_) (fun h=> ?_)
  ·have h:i<s.length:=by omega
   have hm:s[i]∈s:=dV h;refine I ?_;refine mN s[i] (bF h) ?_;refine ak 14 ?_;have bad:¬(48<=s[i].toNat∧s[i].toNat<=57)->bZ (.b false) (Oq.res s):=fun h=>.of (by show ab.b false=ab.b (decide _);rw[zac (fun hb=>h (hb.2.1 _ hm))]);by_cases h1:s[i].toNat<48
   ·refine ah 14 (.b true) rfl (by rw[zad (by omega)]) (I ?_);exact ar rfl (bad (by omega))
   refine ah 14 (.b false) rfl (by rw[zac (by omega)]) (I ?_);refine mN s[i] (bF h) ?_;refine I ?_;refine b9 (fun h2=> ?_) (fun h2=> ?_)
   ·refine I ?_;exact ar rfl (bad (by omega))
   ·refine I ?_;exact a1 [] (i+1) ⟨by show s.length-(i+1)<s.length-i;omega,h,acN h ha (by omega)⟩ (iO ⟨rfl,eS,trivial⟩)
  ·have he:i=s.length:=by omega
   subst he;rw[zbY]at ha;refine I ?_;exact a1 [] () ha eP
 intro _ eu;cases s with
 |nil=>
  refine ak 23 ?_;refine ah 23 (.b false) rfl rfl (I ?_);exact ar rfl (.of (by show ab.b false=ab.b (decide _);rw[zac (fun hb=>hb.1 rfl)]))
 |cons c t=>
  refine ak 23 ?_;refine ah 23 (.b true) rfl (by simp) (ak 26 ?_);by_cases hb:c::t=[48]
  ·refine ah 26 (.b true) rfl (by rw[hb];rfl) (I ?_);exact ar rfl (.of (by show ab.b true=ab.b (decide _);rw[zad ⟨by simp,eu,.inl hb⟩]))
  refine ah 26 (.b false) rfl (by rw[zaO.2 hb]) (I ?_);refine mN c (j:=0) rfl ?_;refine I ?_;refine ar rfl (.of ?_);show ab.b (decide _)=ab.b (decide _);congr 1;rw[decide_eq_decide];constructor
  ·intro h;refine⟨by simp,eu,.inr fun e=>h ?_⟩;have e:c=48:=by simpa using e
   rw[e];rfl
  ·rintro⟨_,_,h|h⟩ e
   ·exact hb h
   ·exact h (congrArg some (zcy.1 (show c.toNat=48 by omega)))
def Eo(s:ac bv):ab:=
 match(cutAt (dw s).2).2 with
 |none=>.bu [.s (dw s).2,.s [49],.i .i64 (if(dw s).1=true then -1 else 1),.b (decide (hD (dw s).2∧¬((dw s).1=true∧(dw s).2=[48])))]
 |some q=>.bu [.s (cutAt (dw s).2).1,.s q,.i .i64 (if(dw s).1=true then -1 else 1),.b (decide (hD (cutAt (dw s).2).1∧hD q∧q≠[48]∧q≠[49]∧¬((dw s).1=true∧(cutAt (dw s).2).1=[48])))]
def Rp{p:Prop}[Decidable p]{b:Bool}:decide p=b↔(p↔b=true):=by cases b<;>simp
def II:bh where
 L:=ac bv
 args:=fun s=>[.s s]
 pre:=fun s=>s.length<=1073741824
 res:=fun s=>Eo s
def aeK{s:ac bv}(h:i<s.length)(h1:(47:bv)∉s.take i)(h2:s[i]=47):cutAt s=(s.take i,some (s.drop (i+1))):=by
 refine BZ h1 ?_;rw[<-h2,<-hB h,zbn]
def apU:a9 aT.ctx 141 II.spec:=by
 refine bH [(241,Oq.spec)] St.1 ?_;intro(s:ac bv) (ae:s.length<=_) H aH;have pe:(dw s).2.length<=s.length:=by
  unfold dw;split
  ·exact zag _
  ·split<;>simp
 refine ak 7 ?_
 iterate 3 refine gW ?_
 refine fJ (L:=Unit) (fun _=>True) (fun _=>⟨[],0,[(6,.s (dw s).2),(7,.i .i64 (if(dw s).1=true then -1 else 1))]⟩) ?_ ?_
 ·cases s with
  |nil=>
   refine I ?_;exact a1 [] () trivial eP
  |cons c t=>
   refine ak 15 ?_;refine ah 15 (.b true) rfl (by simp) (I ?_);refine mN c (j:=0) rfl ?_;refine I ?_;by_cases hc:c=45
   ·subst hc;refine ah 19 (.b true) rfl rfl (I ?_);refine rH (p:=1) t ?_ (hp:=by simp) (hq:=by simp);refine I ?_;exact a1 [] () trivial eP
   ·have aJ:dw (c::t)=(false,c::t):=zaa hc;refine ah 19 (.b false) rfl (congrArg ab.b (zac (fun e=>hc (zcy.1 (show c.toNat=45 by omega))))) (I ?_);exact a1 [] () trivial (iO ⟨by rw[aJ];rfl,by rw[aJ];rfl,trivial⟩)
 intro _ _;obtain⟨⟨n,t⟩,aJ⟩:∃g,g=dw s:=⟨_,rfl⟩;rw[<-aJ]at pe;have fin:∀{r},Eo s=r->bZ r (II.res s):=fun h=>.of h.symm;unfold Eo at fin;rw[<-aJ]at fin⊢;simp only at fin pe;obtain⟨b5,mz⟩:∃b5:Int,b5=if n=true then -1 else 1:=⟨_,rfl⟩;have vG:decide (b5>0)= !n:=by rw[mz];cases n<;>rfl
 refine ah 7 (.i .i64 b5) rfl (by rw[mz]) ?_;rw[<-mz]at fin;refine I ?_;refine l7 (L:=Unit) (fun _=>(47:bv)∉t) (fun _=>⟨[],0,[(6,.s t),(7,.i .i64 b5)]⟩) ?_ ?_
 ·refine c6 (L:=Nat) (fun i=>i<=t.length∧(47:bv)∉t.take i) (fun(i:Nat)=>⟨[],0,[(6,.s t),(7,.i .i64 b5),(8,.i .i64 i)]⟩) (fun i=>t.length-i) [] 0 ⟨zag _,fun hm=>by simp at hm⟩ (by show t.length-0<bQ+1;unfold bQ;omega) eP ?_;rintro(i:Nat) ⟨hi,ha⟩;refine I ?_;refine b9 (fun h=> ?_) (fun h=> ?_)
  ·have h:i<t.length:=by omega
   refine I ?_;refine mN t[i] (bF h) ?_;refine I ?_;refine b9 (fun hc=> ?_) (fun hc=> ?_)
   ·have hc:t[i]=47:=zcy.1 (show t[i].toNat=47 by omega);have p4:=aeK h ha hc;rw[p4]at fin;simp only at fin;generalize hH:t.take i=P at *;generalize pa:t.drop (i+1)=Q at *;have M1:P.length<=t.length:=by rw[<-hH];simp;omega
    have anr:Q.length<=t.length:=by rw[<-pa];simp
    refine I ?_;refine FI P ?_ (hl:=by rw[<-hH];simp);refine ak 37 ?_;refine cu 37 (.i .i64 ((i+1:Nat):Int)) rfl rfl bx ?_;refine FI Q ?_ (hl:=by rw[<-pa];exact zay (by simp));refine I ?_;have bad:¬(hD P∧hD Q∧Q≠[48]∧Q≠[49]∧¬(n=true∧P=[48]))->bZ (.bu [.s P,.s Q,.i .i64 b5,.b false]) (II.res s):=fun h=>fin (by rw[zac h]);refine aL Ot P (by show P.length<=_;omega) (ak 44 ?_);by_cases h1:hD P
    ·refine dx 44 h1 (I ?_);refine aL Ot Q (by show Q.length<=_;omega) (ak 48 ?_);by_cases h2:hD Q
     ·refine dx 48 h2 (ak 52 ?_);by_cases h3:Q=[48]
      ·refine ah 52 (.b false) rfl (by rw[h3];rfl) (I ?_);exact ar rfl (bad (fun h=>h.2.2.1 h3))
      refine ah 52 (.b true) rfl (by rw[zaO.2 h3];rfl) (ak 56 ?_);by_cases au:Q=[49]
      ·refine ah 56 (.b false) rfl (by rw[au];rfl) (I ?_);exact ar rfl (bad (fun h=>h.2.2.2.1 au))
      refine ah 56 (.b true) rfl (by rw[zaO.2 au];rfl) (ak 59 ?_);by_cases aW:P=[48]
      ·refine ah 59 (.b false) rfl (by rw[aW];rfl) (I ?_);refine ar rfl (fin ?_);rw[vG];refine congrArg (fun b=>ab.bu [.s P,.s Q,.i .i64 b5,.b b]) ?_;rw[Rp];simp[h2,h3,au,aW];exact fun _=>aW▸h1
      ·refine ah 59 (.b true) rfl (by rw[zaO.2 aW];rfl) (I ?_);exact ar rfl (fin (by rw[zad ⟨h1,h2,h3,au,fun h=>aW h.2⟩]))
     ·refine ea 48 h2 (I ?_);exact ar rfl (bad (fun h=>h2 h.2.1))
    ·refine ea 44 h1 (I ?_);exact ar rfl (bad (fun h=>h1 h.1))
   ·have hc:t[i]≠47:=fun e=>hc (by rw[e];rfl);refine I ?_;refine a1 [] (i+1) ⟨by show t.length-(i+1)<t.length-i;omega,h,?_⟩ (iO ⟨rfl,rfl,eS,trivial⟩);rw[zba h];intro hm;rcases zbE.1 hm with hm|hm
    ·exact ha hm
    ·simp at hm;exact hc hm.symm
  ·have he:i=t.length:=by omega
   subst he;rw[zbY]at ha;refine I ?_;exact a1 [] () ha eP
 intro _ gj;rw[KT gj]at fin;simp only at fin;refine I ?_;refine aL Ot t (by show t.length<=_;omega) (ak 68 ?_);by_cases hb:hD t
 ·refine dx 68 hb (ak 71 ?_);by_cases h0:t=[48]
  ·refine ah 71 (.b false) rfl (by rw[h0];rfl) (I ?_);refine ar rfl (fin ?_);rw[vG];refine congrArg (fun b=>ab.bu [.s t,.s [49],.i .i64 b5,.b b]) ?_;rw[Rp];simp[h0];exact fun _=>h0▸hb
  ·refine ah 71 (.b true) rfl (by rw[zaO.2 h0];rfl) (I ?_);refine ar rfl (fin ?_);rw[zad ⟨hb,fun h=>h0 h.2⟩]
 ·refine ea 68 hb (I ?_);refine ar rfl (fin ?_);rw[zac (fun h=>hb h.1)]
def OD(u v:ac bv):b1 (u++v)=b1 v+10^v.length*b1 u:=by
 unfold b1 m3;rw[zdv,zbP,lD,zbp,zaN]
def OF(w:ac bv)(c:bv):b1 (w++[c])=(c.toNat-48)+10*b1 w:=by
 rw[OD];simp[b1,m3,val]
def rI{s:ac bv}(h:jl s):b1 s<10^s.length:=by
 have:=j7 (b:=10) (ds:=(m3 s).reverse) (fun d al=>Ru h d (zeJ.1 al));rw[zbp]at this;unfold m3 at this;rw[zaN]at this;exact this
def Zu:bh where
 L:=ac bv
 args:=fun s=>[.s s]
 pre:=fun s=>jl s∧s.length<=1073741824
 res:=fun s=>cV (b1 s)
def apS(s:ac bv)(i:Int):ac Nat->cG
 |[]=>⟨[],0,[(0,.s s),(3,.nl),(4,.i .i64 i)]⟩
 |d::ds=>⟨[.a 2 true 1 Nat fM (d::ds)],1,[(0,.s s),(3,.aY 0 1 0 (d::ds).length (d::ds).length),(4,.i .i64 i)]⟩
def aqp{s:ac bv}{es:ac Nat}{aM:Nat}(h:b1 s=val 1000000000 es+1000000000^es.length*b1 (s.take r))(hr:r<=s.length)(fo:aM=r-9):
 b1 s=val 1000000000 (es++[b1 ((s.take r).drop aM)])+1000000000^(es++[b1 ((s.take r).drop aM)]).length*b1 (s.take aM):=by
 have e:s.take r=s.take aM++(s.take r).drop aM:=by
  conv=>lhs;rw[<-zbn aM (s.take r)]
  rw[zdD,zaA (by omega)]
 have e2:b1 (s.take r)=b1 ((s.take r).drop aM)+1000000000*b1 (s.take aM):=by
  conv=>lhs;rw[e,OD]
  congr 1;rcases(show aM=0∨r=aM+9 by omega)with h0|h0
  ·subst h0;simp[b1,m3,val]
  ·rw[zaE,zas,zaA hr,h0,zeT]
 rw[h,e2,lD,zaG,zal];simp only[val,zau,zeo,zbx,zaQ,zaw,Nat.pow_one];rw[zaB,zar];omega
def Zv:a9 aT.ctx 142 Zu.spec:=by
 refine bH [(157,wq.spec)] Su.1 ?_;intro(s:ac bv) ⟨(eu:jl s),(ae:s.length<=_)⟩ H aH;refine I ?_;refine c6 (L:=Int×ac Nat) (fun(i,es)=>i<=s.length∧-9<=i∧es.length+i.toNat<=s.length∧cT 1000000000 es∧b1 s=val 1000000000 es+1000000000^es.length*b1 (s.take i.toNat)) (fun(i,es)=>apS s i es) (fun l=>l.1.toNat) [] ((s.length:Int),[]) ⟨zcL _,by show -9<=(s.length:Int);omega,by simp,fun x J=>by simp at J,by simp[val]⟩ (by show((s.length:Int)).toNat<bQ+1;unfold bQ;omega) eP ?_;rintro⟨i,es⟩ ⟨h1,h2,h3,au,aW⟩;obtain⟨r,hr⟩:∃r,r=i.toNat:=⟨_,rfl⟩;rw[<-hr]at h3 aW;obtain⟨aM,fo⟩:∃aM,aM=r-9:=⟨_,rfl⟩;have gT:=aqp aW (by omega) fo;have ja:jl ((s.take r).drop aM):=fun c hc=>eu c (zbH (zcF hc));have aV:=rI ja;have avf:b1 ((s.take r).drop aM)<1000000000:=fC aV (zat (n:=10) (by decide) (show _<=9 by simp;omega));have kZ:¬0<i->aR 1000000000 (b1 s)=eG es:=fun h=>by
  have:r=0:=by omega
  rw[this]at aW;rw[yM (b:=1000000000) (by decide) au,aW];simp[b1,m3,val]
 have piece:∀k:Nat,aM<=k->k<=r->b1 ((s.take k).drop aM)<10^(k-aM):=fun k vx jD=>by
  have h:=rI (s:=(s.take k).drop aM) (fun c hc=>eu c (zbH (zcF hc)))
  rwa [zaE,zas,zaA (by omega)]at h
 cases es with
 |nil=>
  refine I ?_;refine b9 (fun hi=> ?_) (fun hi=> ?_)
  ·have nM:i=(r:Int):=by omega
   subst nM;refine ak 14 ?_;refine ah 14 (.i .i64 ((r:Int)-9)) rfl (bx rfl (by omega) (by omega)) (ak 15 ?_);refine ah 15 (.i .i64 (aM:Nat)) rfl ev (I ?_);refine l7 (L:=Unit) (fun _=>True) (fun _=>⟨[],0,[(0,.s s),(3,.nl),(4,.i .i64 (r:Int)),(5,.i .i64 (b1 ((s.take r).drop aM):Nat))]⟩) ?_ ?_
   ·refine c6 (L:=Nat) (fun k=>aM<=k∧k<=r) (fun(k:Nat)=>⟨[],0,[(0,.s s),(3,.nl),(4,.i .i64 (r:Int)),(5,.i .i64 (b1 ((s.take k).drop aM):Nat)),(6,.i .i64 k)]⟩) (fun k=>r-k) [] aM ⟨bY _,by omega⟩ (by show r-aM<bQ+1;unfold bQ;omega) (iO ⟨rfl,rfl,rfl,by rw[zbj (by simp;omega)];rfl,rfl,trivial⟩) ?_;rintro(k:Nat) ⟨a2,bw⟩;refine I ?_;refine b9 (fun U=> ?_) (fun U=> ?_)
    ·have U:k<r:=by omega
     have xG:k<s.length:=by omega
     have hp:=piece k a2 (by omega);have xN:(10:Nat)^(k-aM)<=10^9:=zat (by decide) (by omega);have hc:=eu _ (dV xG);have vG:b1 ((s.take (k+1)).drop aM)=(s[k].toNat-48)+10*b1 ((s.take k).drop aM):=by
      rw[zba xG,zel (by simp;omega),OF]
     generalize hn:b1 ((s.take k).drop aM)=n at *;have alw:n<1000000000:=by omega
     refine I ?_;refine mN s[k] (bF xG) ?_;refine ak 26 ?_;have Ca:(s[k].toNat+(256*48-48))%256=s[k].toNat-48:=by omega
     refine ah 26 (.i .u8 ((s[k].toNat-48:Nat):Int)) rfl (congrArg (fun n:Nat=>ab.i .u8 (n:Int)) Ca) (I ?_);refine a1 [] (k+1) ⟨by show r-(k+1)<r-k;omega,by omega,U⟩ (iO ⟨rfl,rfl,rfl,?_,eS,trivial⟩);rw[vG];exact congrArg (fun n=>some (ab.i .i64 n)) (by rw[gL (n:=10*(n:Int)) (by omega) (by omega),gL (n:=((s[k].toNat-48:Nat):Int)) (by omega) (by omega),gL (by omega) (by omega)];omega)
    ·have he:k=r:=by omega
     subst he;refine I ?_;exact a1 [] () trivial eP
   intro _ _;generalize hn:b1 ((s.take r).drop aM)=n at *;refine I ?_;refine wx fM [n] (j4 (R:=fM) [n] rfl) ?_;refine I ?_;exact a1 [1] ((r:Int)-9,[n]) ⟨by show((r:Int)-9).toNat<((r:Int)).toNat;omega,by omega,by omega,by simp;omega,fun x J=>by simp at J;omega,by rw[show((r:Int)-9).toNat=aM by omega];exact gT⟩ (Ew ⟨rfl,rfl,eS,trivial⟩ ⟨_,rfl,rfl,fun _=>rfl⟩)
  ·refine I ?_;refine Ej 33 (c8 []) rfl bZ.nl ?_;refine aL wu [] (by show 0<=_;decide) (I ?_);exact ar rfl (.of (by show c8 (eG [])=c8 _;rw[<-kZ hi]))
 |cons d ds=>
  refine I ?_;refine b9 (fun hi=> ?_) (fun hi=> ?_)
  ·have nM:i=(r:Int):=by omega
   subst nM;refine ak 14 ?_;refine ah 14 (.i .i64 ((r:Int)-9)) rfl (bx rfl (by omega) (by omega)) (ak 15 ?_);refine ah 15 (.i .i64 (aM:Nat)) rfl ev (I ?_);refine l7 (L:=Unit) (fun _=>True) (fun _=>⟨[.a 2 true 1 Nat fM (d::ds)],1,[(0,.s s),(3,.aY 0 1 0 (d::ds).length (d::ds).length),(4,.i .i64 (r:Int)),(5,.i .i64 (b1 ((s.take r).drop aM):Nat))]⟩) ?_ ?_
   ·refine c6 (L:=Nat) (fun k=>aM<=k∧k<=r) (fun(k:Nat)=>⟨[.a 2 true 1 Nat fM (d::ds)],1,[(0,.s s),(3,.aY 0 1 0 (d::ds).length (d::ds).length),(4,.i .i64 (r:Int)),(5,.i .i64 (b1 ((s.take k).drop aM):Nat)),(6,.i .i64 k)]⟩) (fun k=>r-k) [0] aM ⟨bY _,by omega⟩ (by show r-aM<bQ+1;unfold bQ;omega) (dH ⟨rfl,rfl,rfl,by rw[zbj (by simp;omega)];rfl,rfl,trivial⟩ ⟨_,rfl,rfl,fun _=>rfl⟩) ?_;rintro(k:Nat) ⟨a2,bw⟩;refine I ?_;refine b9 (fun U=> ?_) (fun U=> ?_)
    ·have U:k<r:=by omega
     have xG:k<s.length:=by omega
     have hp:=piece k a2 (by omega);have xN:(10:Nat)^(k-aM)<=10^9:=zat (by decide) (by omega);have hc:=eu _ (dV xG);have vG:b1 ((s.take (k+1)).drop aM)=(s[k].toNat-48)+10*b1 ((s.take k).drop aM):=by
      rw[zba xG,zel (by simp;omega),OF]
     generalize hn:b1 ((s.take k).drop aM)=n at *;have alw:n<1000000000:=by omega
     refine I ?_;refine mN s[k] (bF xG) ?_;refine ak 26 ?_;have Ca:(s[k].toNat+(256*48-48))%256=s[k].toNat-48:=by omega
     refine ah 26 (.i .u8 ((s[k].toNat-48:Nat):Int)) rfl (congrArg (fun n:Nat=>ab.i .u8 (n:Int)) Ca) (I ?_);refine a1 [0] (k+1) ⟨by show r-(k+1)<r-k;omega,by omega,U⟩ (dH ⟨rfl,rfl,rfl,?_,eS,trivial⟩ ⟨_,rfl,rfl,fun _=>rfl⟩);rw[vG];exact congrArg (fun n=>some (ab.i .i64 n)) (by rw[gL (n:=10*(n:Int)) (by omega) (by omega),gL (n:=((s[k].toNat-48:Nat):Int)) (by omega) (by omega),gL (by omega) (by omega)];omega)
    ·have he:k=r:=by omega
     subst he;refine I ?_;exact a1 [0] () trivial dD
   intro _ _;generalize hn:b1 ((s.take r).drop aM)=n at *;refine I ?_;have gJ:ds.length<=1073741824:=by simp at h3;omega
   refine wv (R:=fM) [n] (j4 (R:=fM) [n] rfl) ?_;refine I ?_;refine a1 [2] ((r:Int)-9,d::(ds++[n])) ⟨by show((r:Int)-9).toNat<((r:Int)).toNat;omega,by omega,by omega,by simp at h3 ⊢;omega,?_,by rw[show((r:Int)-9).toNat=aM by omega];exact gT⟩ (Ew ⟨rfl,congrArg (fun k=>some (ab.aY 2 1 0 k k)) (by simp),eS,trivial⟩ ⟨_,rfl,rfl,fun _=>rfl⟩);intro x J;rcases zbE.1 (show x∈(d::ds)++[n]from J)with h|h
   ·exact au x h
   ·simp at h;omega
  ·refine I ?_;refine ko 33 ?_;refine aL wu (d::ds) (by show(d::ds).length<=_;omega) (I ?_);exact ar rfl (.of (by show c8 (eG (d::ds))=c8 _;rw[<-kZ hi]))
def OS(s:ac bv):s=(if(dw s).1=true then[45]else[])++(dw s).2:=by
 unfold dw;split
 ·rfl
 ·split
  ·rename_i c t h;rw[h];rfl
  ·rfl
def Y3{s:ac bv}(h:jl s)(hl:s.length<=9*k):dR k (b1 s):=iW (by decide) (by
 refine fC (rI h) (zai (zat (by decide) hl) ?_);rw[zbw];exact bY _)
def pw(s:ac bv):ab:=match fb s with
 |some x=>.bu [dj x,.i .i64 0]
 |none=>.bu [dj 0,.i .i64 6]
def D6:bh where
 L:=ac bv
 args:=fun s=>[.s s]
 pre:=fun s=>s.length<=2000
 res:=fun s=>pw s
def aq3(n:Bool)(p:Nat):(if n=true then(-1:Int)else 1)*(p:Int)=h4 n p:=by cases n<;>simp[h4]
def aqG{N:Nat}{s:ac bv}(iq:1<=N)(ae:s.length<=N):∃P Q b,Eo s= .bu [.s P,.s Q,.i .i64 (if(dw s).1=true then -1 else 1),.b b]∧(b=false->fb s=none)∧
 (b=true->hD P∧hD Q∧P.length<=N∧Q.length<=N∧b1 Q≠0∧(il (mkRat (h4 (dw s).1 (b1 P)) (b1 Q))=s->fb s=some (mkRat (h4 (dw s).1 (b1 P)) (b1 Q)))∧(il (mkRat (h4 (dw s).1 (b1 P)) (b1 Q))≠s->fb s=none)):=by
 have sg:=OS s;unfold fb Eo;obtain⟨⟨n,t⟩,aJ⟩:∃g,g=dw s:=⟨_,rfl⟩;rw[<-aJ]at sg⊢;simp only at sg⊢;have tN:t.length<=N:=by have:=congrArg List.length sg;rw[zaG]at this;omega
 obtain⟨eK,fO,mW⟩:=KS t;obtain⟨⟨P,Q⟩,hq⟩:∃g,g=cutAt t:=⟨_,rfl⟩;rw[<-hq]at eK fO mW⊢;simp only at eK fO mW⊢;cases Q with
 |none=>
  have LH:=mW rfl;subst LH;refine⟨t,[49],_,rfl,fun h=>zaa (of_decide_eq_false h),fun h=> ?_⟩;have a5:=zbF h;have e:=abw a5.1 a5.2;exact⟨a5.1,by decide,tN,iq,by decide,fun _=>by rw[zab a5];rfl,fun h=>absurd (e.trans sg.symm) h⟩
 |some q=>
  have aN:=fO q rfl;have M1:P.length+q.length<=N:=by have:=congrArg List.length aN;rw[zaG,zau]at this;omega
  refine⟨P,q,_,rfl,fun h=> ?_,fun h=> ?_⟩
  ·have a5:=of_decide_eq_false h;by_cases h1:hD P∧¬(n=true∧P=[48])
   ·rw[zab h1];exact zaa (fun h=>a5 ⟨h1.1,h.1,h.2.1,h.2.2.1,h1.2⟩)
   ·rw[zaa h1]
  ·obtain⟨cK,c9,hQ,u2,BG⟩:=zbF h;have e:=abv cK c9 BG hQ u2;rw[zbO,<-aN,<-sg]at e;refine⟨cK,c9,by omega,by omega,fun h=>hQ (w4 c9 h),fun h=> ?_,fun h=> ?_⟩
   ·rw[zab ⟨cK,BG⟩];exact zab ⟨c9,hQ,u2,e.1 h⟩
   ·rw[zab ⟨cK,BG⟩];exact zaa (fun hh=>h (e.2 hh.2.2.2))
def Oo:a9 aT.ctx 68 D6.spec:=by
 refine bH [(141,II.spec),(142,Zu.spec),(73,wm.spec),(72,Y0.spec)] UE.1 ?_;intro(s:ac bv) (ae:s.length<=2000) H aH;have hp:∀{r},fb s=r->bZ (match r with|some x=>.bu [dj x,.i .i64 0]|none=>.bu [dj 0,.i .i64 6]) (D6.res s):=fun h=>.of (by subst h;rfl);have fail:fb s=none->bZ (.bu [.agg [.i .i64 0,.nl,.nl],.i .i64 6]) (D6.res s):=fun h=>apI.trans (hp h);obtain⟨P,Q,b,cL,av,gg⟩:=aqG (by decide) ae;obtain⟨n,hn⟩:∃n,n=(dw s).1:=⟨_,rfl⟩;rw[<-hn]at cL gg;have aap: -1<=(if n=true then(-1:Int)else 1)∧(if n=true then(-1:Int)else 1)<=1:=by cases n<;>decide
 refine I ?_;refine aL apU s (by show s.length<=_;omega) ?_;refine ah 11 _ rfl cL (I ?_);cases b with
 |false=>
  refine I ?_;exact ar rfl (fail (av rfl))
 |true=>
  obtain⟨cK,c9,M1,anr,px,hQ,u2⟩:=gg rfl;have YY:=Y3 (k:=223) cK.2.1 (by omega);have YZ:=Y3 (k:=223) c9.2.1 (by omega);refine ak 22 ?_;refine ah 22 (.b false) rfl (congrArg ab.b (zac (by omega))) (I ?_);refine b9 (fun h=> ?_) (fun h=> ?_)
  ·omega
  refine I ?_;refine aL Zv P ⟨cK.2.1,by show P.length<=_;omega⟩ (I ?_);refine aL Zv Q ⟨c9.2.1,by show Q.length<=_;omega⟩ ?_;refine aL uo (if n=true then -1 else 1,b1 P,b1 Q) ⟨aap.1,aap.2,cZ YY (by decide),cZ YZ (by decide),px⟩ ?_;refine ah 33 (dj (mkRat (h4 n (b1 P)) (b1 Q))) rfl (by show dj _=_;rw[aq3]) (I ?_);refine aL apr (mkRat (h4 n (b1 P)) (b1 Q)) (lx (yj (by rw[uB];exact YY) YZ px) (by decide)) (ak 37 ?_);by_cases aN:il (mkRat (h4 n (b1 P)) (b1 Q))=s
  ·refine ah 37 (.b false) rfl (by show ab.b (!(il _==s))=_;rw[aN];simp) (I ?_);exact ar rfl (hp (hQ aN))
  ·refine ah 37 (.b true) rfl (by show ab.b (!(il _==s))=_;rw[zaO.2 aN];rfl) (I ?_);exact ar rfl (fail (u2 aN))
def ka(b:Bool):ac ab:=[.b b]
def je(c:bv):Bool:=decide (48<=c.toNat∧c.toNat<=57)
def xi:ac Bool:=(List.range 256).map fun j=>decide (48<=j∧j<=57)
def pW:ac ab:=xi.flatMap ka
def afa{j:Nat}(h:j<256):pW.drop j= .b (decide (48<=j∧j<=57))::pW.drop (j+1):=by
 have e:pW=xi.map ab.b:=by unfold pW;rw[List.map_eq_flatMap];rfl
 have hl:j<xi.length:=by unfold xi;rw[zaN,zeq];exact h
 rw[e,<-zer,<-zer,hB hl,zaP];congr 2;simp[xi]
def LP:bh where
 L:=bv
 args:=fun c=>[.ip pW,.i .u8 (c.toNat:Int)]
 pre:=fun _=>True
 res:=fun c=>.b (je c)
def VA:a9 aT.ctx 269 LP.spec:=by
 refine bH [] Tx.1 ?_;intro(c:bv) _ H aH;have hc:c.toNat<256:=c.toNat_lt;refine I ?_;refine er (amw rfl rfl hc) ?_;refine ah 8 (.ip (.b (je c)::pW.drop (c.toNat+1))) rfl (by rw[zaI,afa hc];rfl) (I ?_);exact ar rfl (.refl _)
def aba:bh where
 L:=ac bv
 args:=fun s=>[.s s,.ip pW]
 pre:=fun s=>s.length<=1073741824
 res:=fun s=>.s (s.dropWhile je)
def ata:a9 aT.ctx 171 aba.spec:=by
 refine bH [(269,LP.spec)] SN.1 ?_;intro(s:ac bv) (ae:s.length<=_) H aH;refine I ?_;refine c6 (L:=ac bv) (fun t=>t.dropWhile je=s.dropWhile je∧t.length<=s.length) (fun t=>⟨[],0,[(0,.s t),(1,.ip pW)]⟩) List.length [] s ⟨rfl,bY _⟩ (by show s.length<bQ+1;unfold bQ;omega) eP ?_;rintro t ⟨h1,h2⟩;cases t with
 |nil=>
  refine I ?_;exact ar rfl (.of (by show ab.s []=ab.s _;rw[<-h1];rfl))
 |cons c t=>
  refine ak 7 ?_;refine ah 7 (.b true) rfl (by simp) (I ?_);refine mN c (j:=0) rfl ?_;refine aL VA c trivial (I ?_);by_cases hc:je c=true
  ·refine ah 12 (.b false) rfl (by show ab.b (!je c)=_;rw[hc];rfl) (I ?_);refine rH (p:=1) t ?_ (hp:=by simp) (hq:=by simp);refine I ?_;exact a1 [] t ⟨by simp,by rw[<-h1,zdQ,zab hc],by simp at h2;omega⟩ eP
  ·have hc:je c=false:=by simpa using hc
   refine ah 12 (.b true) rfl (by show ab.b (!je c)=_;rw[hc];rfl) (I ?_);exact ar rfl (.of (by show ab.s (c::t)=ab.s _;rw[<-h1,zdQ,zaa (by rw[hc];decide)]))
def np(s:ac bv):ac bv:=(s.reverse.dropWhile je).reverse
def aaX(t:ac bv)(c:bv):np (t++[c])=if je c=true then np t else t++[c]:=by
 unfold np;rw[zbP];show((c::t.reverse).dropWhile je).reverse=_;rw[zdQ];split
 ·rfl
 ·simp
def abm:bh where
 L:=ac bv
 args:=fun s=>[.s s,.ip pW]
 pre:=fun s=>s.length<=1073741824
 res:=fun s=>.s (np s)
def atc:a9 aT.ctx 172 abm.spec:=by
 refine bH [(269,LP.spec)] SO.1 ?_;intro(s:ac bv) (ae:s.length<=_) H aH;refine I ?_;refine c6 (L:=ac bv) (fun t=>np t=np s∧t.length<=s.length) (fun t=>⟨[],0,[(0,.s t),(1,.ip pW)]⟩) List.length [] s ⟨rfl,bY _⟩ (by show s.length<bQ+1;unfold bQ;omega) eP ?_;rintro t ⟨h1,h2⟩;rcases zbU t with rfl|⟨t,c,rfl⟩
 ·refine I ?_;exact ar rfl (.of (by show ab.s []=ab.s _;rw[<-h1];rfl))
 ·rw[zbV]at *;have hl:(t++[c]).length=t.length+1:=by simp
  refine ak 7 ?_;refine ah 7 (.b true) rfl (by simp) (ak 12 ?_);refine ah 12 (.i .i64 (t.length:Nat)) rfl (by rw[hl];exact bx) ?_;refine mN c (show(t++[c])[t.length]? =some c by simp) ?_;refine aL VA c trivial (I ?_);by_cases hc:je c=true
  ·refine ah 15 (.b false) rfl (by show ab.b (!je c)=_;rw[hc];rfl) (ak 19 ?_);refine ah 19 (.i .i64 (t.length:Nat)) rfl (by rw[hl];exact bx) ?_;refine rH (p:=0) t ?_ (hp:=zag _) (hq:=by simp);refine I ?_;exact a1 [] t ⟨by simp,by rw[<-h1,aaX,zab hc],by omega⟩ eP
  ·refine ah 15 (.b true) rfl (by show ab.b (!je c)=_;rw[show je c=false by simpa using hc];rfl) (I ?_);exact ar rfl (.of (by show ab.s (t++[c])=ab.s _;rw[<-h1,aaX,zaa hc]))
def A3:Nat->ac Bool
 |0=>List.replicate 256 false
 |n+1=>(A3 n).set (48+n) true
theorem aao:∀n,(A3 n).length=256
 |0=>zbq
 |n+1=>by unfold A3;rw[zbv];exact aao n
def aq0:A3 10=xi:=by kernel_rfl
def B5:ac bv:=[48,49,50,51,52,53,54,55,56,57]
def afg(h:i<10):B5[i]? =some (UInt8.ofNat (48+i)):=by
 rcases(show i=0∨i=1∨i=2∨i=3∨i=4∨i=5∨i=6∨i=7∨i=8∨i=9 by omega)with rfl|rfl|rfl|rfl|rfl|rfl|rfl|rfl|rfl|rfl<;>rfl
def XE:bh where
 L:=Unit
 args:=fun _=>[.s B5]
 pre:=fun _=>True
 res:=fun _=>.bu [.agg pW,.b true]
def anY:a9 aT.ctx 170 XE.spec:=by
 refine bH [] SM.1 ?_;intro _ _ H aH;refine ak 3 ?_;refine nk 0 ka (A3 0) ?_;refine I ?_;refine c6 (L:=Nat) (fun i=>i<=10) (fun(i:Nat)=>⟨[.a 269 false 1 Bool ka (A3 i)],1,[(0,.s B5),(2,.p 0 0),(4,.i .i64 i)]⟩) (fun i=>10-i) [0] 0 (zag _) (by show 10-0<bQ+1;unfold bQ;omega) dD ?_;intro(i:Nat) hi;refine I ?_;have hl:((B5.length:Nat):Int)=10:=rfl;refine b9 (fun h=> ?_) (fun h=> ?_)
 ·have h:i<10:=by omega
  have hn:(UInt8.ofNat (48+i)).toNat=48+i:=B7 h;refine I ?_;refine mN (UInt8.ofNat (48+i)) (afg h) ?_;refine ah 14 (.i .u8 ((48+i:Nat):Int)) rfl (by rw[hn]) (I ?_);refine b9 (fun az=> ?_) (fun az=> ?_)
  ·omega
  refine I ?_;refine IZ ?_;refine kp true ?_ (hj:=by rw[aao];omega);refine I ?_;exact a1 [0] (i+1) ⟨by show 10-(i+1)<10-i;omega,h⟩ (dH ⟨rfl,rfl,eS,trivial⟩ ⟨_,rfl,rfl,fun _=>rfl⟩)
 ·have he:i=10:=by omega
  subst he;rw[aq0];refine I ?_;refine ap5 0 ?_;refine I ?_;exact ar rfl (.of rfl)
def abn:bh where
 L:=ac bv
 args:=fun s=>[.s s,.s B5]
 pre:=fun s=>s.length<=1073741824
 res:=fun s=>.s ((np s).dropWhile je)
def asX(s:ac bv):(np s).length<=s.length:=by
 unfold np;rw[zbp,<-(zbp:s.reverse.length=s.length)];exact(List.dropWhile_sublist _).length_le
def asW:a9 aT.ctx 86 abn.spec:=by
 refine bH [(170,XE.spec),(172,abm.spec),(171,aba.spec)] US.1 ?_;intro(s:ac bv) (ae:s.length<=_) H aH;refine ak 9 ?_;by_cases h:s=[]
 ·subst h;refine I ?_;exact ar rfl (.refl _)
 refine ah 9 (.b false) rfl (by rw[zaO.2 h]) (I ?_);refine aL anY () trivial (I ?_);refine nk 0 ka xi ?_;refine aqc 5 ?_;refine ah 5 (.ip pW) rfl rfl ?_;refine aL atc s ae (I ?_);refine aL ata (np s) (zai (asX s) ae) (I ?_);exact ar rfl (.refl _)
theorem drop_nil:∀{s:ac bv},s.dropWhile je=[]↔∀c∈s,je c=true
 |[]=>by simp
 |c::s=>by
  rw[zdQ];by_cases h:je c=true
  ·rw[zab h,drop_nil];simp[h]
  ·rw[zaa h];simp[h]
def WD{c:bv}:je c=true↔48<=c.toNat∧c.toNat<=57:=by unfold je;rw[decide_eq_true_iff]
def strip_nil{s:ac bv}:(np s).dropWhile je=[]↔jl s:=by
 rw[drop_nil];unfold jl;constructor
 ·intro h;have h1:np s=[]:=by
   rcases zbU (np s)with h0|⟨t,c,h0⟩
   ·exact h0
   ·rw[zbV]at h0;have hc:=h c (by rw[h0];simp);have e:s.reverse.dropWhile je=c::t.reverse:=by
     have:=congrArg List.reverse h0;unfold np at this;rw[List.reverse_reverse,zbP]at this;exact this
    have:=List.head_dropWhile_not je (l:=s.reverse) (by rw[e];simp);simp only[e,List.head_cons]at this;rw[hc]at this;cases this
  unfold np at h1;have h2:=drop_nil.1 (List.reverse_eq_nil_iff.1 h1);exact fun c hc=>WD.1 (h2 c (zeJ.2 hc))
 ·intro h;have h2:s.reverse.dropWhile je=[]:=drop_nil.2 fun c hc=>WD.2 (h c (zeJ.1 hc));unfold np;rw[h2];intro c hc;simp at hc
def Z8:bh where
 L:=ac bv
 args:=fun s=>[.s s]
 pre:=fun s=>s.length<=1073741824
 res:=fun s=>.b (decide (hD s))
def OH:a9 aT.ctx 35 Z8.spec:=by
 refine bH [(86,abn.spec)] TY.1 ?_;intro(s:ac bv) (ae:s.length<=_) H aH;refine ak 5 ?_;cases s with
 |nil=>
  refine ah 5 (.b false) rfl rfl (I ?_);exact ar rfl (.of (by show ab.b false=ab.b (decide _);rw[zac (fun hb=>hb.1 rfl)]))
 |cons c t=>
  refine ah 5 (.b true) rfl rfl (I ?_);refine aL asW (c::t) ae (ak 10 ?_);by_cases eu:jl (c::t)
  ·refine ah 10 (.b true) rfl (by show ab.b (_==[])=_;rw[strip_nil.2 eu];rfl) (ak 13 ?_);by_cases hb:c::t=[48]
   ·refine ah 13 (.b true) rfl (by rw[hb];rfl) (I ?_);exact ar rfl (.of (by show ab.b true=ab.b (decide _);rw[zad ⟨by simp,eu,.inl hb⟩]))
   refine ah 13 (.b false) rfl (by rw[zaO.2 hb]) (I ?_);refine mN c (j:=0) rfl ?_;refine I ?_;refine ar rfl (.of ?_);show ab.b (decide _)=ab.b (decide _);congr 1;rw[decide_eq_decide];constructor
   ·intro h;refine⟨by simp,eu,.inr fun e=>h ?_⟩;have e:c=48:=by simpa using e
    rw[e];rfl
   ·rintro⟨_,_,h|h⟩ e
    ·exact hb h
    ·exact h (congrArg some (zcy.1 (show c.toNat=48 by omega)))
  ·refine ah 10 (.b false) rfl (by show ab.b (_==[])=_;rw[zaO.2 (mt strip_nil.1 eu)]) (I ?_);exact ar rfl (.of (by show ab.b false=ab.b (decide _);rw[zac (fun hb=>eu hb.2.1)]))
theorem Wx:∀s:ac bv,(match qf 47 s with
 |none=>cutAt s=(s,none)
 |some i=>i<s.length∧cutAt s=(s.take i,some (s.drop (i+1))))
 |[]=>rfl
 |c::s=>by
  have aZ:=Wx s;have e:qf 47 (c::s)=cond (Nat.beq c.toNat (47:bv).toNat) (some 0) (bd (qf 47 s) (fun i=>some (Nat.succ i)) none):=rfl;by_cases hc:c=47
  ·subst hc;rw[e,show Nat.beq (47:bv).toNat (47:bv).toNat=true from rfl];exact⟨Nat.succ_pos _,rfl⟩
  ·have hb:Nat.beq c.toNat (47:bv).toNat=false:=by
    rw[zbR];exact fun h=>hc (zcy.1 (ek h))
   have e2:cutAt (c::s)=(c::(cutAt s).1,(cutAt s).2):=zaa hc;rw[e,hb,cond_false];cases h:qf 47 s with
   |none=>
    rw[h]at aZ;show cutAt (c::s)=_;rw[e2,show cutAt s=(s,none)from aZ]
   |some i=>
    rw[h]at aZ;obtain⟨h1,h2⟩:=aZ;show i+1<s.length+1∧cutAt (c::s)=_;rw[e2,h2];exact⟨by omega,rfl⟩
def V5:bh where
 L:=ac bv
 args:=fun s=>[.s s,.s [45]]
 pre:=fun s=>s.length<=1073741824
 res:=fun s=>.b (dw s).1
def alK:a9 aT.ctx 166 V5.spec:=by
 refine bH [] Ls.1 ?_;intro(s:ac bv) (ae:s.length<=_) H aH;refine ak 10 ?_;cases s with
 |nil=>
  refine ah 10 (.b false) rfl rfl (I ?_);exact ar rfl (.refl _)
 |cons c t=>
  refine ah 10 (.b true) rfl (by simp;omega) (I ?_);refine rH (p:=0) (q:=1) [c] ?_ (hq:=by simp);refine I ?_;refine ar rfl (.of ?_);show ab.b ([c]==[45])=ab.b (dw (c::t)).1;by_cases hc:c=45
  ·subst hc;rfl
  ·rw[show dw (c::t)=(false,c::t)from zaa hc,zaO.2 (by simpa using hc)]
def FF:bh where
 L:=ac bv
 args:=fun s=>[.s s,.s [45]]
 pre:=fun s=>s.length<=1073741824
 res:=fun s=>.bu [.s (dw s).2,.b (dw s).1]
def ad3:a9 aT.ctx 84 FF.spec:=by
 refine bH [(166,V5.spec)] UQ.1 ?_;intro(s:ac bv) (ae:s.length<=_) H aH;refine I ?_;refine aL alK s ae (I ?_);cases s with
 |nil=>
  refine I ?_;exact ar rfl (.refl _)
 |cons c t=>
  by_cases hc:c=45
  ·subst hc;refine ah 9 (.b false) rfl rfl (I ?_);refine rH (p:=1) t ?_ (hp:=by simp) (hq:=by simp);refine I ?_;exact ar rfl (.refl _)
  ·have aJ:dw (c::t)=(false,c::t):=zaa hc;refine ah 9 (.b true) rfl (by show ab.b (!(dw (c::t)).1)=_;rw[aJ];rfl) (I ?_);exact ar rfl (.of (by show ab.bu _=ab.bu [.s (dw (c::t)).2,.b (dw (c::t)).1];rw[aJ]))
def ad2:a9 aT.ctx 33 FF.spec:=by
 refine bH [(84,FF.spec)] TQ.1 ?_;intro(s:ac bv) (ae:s.length<=_) H aH;refine I ?_;refine aL ad3 s ae (I ?_);exact ar rfl (.refl _)
def WH:bh where
 L:=ac bv
 args:=fun s=>[.s s,.i .u8 47]
 pre:=fun s=>s.length<=1073741824
 res:=fun s=>.i .i64 (tQ 47 s)
def am3:a9 aT.ctx 265 WH.spec:=by
 refine bH [] Tw.1 ?_;intro(s:ac bv) (ae:s.length<=_) H aH;refine I ?_;refine er (amA (c:=47) rfl rfl) ?_;refine I ?_;exact ar rfl (.refl _)
def WG:bh where
 L:=ac bv
 args:=fun s=>[.s s,.s [47]]
 pre:=fun s=>s.length<=1073741824
 res:=fun s=>.i .i64 (tQ 47 s)
def am2:a9 aT.ctx 167 WG.spec:=by
 refine bH [(265,WH.spec)] SL.1 ?_;intro(s:ac bv) (ae:s.length<=_) H aH;refine I ?_;by_cases h:[47]=s
 ·refine ah 16 (.b true) rfl (by rw[<-h];rfl) (I ?_);exact ar rfl (.of (by show ab.i _ 0=ab.i _ (tQ 47 s);rw[<-h];rfl))
 refine ah 16 (.b false) rfl (by rw[zaO.2 h]) (I ?_);refine mN 47 (j:=0) rfl ?_;refine aL am3 s ae (I ?_);exact ar rfl (.refl _)
def o0(s:ac bv):ab:=match(cutAt s).2 with
 |none=>.bu [.s s,.s [],.b false]
 |some q=>.bu [.s (cutAt s).1,.s q,.b true]
def B0:bh where
 L:=ac bv
 args:=fun s=>[.s s,.s [47]]
 pre:=fun s=>s.length<=1073741824
 res:=fun s=>o0 s
def aeN:a9 aT.ctx 85 B0.spec:=by
 refine bH [(167,WG.spec)] UR.1 ?_;intro(s:ac bv) (ae:s.length<=_) H aH;have hi:=Wx s;have fin:∀{r},o0 s=r->bZ r (B0.res s):=fun h=>.of h.symm;unfold o0 at fin;refine I ?_;refine aL am2 s ae ?_;cases J:qf 47 s with
 |none=>
  rw[J]at hi;have hi:cutAt s=(s,none):=hi;rw[hi]at fin;refine ah 10 (.i .i64 (-1)) rfl (by show ab.i _ (tQ 47 s)=_;unfold tQ;rw[J]) (I ?_);exact ar rfl (fin rfl)
 |some i=>
  rw[J]at hi;obtain⟨h1,h2⟩:i<s.length∧cutAt s=(s.take i,some (s.drop (i+1))):=hi;rw[h2]at fin;refine ah 10 (.i .i64 (i:Nat)) rfl (by show ab.i _ (tQ 47 s)=_;unfold tQ;rw[J]) (I ?_);refine FI (s.take i) ?_ (hl:=by simp);refine ak 20 ?_;refine cu 20 (.i .i64 ((i+1:Nat):Int)) rfl rfl (bx (by simp) (by simp;omega) (by simp;omega)) ?_;refine FI (s.drop (i+1)) ?_ (hl:=zay (by simp));refine I ?_;exact ar rfl (fin rfl)
def aeL:a9 aT.ctx 34 B0.spec:=by
 refine bH [(85,B0.spec)] TW.1 ?_;intro(s:ac bv) (ae:s.length<=_) H aH;refine I ?_;refine aL aeN s ae ?_;cases J:(cutAt s).2 with
 |none=>
  refine ah 9 (.bu [.s s,.s [],.b false]) rfl (by show o0 s=_;unfold o0;rw[J]) (I ?_);exact ar rfl (.of (by show _=o0 s;unfold o0;rw[J]))
 |some q=>
  refine ah 9 (.bu [.s (cutAt s).1,.s q,.b true]) rfl (by show o0 s=_;unfold o0;rw[J]) (I ?_);exact ar rfl (.of (by show _=o0 s;unfold o0;rw[J]))
def yt:ac ab:=(List.range 20).map fun k=>.i .u64 ((10^k:Nat):Int)
def oR(H:bz):Prop:=∃vs el a8 aX,H 8=some (.cells vs el a8 aX)∧∀br,db br yt [] vs
def oR.up{H br:bz}(h:dg H br):oR H->oR br:=fun⟨vs,el,a8,aX,h1,h2⟩=>⟨vs,el,a8,aX,h _ _ h1,h2⟩
def apc{j:Nat}(h:j<20):yt.drop j= .i .u64 ((10^j:Nat):Int)::yt.drop (j+1):=by
 have hl:j<yt.length:=by unfold yt;rw[zaN,zeq];exact h
 rw[hB hl];congr 1;simp[yt]
def W2:bh where
 L:=Nat
 args:=fun n=>[.i .u64 n]
 pre:=fun n=>n<4294967296
 res:=fun n=>.i .i64 (bs n:Nat)
def anG:ac bv:=[0,1,2,2,3,3,3,3,4,4,4,4,4,4,4,4,5,5,5,5,5,5,5,5,5,5,5,5,5,5,5,5,6,6,6,6,6,6,6,6,6,6,6,6,6,6,6,6,6,6,6,6,6,6,6,6,6,6,6,6,6,6,6,6,7,7,7,7,7,7,7,7,7,7,7,7,7,7,7,7,7,7,7,7,7,7,7,7,7,7,7,7,7,7,7,7,7,7,7,7,7,7,7,7,7,7,7,7,7,7,7,7,7,7,7,7,7,7,7,7,7,7,7,7,7,7,7,7,8,8,8,8,8,8,8,8,8,8,8,8,8,8,8,8,8,8,8,8,8,8,8,8,8,8,8,8,8,8,8,8,8,8,8,8,8,8,8,8,8,8,8,8,8,8,8,8,8,8,8,8,8,8,8,8,8,8,8,8,8,8,8,8,8,8,8,8,8,8,8,8,8,8,8,8,8,8,8,8,8,8,8,8,8,8,8,8,8,8,8,8,8,8,8,8,8,8,8,8,8,8,8,8,8,8,8,8,8,8,8,8,8,8,8,8,8,8,8,8,8,8,8,8,8,8,8,8]
def anH:∀m,m<256->anG[m]? =some (UInt8.ofNat (bs m))∧bs m<=8:=by decide +kernel
def anE:a9 aT.ctx 385 W2.spec:=by
 refine bH [] Ua.1 ?_;intro(n:Nat) (hn:n<4294967296) H aH;refine I ?_;refine b9 (fun h=> ?_) (fun h=> ?_)
 ·omega
 refine I ?_;refine fJ (fun((m:Nat),(k:Nat))=>m<65536∧k<=16∧bs n=bs m+k) (fun(m,k)=>⟨[],0,[(0,.i .u64 m),(2,.i .i64 k)]⟩) ?_ ?_
 ·refine b9 (fun h=> ?_) (fun h=> ?_)
  ·refine I ?_;exact a1 [] (n/65536,16) ⟨by omega,by decide,BK 16 n (by omega)⟩ eP
  ·refine I ?_;exact a1 [] (n,0) ⟨by omega,by decide,rfl⟩ eP
 rintro⟨m,k⟩ ⟨hm,U,hb⟩;refine I ?_;refine fJ (fun((m:Nat),(k:Nat))=>m<256∧k<=24∧bs n=bs m+k) (fun(m,k)=>⟨[],0,[(0,.i .u64 m),(2,.i .i64 k)]⟩) ?_ ?_
 ·refine b9 (fun h=> ?_) (fun h=> ?_)
  ·refine I ?_;exact a1 [] (m/256,k+8) ⟨by omega,by omega,by rw[hb,BK 8 m (by omega),show(2:Nat)^8=256 from rfl];omega⟩ (iO ⟨rfl,eS,trivial⟩)
  ·refine I ?_;exact a1 [] (m,k) ⟨by omega,by omega,hb⟩ eP
 rintro⟨m,k⟩ ⟨hm,U,hb⟩;refine I ?_;refine ah 21 (.i .u8 (m:Nat)) rfl ev ?_;obtain⟨t1,t2⟩:=anH m hm;refine mN _ t1 ?_;refine I ?_;have e:(UInt8.ofNat (bs m)).toNat=bs m:=by simp;omega
 rw[e];refine ar rfl (.of ?_);show ab.i _ _=ab.i .i64 (bs n:Nat);rw[hb,gL (n:=((bs m:Nat):Int)) (by omega) (by omega)];exact bx
def WT:bh where
 L:=Nat
 args:=fun b=>[.i .i64 b]
 pre:=fun b=>b<=64
 res:=fun b=>.i .i64 ((b*78913/262144:Nat):Int)
def ano:a9 aT.ctx 406 WT.spec:=by
 refine bH [] Ug.1 ?_;intro(b:Nat) (hb:b<=64) H aH;refine ak 4 ?_;refine ah 4 (.i .i64 ((b*78913:Nat):Int)) rfl bx (I ?_);exact ar rfl (.refl _)
def Qn:bh where
 L:=Bool
 args:=fun b=>[.b b]
 pre:=fun _=>True
 res:=fun b=>.i .i64 (if b=true then 1 else 0)
def adj:a9 aT.ctx 407 Qn.spec:=by
 refine bH [] Uh.1 ?_;intro(b:Bool) _ H aH;refine I ?_;cases b with
 |true=>
  refine I ?_;exact ar rfl (.refl _)
 |false=>
  refine I ?_;exact ar rfl (.refl _)
def aoa:∀b,b<31->(b*78913/262144=0∨10^(b*78913/262144-1)<=2^(b-1))∧2^b<=10^(b*78913/262144+1)∧b*78913/262144<10:=by decide +kernel
def an9(h0:n≠0)(hn:n<1000000000):(aR 10 n).length=bs n*78913/262144+(if 10^(bs n*78913/262144)<=n then 1 else 0)∧bs n*78913/262144<10∧bs n<=30:=by
 obtain⟨h1,h2⟩:=qP h0;have hb:bs n<=30:=Fp.1 (show n<2^30 by omega);obtain⟨t1,t2,t3⟩:=aoa (bs n) (by omega);generalize bs n*78913/262144=l at *;have hu:=iW (b:=10) (n:=n) (k:=l+1) (by decide) (by omega);refine⟨?_,t3,hb⟩;split
 ·rename_i h;have:=B4 (b:=10) (n:=n) (k:=l) (by decide) h;omega
 ·rename_i h;have h3:=iW (b:=10) (n:=n) (k:=l) (by decide) (by omega);rcases t1 with t1|t1
  ·subst t1;omega
  ·rcases zcC l with au|au
   ·subst au;omega
   ·have:=B4 (b:=10) (n:=n) (k:=l-1) (by decide) (by omega);omega
def XO:bh where
 L:=Nat
 args:=fun n=>[.i .u64 n]
 pre:=fun n=>n≠0∧n<1000000000
 res:=fun n=>.i .i64 ((aR 10 n).length:Nat)
 hp:=oR
 hm:=oR.up
def an8:a9 aT.ctx 374 XO.spec:=by
 refine jy [(385,W2.spec),(406,WT.spec),(407,Qn.spec)] T2.1 ?_;intro(n:Nat) ⟨(h0:n≠0),(hn:n<1000000000)⟩ H aH ⟨vs,el,a8,aX,aJ,al⟩;obtain⟨aq,e2,bV⟩:=an9 h0 hn;refine I ?_;refine aL anE n (by show n<_;omega) ?_;refine aL ano (bs n) (by show bs n<=_;omega) ?_;generalize hl:bs n*78913/262144=l at *;refine ah 6 (.i .i64 (l:Nat)) rfl (by rw[<-hl];rfl) (I ?_);refine aqd aJ al (j:=l) ?_;refine ah 10 (.ip (.i .u64 ((10^l:Nat):Int)::yt.drop (l+1))) rfl (by rw[apc (by omega)]) (ak 12 ?_);refine ah 12 (.b (decide (10^l<=n))) rfl (congrArg ab.b (by rw[decide_eq_decide];exact Int.ofNat_le)) ?_;refine aL adj (decide (10^l<=n)) trivial ?_;obtain⟨q,hq⟩:∃q:Nat,q=if 10^l<=n then 1 else 0:=⟨_,rfl⟩;have xP:q<=1:=by rw[hq];split<;>decide
 rw[<-hq]at aq;refine ah 13 (.i .i64 (q:Nat)) rfl (by show ab.i _ (if decide _=true then 1 else 0)=_;rw[hq];by_cases h:10^l<=n<;>simp[h]) (I ?_);exact ar rfl (.of (by
  show ab.i _ _=ab.i .i64 ((aR 10 n).length:Nat);rw[aq];exact bx))
def l9:ac bv:=[48,48,48,49,48,50,48,51,48,52,48,53,48,54,48,55,48,56,48,57,49,48,49,49,49,50,49,51,49,52,49,53,49,54,49,55,49,56,49,57,50,48,50,49,50,50,50,51,50,52,50,53,50,54,50,55,50,56,50,57,51,48,51,49,51,50,51,51,51,52,51,53,51,54,51,55,51,56,51,57,52,48,52,49,52,50,52,51,52,52,52,53,52,54,52,55,52,56,52,57,53,48,53,49,53,50,53,51,53,52,53,53,53,54,53,55,53,56,53,57,54,48,54,49,54,50,54,51,54,52,54,53,54,54,54,55,54,56,54,57,55,48,55,49,55,50,55,51,55,52,55,53,55,54,55,55,55,56,55,57,56,48,56,49,56,50,56,51,56,52,56,53,56,54,56,55,56,56,56,57,57,48,57,49,57,50,57,51,57,52,57,53,57,54,57,55,57,56,57,57]
def oc:∀k,k<100->l9[2*k]? =some (UInt8.ofNat (48+k/10))∧l9[2*k+1]? =some (UInt8.ofNat (48+k%10))∧(l9.drop (2*k)).take 2=[UInt8.ofNat (48+k/10),UInt8.ofNat (48+k%10)]:=by decide +kernel
def d36:ac bv:=[48,49,50,51,52,53,54,55,56,57,97,98,99,100,101,102,103,104,105,106,107,108,109,110,111,112,113,114,115,116,117,118,119,120,121,122]
def aeO:∀k,k<10->(d36.drop k).take 1=[UInt8.ofNat (48+k)]:=by decide +kernel
def ae2(h1:10<=n)(h2:n<100):dec n=[n/10,n%10]:=by
 unfold dec;rw[zaa (by omega),nE (by decide) (by omega),nE (by decide) (by omega),show n/10/10=0 by omega,fG,show n/10%10=n/10 by omega];rfl
def aaH:bh where
 L:=Nat
 args:=fun n=>[.i .i64 n]
 pre:=fun n=>n<100
 res:=fun n=>.s (de n)
def asn:a9 aT.ctx 373 aaH.spec:=by
 refine bH [] T1.1 ?_;intro(n:Nat) (hn:n<100) H aH;refine I ?_;refine b9 (fun h=> ?_) (fun h=> ?_)
 ·have h:n<10:=by omega
  refine ak 7 ?_;refine ah 7 (.i .i64 ((n+1:Nat):Int)) rfl bx ?_;refine rH (l:=d36) (p:=n) (q:=n+1) [UInt8.ofNat (48+n)] ?_ (hl:=by rw[show n+1-n=1 by omega];exact aeO n h) (hq:=by show n+1<=36;omega);refine I ?_;exact ar rfl (.of (by show ab.s _=ab.s (de n);unfold de;rw[Ro h];rfl))
 ·refine ak 10 ?_;refine ah 10 (.i .i64 ((2*n:Nat):Int)) rfl bx (ak 12 ?_);refine ah 12 (.i .i64 ((2*n:Nat):Int)) rfl bx (ak 13 ?_);refine ah 13 (.i .i64 ((2*n+2:Nat):Int)) rfl bx ?_;refine rH (l:=l9) (p:=2*n) (q:=2*n+2) [UInt8.ofNat (48+n/10),UInt8.ofNat (48+n%10)] ?_ (hl:=by rw[show 2*n+2-2*n=2 by omega];exact(oc n hn).2.2) (hq:=by show 2*n+2<=200;omega);refine I ?_;exact ar rfl (.of (by show ab.s _=ab.s (de n);unfold de;rw[ae2 (by omega) hn];rfl))
def FJ(n bU j:Nat):bv:=UInt8.ofNat (48+n/10^(bU-1-j)%10)
structure jP(n bU i:Nat)(l:ac bv)(u:Nat):Prop where
 u:u=n/10^(bU-i)
 len:l.length=24
 le:i<=bU
 m2:∀j,i<=j->j<bU->l[j]? =some (FJ n bU j)
variable{u bU:Nat}
def jP.two{l:ac bv}(h:jP n bU (i+2) l u)(iG:bU<=24):jP n bU i ((l.set (i+1) (UInt8.ofNat (48+u%100%10))).set i (UInt8.ofNat (48+u%100/10))) (u/100):=by
 obtain⟨h1,h2,h3,au⟩:=h;have aq:bU-(i+2)=bU-1-(i+1):=by omega
 have e2:bU-1-i=bU-(i+2)+1:=by omega
 refine⟨?_,by simp[h2],by omega,fun j lT CI=> ?_⟩
 ·rw[h1,show bU-i=bU-(i+2)+2 by omega,zal,zaT]
 ·rcases(show j=i∨j=i+1∨i+2<=j by omega)with rfl|rfl|h
  ·rw[zdc (by simp;omega)];unfold FJ;rw[e2,zak,<-zaT,<-h1];congr 2;omega
  ·rw[zbo (by omega),zdc (by omega)];unfold FJ;rw[<-aq,<-h1];congr 2;omega
  ·rw[zbo (by omega),zbo (by omega)];exact au j h CI
def jP.one{l:ac bv}(h:jP n bU 1 l u)(hu:u<10):jP n bU 0 (l.set 0 (UInt8.ofNat (48+u))) 0:=by
 obtain⟨h1,h2,h3,au⟩:=h;refine⟨?_,by simp[h2],by omega,fun j lT CI=> ?_⟩
 ·rw[show bU-0=bU-1+1 by omega,zak,<-zaT,<-h1];omega
 ·rcases(show j=0∨1<=j by omega)with rfl|h
  ·rw[zdc (by omega)];unfold FJ;rw[show bU-1-0=bU-1 by omega,<-h1,dJ hu]
  ·rw[zbo (by omega)];exact au j h CI
def jP.fin{l:ac bv}(h:jP n bU 0 l u)(h0:n≠0)(iG:bU=(aR 10 n).length)(auR:bU<=24):l.take bU=de n:=by
 obtain⟨h1,h2,h3,au⟩:=h;unfold de dec;rw[zaa h0];apply zbD;intro j;by_cases hj:j<bU
 ·rw[zaJ,zab hj,au j (zag _) hj];unfold gw;rw[zco,List.getElem?_reverse (by omega),<-iG,tj (by decide) (by omega)];rfl
 ·rw[zbG (by simp;omega),zbG (by rw[s6,zbp];omega)]
def w2(x:Nat):(2*(x%100)+1)%4294967296=2*(x%100)+1:=by omega
def vh(h:u<1000000000):(u%100000000%4294967296=u%100000000)∧(u/100000000%18446744073709551616=u/100000000)∧(u%100000000/10000%4294967296=u/10000%10000)∧(u%100000000%10000=u%10000)∧(u%10000/100%4294967296*2%4294967296=2*(u/100%100))∧(u%10000%100*2%4294967296=2*(u%100))∧(u/10000%10000/100%4294967296*2%4294967296=2*(u/100/100/100%100))∧(u/10000%10000%100*2%4294967296=2*(u/100/100%100)):=by
 have J:u/10000=u/100/100:=by rw[zaT]
 have aA:u%100000000/10000=u/10000%10000:=by omega
 have f:∀x:Nat,x%10000/100%4294967296*2%4294967296=2*(x/100%100)∧x%10000%100*2%4294967296=2*(x%100):=fun x=>by omega
 refine⟨by omega,by omega,?_,by omega,(f u).1,(f u).2,?_,?_⟩
 ·rw[aA];generalize u/10000=x;omega
 ·rw[J];exact(f _).1
 ·rw[J];exact(f _).2
def Le(h:u<1000000000):u/10000%4294967296=u/10000∧u%10000/100%4294967296*2%4294967296=2*(u/100%100)∧u%10000%100*2%4294967296=2*(u%100):=by omega
def RO(h:u<1000000000):u%100*2%4294967296=2*(u%100)∧u/100%4294967296=u/100:=by omega
def ot{ax:fu}{K:ac eH}{own bN:ac ay}{aK bb b7 back:Nat}{e a0:bO}{d:Tmp}{ts:ac Tmp}{xs:ac (bE×cw)}{x i:bi}{l:ac bv}{j:Nat}{cf:d7}(qQ:bv)(hj:l[j]? =some qQ)(k:aU.ok ax ⟨K,.d xs bN ((d,.i .u8 (qQ.toNat:Int))::a0) bb b7,⟨own,aK,(d,.i .u8 (qQ.toNat:Int))::e⟩⟩)(J:bj (eN ts a0) x=some (.s l):=by rfl)(hi:bj (eN ts a0) i=some (.i cf (j:Int)):=by rfl)(hb:back<bb:=by decide):aU.ok ax ⟨K,.d ((⟨some d,.tU x i,none⟩,.read back ts)::xs) bN a0 bb b7,⟨own,aK,e⟩⟩:=
 o1 (d:=some d) (a:=.i .u8 (qQ.toNat:Int)) hb (fun H ids st fr aa _ _=>⟨.int .u8 (qQ.toNat:Int),rfl,fun dz _ _=>by
  have h1:fr.af x= .string ⟨⟨l⟩⟩:=aa.af J;have h2:fr.af i= .int cf (j:Int):=aa.af hi;obtain⟨aV,aF⟩:=zae.1 hj;show hM (fr.af x) (fun s=>gp (fr.af i) (fun _ j=>g9 j (fun j=>iD s.data.toList j 1 (fun bS=>one bS (fun b=>aS.ok (.int .u8 (.ofNat b.toNat)) fr dz) aS.no) aS.no) aS.no) aS.no) aS.no=_;rw[h1,Sym.Bj,h2,Sym.mb,Sym.nW];show iD l j 1 _ _=_;rw[Sym.zw (by omega),hB aV,aF];rfl⟩) k
def Gg:bh where
 L:=Nat
 args:=fun n=>[.i .u64 n,.i .i64 10]
 pre:=fun n=>n<1000000000
 res:=fun n=>.s (de n)
 hp:=oR
 hm:=oR.up
def agH:a9 aT.ctx 316 Gg.spec:=by
 refine jy [(373,aaH.spec),(374,XO.spec)] TF.1 ?_;intro(n:Nat) (hn:n<1000000000) H aH dv;refine I ?_;refine b9 (fun h=> ?_) (fun h=> ?_)
 ·have h:n<100:=by omega
  refine I ?_;refine ah 14 (.i .i64 (n:Nat)) rfl (bx rfl (by omega) (by omega)) ?_;refine aL asn n h (I ?_);exact ar rfl (.refl _)
 have kk:n≠0:=by omega
 obtain⟨bU,iG⟩:∃bU,bU=(aR 10 n).length:=⟨_,rfl⟩;have avl:bU<=9:=by rw[iG];exact iW (by decide) hn
 have avk:2<bU:=by rw[iG];exact B4 (by decide) (by omega)
 refine I ?_;refine aL an8 n ⟨kk,hn⟩ ?_ (hh:=dv);refine ah 17 (.i .i64 (bU:Nat)) rfl (by rw[iG];rfl) (I ?_);refine nk 0 kK (List.replicate 24 0) ?_;refine er (Ji (p:=0) (q:=bU) rfl rfl rfl ⟨_,rfl⟩ (zag _) (by omega) (.inr rfl)) ?_;refine ah 19 (.aY 0 1 0 bU 24) rfl (by simp) (I ?_);refine wy T3.1 (by kernel_rfl) ?_;intro H1 i1 s1 hi _;have hi:i1.length=1:=hi;refine I ?_;refine l7 (L:=Nat×ac bv×Nat) (fun(i,l,u)=>jP n bU i l u∧i<8) (fun(i,l,u)=>⟨[.a 449 false 1 bv kK l],1,[(0,.aY 0 1 0 bU 24),(1,.i .u64 (u:Nat)),(4,.i .i64 (i:Nat))]⟩) ?_ ?_
 ·refine c6 (L:=Nat×ac bv×Nat) (fun(i,l,u)=>jP n bU i l u) (fun(i,l,u)=>⟨[.a 449 false 1 bv kK l],1,[(0,.aY 0 1 0 bU 24),(1,.i .u64 (u:Nat)),(4,.i .i64 (i:Nat))]⟩) (fun l=>l.1) [0] (bU,List.replicate 24 0,n) ⟨by simp,by simp,bY _,fun j h1 h2=>by omega⟩ (by show bU<4611686018427387904;omega) (dH ⟨rfl,rfl,rfl,trivial⟩ ⟨_,rfl,rfl,fun _=>rfl⟩ (hp:=by show pinned i1.length _ _=_;rw[hi];rfl)) ?_;rintro⟨i,l,u⟩ g5;have g5:jP n bU i l u:=g5;have VR:=g5.le;have hu:u<=n:=by rw[g5.u];exact zax _ _
  refine I ?_;refine b9 (fun fS=> ?_) (fun fS=> ?_)
  ·obtain⟨ey,rfl⟩:∃ey,i=ey+8:=⟨i-8,by omega⟩;have mA:u<1000000000:=by omega
   have d1:=jP.two (i:=ey+6) g5 (by omega);have d2:=jP.two (i:=ey+4) d1 (by omega);have d3:=jP.two (i:=ey+2) d2 (by omega);have d4:=jP.two (i:=ey) d3 (by omega);have fa:=g5.len;refine ak 23 ?_;refine ah 23 (.i .u32 ((u%100000000:Nat):Int)) rfl (congrArg (fun n:Nat=>ab.i .u32 (n:Int)) (vh mA).1) (ak 25 ?_);refine ah 25 (.i .u64 ((u/100000000:Nat):Int)) rfl (congrArg (fun n:Nat=>ab.i .u64 (n:Int)) (vh mA).2.1) (ak 27 ?_);refine ah 27 (.i .u32 ((u/10000%10000:Nat):Int)) rfl (congrArg (fun n:Nat=>ab.i .u32 (n:Int)) (vh mA).2.2.1) (ak 29 ?_);refine ah 29 (.i .u32 ((u%10000:Nat):Int)) rfl (congrArg (fun n:Nat=>ab.i .u32 (n:Int)) (vh mA).2.2.2.1) (ak 32 ?_);refine ah 32 (.i .u32 ((2*(u/100%100):Nat):Int)) rfl (congrArg (fun n:Nat=>ab.i .u32 (n:Int)) (vh mA).2.2.2.2.1) (ak 35 ?_);refine ah 35 (.i .u32 ((2*(u%100):Nat):Int)) rfl (congrArg (fun n:Nat=>ab.i .u32 (n:Int)) (vh mA).2.2.2.2.2.1) (ak 38 ?_);refine ah 38 (.i .u32 ((2*(u/100/100/100%100):Nat):Int)) rfl (congrArg (fun n:Nat=>ab.i .u32 (n:Int)) (vh mA).2.2.2.2.2.2.1) (ak 41 ?_);refine ah 41 (.i .u32 ((2*(u/100/100%100):Nat):Int)) rfl (congrArg (fun n:Nat=>ab.i .u32 (n:Int)) (vh mA).2.2.2.2.2.2.2) (ak 44 ?_);refine cu 44 (.i .i64 (((ey+6)+1:Nat):Int)) rfl rfl bx ?_;refine ak 49 ?_;refine cu 49 (.i .u32 ((2*(u%100)+1:Nat):Int)) rfl rfl (congrArg (fun n:Nat=>ab.i .u32 (n:Int)) (w2 u)) ?_;refine ot (l:=l9) _ (oc _ (zaf u (by decide))).2.1 ?_;refine lg ?_;refine nC (UInt8.ofNat (48+u%100%10)) ?_;refine ak 47 ?_;refine cu 47 (.i .i64 ((ey+6):Nat)) rfl rfl bx ?_;refine I ?_;refine ot (l:=l9) _ (oc _ (zaf u (by decide))).1 ?_;refine lg ?_;refine nC (UInt8.ofNat (48+u%100/10)) ?_;refine ak 57 ?_;refine cu 57 (.i .i64 (((ey+4)+1:Nat):Int)) rfl rfl bx ?_;refine ak 62 ?_;refine cu 62 (.i .u32 ((2*((u/100)%100)+1:Nat):Int)) rfl rfl (congrArg (fun n:Nat=>ab.i .u32 (n:Int)) (w2 (u/100))) ?_;refine ot (l:=l9) _ (oc _ (zaf (u/100) (by decide))).2.1 ?_;refine lg ?_;refine nC (UInt8.ofNat (48+(u/100)%100%10)) ?_;refine ak 60 ?_;refine cu 60 (.i .i64 ((ey+4):Nat)) rfl rfl bx ?_;refine I ?_;refine ot (l:=l9) _ (oc _ (zaf (u/100) (by decide))).1 ?_;refine lg ?_;refine nC (UInt8.ofNat (48+(u/100)%100/10)) ?_;refine ak 70 ?_;refine cu 70 (.i .i64 (((ey+2)+1:Nat):Int)) rfl rfl bx ?_;refine ak 75 ?_;refine cu 75 (.i .u32 ((2*((u/100/100)%100)+1:Nat):Int)) rfl rfl (congrArg (fun n:Nat=>ab.i .u32 (n:Int)) (w2 (u/100/100))) ?_;refine ot (l:=l9) _ (oc _ (zaf (u/100/100) (by decide))).2.1 ?_;refine lg ?_;refine nC (UInt8.ofNat (48+(u/100/100)%100%10)) ?_;refine ak 73 ?_;refine cu 73 (.i .i64 ((ey+2):Nat)) rfl rfl bx ?_;refine I ?_;refine ot (l:=l9) _ (oc _ (zaf (u/100/100) (by decide))).1 ?_;refine lg ?_;refine nC (UInt8.ofNat (48+(u/100/100)%100/10)) ?_;refine ak 83 ?_;refine cu 83 (.i .i64 ((ey+1:Nat):Int)) rfl rfl bx ?_;refine ak 88 ?_;refine cu 88 (.i .u32 ((2*((u/100/100/100)%100)+1:Nat):Int)) rfl rfl (congrArg (fun n:Nat=>ab.i .u32 (n:Int)) (w2 (u/100/100/100))) ?_;refine ot (l:=l9) _ (oc _ (zaf (u/100/100/100) (by decide))).2.1 ?_;refine lg ?_;refine nC (UInt8.ofNat (48+(u/100/100/100)%100%10)) ?_;refine ak 86 ?_;refine cu 86 (.i .i64 (ey:Nat)) rfl rfl bx ?_;refine I ?_;refine ot (l:=l9) _ (oc _ (zaf (u/100/100/100) (by decide))).1 ?_;refine lg ?_;refine nC (UInt8.ofNat (48+(u/100/100/100)%100/10)) ?_;refine I ?_;exact a1 [0] (ey,_,u/100/100/100/100) ⟨by show ey<ey+8;omega,d4⟩ (dH ⟨rfl,congrArg (fun n:Nat=>some (ab.i .u64 (n:Int))) (show u/100000000=u/100/100/100/100 by rw[zaT,zaT,zaT]),eS,trivial⟩ ⟨_,rfl,rfl,fun _=>rfl⟩ (hp:=by show pinned i1.length _ _=_;rw[hi];rfl))
  ·refine I ?_;exact a1 [0] (i,l,u) ⟨g5,by omega⟩ (dH ⟨rfl,rfl,rfl,trivial⟩ ⟨_,rfl,rfl,fun _=>rfl⟩ (hp:=by show pinned i1.length _ _=_;rw[hi];rfl))
 rintro⟨i,l,u⟩ ⟨g5,fS⟩;have g5:jP n bU i l u:=g5;have fS:i<8:=fS;have hu:u<=n:=by rw[g5.u];exact zax _ _
 refine I ?_;refine ah 12 (.i .u32 (u:Nat)) rfl ev ?_;refine fJ (L:=Nat×ac bv×Nat) (fun(i,l,u)=>jP n bU i l u∧i<4∧u<=n) (fun(i,l,u)=>⟨[.a 449 false 1 bv kK l],1,[(0,.aY 0 1 0 bU 24),(12,.i .u32 (u:Nat)),(4,.i .i64 (i:Nat))]⟩) ?_ ?_
 ·refine b9 (fun au=> ?_) (fun au=> ?_)
  ·obtain⟨ey,rfl⟩:∃ey,i=ey+4:=⟨i-4,by omega⟩;have d1:=jP.two (i:=ey+2) g5 (by omega);have d2:=jP.two (i:=ey) d1 (by omega);have fa:=g5.len;have mA:u<1000000000:=by omega
   have VR:=g5.le;refine ak 103 ?_;refine ah 103 (.i .u32 ((u/10000:Nat):Int)) rfl (congrArg (fun n:Nat=>ab.i .u32 (n:Int)) (Le mA).1) (ak 106 ?_);refine ah 106 (.i .u32 ((2*(u/100%100):Nat):Int)) rfl (congrArg (fun n:Nat=>ab.i .u32 (n:Int)) (Le mA).2.1) (ak 109 ?_);refine ah 109 (.i .u32 ((2*(u%100):Nat):Int)) rfl (congrArg (fun n:Nat=>ab.i .u32 (n:Int)) (Le mA).2.2) (ak 112 ?_);refine cu 112 (.i .i64 (((ey+2)+1:Nat):Int)) rfl rfl bx ?_;refine ak 117 ?_;refine cu 117 (.i .u32 ((2*(u%100)+1:Nat):Int)) rfl rfl (congrArg (fun n:Nat=>ab.i .u32 (n:Int)) (w2 u)) ?_;refine ot (l:=l9) _ (oc _ (zaf u (by decide))).2.1 ?_;refine lg ?_;refine nC (UInt8.ofNat (48+u%100%10)) ?_;refine ak 115 ?_;refine cu 115 (.i .i64 ((ey+2):Nat)) rfl rfl bx ?_;refine I ?_;refine ot (l:=l9) _ (oc _ (zaf u (by decide))).1 ?_;refine lg ?_;refine nC (UInt8.ofNat (48+u%100/10)) ?_;refine ak 125 ?_;refine cu 125 (.i .i64 ((ey+1:Nat):Int)) rfl rfl bx ?_;refine ak 130 ?_;refine cu 130 (.i .u32 ((2*((u/100)%100)+1:Nat):Int)) rfl rfl (congrArg (fun n:Nat=>ab.i .u32 (n:Int)) (w2 (u/100))) ?_;refine ot (l:=l9) _ (oc _ (zaf (u/100) (by decide))).2.1 ?_;refine lg ?_;refine nC (UInt8.ofNat (48+(u/100)%100%10)) ?_;refine ak 128 ?_;refine cu 128 (.i .i64 (ey:Nat)) rfl rfl bx ?_;refine I ?_;refine ot (l:=l9) _ (oc _ (zaf (u/100) (by decide))).1 ?_;refine lg ?_;refine nC (UInt8.ofNat (48+(u/100)%100/10)) ?_;refine I ?_;exact a1 [0] (ey,_,u/100/100) ⟨d2,by show ey<4;omega,zai (zax _ _) (zai (zax _ _) hu)⟩ (dH ⟨rfl,congrArg (fun n:Nat=>some (ab.i .u32 (n:Int))) (show u/10000=u/100/100 by rw[zaT]),eS,trivial⟩ ⟨_,rfl,rfl,fun _=>rfl⟩ (hp:=by show pinned i1.length _ _=_;rw[hi];rfl))
  ·refine I ?_;exact a1 [0] (i,l,u) ⟨g5,by show i<4;omega,hu⟩ (dH ⟨rfl,rfl,rfl,trivial⟩ ⟨_,rfl,rfl,fun _=>rfl⟩ (hp:=by show pinned i1.length _ _=_;rw[hi];rfl))
 rintro⟨i,l,u⟩ ⟨g5,au,hu⟩;have g5:jP n bU i l u:=g5;have au:i<4:=au;refine I ?_;refine fJ (L:=Nat×ac bv×Nat) (fun(i,l,u)=>jP n bU i l u∧i<2∧u<=n) (fun(i,l,u)=>⟨[.a 449 false 1 bv kK l],1,[(0,.aY 0 1 0 bU 24),(12,.i .u32 (u:Nat)),(4,.i .i64 (i:Nat))]⟩) ?_ ?_
 ·refine b9 (fun h2=> ?_) (fun h2=> ?_)
  ·obtain⟨ey,rfl⟩:∃ey,i=ey+2:=⟨i-2,by omega⟩;have d1:=jP.two (i:=ey) g5 (by omega);have fa:=g5.len;have mA:u<1000000000:=by omega
   have VR:=g5.le;refine ak 142 ?_;refine ah 142 (.i .u32 ((2*(u%100):Nat):Int)) rfl (congrArg (fun n:Nat=>ab.i .u32 (n:Int)) (RO mA).1) (ak 144 ?_);refine ah 144 (.i .u32 ((u/100:Nat):Int)) rfl (congrArg (fun n:Nat=>ab.i .u32 (n:Int)) (RO mA).2) (ak 147 ?_);refine cu 147 (.i .i64 ((ey+1:Nat):Int)) rfl rfl bx ?_;refine ak 152 ?_;refine cu 152 (.i .u32 ((2*(u%100)+1:Nat):Int)) rfl rfl (congrArg (fun n:Nat=>ab.i .u32 (n:Int)) (w2 u)) ?_;refine ot (l:=l9) _ (oc _ (zaf u (by decide))).2.1 ?_;refine lg ?_;refine nC (UInt8.ofNat (48+u%100%10)) ?_;refine ak 150 ?_;refine cu 150 (.i .i64 (ey:Nat)) rfl rfl bx ?_;refine I ?_;refine ot (l:=l9) _ (oc _ (zaf u (by decide))).1 ?_;refine lg ?_;refine nC (UInt8.ofNat (48+u%100/10)) ?_;refine I ?_;exact a1 [0] (ey,_,u/100) ⟨d1,by show ey<2;omega,zai (zax _ _) hu⟩ (dH ⟨rfl,rfl,eS,trivial⟩ ⟨_,rfl,rfl,fun _=>rfl⟩ (hp:=by show pinned i1.length _ _=_;rw[hi];rfl))
  ·refine I ?_;exact a1 [0] (i,l,u) ⟨g5,by show i<2;omega,hu⟩ (dH ⟨rfl,rfl,rfl,trivial⟩ ⟨_,rfl,rfl,fun _=>rfl⟩ (hp:=by show pinned i1.length _ _=_;rw[hi];rfl))
 rintro⟨i,l,u⟩ ⟨g5,h2,hu⟩;have g5:jP n bU i l u:=g5;have h2:i<2:=h2;have fa:=g5.len;refine I ?_;refine b9 (fun h1=> ?_) (fun h1=> ?_)
 ·have he:i=1:=by omega
  subst he;have mA:u<10:=by
   rw[g5.u];refine zdO ?_;have:=FN (b:=10) (n:=n) (k:=bU) (by decide) (by omega)
   rwa [show bU=(bU-1)+1 by omega,zak]at this
  have av:=g5.one mA;refine ak 164 ?_;refine ah 164 (.i .u32 ((48+u:Nat):Int)) rfl (congrArg (fun n:Nat=>ab.i .u32 (n:Int)) (show(48+u)%4294967296=48+u by omega)) (ak 165 ?_);refine ah 165 (.i .u8 ((UInt8.ofNat (48+u)).toNat:Int)) rfl (by rw[UInt8.toNat_ofNat']) ?_;refine ix (j:=0) ?_;refine kp (UInt8.ofNat (48+u)) ?_;refine I ?_;exact j3 ⟨.inl rfl,_,rfl,by
   refine I ?_;refine er (Ji (p:=0) (q:=bU) rfl rfl rfl ⟨_,rfl⟩ (zag _) (by omega) (.inr rfl)) ?_;refine ah 23 (.aY 0 1 0 bU 24) rfl (by simp) ?_;refine OA (de n) ?_ (hn:=by rw[av.len];omega) (hl:=av.fin kk iG (by omega));refine I ?_;exact ar rfl (.refl _)⟩
 ·have he:i=0:=by omega
  subst he;have av:=g5;refine I ?_;exact j3 ⟨.inl rfl,_,rfl,by
   refine I ?_;refine er (Ji (p:=0) (q:=bU) rfl rfl rfl ⟨_,rfl⟩ (zag _) (by omega) (.inr rfl)) ?_;refine ah 23 (.aY 0 1 0 bU 24) rfl (by simp) ?_;refine OA (de n) ?_ (hn:=by rw[av.len];omega) (hl:=av.fin kk iG (by omega));refine I ?_;exact ar rfl (.refl _)⟩
def HL:bh where
 L:=Nat
 args:=fun k=>[.i .u64 1,.i .u64 k]
 pre:=fun k=>k<9
 res:=fun k=>.bu [.i .u64 0,.i .u64 k]
def Xg(h:k<9):k=0∨k=1∨k=2∨k=3∨k=4∨k=5∨k=6∨k=7∨k=8:=by omega
def an1:a9 aT.ctx 378 HL.spec:=by
 refine bH [] T4.1 ?_;intro(k:Nat) (U:k<9) H aH;rcases Xg U with rfl|rfl|rfl|rfl|rfl|rfl|rfl|rfl|rfl
 all_goals
  refine I ?_;exact ar rfl (.refl _)
def an3:a9 aT.ctx 317 HL.spec:=by
 refine bH [(378,HL.spec)] TG.1 ?_;intro(k:Nat) (U:k<9) H aH;refine I ?_;refine aL an1 k U (I ?_);exact ar rfl (.refl _)
def G0:bh where
 L:=bv×ac bv×bv
 args:=fun(a,t,c)=>[.s (a::t),.s [c]]
 pre:=fun(a,t,c)=>t.length<=1073741824
 res:=fun(a,t,c)=>.b ([a]==[c])
def alM:a9 aT.ctx 166 G0.spec:=by
 refine bH [] Ls.1 ?_;intro⟨a,t,c⟩ (aN:t.length<=_) H aH;refine ak 10 ?_;refine ah 10 (.b true) rfl (by simp;omega) (I ?_);refine rH (p:=0) (q:=1) [a] ?_ (hq:=by simp);refine I ?_;exact ar rfl (.refl _)
def Mr:a9 aT.ctx 286 G0.spec:=by
 refine bH [(166,G0.spec)] TD.1 ?_;intro⟨a,t,c⟩ (aN:t.length<=_) H aH;refine I ?_;refine aL alM (a,t,c) aN (I ?_);exact ar rfl (.refl _)
def ZW:bh where
 L:=Nat
 args:=fun k=>[.s [48],.i .i64 k]
 pre:=fun k=>k<9
 res:=fun k=>.s (List.replicate k 48)
def ZX:a9 aT.ctx 224 ZW.spec:=by
 refine bH [(317,HL.spec),(286,G0.spec)] S2.1 ?_;intro(k:Nat) (U:k<9) H aH;rcases Xg U with rfl|rfl|rfl|rfl|rfl|rfl|rfl|rfl|rfl
 ·refine I ?_;exact ar rfl (.refl _)
 ·refine I ?_;exact ar rfl (.refl _)
 all_goals
  refine I ?_;refine aL an3 _ U (I ?_);refine mN 48 (j:=0) rfl ?_;refine I ?_;refine aL Mr (32,List.replicate 127 32,48) (jN rfl) (I ?_);refine aL Mr (45,List.replicate 127 45,48) (jN rfl) (I ?_);refine aL Mr (48,List.replicate 63 48,48) (jN rfl) (I ?_);refine rH (p:=0) (l:=List.replicate 64 48) _ ?_ (hl:=rfl) (hq:=by decide);refine I ?_;exact ar rfl (.refl _)
def R3:a9 aT.ctx 223 Gg.spec:=by
 refine jy [(316,Gg.spec)] S1.1 ?_;intro(n:Nat) (hn:n<1000000000) H aH dv;refine I ?_;refine aL agH n hn (I ?_) (hh:=dv);exact ar rfl (.refl _)
def afd(hr:r<1000000000)(hq:q≠0):aR 10 (r+1000000000*q)=ig 9 r++aR 10 q:=by
 have ok:=aoH (Xc 9 r) (gb (b:=10) (by decide) q);have aF:val 10 (ig 9 r++aR 10 q)=r+1000000000*q:=by
  rw[lD,Xe,x4,fP (by decide)];have:r%10^9=r:=dJ (by omega);rw[this]
 have aN:eG (ig 9 r++aR 10 q)=ig 9 r++aR 10 q:=by
  have h:=r1 (b:=10) (by decide) q;rcases zbU (aR 10 q)with h0|⟨cM,d,h0⟩
  ·exact absurd ((nD (by decide)).1 h0) hq
  ·rw[zbV]at h0;have al:d≠0:=by rw[h0]at h;exact(yi (b:=10) h).2
   rw[h0,<-zbO,rN,zaa al]
 rw[<-aF];exact zA (by decide) ok aN
def anM(hr:r<1000000000):(ig 9 r).reverse=List.replicate (9-(dec r).length) 0++dec r:=by
 have hl:(aR 10 r).length<=9:=iW (by decide) (by omega);by_cases h0:r=0
 ·subst h0;decide +kernel
 have e:ig 9 r=aR 10 r++List.replicate (9-(aR 10 r).length) 0:=by
  apply zbD;intro j;have g:∀j,j<9->(ig 9 r)[j]? =some (r/10^j%10):=fun j hj=>by simp[ig,hj]
  by_cases hj:j<9
  ·rw[g j hj];by_cases h1:j<(aR 10 r).length
   ·rw[zaV h1,tj (by decide) h1]
   ·have aE:r/10^j=0:=Decidable.not_not.1 (fun h=>h1 ((xj (by decide)).2 h));rw[zaM (by omega),zeu,zab (by omega),aE]
  ·rw[zbG (by rw[x4];omega),zbG (by simp;omega)]
 have e2:dec r=(aR 10 r).reverse:=by unfold dec;rw[zaa h0]
 rw[e,zbP,List.reverse_replicate,e2,zbp]
def Rm(hr:r<1000000000)(hq:q≠0):de (r+1000000000*q)=de q++(List.replicate (9-(de r).length) 48++de r):=by
 have e:dec (r+1000000000*q)=dec q++(List.replicate (9-(dec r).length) 0++dec r):=by
  rw[<-anM hr];have h1:dec (r+1000000000*q)=(aR 10 (r+1000000000*q)).reverse:=by unfold dec;rw[zaa (by omega)]
  have h2:dec q=(aR 10 q).reverse:=by unfold dec;rw[zaa hq]
  rw[h1,h2,afd hr hq,zbP]
 unfold de;rw[e,Fl,Fl,s6];congr 2;unfold gw;rw[List.map_replicate];rfl
def ff(s:ac bv):ac ab:=[.s s]
def mC(ps:ac (ac bv)):ac bv:=ps.reverse.flatten
def WL(ps:ac (ac bv))(s:ac bv):mC (ps++[s])=s++mC ps:=by unfold mC;rw[zbP];rfl
def am6{ps:ac (ac bv)}(h:k<ps.length):mC (ps.drop k)=mC (ps.drop (k+1))++ps[k]:=by
 unfold mC;rw[hB h,List.reverse_cons,List.flatten_append];simp
def aou(m:Nat):ac (ac bv)->cG
 |[]=>⟨[],0,[(0,c0 m),(3,.nl)]⟩
 |p::ps=>⟨[.a 9 true 1 (ac bv) ff (p::ps)],1,[(0,c0 m),(3,.aY 0 1 0 (p::ps).length (p::ps).length)]⟩
def adz(ps:ac (ac bv))(k:Nat):ac bv->cG
 |[]=>⟨[.c 327 [.v (.pointer none),.nl]],1,[(3,.cc 1 (ac bv) ff ps),(7,.p 0 0),(8,.i .i64 ((k:Int)-1))]⟩
 |c::cs=>⟨[.c 327 [.p 0 0,.aY 1 1 0 (c::cs).length (c::cs).length],.a 5 true 1 bv kK (c::cs)],2,[(3,.cc 1 (ac bv) ff ps),(7,.p 0 0),(8,.i .i64 ((k:Int)-1))]⟩
def am7:∀{ps:ac (ac bv)},(∀p∈ps,p.length<=9)->(mC ps).length<=9*ps.length:=fun{ps} h=>by
 unfold mC;rw[List.length_flatten]
 induction ps with
 |nil=>simp
 |cons p ps aZ=>
  have h1:=h p (by simp);have h2:=aZ (fun q hq=>h q (zaK _ hq));rw[List.reverse_cons,zdv,List.sum_append];simp at h2⊢;omega
def M3(h:dF k n):(aR 10 n).length<=10*k:=iW (by decide) (by
 refine fC (vT h) ?_;rw[zbw];exact zdk (by decide) k)
def Rv{m:Nat}(h:m≠0):(aR 10 (m/1000000000)).length<(aR 10 m).length:=by
 rw[nE (b:=10) (n:=m) (by decide) h,zau];refine Nat.lt_succ_of_le (iW (by decide) (zaX ?_ (FN (by decide) (bY _))));omega
def Rl(h:r<1000000000):(de r).length<=9:=by
 unfold de dec;rw[s6];split
 ·simp
 ·rw[zbp];exact iW (by decide) (by omega)
def X0:bh where
 L:=Nat
 args:=fun n=>[c0 n]
 pre:=fun n=>dF 1073741823 n
 res:=fun n=>.s (de n)
 hp:=oR
 hm:=oR.up
def X1:a9 aT.ctx 124 X0.spec:=by
 refine jy [(159,OZ.spec),(223,Gg.spec),(224,ZW.spec)] Sb.1 ?_;intro(n:Nat) (hn:dF _ n) H aH dv;refine I ?_;refine b9 (fun h=> ?_) (fun h=> ?_)
 ·have h0:n=0:=rp.1 (by omega);subst h0;refine I ?_;exact ar rfl (.refl _)
 have kk:n≠0:=fun e=>h (by rw[e,fG];rfl);refine I ?_;refine l7 (L:=ac (ac bv)) (fun ps=>mC ps=de n∧ps≠[]∧ps.length<=10737418230∧∀p∈ps,p≠[]∧p.length<=9) (fun ps=>⟨[],0,[(3,.cc 1 (ac bv) ff ps)]⟩) ?_ ?_
 ·refine c6 (L:=Nat×ac (ac bv)) (fun(m,ps)=>dF 1073741823 m∧ps.length+(aR 10 m).length<=10737418230∧de n=(if m=0 then[]else de m)++mC ps∧(m=0->ps≠[])∧∀p∈ps,p≠[]∧p.length<=9) (fun(m,ps)=>aou m ps) (fun l=>(aR 10 l.1).length) [] (n,[]) ?_ ?_ eP ?_
  ·exact⟨hn,by show 0+(aR 10 n).length<=_;have:=M3 hn;omega,by rw[zaa kk];simp[mC],fun h=>absurd h kk,fun p hp=>by simp at hp⟩
  ·show(aR 10 n).length<bQ+1;have:=M3 hn;unfold bQ;omega
  rintro⟨m,ps⟩ ⟨aG,aI,a4,b2,cx⟩;cases ps with
  |nil=>
   refine I ?_;refine b9 (fun hm=> ?_) (fun hm=> ?_)
   ·have hm:m≠0:=fun e=>by rw[e,fG]at hm;simp at hm
    have hr:m%1000000000<1000000000:=zaf _ (by decide);have vr:=Rv hm;have Mc:=Rl hr;have zZ:0<(de (m%1000000000)).length:=zbf.2 (th _);refine I ?_;refine aL O0 (m,1000000000) ⟨cD aG (by decide),by show 0<1000000000;decide,by show 1000000000<4294967296;decide⟩ (ak 21 ?_);refine ah 21 (.i .u64 ((m%1000000000:Nat):Int)) rfl (congrArg (fun n:Nat=>ab.i .u64 (n:Int)) (dJ (zdP hr (by decide)))) ?_;refine aL R3 (m%1000000000) hr ?_ (hh:=dv);have CT:m%1000000000+1000000000*(m/1000000000)=m:=zes _ _;generalize m%1000000000=r at *;generalize hq:m/1000000000=q at *;refine ak 6 ?_
    iterate 3 refine gW ?_
    refine fJ (L:=ac bv) (fun dy=>dy≠[]∧dy.length<=9∧de m=(if q=0 then[]else de q)++dy) (fun dy=>⟨[],0,[(3,.nl),(4,c0 q),(6,.s dy)]⟩) ?_ ?_
    ·refine I ?_;refine b9 (fun g7=> ?_) (fun g7=> ?_)
     ·have g7:q≠0:=fun e=>by rw[e,fG]at g7;simp at g7
      obtain⟨z,aE⟩:∃z:Nat,z=9-(de r).length:=⟨_,rfl⟩;refine ak 28 ?_;refine ah 28 (.i .i64 (z:Nat)) rfl bx ?_;refine aL ZX z (by show z<9;omega) (I ?_);refine sG ?_ (hl:=by rw[zbq];omega);refine I ?_;refine a1 [] (List.replicate z 48++de r) ⟨by simp[th],by rw[zaG,zbq];omega,by rw[zaa g7,<-CT,aE];exact Rm hr g7⟩ eP
     ·have g7:q=0:=rp.1 (by omega);refine I ?_;exact a1 [] (de r) ⟨th _,Mc,by rw[zab g7,<-CT,g7];rfl⟩ eP
    rintro dy ⟨a2,bw,dr⟩;refine I ?_;refine wx ff [dy] (j4 (R:=ff) [dy] rfl) ?_;refine I ?_;refine a1 [1] (q,[dy]) ⟨by show(aR 10 q).length<(aR 10 m).length;exact vr,so aG (by rw[<-hq];exact zax _ _),by show 1+(aR 10 q).length<=_;simp at aI;omega,by rw[a4,zaa hm,dr,zbO,show mC [dy]=dy++mC []from WL [] dy],fun _=>by simp,?_⟩ dD;intro x J;have:x=dy:=by simpa using J
    subst this;exact⟨a2,bw⟩
   ·have hm:m=0:=rp.1 (by omega);subst hm;exact absurd rfl (b2 rfl)
  |cons p ps=>
   refine I ?_;refine b9 (fun hm=> ?_) (fun hm=> ?_)
   ·have hm:m≠0:=fun e=>by rw[e,fG]at hm;simp at hm
    have hr:m%1000000000<1000000000:=zaf _ (by decide);have vr:=Rv hm;have Mc:=Rl hr;have zZ:0<(de (m%1000000000)).length:=zbf.2 (th _);refine I ?_;refine aL O0 (m,1000000000) ⟨cD aG (by decide),by show 0<1000000000;decide,by show 1000000000<4294967296;decide⟩ (ak 21 ?_);refine ah 21 (.i .u64 ((m%1000000000:Nat):Int)) rfl (congrArg (fun n:Nat=>ab.i .u64 (n:Int)) (dJ (zdP hr (by decide)))) ?_;refine aL R3 (m%1000000000) hr ?_ (hh:=dv);have CT:m%1000000000+1000000000*(m/1000000000)=m:=zes _ _;generalize m%1000000000=r at *;generalize hq:m/1000000000=q at *;refine ak 6 ?_
    iterate 3 refine gW ?_
    refine fJ (L:=ac bv) (fun dy=>dy≠[]∧dy.length<=9∧de m=(if q=0 then[]else de q)++dy) (fun dy=>⟨[.a 9 true 1 (ac bv) ff (p::ps)],1,[(3,.aY 0 1 0 (p::ps).length (p::ps).length),(4,c0 q),(6,.s dy)]⟩) ?_ ?_
    ·refine I ?_;refine b9 (fun g7=> ?_) (fun g7=> ?_)
     ·have g7:q≠0:=fun e=>by rw[e,fG]at g7;simp at g7
      obtain⟨z,aE⟩:∃z:Nat,z=9-(de r).length:=⟨_,rfl⟩;refine ak 28 ?_;refine ah 28 (.i .i64 (z:Nat)) rfl bx ?_;refine aL ZX z (by show z<9;omega) (I ?_);refine sG ?_ (hl:=by rw[zbq];omega);refine I ?_;refine a1 [0] (List.replicate z 48++de r) ⟨by simp[th],by rw[zaG,zbq];omega,by rw[zaa g7,<-CT,aE];exact Rm hr g7⟩ dD
     ·have g7:q=0:=rp.1 (by omega);refine I ?_;exact a1 [0] (de r) ⟨th _,Mc,by rw[zab g7,<-CT,g7];rfl⟩ dD
    rintro dy ⟨a2,bw,dr⟩;refine I ?_;have jr:ps.length<=10737418230:=by simp at aI;omega
    refine wv (R:=ff) [dy] (j4 (R:=ff) [dy] rfl) ?_;refine I ?_;refine a1 [2] (q,p::(ps++[dy])) ⟨by show(aR 10 q).length<(aR 10 m).length;exact vr,so aG (by rw[<-hq];exact zax _ _),by simp at aI ⊢;omega,by rw[a4,zaa hm,dr,zbO,show mC (p::(ps++[dy]))=dy++mC (p::ps)from WL (p::ps) dy],fun _=>by simp,?_⟩ (Ew ⟨rfl,congrArg (fun k=>some (ab.aY 2 1 0 k k)) (by simp),trivial⟩ ⟨_,rfl,rfl,fun _=>rfl⟩);intro x J;rcases zbE.1 (show x∈(p::ps)++[dy]from J)with h|h
    ·exact cx x h
    ·have:x=dy:=by simpa using h
     subst this;exact⟨a2,bw⟩
   ·have hm:m=0:=rp.1 (by omega);subst hm;refine Eh 3 ?_;refine I ?_;exact a1 [] (p::ps) ⟨by rw[a4,zab rfl];rfl,by simp,by simp at aI ⊢;omega,cx⟩ eP
 rintro ps ⟨aG,aI,a4,b2⟩;have cx:0<ps.length:=zbf.2 aI;have WK:∀k,(mC (ps.drop k)).length<=9*ps.length:=fun k=>zai (am7 fun p hp=>(b2 p (zcF hp)).2) (lF _ (by simp));refine I ?_;refine c6 (L:=Nat×ac bv) (fun(k,bS)=>k<=ps.length∧mC (ps.drop k)=bS) (fun(k,bS)=>adz ps k bS) (fun l=>l.1) [0] (ps.length,[]) ⟨bY _,by rw[zcD];rfl⟩ (by show ps.length<bQ+1;unfold bQ;omega) (dH ⟨rfl,rfl,eS,trivial⟩ ⟨_,rfl,rfl⟩) ?_;rintro⟨k,bS⟩ ⟨U,hb⟩;cases k with
 |zero=>
  rw[zaq,aG]at hb;cases bS with
  |nil=>exact absurd hb (th n)
  |cons c cs=>
   have hX:=WK 0;rw[zaq,aG,hb]at hX;refine I ?_;refine wy S3.1 (by kernel_rfl) ?_;intro H1 i1 s1 _ _;refine I ?_;refine aeV ?_ (hc:=by simp);refine I ?_;refine aeX ?_ (h0:=by simp) (hb:=by omega);refine I ?_;refine j3 ⟨.inr rfl,_,rfl,?_⟩;refine I ?_;exact ar rfl (.of (by show ab.s (c::cs)=ab.s (de n);rw[hb]))
 |succ m=>
  have hm:m<ps.length:=by omega
  obtain⟨a2,bw⟩:=b2 _ (dV hm);have hj:=am6 hm;rw[hb]at hj;have hX:=WK (m+1);rw[hb]at hX;have kC:ps[m]? =some ps[m]:=bF hm;generalize ps[m]=s at *;cases bS with
  |nil=>
   obtain⟨c,cs,rfl⟩:∃c cs,s=c::cs:=by cases s with
    |nil=>exact absurd rfl a2
    |cons c cs=>exact⟨c,cs,rfl⟩
   refine ah 8 (.i .i64 (m:Nat)) rfl ev (I ?_);refine ah 41 (.b true) rfl (by simp) (I ?_);refine dP (c::cs) kC ?_;refine I ?_;refine wy Lt.1 (by kernel_rfl) ?_;intro H1 i1 s1 _ _;refine I ?_;refine wy Lu.1 (by kernel_rfl) ?_;intro JP i2 s2 _ _;refine I ?_;refine er (afY rfl rfl) ?_;refine I ?_;refine er (ad4 rfl rfl (by decide)) ?_;refine I ?_;refine er (aeJ rfl rfl rfl) ?_;refine I ?_;refine j3 ⟨.inl rfl,_,rfl,?_⟩;refine I ?_;refine ap4 ?_;refine I ?_;refine j3 ⟨.inr rfl,_,rfl,?_⟩;refine I ?_;exact a1 [0,1] (m,c::cs) ⟨by simp,by omega,hj⟩ (nq ⟨rfl,rfl,eS,trivial⟩ ⟨_,rfl,rfl⟩ ⟨_,rfl,rfl,fun _=>rfl⟩)
  |cons oY bS=>
   have kA:bS.length<=96636764070:=by simp at hX;omega
   have avt:s.length<=9:=bw;refine ah 8 (.i .i64 (m:Nat)) rfl ev (I ?_);refine ah 41 (.b true) rfl (by simp) (I ?_);refine dP s kC ?_;refine I ?_;refine wy Lt.1 (by kernel_rfl) ?_;intro H1 i1 s1 _ _;refine I ?_;refine wy Lu.1 (by kernel_rfl) ?_;intro JP i2 s2 _ _;refine I ?_;refine er (afZ rfl rfl) ?_;refine I ?_;refine j3 ⟨.inl rfl,_,rfl,?_⟩;refine I ?_;refine ap3 ?_ (h0:=a2);refine I ?_;refine j3 ⟨.inr rfl,_,rfl,?_⟩;refine I ?_;exact a1 [0,2] (m,oY::(bS++s)) ⟨by simp,by omega,hj⟩ (as1 ⟨rfl,rfl,eS,trivial⟩ ⟨_,rfl,congrArg (fun k=>ay.c 327 [.p 0 0,.aY 2 1 0 k k]) (by simp;omega)⟩ ⟨_,rfl,rfl,fun _=>rfl⟩)
def FL(h:dF k n):(de n).length<=10*k+1:=by
 have:=M3 h;unfold de dec;rw[s6];split
 ·simp
 ·rw[zbp];omega
def aah:bh where
 L:=Rat
 args:=fun x=>[bG x]
 pre:=fun x=>cA 268435456 x
 res:=fun x=>.s (il x)
 hp:=oR
 hm:=oR.up
def aqI:a9 aT.ctx 60 aah.spec:=by
 refine jy [(124,X0.spec)] Uw.1 ?_;intro(x:Rat) (J:cA _ x) H aH dv;have fa:=FL J.1;have g8:=FL J.2;refine I ?_;refine aL X1 x.num.natAbs (cD J.1 (by decide)) (ak 3 ?_) (hh:=dv)
 iterate 3 refine gW ?_
 obtain⟨u,hu⟩:∃u,u=(if x.num<0 then[45]else[])++de x.num.natAbs:=⟨_,rfl⟩;have tO:u.length<=10*268435456+2:=by
  rw[hu,zaG];have:(if x.num<0 then([45]:ac bv)else[]).length<=1:=by split<;>simp
  omega
 refine fJ (L:=Unit) (fun _=>True) (fun _=>⟨[.c 42 (iS x)],1,[(1,.p 0 0),(3,.s u)]⟩) ?_ ?_
 ·refine I ?_;refine b9 (fun h=> ?_) (fun h=> ?_)
  ·refine I ?_;refine sG ?_ (hl:=by show 1+(de _).length<=_;omega);refine I ?_;exact a1 [0] () trivial (dH ⟨rfl,by rw[hu,zab h];rfl,trivial⟩ ⟨_,rfl,rfl⟩)
  ·refine I ?_;exact a1 [0] () trivial (dH ⟨rfl,by rw[hu,zaa h];rfl,trivial⟩ ⟨_,rfl,rfl⟩)
 intro _ _;refine ak 12 ?_;by_cases al:x.den=1
 ·refine ah 12 (.hK 1 Nat eY []) rfl (by show rZ x.den=_;rw[al];rfl) (I ?_);refine ar rfl (.of ?_);show ab.s u=ab.s (il x);unfold il;rw[<-hu,zab al,zcs]
 ·refine ah 12 (.hK 1 Nat eY (aR 4294967296 x.den)) rfl (B2 al) ?_;have cl:(aR 4294967296 x.den).isEmpty=false:=zdC.2 (fun e=>x.den_nz ((nD (by decide)).1 e));refine I ?_;refine ZO rfl (by show kd true _=true;rw[cl];rfl) ?_;refine ak 16 ?_;refine Ej 16 (c0 x.den) rfl (Rq al) ?_;refine aL X1 x.den (cD J.2 (by decide)) ?_ (hh:=dv);refine sG ?_ (hl:=by show 1+(de _).length<=_;omega);refine sG ?_ (hl:=by rw[zaG];show u.length+(1+(de _).length)<=_;omega);refine I ?_;refine ar rfl (.of ?_);show ab.s (u++([47]++de x.den))=ab.s (il x);unfold il;rw[<-hu,zaa al];rfl
