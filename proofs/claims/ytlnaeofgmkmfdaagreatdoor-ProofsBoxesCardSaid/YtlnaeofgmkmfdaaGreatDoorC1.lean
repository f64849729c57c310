/- What the functions of the program and of the document compute, for every input (part 1); conditions as in the statements. -/
import Derived.Test.YtlnaeofgmkmfdaaGreatDoorS1
import Derived.Test.YtlnaeofgmkmfdaaGreatDoorT
import Derived.Test.YtlnaeofgmkmfdaaGreatDoorL
set_option linter.all false
namespace Go.an.a7
open Go.an
set_option maxRecDepth 100000
set_option maxHeartbeats 4000000
variable{f:co}{S:bU}
def b3(K:ac (Nat×eE))(xf:cJ)(h:∀l,S.pre l->∀H aN,aW.ok ⟨bH aS (bO aX.ctx (cn K)) (b0+1),b0+1,f,H,[],aN,Fin S l xf.res⟩ ⟨[],.c xf.body,⟨[],0,jB 0 (S.args l)⟩⟩)
 (aa:aS.get f=some xf:=by kernel_rfl) (hl:∀l,(S.args l).length<=xf.aI:=by exact fun _=>jw rfl):bD aX.ctx f S.spec:=agZ aX.ek eM (cn K) aa hl h
def Ds(K:ac (Nat×eE))(xf:cJ)(h:∀l,S.pre l->∀H aN,S.hp H->aW.ok ⟨bH aS (bO aX.ctx (cn K)) (b0+1),b0+1,f,H,[],aN,Fin S l xf.res⟩ ⟨[],.c xf.body,⟨[],0,jB 0 (S.args l)⟩⟩)
 (aa:aS.get f=some xf:=by kernel_rfl) (hl:∀l,(S.args l).length<=xf.aI:=by exact fun _=>jw rfl):bD aX.ctx f S.spec:=Ha aX.ek eM (cn K) aa hl h
def Sr(K:ac (Nat×eE))(xf:cJ){S:kA}(h:∀l,S.pre l->∀H i0 aN,i0.length=(S.own l).length->aW.ok ⟨bH aS (bO aX.ctx (cn K)) (b0+1),b0+1,f,H,i0,aN,KY S l xf.res⟩ ⟨[],.c xf.body,⟨S.own l,(S.own l).length,jB 0 (S.args l)⟩⟩)
 (aa:aS.get f=some xf:=by kernel_rfl) (hl:∀l,(S.args l).length<=xf.aI:=by exact fun _=>jw rfl):bD aX.ctx f S.spec:=agW aX.ek eM (cn K) aa hl h
def fR(d:Nat):ac aj:=[.i .u32 d]
def dr(ds:ac Nat):aj:=.bq 1 Nat fR ds
def dH(n:Nat):aj:=dr (bb 4294967296 n)
def vJ{n m:Int}(h:n=m)(I: -9223372036854775808<=n)(U:n<9223372036854775808):IntKind.i64.wrap n=m:=by rw[hK I U,h]
def adW(n:Int):IntKind.u64.wrap n=n%18446744073709551616:=by
 rw[<-l3];exact tV _ _ (by decide)
def KG:bU where
 L:=ac Nat
 args:=fun ds=>[dr ds]
 pre:=fun ds=>ds.length<=1099511627776
 res:=fun ds=>dr (e1 ds)
def avk:bD aX.ctx 327 KG.spec:=by
 refine b3 [] VH.1 ?_;intro(ds:ac Nat) (hp:ds.length<=1099511627776) H aN;refine J ?_;refine df (fun es:ac Nat=>e1 es=e1 ds∧es.length<=ds.length) (fun es=>⟨[],0,[(0,dr es)]⟩) List.length [] ds ⟨rfl,cf _⟩ (by show ds.length<b0+1;unfold b0;omega) dW ?_;rintro es ⟨I,U⟩;rcases zcy es with rfl|⟨dj,d,rfl⟩
 ·refine J ?_;exact aA rfl (.of (by rw[show KG.res ds=dr (e1 ds)from rfl,<-I];rfl))
 ·rw[zcz]at *;have hl:(dj++[d]).length=dj.length+1:=by simp
  refine J ?_;refine aB 6 (.b true) rfl (by simp) (J ?_);refine aB 10 (.i .i64 (dj.length:Nat)) rfl (by rw[hl,hK]<;>simp<;>omega) ?_;refine hd (N0 rfl rfl (show(dj++[d])[dj.length]? =some d by simp)) ?_;refine J ?_;refine zL rfl (fun ay=> ?_) (fun ay=> ?_)
  ·have ay:d=0:=by simpa using ay
   refine J ?_;refine aB 18 (.i .i64 (dj.length:Nat)) rfl (by rw[hl,hK]<;>simp<;>omega) ?_;refine hd (Qt (p:=0) rfl rfl ⟨_,rfl⟩ (zaf _) (by simp)) ?_;refine J ?_;refine br [] dj ⟨by simp,by rw[<-I,tT,zab ay],by omega⟩ (kx ⟨?_,trivial⟩);simp[ea,lZ,dr]
  ·have ay:d≠0:=by simpa using ay
   refine J ?_;exact aA rfl (.of (by rw[show KG.res ds=dr (e1 ds)from rfl,<-I,tT,zaa ay]))
def um:bU where
 L:=ac Nat
 args:=fun ds=>[dr ds]
 pre:=fun ds=>dg 4294967296 ds∧ds.length<=1099511627776
 res:=fun ds=>dH (val 4294967296 ds)
def uo:bD aX.ctx 242 um.spec:=by
 refine b3 [(327,KG.spec)] U0.1 ?_;intro(ds:ac Nat) ⟨(I:dg 4294967296 ds),(U:ds.length<=_)⟩ H aN;refine J ?_;refine a9 avk ds U (J ?_);exact aA rfl (.of (by show dr (e1 ds)=dr _;rw[zV (by decide) I]))
def B3:bU where
 L:=Nat
 args:=fun n=>[.i .u64 n]
 pre:=fun n=>n<18446744073709551616
 res:=fun n=>dH n
def vn:bD aX.ctx 158 B3.spec:=by
 refine b3 [(242,um.spec)] UB.1 ?_;intro(n:Nat) (hp:n<18446744073709551616) H aN;refine J ?_;refine abz 0 (z:=1) (R:=fR) [n%4294967296,n/4294967296] rfl (by show[aj.i _ _,aj.i _ _]=[aj.i _ _,aj.i _ _];rw[show n/2^32%4294967296=n/4294967296 by omega]) (fun _=>rfl) ?_;refine abC 8 [n%4294967296,n/4294967296] rfl rfl rfl rfl (by decide) (fun _=>rfl) ?_;refine a9 uo [n%4294967296,n/4294967296] ⟨fun x aa=> ?_,by simp⟩ ?_
 ·simp at aa;rcases aa with rfl|rfl<;>omega
 refine J ?_;exact aA rfl (.of (by show dH _=dH _;simp[val];congr 1;omega))
def eO(k n:Nat):Prop:=(bb 4294967296 n).length<=k
variable{k b x j a:Nat}{us:ac Nat}{n:Nat}{l:ac Nat}{X d s m r y o B h c P R v i V:Nat}{neg:Bool}{p q:Nat}
def Lg:bU where
 L:=Nat×Nat
 args:=fun(a,b)=>[dH a,dH b]
 pre:=fun(a,b)=>eO 1073741824 a∧eO 1073741824 b
 res:=fun(a,b)=>dH (a+b)
def Rm:bD aX.ctx 240 Lg.spec:=by
 refine b3 [(242,um.spec)] UY.1 ?_;intro⟨a,b⟩ ⟨(ha:(bb _ a).length<=_),(hb:(bb _ b).length<=_)⟩ H aN;show aW.ok _ ⟨_,_,⟨_,_,[(0,dr (bb 4294967296 a)),(1,dr (bb 4294967296 b))]⟩⟩;refine J ?_;refine ks (fun((xs:ac Nat),(aw:ac Nat))=>aw.length<=xs.length∧xs.length<=1073741824∧dg 4294967296 xs∧dg 4294967296 aw∧val 4294967296 xs+val 4294967296 aw=a+b) (fun(xs,aw)=>⟨[],0,[(0,dr xs),(1,dr aw)]⟩) ?_ ?_
 ·refine cV (fun h=> ?_) (fun h=> ?_)
  ·have h:(bb 4294967296 a).length<(bb 4294967296 b).length:=by omega
   refine J ?_;exact br [] (bb _ b,bb _ a) ⟨by omega,hb,hg (by decide) _,hg (by decide) _,by rw[gO (by decide),gO (by decide),zbY]⟩ dW
  ·have h:(bb 4294967296 b).length<=(bb 4294967296 a).length:=by omega
   refine J ?_;exact br [] (bb _ a,bb _ b) ⟨h,ha,hg (by decide) _,hg (by decide) _,by rw[gO (by decide),gO (by decide)]⟩ dW
 rintro⟨xs,aw⟩ ⟨hl,aa,I,U,ah⟩;refine J ?_;refine aB 18 (.i .i64 ((xs.length+1:Nat):Int)) rfl cX ?_;refine qn fR 0 ?_;refine J ?_;refine df (L:=Nat×ac Nat×Nat) (fun(i,outs,c)=>i<=xs.length∧outs.length=xs.length+1∧dg 4294967296 outs∧c<=1∧val 4294967296 (outs.take i)+4294967296^i*c=val 4294967296 (xs.take i)+val 4294967296 (aw.take i))
  (fun((i:Nat),(outs:ac Nat),(c:Nat))=>⟨[.a 215 false 1 Nat fR outs],1,[(0,dr xs),(1,dr aw),(5,.a5 0 1 0 (xs.length+1) (xs.length+1)),(6,.i .u64 c),(20,dr xs),(21,.i .i64 xs.length),(22,.i .i64 i)]⟩)
  (fun l=>xs.length-l.1) [0] (0,List.replicate (xs.length+1) 0,0) ⟨by omega,by simp,tB (by decide) _,by omega,by simp[val]⟩ (by show xs.length-0<b0+1;unfold b0;omega) dX ?_
 rintro⟨i,outs,c⟩ ⟨ae,ho,bR,hc,aE⟩;refine J ?_;refine cV (fun h=> ?_) (fun h=> ?_)
 ·have h:i<xs.length:=by omega
  have EN:xs[i]? =some xs[i]:=bg h;have aT:=I _ (dp h);refine J ?_;refine dv xs[i] EN ?_;refine J ?_;refine ks (fun y=>y<4294967296∧val 4294967296 (aw.take (i+1))=val 4294967296 (aw.take i)+4294967296^i*y) (fun(y:Nat)=>⟨[.a 215 false 1 Nat fR outs],1,[(0,dr xs),(1,dr aw),(5,.a5 0 1 0 (xs.length+1) (xs.length+1)),(6,.i .u64 ((c+xs[i]+y:Nat):Int)),(7,.i .i64 i),(20,dr xs),(21,.i .i64 xs.length),(22,.i .i64 i)]⟩) ?_ ?_
  ·refine cV (fun aG=> ?_) (fun aG=> ?_)
   ·have aG:i<aw.length:=by simpa using aG
    have EO:aw[i]? =some aw[i]:=bg aG;have Et:=U _ (dp aG);refine J ?_;refine dv aw[i] EO ?_;refine J ?_;refine br [0] aw[i] ⟨Et,iN aG⟩ (fh ⟨rfl,rfl,rfl,?_,rfl,rfl,rfl,rfl,trivial⟩ ⟨_,rfl,rfl,fun _=>rfl⟩);exact mZ
   ·have aG:aw.length<=i:=by simpa using aG
    refine J ?_;refine br [0] 0 ⟨by decide,by rw[kU (by omega),kU aG];simp⟩ (fh ⟨rfl,rfl,rfl,?_,rfl,rfl,rfl,rfl,trivial⟩ ⟨_,rfl,rfl,fun _=>rfl⟩);exact mZ
  rintro y ⟨aJ,gy⟩;refine J ?_;refine kt ?_;refine mq ((c+xs[i]+y)%4294967296) ?_;refine J ?_;refine br [0] (i+1,outs.set i ((c+xs[i]+y)%4294967296),(c+xs[i]+y)/4294967296) ⟨by show xs.length-(i+1)<xs.length-i;omega,by omega,by simp[ho],nz bR _ (zai _ (by decide)),by omega,?_⟩ (fh ⟨rfl,rfl,rfl,rfl,rfl,rfl,?_,trivial⟩ ⟨_,rfl,rfl,fun _=>rfl⟩)
  ·rw[iN (l:=outs.set i _) (by simp;omega),iN h,gy,zaV (cf _),zaT,zan];exact Rp (by decide) aE
  ·exact fI
 ·have h:i=xs.length:=by have:xs.length<=i:=by omega
                         omega
  subst h;refine J ?_;refine kt ?_;refine mq (c%4294967296) ?_;refine J ?_;refine iw 56 ?_;refine a9 uo (outs.set xs.length (c%4294967296)) ⟨nz bR _ (zai _ (by decide)),by simp[ho];omega⟩ (J ?_);refine aA rfl (.of ?_);show dH _=dH _;congr 1;rw[<-kU (i:=xs.length+1) (by simp[ho]),iN (by simp;omega),zaV (cf _),zaT,hy (by omega),aE,kU (cf _),kU hl,ah]
def ac3:bU where
 L:=Nat×Nat
 args:=fun(a,b)=>[dH a,dH b]
 pre:=fun(a,b)=>eO 1073741824 a∧b<=a
 res:=fun(a,b)=>dH (a-b)
def Ot(h:b<=a):(bb 4294967296 b).length<=(bb 4294967296 a).length:=by
 have I:=ll (hg (b:=4294967296) (by decide) a);rw[gO (by decide)]at I;exact mD (by decide) (by omega)
def ac5:bD aX.ctx 241 ac3.spec:=by
 refine b3 [(242,um.spec)] UZ.1 ?_;intro⟨a,b⟩ ⟨(ha:(bb _ a).length<=_),(hb:b<=a)⟩ H aN;have hl:=Ot hb;have I:=hg (b:=4294967296) (by decide) a;have U:=hg (b:=4294967296) (by decide) b;have jL:=gO (b:=4294967296) (by decide) a;have lG:=gO (b:=4294967296) (by decide) b;show aW.ok _ ⟨_,_,⟨_,_,[(0,dr (bb 4294967296 a)),(1,dr (bb 4294967296 b))]⟩⟩;generalize bb 4294967296 a=xs at *;generalize bb 4294967296 b=aw at *;refine J ?_;refine qn fR 0 ?_;refine J ?_;refine df (L:=Nat×ac Nat×Nat) (fun(i,outs,c)=>i<=xs.length∧outs.length=xs.length∧dg 4294967296 outs∧c<=1∧val 4294967296 (xs.take i)+4294967296^i*c=val 4294967296 (outs.take i)+val 4294967296 (aw.take i))
  (fun((i:Nat),(outs:ac Nat),(c:Nat))=>⟨[.a 215 false 1 Nat fR outs],1,[(0,dr xs),(1,dr aw),(5,.a5 0 1 0 xs.length xs.length),(6,.i .u64 c),(13,dr xs),(14,.i .i64 xs.length),(15,.i .i64 i)]⟩)
  (fun l=>xs.length-l.1) [0] (0,List.replicate xs.length 0,0) ⟨by omega,by simp,tB (by decide) _,by omega,by simp[val]⟩ (by show xs.length-0<b0+1;unfold b0;omega) dX ?_
 rintro⟨i,outs,c⟩ ⟨ae,ho,bR,hc,aE⟩;refine J ?_;refine cV (fun h=> ?_) (fun h=> ?_)
 ·have h:i<xs.length:=by omega
  have EN:xs[i]? =some xs[i]:=bg h;have aT:=I _ (dp h);refine J ?_;refine dv xs[i] EN ?_;refine J ?_;refine ks (fun y=>y<4294967296∧val 4294967296 (aw.take (i+1))=val 4294967296 (aw.take i)+4294967296^i*y) (fun(y:Nat)=>⟨[.a 215 false 1 Nat fR outs],1,[(0,dr xs),(1,dr aw),(5,.a5 0 1 0 xs.length xs.length),(9,.i .u64 (((xs[i]+18446744073709551616-c-y)%18446744073709551616:Nat):Int)),(7,.i .i64 i),(13,dr xs),(14,.i .i64 xs.length),(15,.i .i64 i)]⟩) ?_ ?_
  ·refine cV (fun aG=> ?_) (fun aG=> ?_)
   ·have aG:i<aw.length:=by simpa using aG
    have EO:aw[i]? =some aw[i]:=bg aG;have Et:=U _ (dp aG);refine J ?_;refine dv aw[i] EO ?_;refine J ?_;exact br [0] aw[i] ⟨Et,iN aG⟩ (fh ⟨rfl,rfl,rfl,mZ,rfl,rfl,rfl,rfl,trivial⟩ ⟨_,rfl,rfl,fun _=>rfl⟩)
   ·have aG:aw.length<=i:=by simpa using aG
    refine J ?_;exact br [0] 0 ⟨by decide,by rw[kU (by omega),kU aG];simp⟩ (fh ⟨rfl,rfl,rfl,mZ,rfl,rfl,rfl,rfl,trivial⟩ ⟨_,rfl,rfl,fun _=>rfl⟩)
  rintro y ⟨aJ,gy⟩;generalize aV:(xs[i]+18446744073709551616-c-y)%18446744073709551616=t;refine J ?_;refine kt ?_;refine mq (t%4294967296) ?_;refine J ?_;refine br [0] (i+1,outs.set i (t%4294967296),t/9223372036854775808) ⟨by show xs.length-(i+1)<xs.length-i;omega,by omega,by simp[ho],nz bR _ (zai _ (by decide)),by omega,?_⟩ (fh ⟨rfl,rfl,rfl,rfl,rfl,rfl,fI,trivial⟩ ⟨_,rfl,rfl,fun _=>rfl⟩);rw[iN (l:=outs.set i _) (by simp;omega),iN h,gy,zaV (cf _),zaT,zan];exact ac6 aE (by omega)
 ·have h:i=xs.length:=by have:xs.length<=i:=by omega
                         omega
  subst h;refine J ?_;refine iw 43 ?_;refine a9 uo outs ⟨bR,by omega⟩ (J ?_);refine aA rfl (.of ?_);show dH _=dH _;congr 1;rw[kU (cf _),kU (l:=outs) (by omega),kU hl]at aE;have ag:=ll bR;rw[ho]at ag;have j4:c=0:=by
   rcases zaj 0 c with h|h
   ·have:c=1:=by omega
    rw[this]at aE;omega
   ·omega
  rw[j4]at aE;show _=a-b;omega
def AB:bU where
 L:=Nat×Nat
 args:=fun(a,b)=>[dH a,dH b]
 pre:=fun(a,b)=>eO 1073741824 a∧eO 1073741824 b
 res:=fun(a,b)=>.i .i64 (ji a b)
def AD(h:a<b):ji a b= -1:=by unfold ji;rw[zab h]
def G4(h:b<a):ji a b=1:=by unfold ji;rw[zaa (by omega),zaa (by omega)]
def SO(a:Nat):ji a a=0:=by unfold ji;simp
def Hm(h:m<l.length):l=l.take m++l[m]::l.drop (m+1):=by
 rw[<-hx h,zbp]
def G3:bD aX.ctx 163 AB.spec:=by
 refine b3 [] UG.1 ?_;intro⟨a,b⟩ ⟨(ha:(bb _ a).length<=_),(hb:(bb _ b).length<=_)⟩ H aN;have I:=hg (b:=4294967296) (by decide) a;have U:=hg (b:=4294967296) (by decide) b;have t1:=yu (b:=4294967296) (by decide) a;have t2:=yu (b:=4294967296) (by decide) b;have jL:=gO (b:=4294967296) (by decide) a;have lG:=gO (b:=4294967296) (by decide) b;show aW.ok _ ⟨_,_,⟨_,_,[(0,dr (bb 4294967296 a)),(1,dr (bb 4294967296 b))]⟩⟩;generalize bb 4294967296 a=xs at *;generalize bb 4294967296 b=aw at *;have fin:∀{r:Int},ji a b=r->b7 (.i .i64 r) (AB.res (a,b)):=fun h=>by rw[<-h];exact .refl _
 refine J ?_;refine cV (fun h=> ?_) (fun h=> ?_)
 ·have h:xs.length≠aw.length:=by omega
  refine J ?_;refine cV (fun h=> ?_) (fun h=> ?_)
  ·have h:xs.length<aw.length:=by omega
   refine J ?_;have:=IU (b:=4294967296) (by decide) I t2 h;exact aA rfl (fin (AD (by omega)))
  ·have h:aw.length<xs.length:=by have:aw.length<=xs.length:=by omega
                                  omega
   refine J ?_;have:=IU (b:=4294967296) (by decide) U t1 h;exact aA rfl (fin (G4 (by omega)))
 have h:xs.length=aw.length:=by omega
 refine J ?_;refine df (L:=Nat) (fun k=>k<=xs.length∧xs.drop k=aw.drop k) (fun(k:Nat)=>⟨[],0,[(0,dr xs),(1,dr aw),(5,.i .i64 ((k:Int)-1))]⟩) id [] xs.length ⟨cf _,by rw[zcV,h,zcV]⟩ (by show xs.length<b0+1;unfold b0;omega) (kx ⟨rfl,rfl,fI,trivial⟩) ?_;rintro(k:Nat) ⟨ab,ay⟩;cases k with
 |zero=>
  refine J ?_;exact aA rfl (fin (by simp at ay;rw[ay]at jL;rw[<-jL,<-lG];exact SO _))
 |succ m=>
  have aa:m<xs.length:=by omega
  have aJ:m<aw.length:=by omega
  have e:((m+1:Nat):Int)-1=(m:Nat):=by omega
  refine aB 5 (.i .i64 (m:Nat)) rfl (gg e) (J ?_);refine aB 20 (.b true) rfl (by simp) (J ?_);refine e3 xs[m] (bg aa) ?_;refine J ?_;refine e3 aw[m] (bg aJ) ?_;refine J ?_;have hV:=Hm aa;have nL:=Hm aJ;refine cV (fun h=> ?_) (fun h=> ?_)
  ·have hne:xs[m]≠aw[m]:=by omega
   refine J ?_;refine e3 xs[m] (bg aa) ?_;refine J ?_;refine e3 aw[m] (bg aJ) ?_;refine J ?_;refine cV (fun h=> ?_) (fun h=> ?_)
   ·have aT:xs[m]<aw[m]:=by omega
    refine J ?_;refine aA rfl (fin (AD ?_));rw[<-jL,<-lG,hV,nL,ay];exact KF (fun x aa=>I x (zbM aa)) (by simp;omega) aT
   ·have aT:aw[m]<xs[m]:=by have:aw[m]<=xs[m]:=by omega
                            omega
    refine J ?_;refine aA rfl (fin (G4 ?_));rw[<-jL,<-lG,hV,nL,ay];exact KF (fun x aa=>U x (zbM aa)) (by simp;omega) aT
  ·have he:xs[m]=aw[m]:=by omega
   refine J ?_;refine br [] m ⟨by simp,by omega,?_⟩ (kx ⟨rfl,rfl,fI,trivial⟩);rw[hx aa,hx aJ,he,ay]
def OH(hc:c<4294967296)(aa:x<4294967296)(aJ:y<4294967296)(al:o<4294967296):x*y<18446744073709551616∧x*y+o<18446744073709551616∧c+(x*y+o)<18446744073709551616:=by
 have I:x*y<=4294967295*4294967295:=zdu (by omega) (by omega);omega
def Zh{Q:Nat}(hi:P=Q*R)(h:o+P*c=a+Q*(x*b)):o+P*((c+(x*y+d))%B)+P*B*((c+(x*y+d))/B)=a+P*d+Q*(x*(b+R*y)):=by
 have I:P*(c+(x*y+d))=P*((c+(x*y+d))%B)+P*B*((c+(x*y+d))/B):=by
  rw[zaA,<-zaI,Nat.mod_add_div]
 have U:Q*(x*(b+R*y))=Q*(x*b)+P*(x*y):=by
  rw[hi,zaI,zaI,zaA Q R,Nat.mul_left_comm x R y]
 rw[zaI,zaI]at I;omega
def I7:bU where
 L:=Nat×Nat
 args:=fun(a,b)=>[dH a,dH b]
 pre:=fun(a,b)=>eO 1073741824 a∧eO 1073741824 b
 res:=fun(a,b)=>dH (a*b)
def BR:bD aX.ctx 161 I7.spec:=by
 refine b3 [(242,um.spec)] UE.1 ?_;intro⟨a,b⟩ ⟨(ha:(bb _ a).length<=_),(hb:(bb _ b).length<=_)⟩ H aN;have I:=hg (b:=4294967296) (by decide) a;have U:=hg (b:=4294967296) (by decide) b;have jL:=gO (b:=4294967296) (by decide) a;have lG:=gO (b:=4294967296) (by decide) b;show aW.ok _ ⟨_,_,⟨_,_,[(0,dr (bb 4294967296 a)),(1,dr (bb 4294967296 b))]⟩⟩;generalize bb 4294967296 a=xs at *;generalize bb 4294967296 b=aw at *;refine J ?_;refine aB 15 (.i .i64 ((xs.length+aw.length:Nat):Int)) rfl cX ?_;refine qn fR 0 ?_;refine J ?_;refine df (L:=Nat×ac Nat) (fun(i,outs)=>i<=xs.length∧outs.length=xs.length+aw.length∧dg 4294967296 outs∧val 4294967296 (outs.take (i+aw.length))=val 4294967296 (xs.take i)*val 4294967296 aw)
  (fun((i:Nat),(outs:ac Nat))=>⟨[.a 215 false 1 Nat fR outs],1,[(1,dr aw),(5,.a5 0 1 0 (xs.length+aw.length) (xs.length+aw.length)),(17,dr xs),(18,.i .i64 xs.length),(19,.i .i64 i)]⟩)
  (fun l=>xs.length-l.1) [0] (0,List.replicate (xs.length+aw.length) 0) ⟨by omega,by simp,tB (by decide) _,by simp[val,val_zero]⟩ (by show xs.length-0<b0+1;unfold b0;omega) dX ?_
 rintro⟨i,outs⟩ ⟨ae,ho,bR,aE⟩;refine J ?_;refine cV (fun h=> ?_) (fun h=> ?_)
 ·have h:i<xs.length:=by omega
  have mg:=I _ (dp h);refine J ?_;refine dv xs[i] (bg h) ?_;refine J ?_;refine df (L:=Nat×ac Nat×Nat) (fun(j,os,c)=>j<=aw.length∧os.length=xs.length+aw.length∧dg 4294967296 os∧c<4294967296∧(∀k,i+j<=k->os[k]? =outs[k]?)∧val 4294967296 (os.take (i+j))+4294967296^(i+j)*c=val 4294967296 (outs.take (i+j))+4294967296^i*(xs[i]*val 4294967296 (aw.take j)))
   (fun((j:Nat),(os:ac Nat),(c:Nat))=>⟨[.a 215 false 1 Nat fR os],1,[(1,dr aw),(5,.a5 0 1 0 (xs.length+aw.length) (xs.length+aw.length)),(17,dr xs),(18,.i .i64 xs.length),(19,.i .i64 i),(6,.i .i64 i),(7,.i .u32 (xs[i]:Nat)),(8,.i .u64 c),(24,dr aw),(25,.i .i64 aw.length),(26,.i .i64 j)]⟩)
   (fun l=>aw.length-l.1) [0] (0,outs,0) ⟨by omega,ho,bR,by omega,fun _ _=>rfl,by simp[val]⟩ (by show aw.length-0<b0+1;unfold b0;omega) dX ?_
  rintro⟨j,os,c⟩ ⟨hj,EA,uT,hc,ns,mW⟩;refine J ?_;refine cV (fun r1=> ?_) (fun r1=> ?_)
  ·have r1:j<aw.length:=by omega
   have Iy:=U _ (dp r1);have hI:i+j<os.length:=by omega
   have Ny:os[i+j]=outs[i+j]:=by
    have:=ns (i+j) (cf _);rw[bg hI,bg (by omega)]at this;exact Option.some.inj this
   have Nz:=uT _ (dp hI);obtain⟨g1,aP,bd⟩:=OH hc mg Iy Nz;refine J ?_;refine dv aw[j] (bg r1) ?_;refine J ?_;refine aB 40 (.i .i64 ((i+j:Nat):Int)) rfl cX ?_;refine kt ?_;refine tO os[i+j] (bg hI) ?_
   iterate 3 refine iL ?_
   refine aB 45 (.i .u64 ((c+(xs[i]*aw[j]+os[i+j]):Nat):Int)) rfl (gg ?_) ?_
   ·have az:xs[i]%18446744073709551616=xs[i]:=by omega
    have e2:aw[j]%18446744073709551616=aw[j]:=by omega
    have b8:os[i+j]%18446744073709551616=os[i+j]:=by omega
    rw[az,e2,b8,hy g1,hy aP,hy bd]
   refine J ?_;refine aB 49 (.i .i64 ((i+j:Nat):Int)) rfl cX ?_;generalize jm:c+(xs[i]*aw[j]+os[i+j])=T at *;refine kt ?_;refine mq (T%4294967296) ?_;refine J ?_;refine br [0] (j+1,os.set (i+j) (T%4294967296),T/4294967296) ⟨by show aw.length-(j+1)<aw.length-j;omega,by omega,by simp[EA],nz uT _ (zai _ (by decide)),by omega,fun k ab=>by rw[zbn (by omega)];exact ns k (by omega),?_⟩
    (fh ⟨rfl,rfl,rfl,rfl,rfl,rfl,rfl,rfl,rfl,rfl,fI,trivial⟩ ⟨_,rfl,rfl,fun _=>rfl⟩)
   rw[<-zbI,iN (l:=os.set (i+j) _) (by simp;omega),iN (l:=outs) (by omega),iN r1,zaV (cf _),zaT,zan,<-Ny,<-jm];exact Zh (by rw[zat]) mW
  ·have hj:j=aw.length:=by omega
   subst hj;refine J ?_;refine aB 60 (.i .i64 ((i+aw.length:Nat):Int)) rfl cX (J ?_);refine kt ?_;refine mq (c%4294967296) ?_;refine J ?_;refine br [0] (i+1,os.set (i+aw.length) (c%4294967296)) ⟨by show xs.length-(i+1)<xs.length-i;omega,by omega,by simp[EA],nz uT _ (zai _ (by decide)),?_⟩ (fh ⟨rfl,rfl,rfl,rfl,fI,trivial⟩ ⟨_,rfl,rfl,fun _=>rfl⟩);rw[show i+1+aw.length=i+aw.length+1 by omega,iN (l:=os.set _ _) (by simp;omega),zaV (cf _),zaT,hy hc,mW,aE,iN h,kU (cf _),zak,zaA]
 ·have ae:i=xs.length:=by omega
  subst ae;refine J ?_;refine iw 65 ?_;refine a9 uo outs ⟨bR,by omega⟩ (J ?_);refine aA rfl (.of ?_);show dH _=dH _;congr 1;rw[kU (l:=xs) (cf _),kU (l:=outs) (by omega)]at aE;rw[aE,jL,lG]
def acD{O:Nat}(h:X=O*d+r):x+B*X=((r*B+x)/d+B*O)*d+(r*B+x)%d:=by
 have I:=zbN (r*B+x) d;rw[zak,h,zaA,zam (_/d) d,zaI,zam r B]at *;omega
def acC(aD:r<d)(aa:x<B):(r*B+x)/d<B:=by
 rw[zcW (by omega)];have:(r+1)*B<=d*B:=ix _ aD;rw[zam B d];rw[zak]at this;omega
def aan(aa:x<2^k):h*2^k|||x=h*2^k+x:=by
 rw[zam,<-zeB aa]
def Pd(aD:r<4294967296)(aa:x<4294967296):(r*2^32%18446744073709551616%18446744073709551616|||x%18446744073709551616%18446744073709551616)=r*4294967296+x:=by
 have az:r*2^32%18446744073709551616%18446744073709551616=r*2^32:=by omega
 have e2:x%18446744073709551616%18446744073709551616=x:=by omega
 rw[az,e2,aan (k:=32) aa]
def acB:bU where
 L:=Nat×Nat
 args:=fun(a,b)=>[dH a,.i .u32 b]
 pre:=fun(a,b)=>eO 1073741824 a∧0<b∧b<4294967296
 res:=fun(a,b)=>.bn [dH (a/b),.i .u32 ((a%b:Nat):Int)]
def auA:bD aX.ctx 122 acB.spec:=by
 refine b3 [(242,um.spec)] Ua.1 ?_;intro⟨a,d⟩ ⟨(ha:(bb _ a).length<=_),(yK:0<d),(ay:d<_)⟩ H aN;have I:=hg (b:=4294967296) (by decide) a;have jL:=gO (b:=4294967296) (by decide) a;show aW.ok _ ⟨_,_,⟨_,_,[(0,dr (bb 4294967296 a)),(1,.i .u32 d)]⟩⟩;generalize bb 4294967296 a=xs at *;refine J ?_;refine qn fR 0 ?_;refine J ?_;refine df (L:=Nat×ac Nat×Nat) (fun(k,outs,r)=>k<=xs.length∧outs.length=xs.length∧dg 4294967296 outs∧r<d∧val 4294967296 (xs.drop k)=val 4294967296 (outs.drop k)*d+r)
  (fun((k:Nat),(outs:ac Nat),(r:Nat))=>⟨[.a 215 false 1 Nat fR outs],1,[(0,dr xs),(1,.i .u32 d),(4,.a5 0 1 0 xs.length xs.length),(6,.i .u64 r),(7,.i .i64 ((k:Int)-1))]⟩)
  (fun l=>l.1) [0] (xs.length,List.replicate xs.length 0,0) ⟨by omega,by simp,tB (by decide) _,yK,by simp[val]⟩ (by show xs.length<b0+1;unfold b0;omega) (fh ⟨rfl,rfl,rfl,rfl,fI,trivial⟩ ⟨_,rfl,rfl,fun _=>rfl⟩) ?_
 rintro⟨k,outs,r⟩ ⟨ab,ho,bR,aD,aE⟩;cases k with
 |zero=>
  refine J ?_;refine iw 38 ?_;refine a9 uo outs ⟨bR,by omega⟩ (J ?_);rw[zaq,zaq]at aE;have hq:a/d=val 4294967296 outs:=by rw[<-jL,aE,zam];rw[Nat.mul_add_div yK,zbO aD];omega
  have hm:a%d=r:=by rw[<-jL,aE,zam,Nat.mul_add_mod,hy aD]
  exact aA rfl (.bn ⟨.of (by show dH _=dH (a/d);rw[hq]),.of (gg (by show((r%4294967296:Nat):Int)=((a%d:Nat):Int);omega)),trivial⟩)
 |succ m=>
  have aa:m<xs.length:=by omega
  have mg:=I _ (dp aa);have p7:=acC aD mg;have jm:r*4294967296+xs[m]<18446744073709551616:=by
   have:(r+1)*4294967296<=4294967296*4294967296:=ix _ (by omega);omega
  refine aB 7 (.i .i64 (m:Nat)) rfl gg (J ?_);refine aB 15 (.b true) rfl (by simp) (J ?_);refine dv xs[m] (bg aa) ?_
  iterate 3 refine iL ?_
  refine aB 25 (.i .u64 ((r*4294967296+xs[m]:Nat):Int)) rfl (gg (congrArg _ (Pd (by omega) mg))) ?_;generalize yG:r*4294967296+xs[m]=T at *;refine J ?_;refine aB 30 (.i .u64 (d:Nat)) rfl gg ?_;refine asu ?_;refine J ?_;refine kt ?_;refine mq (T/d%4294967296) ?_;refine J ?_;refine aB 36 (.i .u64 (d:Nat)) rfl gg ?_;refine asv ?_;refine J ?_;have ah:xs.drop m=xs[m]::xs.drop (m+1):=hx aa;refine br [0] (m,outs.set m (T/d%4294967296),T%d) ⟨by simp,by omega,by simp[ho],nz bR _ (zai _ (by decide)),zai _ yK,?_⟩ (fh ⟨rfl,rfl,rfl,rfl,fI,trivial⟩ ⟨_,rfl,rfl,fun _=>rfl⟩);rw[ah,hx (l:=outs.set m _) (by simp;omega),zaT,zcK (by omega),hy p7,<-yG];exact acD aE
def acp(ah:s<32)(hh:h<2^s):h|||(x*2^s)%4294967296=h+(x*2^s)%4294967296:=by
 have e:4294967296=2^s*2^(32-s):=by rw[<-zat,show s+(32-s)=32 by omega]
 have e2:(x*2^s)%4294967296=2^s*(x%2^(32-s)):=by rw[e,zam x,Nat.mul_mod_mul_left]
 rw[e2,Nat.or_comm,<-zeB hh,zbY]
def Jx(ah:s<32):2^s<=2147483648:=by
 have:2^s<=2^31:=zaL (by decide) (by omega);exact this
def ats(ah:s<32)(aa:x<4294967296):x*2^s<9223372036854775808:=by
 have I:x*2^s<=4294967295*2147483648:=zdu (by omega) (Jx ah);omega
def atr(aa:x<4294967296):x*2^s/4294967296<2^s:=by
 have h0:0<2^s:=zaE s;rw[zcW (by decide),zam];exact(Nat.mul_lt_mul_left h0).2 aa
def att(aE:o+P*h=a):o+P*(h+v%4294967296)+P*4294967296*(v/4294967296)=a+P*v:=by
 have I:P*v=P*(v%4294967296)+P*4294967296*(v/4294967296):=by
  rw[zaA,<-zaI];congr 1;omega
 rw[zaI];omega
def Qq(n:Nat):2^n=2^(n%32)*4294967296^(n/32):=by
 rw[show(4294967296:Nat)=2^32 from rfl,<-zbT,<-zat];congr 1;omega
def aaJ(h:k<9223372036854775808):aj.i .i64 (IntKind.i64.wrap ((k:Int).tdiv 32))=aj.i .i64 ((k/32:Nat):Int):=cX rfl (by show _<=((k/32:Nat):Int);omega) (by show((k/32:Nat):Int)<_;omega)
def Kp:bU where
 L:=Nat×Nat
 args:=fun(a,b)=>[dH a,.i .i64 b]
 pre:=fun(a,b)=>eO 1073741824 a∧b<34359738368
 res:=fun(a,b)=>dH (a*2^b)
def CB:bD aX.ctx 360 Kp.spec:=by
 refine b3 [(242,um.spec)] VW.1 ?_;intro⟨a,n⟩ ⟨(ha:(bb _ a).length<=_),(hn:n<_)⟩ H aN;have I:=hg (b:=4294967296) (by decide) a;have jL:=gO (b:=4294967296) (by decide) a;show aW.ok _ ⟨_,_,⟨_,_,[(0,dr (bb 4294967296 a)),(1,.i .i64 n)]⟩⟩;generalize bb 4294967296 a=xs at *;refine J ?_;refine cV (fun h=> ?_) (fun h=> ?_)
 ·have h0:xs=[]:=zaX (by omega);subst h0;have:a=0:=jL.symm;subst this;refine J ?_;exact aA rfl (b7.nl.trans (.of (by show dr []=dH (0*2^n);rw[zar];show _=dr (bb _ 0);rw[hQ])))
 iterate 2 refine iL ?_
 refine iL ?_;refine iL ?_;refine iL ?_;refine iL ?_;refine iL ?_;refine aB 15 _ rfl (aaJ (by omega)) ?_
 iterate 3 refine iL ?_
 refine aB 17 (.i .i64 ((n%32:Nat):Int)) rfl (gg rfl) ?_;generalize hq:n/32=q;have ah:n%32<32:=zai _ (by decide);have mJ:=Qq n;rw[hq]at mJ;generalize n%32=s at *;refine J ?_;refine aB 23 (.i .i64 ((xs.length+q+1:Nat):Int)) rfl (by rw[hK (n:=(xs.length:Int)+q) (by omega) (by omega)];exact cX) ?_;refine qn fR 0 ?_;refine J ?_;refine df (L:=Nat×ac Nat) (fun(i,outs)=>i<=xs.length∧outs.length=xs.length+q+1∧dg 4294967296 outs∧(∃h,outs[i+q]? =some h∧h<2^s)∧val 4294967296 (outs.take (i+q+1))=val 4294967296 (xs.take i)*(2^s*4294967296^q))
  (fun((i:Nat),(outs:ac Nat))=>⟨[.a 215 false 1 Nat fR outs],1,[(5,.i .i64 q),(6,.i .u64 s),(7,.a5 0 1 0 (xs.length+q+1) (xs.length+q+1)),(25,dr xs),(26,.i .i64 xs.length),(27,.i .i64 i)]⟩)
  (fun l=>xs.length-l.1) [0] (0,List.replicate (xs.length+q+1) 0) ⟨by omega,by simp,tB (by decide) _,⟨0,by rw[zeC,zab (by omega)],zaE s⟩,by rw[List.take_replicate,val_zero];simp[val]⟩ (by show xs.length-0<b0+1;unfold b0;omega) (fh ⟨rfl,mZ,rfl,rfl,rfl,rfl,trivial⟩ ⟨_,rfl,rfl,fun _=>rfl⟩) ?_
 rintro⟨i,outs⟩ ⟨ae,ho,bR,⟨h,hh,Xy⟩,aE⟩;refine J ?_;refine cV (fun aT=> ?_) (fun aT=> ?_)
 ·have aT:i<xs.length:=by omega
  have mg:=I _ (dp aT);have g1:=ats ah mg;have aP:=atr (s:=s) mg;have bd:=Jx ah;refine J ?_;refine dv xs[i] (bg aT) ?_
  iterate 3 refine iL ?_
  iterate 3 refine iL ?_
  iterate 3 refine iL ?_
  iterate 2 refine iL ?_
  refine aB 35 (.i .u64 ((xs[i]*2^s:Nat):Int)) rfl (gg ?_) ?_
  ·rw[hy (a:=xs[i]) (by omega),hy (by omega)]
  generalize ik:xs[i]*2^s=V at *;refine J ?_;refine aB 39 (.i .i64 ((i+q:Nat):Int)) rfl cX ?_;refine kt ?_;refine tO h hh ?_
  iterate 3 refine iL ?_
  refine aB 44 (.i .u32 ((h+V%4294967296:Nat):Int)) rfl (gg ?_) ?_
  ·rw[hy (a:=h) (by omega),Nat.mod_mod,<-ik,acp ah Xy]
  have hu:h+V%4294967296<4294967296:=by
   rw[<-ik,<-acp ah Xy];exact Nat.or_lt_two_pow (n:=32) (by omega) (zai _ (by decide))
  generalize amz:h+V%4294967296=La at *;refine kt ?_;refine mq La ?_;refine J ?_;refine aB 50 (.i .i64 ((i+q+1:Nat):Int)) rfl (by rw[hK (n:=(i:Int)+q) (by omega) (by omega)];exact cX) ?_;refine kt ?_;refine mq (V/2^32%4294967296) ?_;refine J ?_;have amA:V/2^32%4294967296=V/4294967296:=by omega
  rw[amA];refine br [0] (i+1,(outs.set (i+q) La).set (i+q+1) (V/4294967296)) ⟨by show xs.length-(i+1)<xs.length-i;omega,by omega,by simp[ho],nz (nz bR _ hu) _ (by omega),⟨V/4294967296,by rw[show i+1+q=i+q+1 by omega,List.getElem?_set_self (by simp;omega)],aP⟩,?_⟩
   (fh ⟨rfl,rfl,rfl,rfl,rfl,fI,trivial⟩ ⟨_,rfl,rfl,fun _=>rfl⟩)
  have a6:val 4294967296 (outs.take (i+q))+4294967296^(i+q)*h=val 4294967296 (xs.take i)*(2^s*4294967296^q):=by
   rw[<-aE,iN (by omega)];congr 2;exact(Option.some.inj ((bg (by omega)).symm.trans hh)).symm
  have az:=att (v:=V) a6;rw[show i+1+q+1=i+q+1+1 by omega,iN (by simp;omega),zaT,zaV (cf _),iN (by simp;omega),zaT,zaV (cf _),iN aT,<-amz,zan,az,<-ik,zak,zat];congr 1
  ac_rfl
 ·have ae:i=xs.length:=by omega
  subst ae;refine J ?_;refine iw 56 ?_;refine a9 uo outs ⟨bR,by omega⟩ (J ?_);refine aA rfl (.of ?_);show dH _=dH _;congr 1;rw[kU (l:=xs) (cf _),kU (l:=outs) (by omega)]at aE;rw[aE,jL,<-mJ]
def rj(h:dg b l)(k:Nat):dg b (l.take k):=fun x aa=>h x (zbM aa)
def xp(h:dg b l)(k:Nat):dg b (l.drop k):=fun x aa=>h x (zcx aa)
def KI(ab:k<=l.length):val b l=val b (l.take k)+b^k*val b (l.drop k):=by
 have:=nN b (l.take k) (l.drop k);rw[zbp,zao,zaF ab]at this;exact this
def adM(hb:0<b)(h:dg b l)(ab:k<=l.length):val b l/b^k=val b (l.drop k):=by
 have U:=ll (rj h k);rw[zao,zaF ab]at U;rw[KI ab,zeh _ _ (zcA hb),zbO U,zas]
def aty{W:Nat}(ah:s<32)(e7:W=v+18446744073709551616*R):(W/2^s)%4294967296=(v/2^s)%4294967296:=by
 have e:18446744073709551616*R=2^s*(4294967296*(2^(32-s)*R)):=by
  rw[show(18446744073709551616:Nat)=4294967296*2^32 from rfl,show(2:Nat)^32=2^s*2^(32-s) by rw[<-zat,show s+(32-s)=32 by omega]]
  ac_rfl
 rw[e7,e,zeh _ _ (zaE s),zei]
def acr:bU where
 L:=Nat×Nat
 args:=fun(a,b)=>[dH a,.i .i64 b]
 pre:=fun(a,b)=>eO 1073741824 a∧b<9223372036854775808
 res:=fun(a,b)=>dH (a/2^b)
def atx:bD aX.ctx 363 acr.spec:=by
 refine b3 [(242,um.spec)] VZ.1 ?_;intro⟨a,n⟩ ⟨(ha:(bb _ a).length<=_),(hn:n<_)⟩ H aN;have I:=hg (b:=4294967296) (by decide) a;have jL:=gO (b:=4294967296) (by decide) a;show aW.ok _ ⟨_,_,⟨_,_,[(0,dr (bb 4294967296 a)),(1,.i .i64 n)]⟩⟩;generalize bb 4294967296 a=xs at *
 iterate 3 refine iL ?_
 iterate 3 refine iL ?_
 iterate 3 refine iL ?_
 refine aB 11 _ rfl (aaJ (by omega)) ?_
 iterate 2 refine iL ?_
 refine aB 13 (.i .i64 ((n%32:Nat):Int)) rfl (gg rfl) ?_;generalize hq:n/32=q;have ah:n%32<32:=zai _ (by decide);have mJ:=Qq n;rw[hq]at mJ;generalize n%32=s at *;refine J ?_;have hdiv:a/2^n=a/4294967296^q/2^s:=by rw[mJ,zam,zcX]
 refine cV (fun h=> ?_) (fun h=> ?_)
 ·refine J ?_;have U:=ll I;have ag:4294967296^xs.length<=4294967296^q:=zaL (by decide) (by omega);exact aA rfl (b7.nl.trans (.of (by show dr []=dH (a/2^n);rw[hdiv,zbO (show a<4294967296^q by omega),Nat.zero_div];show _=dr (bb _ 0);rw[hQ])))
 have Bq:q<xs.length:=by omega
 refine J ?_;refine aB 22 (.i .i64 ((xs.length-q:Nat):Int)) rfl cX ?_;refine qn fR 0 ?_;refine J ?_;have amE:a/4294967296^q=val 4294967296 (xs.drop q):=by rw[<-jL,adM (by decide) I (by omega)]
 have Xd:=ll (xp I q);rw[zaz]at Xd;generalize gP:xs.length-q=N at *;refine df (L:=Nat×ac Nat) (fun(i,outs)=>i<=N∧outs.length=N∧dg 4294967296 outs∧val 4294967296 (outs.take i)=(val 4294967296 (xs.drop q)/2^s)%4294967296^i)
  (fun((i:Nat),(outs:ac Nat))=>⟨[.a 215 false 1 Nat fR outs],1,[(0,dr xs),(5,.i .i64 q),(6,.i .u64 s),(7,.a5 0 1 0 N N),(25,.i .i64 N),(26,.i .i64 i)]⟩)
  (fun l=>N-l.1) [0] (0,List.replicate N 0) ⟨by omega,by simp,tB (by decide) _,by simp[val,Nat.mod_one]⟩ (by show N-0<b0+1;unfold b0;omega) (fh ⟨rfl,rfl,mZ,rfl,rfl,rfl,trivial⟩ ⟨_,rfl,rfl,fun _=>rfl⟩) ?_
 rintro⟨i,outs⟩ ⟨ae,ho,bR,aE⟩;refine J ?_;refine cV (fun aT=> ?_) (fun aT=> ?_)
 ·have mN:i+q<xs.length:=by omega
  have mg:=I _ (dp mN);refine J ?_;refine aB 32 (.i .i64 ((i+q:Nat):Int)) rfl cX ?_;refine dv xs[i+q] (bg mN) ?_
  iterate 2 refine iL ?_
  refine aB 35 (.i .u64 (xs[i+q]:Nat)) rfl gg (J ?_);refine ks (fun(v:Nat)=>∃R,val 4294967296 (xs.drop (i+q))=v+18446744073709551616*R) (fun(v:Nat)=>⟨[.a 215 false 1 Nat fR outs],1,[(9,.i .u64 v),(8,.i .i64 i),(0,dr xs),(5,.i .i64 q),(6,.i .u64 s),(7,.a5 0 1 0 N N),(25,.i .i64 N),(26,.i .i64 i)]⟩) ?_ ?_
  ·have Ti:IntKind.i64.wrap (IntKind.i64.wrap ((i:Int)+q)+1)=((i+q+1:Nat):Int):=by rw[hK (n:=(i:Int)+q) (by omega) (by omega),hK]<;>omega
   rw[Ti];refine cV (fun Eh=> ?_) (fun Eh=> ?_)
   ·have Eh:i+q+1<xs.length:=by omega
    have Iy:=I _ (dp Eh);refine J ?_;refine aB 48 (.i .i64 ((i+q+1:Nat):Int)) rfl (gg Ti) ?_;refine dv xs[i+q+1] (bg Eh) ?_;refine J ?_;refine br [0] (xs[i+q]+4294967296*xs[i+q+1]) ⟨val 4294967296 (xs.drop (i+q+1+1)),?_⟩ (fh ⟨mZ (congrArg _ ?_),rfl,rfl,rfl,rfl,rfl,rfl,rfl,trivial⟩ ⟨_,rfl,rfl,fun _=>rfl⟩)
    ·rw[hx mN,hx Eh,val,val];omega
    ·have az:xs[i+q+1]%18446744073709551616*2^32%18446744073709551616%18446744073709551616=xs[i+q+1]*2^32:=by omega
     have e2:xs[i+q]%18446744073709551616=xs[i+q]:=by omega
     rw[az,e2,Nat.or_comm,aan (k:=32) mg];omega
   ·refine J ?_;refine br [0] xs[i+q] ⟨0,?_⟩ dX;rw[hx mN,zbS (by omega),val,val]
  rintro(v:Nat) ⟨R,cZ⟩;refine J ?_;refine asx ?_;refine J ?_;refine kt ?_;refine mq (v/2^s%4294967296) ?_;refine J ?_;refine br [0] (i+1,outs.set i (v/2^s%4294967296)) ⟨by show N-(i+1)<N-i;omega,by omega,by simp[ho],nz bR _ (zai _ (by decide)),?_⟩ (fh ⟨rfl,rfl,rfl,rfl,rfl,fI,trivial⟩ ⟨_,rfl,rfl,fun _=>rfl⟩);rw[iN (by simp;omega),zaV (cf _),zaT,aE,zan,Nat.mod_mul,<-aty ah cZ,zcX,zam (2^s),<-zcX,adM (by decide) (xp I q) (by simp;omega),zbu,zbY q i]
 ·have ank:i=N:=by omega
  subst ank;refine J ?_;refine iw 62 ?_;refine a9 uo outs ⟨bR,by omega⟩ (J ?_);refine aA rfl (.of ?_);show dH _=dH _;congr 1;rw[kU (l:=outs) (by omega),hy (zbD (zbg _ _) Xd)]at aE;show _=a/2^n;rw[aE,hdiv,amE]
def b2(n:Nat):Nat:=if n=0 then 0 else Nat.log2 n+1
def we(h:1<=n):b2 n=b2 (n/2)+1:=by
 unfold b2;rw[zaa (by omega)];by_cases U:n/2=0
 ·rw[zab U];have:n=1:=by omega
  subst this;rfl
 ·rw[zaa U,Nat.log2_def,zab (by omega)]
theorem LD:∀(k n:Nat),2^k<=n->b2 n=b2 (n/2^k)+k
 |0,n,_=>by simp
 |k+1,n,h=>by
  have h0:2^(k+1)=2*2^k:=by rw[zan,zam]
  have hp:0<2^k:=zaE k;rw[we (by omega),LD k (n/2) (by rw[zbU (by decide)];omega),zcX,h0];omega
def sQ(h:n≠0):2^(b2 n-1)<=n∧n<2^b2 n:=by
 unfold b2;rw[zaa h];exact⟨Nat.log2_self_le h,Nat.lt_log2_self⟩
def ae8{n k:Nat}(I:2^k<=n)(U:n<2^(k+1)):b2 n=k+1:=by
 have h0:n≠0:=by have:=zaE k;omega
 obtain⟨a,b⟩:=sQ h0;have:=(zcY (by decide:1<2)).1 (zbD I b);have:=(zcY (by decide:1<2)).1 (zbD a U);omega
def pw:bU where
 L:=Nat
 args:=fun n=>[.i .u32 n]
 pre:=fun n=>n<4294967296
 res:=fun n=>.i .i64 (b2 n:Nat)
def YO:bD aX.ctx 345 pw.spec:=by
 refine b3 [] VL.1 ?_;intro(n:Nat) (hn:n<4294967296) H aN;refine J ?_;refine ks (fun((m:Nat),(k:Nat))=>m<65536∧k<=16∧b2 n=b2 m+k) (fun(m,k)=>⟨[],0,[(0,.i .u32 m),(2,.i .i64 k)]⟩) ?_ ?_
 ·refine cV (fun h=> ?_) (fun h=> ?_)
  ·refine J ?_;exact br [] (n/65536,16) ⟨by omega,by decide,LD 16 n (by omega)⟩ dW
  ·refine J ?_;exact br [] (n,0) ⟨by omega,by decide,rfl⟩ dW
 rintro⟨m,k⟩ ⟨hm,ab,hb⟩;refine J ?_;refine ks (fun((m:Nat),(k:Nat))=>m<256∧k<=24∧b2 n=b2 m+k) (fun(m,k)=>⟨[],0,[(0,.i .u32 m),(2,.i .i64 k)]⟩) ?_ ?_
 ·refine cV (fun h=> ?_) (fun h=> ?_)
  ·refine J ?_;exact br [] (m/256,k+8) ⟨by omega,by omega,by rw[hb,LD 8 m (by omega),show(2:Nat)^8=256 from rfl];omega⟩ (kx ⟨rfl,fI,trivial⟩)
  ·refine J ?_;exact br [] (m,k) ⟨by omega,by omega,hb⟩ dW
 rintro⟨m,k⟩ ⟨hm,ab,hb⟩;refine J ?_;refine aB 15 (.i .u8 (m:Nat)) rfl gg ?_;have CG:∀m,m<256->([0,1,2,2,3,3,3,3,4,4,4,4,4,4,4,4,5,5,5,5,5,5,5,5,5,5,5,5,5,5,5,5,6,6,6,6,6,6,6,6,6,6,6,6,6,6,6,6,6,6,6,6,6,6,6,6,6,6,6,6,6,6,6,6,7,7,7,7,7,7,7,7,7,7,7,7,7,7,7,7,7,7,7,7,7,7,7,7,7,7,7,7,7,7,7,7,7,7,7,7,7,7,7,7,7,7,7,7,7,7,7,7,7,7,7,7,7,7,7,7,7,7,7,7,7,7,7,7,8,8,8,8,8,8,8,8,8,8,8,8,8,8,8,8,8,8,8,8,8,8,8,8,8,8,8,8,8,8,8,8,8,8,8,8,8,8,8,8,8,8,8,8,8,8,8,8,8,8,8,8,8,8,8,8,8,8,8,8,8,8,8,8,8,8,8,8,8,8,8,8,8,8,8,8,8,8,8,8,8,8,8,8,8,8,8,8,8,8,8,8,8,8,8,8,8,8,8,8,8,8,8,8,8,8,8,8,8,8,8,8,8,8,8,8,8,8,8,8,8,8,8,8,8,8,8,8]:ac ce)[m]? =some (UInt8.ofNat (b2 m))∧b2 m<=8:=by decide +kernel
 obtain⟨t1,t2⟩:=CG m hm;refine o4 _ t1 ?_;refine J ?_;have e:(UInt8.ofNat (b2 m)).toNat=b2 m:=by simp;omega
 rw[e];refine aA rfl (.of ?_);show aj.i _ _=aj.i .i64 (b2 n:Nat);rw[hb,hK (n:=((b2 m:Nat):Int)) (by omega) (by omega)];exact cX
def YW:bU where
 L:=Nat
 args:=fun n=>[.i .u32 n]
 pre:=fun n=>n<4294967296
 res:=fun n=>.i .i64 ((32-b2 n:Nat):Int)
def LA(h:n<4294967296):b2 n<=32:=by
 by_cases h0:n=0
 ·subst h0;decide
 ·have:=(sQ h0).1;have:=(zcY (by decide:1<2)).1 (zbD this (show n<2^32 from h));omega
def ap2:bD aX.ctx 359 YW.spec:=by
 refine b3 [(345,pw.spec)] VU.1 ?_;intro(n:Nat) (hn:n<4294967296) H aN;refine J ?_;refine a9 YO n hn (J ?_);have:=LA hn;exact aA rfl (.of cX)
def oC(b:Nat):Nat->Nat->ac Nat
 |0,_=>[]
 |k+1,n=>n%b::oC b k (n/b)
theorem DH(b:Nat):∀k n,(oC b k n).length=k
 |0,_=>rfl
 |k+1,n=>by simp[oC,DH b k]
theorem Td{b:Nat}(hb:0<b):∀k n,dg b (oC b k n)
 |0,_=>fun x aa=>by simp[oC]at aa
 |k+1,n=>fun x aa=>by
  rcases zah.1 aa with rfl|aa
  ·exact zai _ hb
  ·exact Td hb k _ x aa
theorem L4{b:Nat}:∀k n,val b (oC b k n)=n%b^k
 |0,n=>by simp[oC,val,Nat.mod_one]
 |k+1,n=>by rw[oC,val,L4 k,zan,zam (b^k) b,Nat.mod_mul]
theorem Hi{b:Nat}(hb:0<b):∀{l:ac Nat} {n k:Nat},dg b l->l.length=k->val b l=n->l=oC b k n
 |[],_,_,_,rfl,_=>rfl
 |d::l,_,_,h,rfl,rfl=>by
  have I:=h d (by simp);rw[zay,oC,val,zei,hy I,zeh _ _ hb,zbO I,zas,<-Hi hb (fun x aa=>h x (zaC _ aa)) rfl rfl]
def acG{os:ac Nat}(hl:os.length=us.length)(hj:j+k<=us.length)(ah:∀p,p<j∨j+k<=p->os[p]? =us[p]?):os=us.take j++((os.drop j).take k++us.drop (j+k)):=by
 apply zbA;intro p;by_cases I:p<j
 ·rw[zaD (by simp;omega),zaK,zab I];exact ah p (.inl I)
 ·rw[zav (by simp;omega),zao,zaF (by omega)];by_cases U:p<j+k
  ·rw[zaD (by simp;omega),zaK,zab (by omega),zaw];congr 1;omega
  ·rw[zav (by simp;omega)];have:((os.drop j).take k).length=k:=by simp;omega
   rw[this,zaw,ah p (.inr (by omega))];congr 1;omega
def sI(h:j+i<l.length):val b ((l.drop j).take (i+1))=val b ((l.drop j).take i)+b^i*l[j+i]:=by
 rw[iN (by simp;omega),zdH]
def jX(us:ac Nat)(j k n:Nat):ac Nat:=us.take j++(oC 4294967296 k n++us.drop (j+k))
def eV(us:ac Nat)(j k:Nat):Nat:=val 4294967296 ((us.drop j).take k)
def ac8:kA where
 L:=ac Nat×Nat×ac Nat×Nat
 own:=fun(us,_,_,_)=>[.a 215 false 1 Nat fR us]
 args:=fun(us,j,vs,g)=>[.a5 0 1 j (us.length-j) (us.length-j),dr vs,.i .u64 g]
 pre:=fun(us,j,vs,g)=>j+vs.length<us.length∧dg 4294967296 us∧dg 4294967296 vs∧g<4294967296∧us.length<=1099511627776
 aZ:=fun(us,j,vs,g)=>[.a 215 false 1 Nat fR (jX us j (vs.length+1) (eV us j (vs.length+1)+(if eV us j (vs.length+1)<g*val 4294967296 vs then 4294967296^(vs.length+1)else 0)-g*val 4294967296 vs))]
 res:=fun(us,j,vs,g)=>.b (decide (eV us j (vs.length+1)<g*val 4294967296 vs))
def avb:bD aX.ctx 361 ac8.spec:=by
 refine Sr [] VX.1 ?_;rintro⟨us,j,vs,g⟩ ⟨h0,I,U,aM,w4⟩ H i0 aN ae;obtain⟨lq,rfl⟩:∃b,i0=[b]:=zej.1 ae;show aW.ok _ ⟨_,_,⟨[.a 215 false 1 Nat fR us],1,[(0,.a5 0 1 j (us.length-j) (us.length-j)),(1,dr vs),(2,.i .u64 g)]⟩⟩;refine J ?_;refine df (L:=Nat×ac Nat×Nat×Nat) (fun(i,os,c,w)=>i<=vs.length∧os.length=us.length∧dg 4294967296 os∧c<4294967296∧w<=1∧(∀p,p<j∨j+i<=p->os[p]? =us[p]?)∧eV us j i+4294967296^i*(c+w)=eV os j i+g*val 4294967296 (vs.take i))
  (fun((i:Nat),(os:ac Nat),(c:Nat),(w:Nat))=>⟨[.a 215 false 1 Nat fR os],1,[(0,.a5 0 1 j (us.length-j) (us.length-j)),(1,dr vs),(2,.i .u64 g),(7,.i .u64 c),(8,.i .u64 w),(13,dr vs),(14,.i .i64 vs.length),(15,.i .i64 i)]⟩)
  (fun l=>vs.length-l.1) [0] (0,us,0,0) ⟨by omega,rfl,I,by omega,by omega,fun _ _=>rfl,by simp[eV,val]⟩ (by show vs.length-0<b0+1;unfold b0;omega) dX ?_
 rintro⟨i,os,c,w⟩ ⟨k8,ho,bR,hc,hw,ns,aE⟩;refine J ?_;refine cV (fun h=> ?_) (fun h=> ?_)
 ·have h:i<vs.length:=by omega
  have aa:=U _ (dp h);have mP:j+i<os.length:=by omega
  have yX:os[j+i]=us[j+i]:=by
   have:=ns (j+i) (.inr (cf _));rw[bg mP,bg (by omega)]at this;exact Option.some.inj this
  have al:=bR _ (dp mP);obtain⟨eK,fV,m0⟩:=OH (o:=0) hc aM aa (by decide);refine J ?_;refine dv vs[i] (bg h) ?_;refine av 25 ?_;refine aB 25 (.i .u64 ((c+g*vs[i]:Nat):Int)) rfl (gg (congrArg _ ?_)) ?_
  ·rw[hy (a:=vs[i]) (by omega),hy eK,hy (by omega)]
  have jm:c+g*vs[i]<18446744073709551616:=by omega
  generalize yG:c+g*vs[i]=T at *;refine J ?_;refine vw ?_;refine tO os[j+i] (bg mP) ?_;refine av 36 ?_;refine aB 36 (.i .u64 (((os[j+i]+18446744073709551616-T%4294967296-w)%18446744073709551616:Nat):Int)) rfl gg ?_;generalize aV:(os[j+i]+18446744073709551616-T%4294967296-w)%18446744073709551616=t at *;refine J ?_;refine vw ?_;refine mq (t%4294967296) ?_;refine J ?_;refine br [0] (i+1,os.set (j+i) (t%4294967296),T/4294967296,t/9223372036854775808) ⟨by show vs.length-(i+1)<vs.length-i;omega,by omega,by simp[ho],nz bR _ (zai _ (by decide)),by omega,by omega,fun p hp=> ?_,?_⟩
   (fh ⟨rfl,rfl,rfl,rfl,rfl,rfl,rfl,fI,trivial⟩ ⟨_,rfl,rfl,fun _=>rfl⟩)
  ·rw[zbn (by omega)];exact ns p (by omega)
  ·unfold eV at aE⊢;rw[sI (by omega),sI (l:=os.set _ _) (by simp;omega),zaT,iN h,<-yX,zan];have az:((os.set (j+i) (t%4294967296)).drop j).take i=(os.drop j).take i:=by
    rw[zdv];rw[zaa (by omega),show j+i-j=i by omega,zaV (cf _)]
   rw[az];have ay:os[j+i]+4294967296*(t/9223372036854775808)=t%4294967296+T%4294967296+w:=by omega
   have amy:T=T%4294967296+4294967296*(T/4294967296):=by omega
   generalize t/9223372036854775808=w' at *;generalize T/4294967296=bL at *;generalize T%4294967296=bI at *;generalize t%4294967296=h2 at *;generalize 4294967296^i=P at *;have bl:P*(os[j+i]+4294967296*w')=P*(h2+bI+w):=by rw[ay]
   have bK:P*(c+g*vs[i])=P*(bI+4294967296*bL):=by rw[yG,amy]
   rw[zaI g,Nat.mul_left_comm g P];simp only[zaI,zaA]at bl bK aE⊢;omega
 ·have ae:i=vs.length:=by omega
  subst ae;have mP:j+vs.length<os.length:=by omega
  have yX:os[j+vs.length]=us[j+vs.length]:=by
   have:=ns (j+vs.length) (.inr (cf _));rw[bg mP,bg (by omega)]at this;exact Option.some.inj this
  have al:=bR _ (dp mP);refine J ?_;refine vw ?_;refine tO os[j+vs.length] (bg mP) ?_;refine av 56 ?_;refine aB 56 (.i .u64 (((os[j+vs.length]+18446744073709551616-c-w)%18446744073709551616:Nat):Int)) rfl gg ?_;generalize aV:(os[j+vs.length]+18446744073709551616-c-w)%18446744073709551616=t at *;refine J ?_;refine vw ?_;refine mq (t%4294967296) ?_;refine J ?_;have EB:dg 4294967296 (os.set (j+vs.length) (t%4294967296)):=nz bR _ (zai _ (by decide));have j9:(((os.set (j+vs.length) (t%4294967296)).drop j).take (vs.length+1)).length=vs.length+1:=by simp;omega
  have HU:=ll (rj (xp EB j) (vs.length+1));rw[j9]at HU;have th:=acG (us:=us) (os:=os.set (j+vs.length) (t%4294967296)) (j:=j) (k:=vs.length+1) (by simp[ho]) (by omega) (fun p hp=>by rw[zbn (by omega)];exact ns p (by omega));have M7:=Hi (b:=4294967296) (by decide) (rj (xp EB j) (vs.length+1)) j9 rfl;generalize amw:val 4294967296 (((os.set (j+vs.length) (t%4294967296)).drop j).take (vs.length+1))=O at *;have key:eV us j (vs.length+1)+4294967296^(vs.length+1)*(t/9223372036854775808)=O+g*val 4294967296 vs:=by
   rw[<-amw];unfold eV at aE⊢;rw[sI (by omega),sI (l:=os.set _ _) (by simp;omega),zaT,<-yX,zan];have az:((os.set (j+vs.length) (t%4294967296)).drop j).take vs.length=(os.drop j).take vs.length:=by
    rw[zdv];rw[zaa (by omega),show j+vs.length-j=vs.length by omega,zaV (cf _)]
   rw[az];rw[kU (cf _)]at aE;have ay:os[j+vs.length]+4294967296*(t/9223372036854775808)=t%4294967296+c+w:=by omega
   generalize t/9223372036854775808=w' at *;generalize t%4294967296=h2 at *;generalize 4294967296^vs.length=P at *;have bl:P*(os[j+vs.length]+4294967296*w')=P*(h2+c+w):=by rw[ay]
   simp only[zaI,zaA]at bl aE⊢;omega
  have MV:eV us j (vs.length+1)+(if eV us j (vs.length+1)<g*val 4294967296 vs then 4294967296^(vs.length+1)else 0)-g*val 4294967296 vs=O∧(t/2^63=1↔eV us j (vs.length+1)<g*val 4294967296 vs):=by
   rcases(show t/9223372036854775808=0∨t/9223372036854775808=1 by omega)with hb|hb
   ·rw[hb]at key;rw[zaa (by omega)];exact⟨by omega,by omega⟩
   ·rw[hb]at key;rw[zab (by omega)];exact⟨by omega,by omega⟩
  refine c8 ⟨.inr rfl,⟨_,rfl,rfl,.of ?_⟩,[0],rfl,fh trivial ⟨_,rfl,?_,fun _=>rfl⟩⟩
  ·show aj.b (decide (((t/2^63:Nat):Int)=1))=aj.b (decide (eV us j (vs.length+1)<g*val 4294967296 vs));congr 1;rw[decide_eq_decide,<-MV.2];exact⟨fun h=>by omega,fun h=>by omega⟩
  ·show aY.a _ _ _ _ _ _=aY.a _ _ _ _ _ _;congr 1;rw[MV.1];unfold jX;rw[<-M7];exact th
def WQ:kA where
 L:=ac Nat×Nat×ac Nat
 own:=fun(us,_,_)=>[.a 215 false 1 Nat fR us]
 args:=fun(us,j,vs)=>[.a5 0 1 j (us.length-j) (us.length-j),dr vs]
 pre:=fun(us,j,vs)=>j+vs.length<us.length∧dg 4294967296 us∧dg 4294967296 vs∧us.length<=1099511627776
 aZ:=fun(us,j,vs)=>[.a 215 false 1 Nat fR (jX us j (vs.length+1) (eV us j (vs.length+1)+val 4294967296 vs))]
 res:=fun _=>.bn []
theorem L3{b:Nat}:∀k n,oC b k (n%b^k)=oC b k n
 |0,n=>rfl
 |k+1,n=>by
  rw[oC,oC,zan,zam (b^k) b,Nat.mod_mul_right_mod,Nat.mod_mul_right_div_self,L3]
def alO:bD aX.ctx 362 WQ.spec:=by
 refine Sr [] VY.1 ?_;rintro⟨us,j,vs⟩ ⟨h0,I,U,w4⟩ H i0 aN ae;obtain⟨lq,rfl⟩:∃b,i0=[b]:=zej.1 ae;show aW.ok _ ⟨_,_,⟨[.a 215 false 1 Nat fR us],1,[(0,.a5 0 1 j (us.length-j) (us.length-j)),(1,dr vs)]⟩⟩;refine J ?_;refine df (L:=Nat×ac Nat×Nat) (fun(i,os,c)=>i<=vs.length∧os.length=us.length∧dg 4294967296 os∧c<=1∧(∀p,p<j∨j+i<=p->os[p]? =us[p]?)∧eV os j i+4294967296^i*c=eV us j i+val 4294967296 (vs.take i))
  (fun((i:Nat),(os:ac Nat),(c:Nat))=>⟨[.a 215 false 1 Nat fR os],1,[(0,.a5 0 1 j (us.length-j) (us.length-j)),(1,dr vs),(4,.i .u64 c),(7,dr vs),(8,.i .i64 vs.length),(9,.i .i64 i)]⟩)
  (fun l=>vs.length-l.1) [0] (0,us,0) ⟨by omega,rfl,I,by omega,fun _ _=>rfl,by simp[eV,val]⟩ (by show vs.length-0<b0+1;unfold b0;omega) dX ?_
 rintro⟨i,os,c⟩ ⟨k8,ho,bR,hc,ns,aE⟩;refine J ?_;refine cV (fun h=> ?_) (fun h=> ?_)
 ·have h:i<vs.length:=by omega
  have aa:=U _ (dp h);have mP:j+i<os.length:=by omega
  have yX:os[j+i]=us[j+i]:=by
   have:=ns (j+i) (.inr (cf _));rw[bg mP,bg (by omega)]at this;exact Option.some.inj this
  have al:=bR _ (dp mP);refine J ?_;refine dv vs[i] (bg h) ?_;refine J ?_;refine vw ?_;refine tO os[j+i] (bg mP) ?_;refine av 23 ?_;refine aB 23 (.i .u64 ((c+os[j+i]+vs[i]:Nat):Int)) rfl gg (J ?_);refine vw ?_;refine mq ((c+os[j+i]+vs[i])%4294967296) ?_;refine J ?_;refine br [0] (i+1,os.set (j+i) ((c+os[j+i]+vs[i])%4294967296),(c+os[j+i]+vs[i])/4294967296) ⟨by show vs.length-(i+1)<vs.length-i;omega,by omega,by simp[ho],nz bR _ (zai _ (by decide)),by omega,fun p hp=> ?_,?_⟩
   (fh ⟨rfl,rfl,rfl,rfl,rfl,fI,trivial⟩ ⟨_,rfl,rfl,fun _=>rfl⟩)
  ·rw[zbn (by omega)];exact ns p (by omega)
  ·unfold eV at aE⊢;rw[sI (l:=us) (by omega),sI (l:=os.set _ _) (by simp;omega),zaT,iN h,<-yX,zan];have az:((os.set (j+i) ((c+os[j+i]+vs[i])%4294967296)).drop j).take i=(os.drop j).take i:=by
    rw[zdv];rw[zaa (by omega),show j+i-j=i by omega,zaV (cf _)]
   rw[az];exact Rp (by decide) aE
 ·have ae:i=vs.length:=by omega
  subst ae;have mP:j+vs.length<os.length:=by omega
  have yX:os[j+vs.length]=us[j+vs.length]:=by
   have:=ns (j+vs.length) (.inr (cf _));rw[bg mP,bg (by omega)]at this;exact Option.some.inj this
  have al:=bR _ (dp mP);refine J ?_;refine vw ?_;refine tO os[j+vs.length] (bg mP) ?_;refine av 39 ?_;refine aB 39 (.i .u32 (((os[j+vs.length]+c)%4294967296:Nat):Int)) rfl gg ?_;generalize aV:(os[j+vs.length]+c)%4294967296=t at *;refine vw ?_;refine mq t ?_;refine J ?_;have EB:dg 4294967296 (os.set (j+vs.length) t):=nz bR _ (by omega);have j9:(((os.set (j+vs.length) t).drop j).take (vs.length+1)).length=vs.length+1:=by simp;omega
  have HU:=ll (rj (xp EB j) (vs.length+1));rw[j9]at HU;have th:=acG (us:=us) (os:=os.set (j+vs.length) t) (j:=j) (k:=vs.length+1) (by simp[ho]) (by omega) (fun p hp=>by rw[zbn (by omega)];exact ns p (by omega));have M7:=Hi (b:=4294967296) (by decide) (rj (xp EB j) (vs.length+1)) j9 rfl;have key:(eV us j (vs.length+1)+val 4294967296 vs)%4294967296^(vs.length+1)=val 4294967296 (((os.set (j+vs.length) t).drop j).take (vs.length+1)):=by
   rw[<-hy HU];have:eV us j (vs.length+1)+val 4294967296 vs=val 4294967296 (((os.set (j+vs.length) t).drop j).take (vs.length+1))+4294967296^(vs.length+1)*((os[j+vs.length]+c)/4294967296):=by
    unfold eV at aE⊢;rw[sI (l:=us) (by omega),sI (l:=os.set _ _) (by simp;omega),zaT,<-yX,zan];have az:((os.set (j+vs.length) t).drop j).take vs.length=(os.drop j).take vs.length:=by
     rw[zdv];rw[zaa (by omega),show j+vs.length-j=vs.length by omega,zaV (cf _)]
    rw[az];rw[kU (l:=vs) (cf _)]at aE;have ay:os[j+vs.length]+c=t+4294967296*((os[j+vs.length]+c)/4294967296):=by omega
    generalize(os[j+vs.length]+c)/4294967296=bL at *;generalize 4294967296^vs.length=P at *;have bl:P*(os[j+vs.length]+c)=P*(t+4294967296*bL):=by rw[ay]
    simp only[zaI,zaA]at bl aE⊢;omega
   rw[this,zei]
  refine c8 ⟨.inl rfl,⟨_,rfl,rfl,.refl _⟩,[0],rfl,fh trivial ⟨_,rfl,?_,fun _=>rfl⟩⟩;show aY.a _ _ _ _ _ _=aY.a _ _ _ _ _ _;congr 1;unfold jX;rw[<-L3,key,<-M7];exact th
def KN(h:j+k<=us.length):(jX us j k X).length=us.length:=by
 unfold jX;simp[DH];omega
def adU(h:dg 4294967296 us):dg 4294967296 (jX us j k X):=fun x aa=>by
 unfold jX at aa;simp only[zbl]at aa;rcases aa with aa|aa|aa
 ·exact h x (zbM aa)
 ·exact Td (by decide) _ _ x aa
 ·exact h x (zcx aa)
def awc(h:j+k<=us.length):val 4294967296 (jX us j k X)=val 4294967296 (us.take j)+4294967296^j*(X%4294967296^k+4294967296^k*val 4294967296 (us.drop (j+k))):=by
 unfold jX;rw[nN,nN,L4,DH,zao,zaF (by omega)]
def awd{Y:Nat}(h:j+k<=us.length):jX (jX us j k X) j k Y=jX us j k Y:=by
 unfold jX;rw[zeb (by simp;omega)];congr 2;rw[<-zbu,zdr (by simp;omega),zdr (DH _ _ _)]
def awh(h:j+k<=us.length):eV (jX us j k X) j k=X%4294967296^k:=by
 unfold eV jX;rw[zdr (by simp;omega),zeb (DH _ _ _),L4]
def awa:jX us j k (X%4294967296^k)=jX us j k X:=by
 unfold jX;rw[L3]
def awb(h:j+k<=us.length)(bR:dg 4294967296 us):jX us j k (eV us j k)=us:=by
 unfold jX eV;rw[<-Hi (by decide) (rj (xp bR j) k) (by simp;omega) rfl];rw[<-zbu,zbp,zbp]
def adV(bR:dg 4294967296 us)(h:j+(n+1)<=us.length)(ik:V<4294967296^n)(hu:val 4294967296 us<V*4294967296^(j+1)):
 val 4294967296 us=val 4294967296 (us.take j)+4294967296^j*eV us j (n+1)∧val 4294967296 (us.drop (j+(n+1)))=0∧eV us j (n+1)<V*4294967296:=by
 have az:=KI (b:=4294967296) (l:=us) (k:=j) (by omega);have e2:=KI (b:=4294967296) (l:=us.drop j) (k:=n+1) (by simp;omega);rw[zbu]at e2;have ax:val 4294967296 (us.drop (j+(n+1)))=0:=by
  rcases zcS (val 4294967296 (us.drop (j+(n+1))))with h0|h0
  ·exact h0
  ·exfalso;have I:4294967296^(j+(n+1))*1<=4294967296^(j+(n+1))*val 4294967296 (us.drop (j+(n+1))):=nQ _ h0;have U:V*4294967296^(j+1)<=4294967296^n*4294967296^(j+1):=ix _ (by omega);rw[<-zat,show n+(j+1)=j+(n+1) by omega]at U;rw[e2,zaI,<-zaA,<-zat]at az;omega
 rw[ax,zcB,zba]at e2;refine⟨by rw[az,e2];rfl,ax,?_⟩;have ag:4294967296^j*eV us j (n+1)<4294967296^j*(V*4294967296):=by
  have:V*4294967296^(j+1)=4294967296^j*(V*4294967296):=by rw[zan];ac_rfl
  have b8:val 4294967296 (us.drop j)=eV us j (n+1):=e2;rw[b8]at az;omega
 exact Nat.lt_of_mul_lt_mul_left ag
def ahz{dA:ac Nat}{A:Nat}(bR:dg 4294967296 us)(h:j+(n+1)<=us.length)(hj:j<dA.length)(s5:0<V)(ik:V<4294967296^n)(hu:val 4294967296 us<V*4294967296^(j+1))(e6:A=val 4294967296 (dA.drop (j+1))*4294967296^(j+1)*V+val 4294967296 us):
 val 4294967296 (jX us j (n+1) (eV us j (n+1)%V))<V*4294967296^j∧A=val 4294967296 ((dA.set j (eV us j (n+1)/V)).drop j)*4294967296^j*V+val 4294967296 (jX us j (n+1) (eV us j (n+1)%V)):=by
 obtain⟨I,U,ag⟩:=adV bR h ik hu;have hm:=zai (eV us j (n+1)) s5;have ay:=zbN (eV us j (n+1)) V;have awJ:4294967296^n<=4294967296^(n+1):=zaL (by decide) (by omega);rw[awc h,U,zcB,zba,hy (a:=eV us j (n+1)%V) (by omega)];have aT:=ll (rj bR j);rw[zao,zaF (by omega)]at aT;constructor
 ·have:4294967296^j*(eV us j (n+1)%V+1)<=4294967296^j*V:=nQ _ hm;rw[zaI,zbj]at this;rw[zam V];omega
 ·have az:val 4294967296 ((dA.set j (eV us j (n+1)/V)).drop j)=eV us j (n+1)/V+4294967296*val 4294967296 (dA.drop (j+1)):=by
   rw[hx (by simp;omega),zaT,zcK (by omega)];rfl
  have e2:4294967296^j*eV us j (n+1)=4294967296^j*(V*(eV us j (n+1)/V))+4294967296^j*(eV us j (n+1)%V):=by rw[<-zaI,ay]
  rw[e6,I,az,e2,zak,zak,zan];have b8:eV us j (n+1)/V*4294967296^j*V=4294967296^j*(V*(eV us j (n+1)/V)):=by ac_rfl
  have fa:4294967296*val 4294967296 (dA.drop (j+1))*4294967296^j*V=val 4294967296 (dA.drop (j+1))*(4294967296^j*4294967296)*V:=by ac_rfl
  rw[b8,fa];omega
def aqw{aw:ac Nat}(hl:aw.length=m+2)(bR:dg 4294967296 aw)(aV:e1 aw=aw)(aE:val 4294967296 aw=b):
 b2 aw[m+1]<=32∧0<b2 aw[m+1]∧b*2^(32-b2 aw[m+1])<4294967296^(m+2)∧2147483648*4294967296^(m+1)<=b*2^(32-b2 aw[m+1]):=by
 have ay:aw[m+1]≠0:=by
  have e:aw=aw.take (m+1)++[aw[m+1]]:=by
   have:=zbp (m+1) aw;rw[hx (by omega),zbS (by omega)]at this;exact this.symm
  have:=aV;rw[e]at this;exact(Jd (b:=4294967296) this).2
 have aT:=bR _ (dp (show m+1<aw.length by omega));have amm:=LA aT;obtain⟨g1,aP⟩:=sQ ay;have kF:0<b2 aw[m+1]:=by unfold b2;rw[zaa ay];omega
 have az:b=val 4294967296 (aw.take (m+1))+4294967296^(m+1)*aw[m+1]:=by
  rw[<-aE,<-iN (by omega),zau (by omega)]
 have I:=ll (rj bR (m+1));rw[zao,zaF (by omega)]at I;generalize aw[m+1]=d at *;have hp:0<2^(32-b2 d):=zaE _;have e2:2^b2 d*2^(32-b2 d)=4294967296:=by rw[<-zat,show b2 d+(32-b2 d)=32 by omega]
 have b8:2^(b2 d-1)*2^(32-b2 d)=2147483648:=by rw[<-zat,show b2 d-1+(32-b2 d)=31 by omega]
 refine⟨amm,kF,?_,?_⟩
 ·have U:b<4294967296^(m+1)*2^b2 d:=by
   have:4294967296^(m+1)*(d+1)<=4294967296^(m+1)*2^b2 d:=nQ _ aP;rw[zaI,zbj]at this;omega
  have ag:=zeD U hp;rw[zaA,e2]at ag;rw[zan _ (m+1)];exact ag
 ·have U:4294967296^(m+1)*2^(b2 d-1)<=b:=by
   have:4294967296^(m+1)*2^(b2 d-1)<=4294967296^(m+1)*d:=nQ _ g1;omega
  have ag:=ix (2^(32-b2 d)) U;rw[zaA,b8]at ag;rw[zam];exact ag
def aq7(aD:r<4294967296)(aa:x<4294967296):(r%18446744073709551616*2^32%18446744073709551616%18446744073709551616|||x%18446744073709551616%18446744073709551616)=r*4294967296+x:=by
 rw[hy (a:=r) (by omega)];exact Pd aD aa
def ahw(P A rB jW hX:Nat):A+P*hX+P*4294967296*rB+P*4294967296*4294967296*jW=((jW*4294967296+rB)*4294967296+hX)*P+A:=by
 rw[zak,zak,zak];have az:P*4294967296*4294967296*jW=jW*4294967296*4294967296*P:=by ac_rfl
 have e2:P*4294967296*rB=rB*4294967296*P:=by ac_rfl
 have b8:P*hX=hX*P:=by ac_rfl
 omega
def ahv(P A rB jW:Nat):A+P*rB+P*4294967296*jW=(jW*4294967296+rB)*P+A:=by
 rw[zak];have az:P*4294967296*jW=jW*4294967296*P:=by ac_rfl
 have e2:P*rB=rB*P:=by ac_rfl
 omega
def Qw{g:Nat}(h:0<g)(U:g<18446744073709551616):(g+(18446744073709551616*1-1))%18446744073709551616=g-1:=by omega
def D2(h:i<l.length):l[i]? =some l[i]:=bg h
def L5:bU where
 L:=Nat×Nat
 args:=fun(a,b)=>[dH a,dH b]
 pre:=fun(a,b)=>eO 1073741823 a∧eO 1073741823 b∧b≠0
 res:=fun(a,b)=>.bn [dH (a/b),dH (a%b)]
def L6:bD aX.ctx 269 L5.spec:=by
 refine b3 [(163,AB.spec),(122,acB.spec),(158,B3.spec),(359,YW.spec),(360,Kp.spec),(363,acr.spec),(361,ac8.spec),(362,WQ.spec),(242,um.spec)] Vj.1 ?_;intro⟨a,b⟩ ⟨(ha:(bb _ a).length<=_),(hb:(bb _ b).length<=_),(kF:b≠0)⟩ H aN;show aW.ok _ ⟨_,_,⟨_,_,[(0,dr (bb 4294967296 a)),(1,dr (bb 4294967296 b))]⟩⟩;have n3:0<(bb 4294967296 b).length:=zbi.2 (fun h=>kF ((sX (by decide)).1 h));refine J ?_;refine a9 G3 (a,b) ⟨by show(bb _ a).length<=_;omega,by show(bb _ b).length<=_;omega⟩ (J ?_);refine cV (fun h=> ?_) (fun h=> ?_)
 ·have aT:a<b:=by
   rcases zaj a b with aG|aG
   ·exact aG
   ·have h:ji a b<0:=h;unfold ji at h;rw[zaa (by omega)]at h;split at h<;>omega
  refine J ?_;exact aA rfl (.bn ⟨b7.nl.trans (.of (by show dr []=dr (bb _ (a/b));rw[zbO aT,hQ])),.of (by show dr _=dr (bb _ (a%b));rw[hy aT]),trivial⟩)
 have mL:b<=a:=by
  rcases zaj a b with aG|aG
  ·exact absurd (show ji a b<0 by rw[AD aG];decide) h
  ·exact aG
 refine J ?_;refine cV (fun I=> ?_) (fun I=> ?_)
 ·have I:(bb 4294967296 b).length=1:=by omega
  obtain⟨d,ay⟩:=zej.1 I;have aE:=gO (b:=4294967296) (by decide) b;have M8:=hg (b:=4294967296) (by decide) b;rw[ay]at aE M8;have Bb:b=d:=by simp[val]at aE;exact aE.symm
  have Bf:=M8 d (by simp);rw[ay];subst Bb;refine J ?_;refine dv (j:=0) b rfl ?_;refine J ?_;refine a9 auA (a,b) ⟨by show(bb _ a).length<=_;omega,by show 0<b;omega,Bf⟩ (J ?_);refine aB 37 (.i .u64 ((a%b:Nat):Int)) rfl (gg (by have:=zai a (show 0<b by omega);omega)) ?_;refine a9 vn (a%b) (by have:=zai a (show 0<b by omega);show a%b<_;omega) (J ?_);exact aA rfl (.bn ⟨.refl _,.refl _,trivial⟩)
 have aow:=hg (b:=4294967296) (by decide) a;have Yb:=hg (b:=4294967296) (by decide) b;have cI:=gO (b:=4294967296) (by decide) a;have gy:=gO (b:=4294967296) (by decide) b;have aoz:=yu (b:=4294967296) (by decide) b;have q3:=Ot mL;generalize nt:bb 4294967296 a=xs at *;generalize w7:bb 4294967296 b=aw at *;obtain⟨m,hm⟩:∃m,aw.length=m+2:=⟨aw.length-2,by omega⟩;obtain⟨iK,gH,qj,E9⟩:=aqw hm Yb aoz gy;have ay:=Yb _ (dp (show m+1<aw.length by omega));refine J ?_;refine aB 41 (.i .i64 ((m+1:Nat):Int)) rfl cX ?_;refine dv aw[m+1] (bg (by omega)) ?_;refine J ?_;refine a9 ap2 aw[m+1] ay ?_;generalize awP:aw[m+1]=h2 at *;refine aB 44 (.i .i64 ((32-b2 h2:Nat):Int)) rfl rfl ?_;generalize he:32-b2 h2=e at *;have awQ:e<=31:=by omega
 refine J ?_;refine a9 CB (b,e) ⟨by show(bb _ b).length<=_;rw[w7];omega,by show e<_;omega⟩ ?_ (he:=by exact⟨.of (congrArg dr w7.symm),.refl _,trivial⟩);refine aB 47 (dr (bb 4294967296 (b*2^e))) rfl rfl (J ?_);refine aB 50 (.i .i64 ((xs.length+1:Nat):Int)) rfl cX ?_;refine qn fR 0 ?_;refine J ?_;refine a9 CB (a,e) ⟨by show(bb _ a).length<=_;rw[nt];omega,by show e<_;omega⟩ ?_ (he:=by exact⟨.of (congrArg dr nt.symm),.refl _,trivial⟩);have awC:a*2^e<2147483648*4294967296^xs.length:=by
  have I:=ll aow;rw[cI]at I;have U:(a+1)*2^e<=4294967296^xs.length*2147483648:=zdu (by omega) (Jx (by omega));have ag:0<2^e:=zaE e;rw[zak]at U;omega
 have amo:a*2^e<4294967296^(xs.length+1):=by
  rw[zan];have:0<4294967296^xs.length:=zcA (by decide);omega
 have w4:(bb 4294967296 (a*2^e)).length<=xs.length+1:=mD (by decide) amo;refine J ?_;refine asj (bb 4294967296 (a*2^e)) (tS rfl (fun _=>rfl) (fun _=>rfl)) ?_;refine J ?_;refine aB 61 (.i .i64 ((xs.length-aw.length+1:Nat):Int)) rfl (by rw[hK (n:=(xs.length:Int)-aw.length) (by omega) (by omega)];exact cX) ?_;refine qn fR 0 ?_;refine J ?_;have ik:=gO (b:=4294967296) (by decide) (b*2^e);have D4:=hg (b:=4294967296) (by decide) (b*2^e);have A5:(bb 4294967296 (b*2^e)).length=m+2:=by
  have I:=mD (b:=4294967296) (by decide) qj;have U:=Tb (b:=4294967296) (n:=b*2^e) (k:=m+1) (by decide) (by
   have:0<4294967296^(m+1):=zcA (by decide);omega)
  omega
 generalize X8:bb 4294967296 (b*2^e)=vs at *;have Iv:(bb 4294967296 (a*2^e)++(List.replicate (xs.length+1) 0).drop (bb 4294967296 (a*2^e)).length).length=xs.length+1:=by simp;omega
 have oa:val 4294967296 (bb 4294967296 (a*2^e)++(List.replicate (xs.length+1) 0).drop (bb 4294967296 (a*2^e)).length)=a*2^e:=by
  rw[List.drop_replicate,nN,val_zero,gO (by decide)];omega
 have mW:dg 4294967296 (bb 4294967296 (a*2^e)++(List.replicate (xs.length+1) 0).drop (bb 4294967296 (a*2^e)).length):=fun x aa=>by
  rcases zbl.1 aa with aa|aa
  ·exact hg (by decide) _ x aa
  ·exact tB (by decide) _ x (zcx aa)
 generalize bb 4294967296 (a*2^e)++(List.replicate (xs.length+1) 0).drop (bb 4294967296 (a*2^e)).length=avx at *;refine df (L:=Nat×ac Nat×ac Nat) (fun(k,us,dA)=>k<=xs.length-aw.length+1∧us.length=xs.length+1∧dg 4294967296 us∧dA.length=xs.length-aw.length+1∧dg 4294967296 dA∧(∀p,p<k->dA[p]? =some 0)∧val 4294967296 us<b*2^e*4294967296^k∧a*2^e=val 4294967296 (dA.drop k)*4294967296^k*(b*2^e)+val 4294967296 us)
  (fun((k:Nat),(us:ac Nat),(dA:ac Nat))=>⟨[.a 215 false 1 Nat fR us,.a 215 false 1 Nat fR dA],2,[(4,.a5 1 1 0 (xs.length-aw.length+1) (xs.length-aw.length+1)),(6,.i .i64 ((m+2:Nat):Int)),(9,.i .i64 e),(10,dr vs),(11,.a5 0 1 0 (xs.length+1) (xs.length+1)),(12,.i .i64 ((k:Int)-1))]⟩)
  (fun l=>l.1) [0,1] (xs.length-aw.length+1,avx,List.replicate (xs.length-aw.length+1) 0) ⟨by omega,Iv,mW,by simp,tB (by decide) _,fun p hp=>by rw[zeC,zab hp],?_,by rw[oa,zbS (by simp)];simp[val]⟩ (by show xs.length-aw.length+1<b0+1;unfold b0;omega) (sE ⟨rfl,mZ,rfl,rfl,rfl,fI,trivial⟩ ⟨_,rfl,rfl,fun _=>rfl⟩ ⟨_,rfl,rfl,fun _=>rfl⟩) ?_
 ·rw[oa];have I:=ix (4294967296^(xs.length-aw.length+1)) E9;rw[zaA,<-zat,show m+1+(xs.length-aw.length+1)=xs.length by omega]at I;omega
 rintro⟨k,us,dA⟩ ⟨ab,w4,qd,Bq,NN,qb,hu,e6⟩;cases k with
 |zero=>
  rw[zbV,zbj]at hu;rw[zbV,zbj,zaq]at e6;refine av 67 ?_
  iterate 9 refine iL ?_
  refine abD 4 ?_;refine abD 11 ?_;refine J ?_;refine cq uo dA ⟨NN,by omega⟩ (J ?_);refine ahf (us.take (m+2)) ?_;refine J ?_;refine cq uo (us.take (m+2)) ⟨rj qd _,by simp;omega⟩ (J ?_);refine cq atx (val 4294967296 (us.take (m+2)),e) ⟨?_,by show e<_;omega⟩ ?_
  ·show(bb _ _).length<=_;have:=mD (b:=4294967296) (by decide) (ll (rj qd (m+2)));rw[zao]at this;omega
  refine J ?_;have MM:0<2^e:=zaE e;have oH:0<b*2^e:=zca (by omega) MM;have tj:val 4294967296 (us.take (m+2))=val 4294967296 us:=by
   have az:=KI (b:=4294967296) (l:=us) (k:=m+2) (by omega);rcases zcS (val 4294967296 (us.drop (m+2)))with h0|h0
   ·rw[h0]at az;omega
   ·have:4294967296^(m+2)*1<=4294967296^(m+2)*val 4294967296 (us.drop (m+2)):=nQ _ h0;omega
  have anT:val 4294967296 dA=a/b:=by
   have I:a*2^e/(b*2^e)=a/b:=Nat.mul_div_mul_right _ _ MM;rw[<-I,e6,zbY,Nat.add_mul_div_right _ _ oH,zbO hu,zas]
  have r3:val 4294967296 us/2^e=a%b:=by
   have I:a*2^e%(b*2^e)=a%b*2^e:=Nat.mul_mod_mul_right _ _ _;rw[e6,zbY,Nat.add_mul_mod_self_right,hy hu]at I;rw[I,Nat.mul_div_cancel _ MM]
  exact aA rfl (.bn ⟨.of (congrArg dH anT),.of (congrArg dH (by rw[tj];exact r3)),trivial⟩)
 |succ j=>
  refine aB 12 (.i .i64 (j:Nat)) rfl gg (J ?_);refine aB 67 (.b true) rfl (by simp) (J ?_);refine eU 73 (.i .i64 ((j+(m+2):Nat):Int)) rfl rfl cX ?_;refine AJ ?_;refine He us[j+(m+2)] (D2 (by omega)) ?_;refine av 82 ?_;refine eU 82 (.i .i64 ((j+(m+1):Nat):Int)) rfl rfl (by rw[hK (n:=(j:Int)+(m+2:Nat)) (by omega) (by omega)];exact cX) ?_;refine AJ ?_;refine He us[j+(m+1)] (D2 (by omega)) ?_;refine av 86 ?_;have aom:=qd _ (dp (show j+(m+2)<us.length by omega));have aol:=qd _ (dp (show j+(m+1)<us.length by omega));have NR:=qd _ (dp (show j+m<us.length by omega));have axh:=D4 _ (dp (show m+1<vs.length by omega));have Bv:=D4 _ (dp (show m<vs.length by omega));obtain⟨top,EH⟩:∃top,top=us[j+(m+2)]*4294967296+us[j+(m+1)]:=⟨_,rfl⟩;refine eU 86 (.i .u64 (top:Nat)) rfl rfl (gg (congrArg _ ((aq7 aom aol).trans EH.symm))) ?_;obtain⟨dT,z2,KL⟩:=adV (n:=m+2) qd (by omega) qj hu;have A6:eV us j (m+2+1)=(top*4294967296+us[j+m])*4294967296^m+eV us j m:=by
   unfold eV;rw[EH];rw[sI (by omega),sI (by omega),sI (by omega),zan,zan];exact ahw _ _ _ _ _
  have wP:b*2^e=(vs[m+1]*4294967296+vs[m])*4294967296^m+val 4294967296 (vs.take m):=by
   rw[<-ik];have:val 4294967296 vs=val 4294967296 (vs.take (m+1+1)):=by rw[zau (by omega)]
   rw[this,iN (by omega),iN (by omega),zan];exact ahv _ _ _ _
  have uD:eV us j m<4294967296^m:=by
   have:=ll (rj (xp qd j) m);unfold eV;rw[zao,zaF (by simp;omega)]at this;exact this
  have D5:val 4294967296 (vs.take m)<4294967296^m:=by
   have:=ll (rj D4 m);rw[zao,zaF (by omega)]at this;exact this
  have EJ:0<vs[m+1]:=by
   rcases zcS vs[m+1]with h0|h0
   ·rw[h0,zar,zas]at wP;have I:vs[m]*4294967296^m+4294967296^m<=4294967296^(m+1):=by
     have:(vs[m]+1)*4294967296^m<=4294967296*4294967296^m:=ix _ Bv;rw[zak,zbm]at this;rw[zan,zam _ 4294967296];exact this
    have U:1*4294967296^(m+1)<=2147483648*4294967296^(m+1):=ix _ (by decide);omega
   ·exact h0
  have s5:0<b*2^e:=zca (by omega) (zaE e);have XW:eV us j (m+2+1)/(b*2^e)<4294967296:=(zcW s5).2 (by rw[zam];exact KL);have XX:eV us j (m+2+1)/(b*2^e)*(b*2^e)<=eV us j (m+2+1):=zek _ _;have jE:=ahz (dA:=dA) (n:=m+2) qd (by omega) (by omega) s5 qj hu e6;generalize e7:eV us j (m+2+1)=W at *;generalize hq:W/(b*2^e)=q at *;generalize awH:b*2^e=V at *;generalize X5:us[j+(m+2)]=jW at *;generalize X4:us[j+(m+1)]=rB at *;generalize EG:us[j+m]=hX at *;generalize kJ:vs[m+1]=v1 at *;generalize j8:vs[m]=v2 at *;have HQ:vs[m+1]? =some v1:=by rw[D2 (by omega),kJ]
  have amd:vs[m]? =some v2:=by rw[D2 (by omega),j8]
  have al6:us[j+m]? =some hX:=by rw[D2 (by omega),EG]
  have axe:top<18446744073709551616:=by omega
  have axg:2147483648<=v1:=aps wP D5 Bv (by decide) (by rw[zan]at E9;exact E9);have axf:jW<=v1:=apr wP D5 Bv (by decide) A6 EH KL;refine J ?_;refine eU 90 (.i .i64 ((m+1:Nat):Int)) rfl rfl cX ?_;refine e3 v1 HQ ?_;refine av 93 ?_;refine eU 93 (.i .u64 (v1:Nat)) rfl rfl gg ?_;refine ahb ?_;refine J ?_;refine eU 98 (.i .i64 ((m+1:Nat):Int)) rfl rfl cX ?_;refine e3 v1 HQ ?_;refine av 101 ?_;refine eU 101 (.i .u64 (v1:Nat)) rfl rfl gg ?_;refine ahe ?_;refine av 15 ?_
  iterate 3 refine iL ?_
  refine ks (fun(g:Nat)=>q<=g∧g<4294967296∧g*V<=W+V) (fun(g:Nat)=>⟨[.a 215 false 1 Nat fR us,.a 215 false 1 Nat fR dA],2,[(4,.a5 1 1 0 (xs.length-aw.length+1) (xs.length-aw.length+1)),(6,.i .i64 ((m+2:Nat):Int)),(9,.i .i64 e),(10,dr vs),(11,.a5 0 1 0 (xs.length+1) (xs.length+1)),(12,.i .i64 j),(14,.i .u64 g)]⟩) ?_ ?_
  ·refine J ?_;refine df (L:=Nat×Nat) (fun(g,o)=>top=g*v1+o∧q<=g∧g<=4294967297∧o<4294967296)
    (fun((g:Nat),(o:Nat))=>⟨[.a 215 false 1 Nat fR us,.a 215 false 1 Nat fR dA],2,[(4,.a5 1 1 0 (xs.length-aw.length+1) (xs.length-aw.length+1)),(6,.i .i64 ((m+2:Nat):Int)),(9,.i .i64 e),(10,dr vs),(11,.a5 0 1 0 (xs.length+1) (xs.length+1)),(12,.i .i64 j),(14,.i .u64 g),(15,.i .u64 o)]⟩)
    (fun l=>l.1) [0,1] (top/v1,top%v1) ⟨by rw[zam];exact(zbN top v1).symm,?_,?_,?_⟩ ?_ lj ?_
   ·exact(zbU EJ).2 (apq wP A6 uD NR XX)
   ·have:top/v1<4294967298:=(zcW EJ).2 (by omega);omega
   ·have:=zai top EJ;omega
   ·have:top/v1<=top:=zbg _ _;have U:top/v1<4294967298:=(zcW EJ).2 (by omega);show top/v1<b0+1;unfold b0;omega
   rintro⟨g,o⟩ ⟨aV,NM,Xu,anG⟩;refine av 106 ?_;rcases zaj g 4294967296 with aM|aM
   ·refine eU 106 (.b false) rfl rfl (by show aj.b (decide _)=_;congr 1;simp;omega) ?_;refine av 110 ?_;refine eU 110 (.i .i64 (m:Nat)) rfl rfl cX ?_;refine J ?_;refine e3 v2 amd ?_;obtain⟨bl,bK,ee⟩:=OH (c:=0) (o:=0) (by decide) aM Bv (by decide);refine av 114 ?_;refine eU 114 (.i .u64 ((g*v2:Nat):Int)) rfl rfl (gg (congrArg _ (by rw[hy (a:=v2) (by omega),hy bl]))) ?_;refine av 121 ?_;refine eU 121 (.i .i64 ((j+m:Nat):Int)) rfl rfl (by rw[hK (n:=(j:Int)+(m+2:Nat)) (by omega) (by omega)];exact cX) ?_;refine J ?_;refine AJ ?_;refine J ?_;refine He hX al6 ?_;refine av 125 ?_;refine eU 125 (.i .u64 ((o*4294967296+hX:Nat):Int)) rfl rfl (gg (congrArg _ (Pd anG NR))) ?_;refine J ?_;refine cV (fun hc=> ?_) (fun hc=> ?_)
    ·have aT:=apo wP A6 uD XX NM aV (by omega);refine J ?_;have ang:(g-1)*v1+v1=g*v1:=by
      rw[<-zcL,show(g-1).succ=g by omega]
     have ti:top=(g-1)*v1+(o+v1):=by omega
     refine aB 14 (.i .u64 ((g-1:Nat):Int)) rfl (gg (congrArg _ (Qw (by omega) (by omega)))) ?_;refine aB 133 (.i .i64 ((m+1:Nat):Int)) rfl cX ?_;refine dv v1 HQ ?_;refine av 137 ?_;refine aB 137 (.i .u64 ((o+v1:Nat):Int)) rfl gg (J ?_);refine cV (fun hc=> ?_) (fun hc=> ?_)
     ·have hc:(((o+v1)/4294967296:Nat):Int)≠0:=hc;refine J ?_;have yJ:=YD wP D5 Bv A6 ti (by omega) (by omega);have hle:=(zbU s5).2 yJ;rw[hq]at hle;exact br [0,1] (g-1) ⟨by omega,by omega,by omega⟩ lj
     ·have hc:¬(((o+v1)/4294967296:Nat):Int)≠0:=hc;refine J ?_;exact br [0,1] (g-1,o+v1) ⟨by show g-1<g;omega,ti,by omega,by omega,by omega⟩ lj
    ·refine J ?_;exact br [0,1] g ⟨NM,aM,apn wP D5 EJ A6 aV (by omega) (by omega)⟩ lj
   ·refine eU 106 (.b true) rfl rfl (by show aj.b (decide _)=_;congr 1;simp;omega) ?_;refine J ?_;have ang:(g-1)*v1+v1=g*v1:=by
     rw[<-zcL,show(g-1).succ=g by omega]
    have ti:top=(g-1)*v1+(o+v1):=by omega
    refine aB 14 (.i .u64 ((g-1:Nat):Int)) rfl (gg (congrArg _ (Qw (by omega) (by omega)))) ?_;refine aB 133 (.i .i64 ((m+1:Nat):Int)) rfl cX ?_;refine dv v1 HQ ?_;refine av 137 ?_;refine aB 137 (.i .u64 ((o+v1:Nat):Int)) rfl gg (J ?_);refine cV (fun hc=> ?_) (fun hc=> ?_)
    ·have hc:(((o+v1)/4294967296:Nat):Int)≠0:=hc;refine J ?_;have yJ:=YD wP D5 Bv A6 ti (by omega) (by omega);have hle:=(zbU s5).2 yJ;rw[hq]at hle;exact br [0,1] (g-1) ⟨by omega,by omega,by omega⟩ lj
    ·have hc:¬(((o+v1)/4294967296:Nat):Int)≠0:=hc;refine J ?_;exact br [0,1] (g-1,o+v1) ⟨by show g-1<g;omega,ti,by omega,by omega,by omega⟩ lj
  rintro(g:Nat) ⟨Bh,mK,ane⟩;obtain⟨f1,f2⟩:=apm (W:=W) (V:=V) (g:=g) s5 (by rw[hq];exact Bh) ane;refine J ?_;refine cV (fun h0=> ?_) (fun h0=> ?_)
  ·have XV:q=0:=by omega
   have amC:W<V:=by
    have:=zbN W V;rw[hq,XV,zcB,zas]at this;have:=zai W s5;omega
   refine J ?_;rw[hy amC,<-e7,awb (by omega) qd,XV]at jE;have r4:dA.set j 0=dA:=by
    apply zbA;intro p;rw[zaG];split
    ·rename_i hp;subst hp;rw[zab (by omega),qb _ (by omega)]
    ·rfl
   rw[r4]at jE;exact br [0,1] (j,us,dA) ⟨by show j<j+1;omega,by omega,w4,qd,Bq,NN,fun p hp=>qb p (by omega),jE.1,jE.2⟩ (sE ⟨rfl,rfl,rfl,rfl,rfl,fI,trivial⟩ ⟨_,rfl,rfl,fun _=>rfl⟩ ⟨_,rfl,rfl,fun _=>rfl⟩)
  refine J ?_;refine abK ?_;refine J ?_;refine abA avb 0 (us,j,vs,g) ⟨by omega,qd,D4,mK,by omega⟩ ?_ (he:=by show[aj.a5 0 1 j _ _,dr vs,aj.i .u64 (g:Nat)]=[aj.a5 0 1 j _ _,dr vs,aj.i .u64 (g:Nat)];rw[w4]);have a6:vs.length=m+2:=A5;have awK:∀X,X<V->X%4294967296^(m+2+1)=X:=fun X MV=>hy (by
   have:4294967296^(m+2)<=4294967296^(m+2+1):=zaL (by decide) (by omega);omega)
  have amV:=zbN W V;rw[hq]at amV;have XM:=zai W s5;rw[show eV us j (vs.length+1)=W by rw[a6];exact e7,ik,a6];refine aB 148 (.b (decide (W<g*V))) rfl (by show aj.b (decide (eV us j (vs.length+1)<g*val 4294967296 vs))=_;rw[a6,e7,ik]) ?_;refine iL ?_;refine iL ?_;refine ks (fun(g:Nat)=>g=q) (fun(g:Nat)=>⟨[.a 215 false 1 Nat fR (jX us j (m+2+1) (W%V)),.a 215 false 1 Nat fR dA],2,[(4,.a5 1 1 0 (xs.length-aw.length+1) (xs.length-aw.length+1)),(6,.i .i64 ((m+2:Nat):Int)),(9,.i .i64 e),(10,dr vs),(11,.a5 0 1 0 (xs.length+1) (xs.length+1)),(12,.i .i64 j),(14,.i .u64 g)]⟩) ?_ ?_
  ·refine cV (fun hc=> ?_) (fun hc=> ?_)
   ·obtain⟨eF,e5⟩:=f1 hc;rw[zab hc];refine av 14 ?_;refine aB 14 (.i .u64 ((g-1:Nat):Int)) rfl (gg (congrArg _ (Qw (by omega) (by omega)))) (J ?_);refine abK ?_;refine J ?_;refine abA alO 0 (jX us j (m+2+1) (W+4294967296^(m+2+1)-g*V),j,vs) ⟨by rw[KN (by omega)];omega,adU qd,D4,by rw[KN (by omega)];omega⟩ ?_ (he:=by show[aj.a5 0 1 j _ _,dr vs]=[aj.a5 0 1 j _ _,dr vs];rw[KN (by omega),w4]);refine J ?_;refine br [0,1] (g-1) (eF.trans hq) (sE ⟨rfl,rfl,rfl,rfl,rfl,rfl,rfl,trivial⟩ ⟨_,rfl,?_,fun _=>rfl⟩ ⟨_,rfl,rfl,fun _=>rfl⟩);show aY.a _ _ _ _ _ _=aY.a _ _ _ _ _ _;congr 1;rw[a6,awd (by omega),awh (by omega),ik];have awS:(g-1)*V+V=g*V:=by rw[<-zcL,show(g-1).succ=g by omega]
    have H7:(g-1)*V=V*q:=by rw[eF,hq,zam]
    have hI:0<4294967296^(m+2+1):=zcA (by decide);have awI:V<4294967296^(m+2+1):=by
     have:4294967296^(m+2)<=4294967296^(m+2+1):=zaL (by decide) (by omega);omega
    have key:((W+4294967296^(m+2+1)-g*V)%4294967296^(m+2+1)+V)%4294967296^(m+2+1)=W%V:=by
     generalize 4294967296^(m+2+1)=PP at *;rw[hy (show W+PP-g*V<PP by omega),show W+PP-g*V+V=W%V+PP by omega,Nat.add_mod_right,hy (by omega)]
    rw[<-awa,key]
   ·have eF:=f2 hc;rw[zaa hc];refine J ?_;refine br [0,1] g (by omega) (sE ⟨rfl,rfl,rfl,rfl,rfl,rfl,rfl,trivial⟩ ⟨_,rfl,?_,fun _=>rfl⟩ ⟨_,rfl,rfl,fun _=>rfl⟩);show aY.a _ _ _ _ _ _=aY.a _ _ _ _ _ _;congr 2;rw[zba];have:g*V=V*q:=by rw[eF,hq,zam]
    omega
  intro gD Nf;rw[show gD=q from Nf];refine J ?_;refine kt ?_;refine mq (q%4294967296) ?_;refine J ?_;rw[hy XW];refine br [0,1] (j,jX us j (m+2+1) (W%V),dA.set j q) ⟨by show j<j+1;omega,by omega,by rw[KN (by omega)];exact w4,adU qd,by simp[Bq],nz NN _ XW,fun p hp=>by rw[zbn (by omega)];exact qb p (by omega),jE.1,jE.2⟩ (sE ⟨rfl,rfl,rfl,rfl,rfl,fI,trivial⟩ ⟨_,rfl,rfl,fun _=>rfl⟩ ⟨_,rfl,rfl,fun _=>rfl⟩)
def zf(h:eO k a)(hb:b<=a):eO k b:=zag (Ot hb) h
def ze(h:eO k a):a<4294967296^k:=by
 have I:=ll (hg (b:=4294967296) (by decide) a);rw[gO (by decide)]at I;exact fx I (zaL (by decide) h)
def BH(h:a<4294967296^k):eO k a:=mD (by decide) h
def LC(h:m<=n):b2 m<=b2 n:=by
 by_cases h0:m=0
 ·subst h0;exact zaf _
 ·have I:=(sQ h0).1;have U:=(sQ (show n≠0 by omega)).2;have:=(zcY (by decide:1<2)).1 (zbD (zag I h) U);omega
def ae5(h:m<=n/2)(hn:1<=n):b2 m<b2 n:=by
 have:=LC h;rw[we hn];omega
def GU(h:n<2^k):b2 n<=k:=by
 by_cases h0:n=0
 ·subst h0;exact zaf _
 ·have:=(zcY (by decide:1<2)).1 (zbD (sQ h0).1 h);omega
def BG(h:eO k a):b2 a<=32*k:=GU (by rw[zbT];exact ze h)
def ae6(ha:eO k a)(hb:eO k b):b2 (a*b)<=64*k:=GU (by
 rw[show 64*k=32*k+32*k by omega,zat,zbT];exact zel (ze ha) (ze hb))
def aih(aJ:0<y)(h:y<=x):y*(x%y)<=x*y/2:=by
 have I:x%y<y:=zai x aJ;have U:2*(x%y)<=x:=by
  have:=zbN x y;have ag:y*1<=y*(x/y):=nQ y (zcZ h aJ);omega
 rw[zbU (by decide)];have:=nQ y U;rw[zam x y];have e:y*(x%y)*2=y*(2*(x%y)):=by ac_rfl
 omega
def MG:bU where
 L:=Nat×Nat
 args:=fun(a,b)=>[dH a,dH b]
 pre:=fun(a,b)=>eO 1073741823 a∧eO 1073741823 b
 res:=fun(a,b)=>dH (Nat.gcd a b)
def WI:bD aX.ctx 160 MG.spec:=by
 refine b3 [(269,L5.spec)] UD.1 ?_;intro⟨a,b⟩ ⟨(ha:eO _ a),(hb:eO _ b)⟩ H aN;refine J ?_;refine df (L:=Nat×Nat) (fun(x,y)=>eO 1073741823 x∧eO 1073741823 y∧Nat.gcd x y=Nat.gcd a b) (fun((x:Nat),(y:Nat))=>⟨[],0,[(0,dH x),(1,dH y)]⟩) (fun l=>2*b2 (l.1*l.2)+if l.1<l.2 then 1 else 0) [] (a,b) ⟨ha,hb,rfl⟩ ?_ dW ?_
 ·show 2*b2 (a*b)+(if a<b then 1 else 0)<b0+1;have:=ae6 ha hb;unfold b0;split<;>omega
 rintro⟨x,y⟩ ⟨aa,aJ,aM⟩;refine J ?_;refine cV (fun h=> ?_) (fun h=> ?_)
 ·have NX:y≠0:=fun h0=>by subst h0;rw[hQ]at h;simp at h
  refine J ?_;refine a9 L6 (x,y) ⟨aa,aJ,NX⟩ (J ?_);refine br [] (y,x%y) ⟨?_,aJ,zf aJ (zbo (zai x (by omega))),?_⟩ dW
  ·show 2*b2 (y*(x%y))+(if y<x%y then 1 else 0)<2*b2 (x*y)+(if x<y then 1 else 0);have hm:=zai x (show 0<y by omega);rw[zaa (by omega)];by_cases NW:x<y
   ·rw[zab NW,hy NW,zam y x];omega
   ·rw[zaa NW];have hp:0<x*y:=zca (by omega) (by omega);have:=ae5 (aih (by omega) (by omega)) hp;omega
  ·rw[<-aM,zdw x y,Nat.gcd_rec y x,zdw]
 ·have NX:y=0:=(sX (b:=4294967296) (by decide)).1 (zaX (by omega));subst NX;refine J ?_;refine aA rfl (.of ?_);show dH x=dH (Nat.gcd a b);rw[<-aM,Nat.gcd_zero_right]
def Oa:bU where
 L:=Nat
 args:=fun n=>[dH n]
 pre:=fun _=>True
 res:=fun n=>.b (decide (n=1))
def ahu:bb 4294967296 1=[1]:=by rw[qQ (by decide) (by decide),show 1/4294967296=0 from rfl,hQ]
def IH:bD aX.ctx 159 Oa.spec:=by
 refine b3 [] UC.1 ?_;intro(n:Nat) _ H aN;show aW.ok _ ⟨_,_,⟨_,_,[(0,dr (bb 4294967296 n))]⟩⟩;have aE:=gO (b:=4294967296) (by decide) n;generalize iT:bb 4294967296 n=ds at *;refine av 6 ?_
 match ds,aE,iT with
 |[],aE,iT=>
  refine J ?_;have:n=0:=by simp[val]at aE;exact aE.symm
  subst this;exact aA rfl (.refl _)
 |[d],aE,iT=>
  have:n=d:=by simp[val]at aE;exact aE.symm
  subst this;refine J ?_;refine dv (j:=0) n rfl ?_;refine J ?_;refine aA rfl (.of ?_);show aj.b _=aj.b _;congr 1;rw[decide_eq_decide];exact⟨fun h=>by omega,fun h=>by omega⟩
 |d::hO::ds,aE,iT=>
  refine J ?_;refine aA rfl (.of ?_);show aj.b false=aj.b _;congr 1
  symm
  rw[decide_eq_false_iff_not];intro I;subst I;rw[ahu]at iT;cases iT
def uu(d:Nat):aj:=.jT 1 Nat fR (if d=1 then[]else bb 4294967296 d)
def hN(x:Rat):ac aj:=[.b (decide (x.num<0)),dH x.num.natAbs,uu x.den]
def dz(x:Rat):aj:=.agg (hN x)
def Hg(h:d≠1):uu d= .jT 1 Nat fR (bb 4294967296 d):=by unfold uu;rw[zaa h]
def YM(h:d≠1)(h0:d≠0):b7 (dH d) (uu d):=by
 rw[Hg h];exact b7.jT (fun e=>h0 ((sX (by decide)).1 e))
def ahn(h:d≠1):b7 (uu d) (dH d):=by
 rw[Hg h];exact b7.awq
def zr(n:Int)(d:Nat)(h:d≠0):(mkRat n d).num=n/((n.natAbs.gcd d:Nat):Int)∧(mkRat n d).den=d/n.natAbs.gcd d:=by
 rw[<-Rat.normalize_eq_mkRat h,Rat.normalize_eq h];exact⟨rfl,rfl⟩
def ZB(hp:p≠0)(hq:q≠0):(mkRat (if neg then -(p:Int)else p) q).num=(if neg then -((p/p.gcd q:Nat):Int)else((p/p.gcd q:Nat):Int))∧(mkRat (if neg then -(p:Int)else p) q).den=q/p.gcd q:=by
 have aM:0<p.gcd q:=zem _ (by omega);have ha:(if neg then -(p:Int)else(p:Int)).natAbs=p:=by cases neg<;>simp
 obtain⟨I,U⟩:=zr (if neg then -(p:Int)else p) q hq;rw[ha]at I U;refine⟨?_,U⟩;rw[I];cases neg
 ·simp
 ·simp only[if_true];obtain⟨k,ab⟩:=zdx p q;generalize p.gcd q=g at *;subst ab;rw[Nat.mul_div_cancel_left _ aM,zaY,<-Int.mul_neg,Int.mul_ediv_cancel_left _ (by omega)]
def On{x:Rat}{c:aj}(I:x.num=if neg then -(p:Int)else(p:Int))(U:x.den=q)(hp:p≠0)(hc:b7 c (uu q)):b7 (.agg [.b neg,dH p,c]) (dz x):=by
 refine b7.agg ⟨.of ?_,.of ?_,?_,trivial⟩
 ·congr 1;rw[I];cases neg
  ·simp
  ·simp;omega
 ·congr 1;rw[I];cases neg<;>simp
 ·rw[U];exact hc
def le_zero:b7 (.agg [.b false,.nl,.nl]) (dz 0):=b7.agg ⟨.refl _,b7.nl.trans (.of (by show dr []=dr (bb _ 0);rw[hQ])),b7.ZF,trivial⟩
def E3:bU where
 L:=Bool×Nat×Nat
 args:=fun(n,p,q)=>[.b n,dH p,dH q]
 pre:=fun(_,p,q)=>eO 1073741823 p∧eO 1073741823 q∧q≠0
 res:=fun(n,p,q)=>dz (mkRat (if n then -(p:Int)else p) q)
def E0:(bb 4294967296 n).length=0↔n=0:=by rw[zen];exact sX (by decide)
def xg:bD aX.ctx 156 E3.spec:=by
 refine b3 [(159,Oa.spec),(160,MG.spec),(269,L5.spec)] Uz.1 ?_;intro⟨n,p,q⟩ ⟨(hp:eO _ p),(hq:eO _ q),(qb:q≠0)⟩ H aN;refine J ?_;refine cV (fun h=> ?_) (fun h=> ?_)
 ·have tc:p=0:=E0.1 (by omega);subst tc;refine J ?_;refine aA rfl (le_zero.trans (.of ?_));show dz 0=dz (mkRat _ q);congr 1;cases n<;>simp
 have tc:p≠0:=fun h0=>h (by rw[h0,hQ];rfl);have aM:0<p.gcd q:=zem _ (by omega);refine J ?_;refine a9 IH q trivial (J ?_);refine ks (fun((gK:Nat),(gl:Nat))=>gK=p/p.gcd q∧gl=q/p.gcd q) (fun(gK,gl)=>⟨[.c 64 [.b false,.nl,.nl]],1,[(0,.b n),(1,dH gK),(2,dH gl),(6,.p 0 0)]⟩) ?_ ?_
 ·refine Co (fun I=> ?_) (fun I=> ?_)
  ·refine J ?_;refine a9 WI (p,q) ⟨hp,hq⟩ (J ?_);refine a9 IH (p.gcd q) trivial (J ?_);refine Co (fun U=> ?_) (fun U=> ?_)
   ·have YP:eO 1073741823 (p.gcd q):=zf hp (Nat.gcd_le_left _ (by omega));refine J ?_;refine a9 L6 (p,p.gcd q) ⟨hp,YP,by show p.gcd q≠0;omega⟩ (J ?_);refine a9 L6 (q,p.gcd q) ⟨hq,YP,by show p.gcd q≠0;omega⟩ (J ?_);exact br [0] (p/p.gcd q,q/p.gcd q) ⟨rfl,rfl⟩ dX
   ·refine J ?_;exact br [0] (p,q) ⟨by rw[U,zcb],by rw[U,zcb]⟩ dX
  ·refine J ?_;exact br [0] (p,q) ⟨by rw[I,zeo,zcb],by rw[I,zeo,zcb]⟩ dX
 rintro⟨gK,gl⟩ ⟨az,e2⟩;obtain⟨iK,gH⟩:=ZB (neg:=n) tc qb;rw[<-az]at iK;rw[<-e2]at gH;have fG:gK≠0:=by
  have:=zcZ (Nat.gcd_le_left q (show 0<p by omega)) aM;omega
 have NK:gl≠0:=by
  have:=zcZ (zep p (show 0<q by omega)) aM;omega
 refine J ?_;refine a9 IH gl trivial (J ?_);refine cV (fun ag=> ?_) (fun ag=> ?_)
 ·refine J ?_;exact aA rfl (On iK gH fG (by rw[ag];exact b7.ZF))
 ·refine J ?_;exact aA rfl (On iK gH fG (YM ag NK))
def fy(k:Nat)(x:Rat):Prop:=eO k x.num.natAbs∧eO k x.den
def Dq:bU where
 L:=Rat
 args:=fun x=>[dz x]
 pre:=fun _=>True
 res:=fun x=>dH x.den
def ui:bD aX.ctx 162 Dq.spec:=by
 refine b3 [(158,B3.spec)] UF.1 ?_;intro(x:Rat) _ H aN;refine av 4 ?_;by_cases ay:x.den=1
 ·refine aB 4 (.jT 1 Nat fR []) rfl (by show uu x.den=_;rw[ay];rfl) (J ?_);refine a9 vn (1:Nat) (by show 1<_;decide) (J ?_);exact aA rfl (.of (by show dH 1=dH x.den;rw[ay]))
 ·refine aB 4 (.jT 1 Nat fR (bb 4294967296 x.den)) rfl (Hg ay) ?_;have hne:(bb 4294967296 x.den).isEmpty=false:=zdW.2 (fun e=>x.den_nz ((sX (by decide)).1 e));refine J ?_;refine asl rfl (by show l8 false _=false;rw[hne];rfl) ?_;refine J ?_;exact aA rfl (ahn ay)
def F1:bU where
 L:=Rat
 args:=fun x=>[dz x]
 pre:=fun _=>True
 res:=fun x=>.i .i64 x.num.sign
def F2:bD aX.ctx 142 F1.spec:=by
 refine b3 [] Ul.1 ?_;intro(x:Rat) _ H aN;refine J ?_;refine cV (fun h=> ?_) (fun h=> ?_)
 ·have h0:x.num.natAbs=0:=E0.1 (by omega);refine J ?_;exact aA rfl (.of (by show aj.i .i64 0=aj.i .i64 x.num.sign;rw[Int.natAbs_eq_zero.1 h0];rfl))
 have h0:x.num≠0:=fun e=>h (by rw[e];show((bb _ 0).length:Int)=0;rw[hQ];rfl);refine J ?_;refine cV (fun h=> ?_) (fun h=> ?_)
 ·refine J ?_;exact aA rfl (.of (by show aj.i .i64 (-1)=aj.i .i64 x.num.sign;rw[zcc h]))
 ·refine J ?_;exact aA rfl (.of (by show aj.i .i64 1=aj.i .i64 x.num.sign;rw[zbE (by omega)]))
def Zn:bU where
 L:=Rat
 args:=fun x=>[dz x]
 pre:=fun _=>True
 res:=fun x=>dz (-x)
def aqi:bD aX.ctx 201 Zn.spec:=by
 refine b3 [] UR.1 ?_;intro(x:Rat) _ H aN;have hle:∀{t:Bool},t=decide (-x.num<0)->b7 (.agg [.b t,dH x.num.natAbs,uu x.den]) (dz (-x)):=fun h=>by
  refine b7.agg ⟨.of (by rw[h,zcC]),.of (by rw[zcC,zda]),.of (by rw[zdb]),trivial⟩
 refine av 6 ?_;by_cases hn:x.num<0
 ·refine aB 6 (.b false) rfl (by show aj.b (!decide _)=_;rw[zae hn];rfl) (J ?_);exact aA rfl (hle (by symm;simp;omega))
 ·refine aB 6 (.b true) rfl (by show aj.b (!decide _)=_;rw[zad hn];rfl) (J ?_);refine aA rfl (hle ?_);rw[decide_eq_decide];rcases(show 0<x.num∨x.num<=0 by omega)with h0|h0
  ·have:x.num.natAbs≠0:=by omega
   have:(bb 4294967296 x.num.natAbs).length≠0:=fun e=>this (E0.1 e);exact⟨fun _=>by omega,fun _=>by omega⟩
  ·have I:x.num=0:=by omega
   have U:(bb 4294967296 x.num.natAbs).length=0:=E0.2 (by omega);exact⟨fun h=>by omega,fun h=>by omega⟩
def jz(x:Rat):Rat:=if x.num<0 then -x else x
def rK(x:Rat):(jz x).num=(x.num.natAbs:Int)∧(jz x).den=x.den:=by
 unfold jz;split
 ·rw[zcC,zdb];exact⟨by omega,rfl⟩
 ·exact⟨by omega,rfl⟩
def Rk:bU where
 L:=Rat
 args:=fun x=>[dz x]
 pre:=fun _=>True
 res:=fun x=>dz (jz x)
def aei:bD aX.ctx 239 Rk.spec:=by
 refine b3 [] UX.1 ?_;intro(x:Rat) _ H aN;refine J ?_;refine aA rfl (b7.agg ⟨.of ?_,.of ?_,.of ?_,trivial⟩)
 ·rw[(rK x).1];congr 1
 ·rw[(rK x).1];rfl
 ·rw[(rK x).2]
def ej(x y:Rat):Int:=if x<y then -1 else if x=y then 0 else 1
def Cq:bU where
 L:=Rat×Rat
 args:=fun(x,y)=>[dz x,dz y]
 pre:=fun(x,y)=>fy 268435456 x∧fy 268435456 y
 res:=fun(x,y)=>.i .i64 (ej x y)
def oU{l:Nat}(ha:eO k a)(hb:eO l b):eO (k+l) (a*b):=BH (by rw[zat];exact zel (ze ha) (ze hb))
def bY(n:Bool)(p:Nat):Int:=if n then -(p:Int)else p
def OQ(x:Rat):x.num=bY (decide (x.num<0)) x.num.natAbs:=by
 unfold bY;by_cases h:x.num<0
 ·rw[zae h,zab rfl];omega
 ·rw[zad h,zaa (by decide)];omega
def SN(x y:Rat):(x.num.sign<y.num.sign->ej x y= -1)∧(y.num.sign<x.num.sign->ej x y=1)∧(x.num.sign=y.num.sign->ej x y=x.num.sign*ji (x.num.natAbs*y.den) (y.num.natAbs*x.den)):=by
 have aa:=x.den_nz;have aJ:=y.den_nz;have lt:x<y↔x.num*y.den<y.num*x.den:=Rat.lt_iff x y;have eq:x=y↔x.num*y.den=y.num*x.den:=by
  constructor
  ·rintro rfl;rfl
  ·intro h;have I:=(Rat.mkRat_eq_iff (n₁:=x.num) (n₂:=y.num) aa aJ).2 h;rw[Rat.mkRat_self,Rat.mkRat_self]at I;exact I
 have axt:(0:Int)<x.den:=by omega
 have axu:(0:Int)<y.den:=by omega
 have ec:∀n:Int,(n<0∧n.sign= -1)∨(n=0∧n.sign=0)∨(0<n∧n.sign=1):=fun n=>by
  rcases(show n<0∨n=0∨0<n by omega)with h|h|h
  ·exact .inl ⟨h,zcc h⟩
  ·exact .inr (.inl ⟨h,by rw[h];rfl⟩)
  ·exact .inr (.inr ⟨h,zbE h⟩)
 have wD:x.num*(y.den:Int)=x.num.sign*((x.num.natAbs*y.den:Nat):Int):=by
  rw[zaY,<-zbw,zcD]
 have ahQ:y.num*(x.den:Int)=y.num.sign*((y.num.natAbs*x.den:Nat):Int):=by
  rw[zaY,<-zbw,zcD]
 have Js:x.num≠0->0<x.num.natAbs*y.den:=fun h=>zca (by omega) (by omega);have Jv:y.num≠0->0<y.num.natAbs*x.den:=fun h=>zca (by omega) (by omega);rw[wD,ahQ]at lt eq;unfold ej ji;generalize x.num.natAbs*y.den=A at *;generalize y.num.natAbs*x.den=C at *;simp only[lt,eq];rcases ec x.num with⟨eW,eQ⟩|⟨eW,eQ⟩|⟨eW,eQ⟩<;>rcases ec y.num with⟨c1,dx⟩|⟨c1,dx⟩|⟨c1,dx⟩<;>rw[eQ,dx]<;>refine⟨fun h=> ?_,fun h=> ?_,fun h=> ?_⟩<;>first
  |(exfalso;omega)
  |(have I:=Js (by omega);have U:=Jv (by omega);split<;>first|omega|(split<;>first|omega|(split<;>omega)))
  |(have I:=Js (by omega);split<;>first|omega|(split<;>omega))
  |(have U:=Jv (by omega);split<;>first|omega|(split<;>omega))
  |(split<;>first|omega|(split<;>first|omega|(split<;>omega)))
def eg{l:Nat}(h:eO k a)(hl:k<=l:=by decide):eO l a:=zag h hl
def zN:bD aX.ctx 72 Cq.spec:=by
 refine b3 [(142,F1.spec),(162,Dq.spec),(161,I7.spec),(163,AB.spec)] Wz.1 ?_;intro⟨x,y⟩ ⟨(aa:fy _ x),(aJ:fy _ y)⟩ H aN;obtain⟨eF,e5,nh⟩:=SN x y;refine J ?_;refine cq F2 x trivial (J ?_);refine cq F2 y trivial (J ?_);have ec:∀n:Int,-1<=n.sign∧n.sign<=1:=fun n=>by
  rcases(show n<0∨n=0∨0<n by omega)with h|h|h
  ·rw[zcc h];decide
  ·rw[h];decide
  ·rw[zbE h];decide
 refine cV (fun h=> ?_) (fun h=> ?_)
 ·refine J ?_;refine cV (fun I=> ?_) (fun I=> ?_)
  ·refine J ?_;exact aA rfl (.of (by show aj.i .i64 (-1)=aj.i .i64 (ej x y);rw[eF I]))
  ·refine J ?_;exact aA rfl (.of (by show aj.i .i64 1=aj.i .i64 (ej x y);rw[e5 (by omega)]))
 have he:x.num.sign=y.num.sign:=by omega
 refine J ?_;refine cq ui y trivial (J ?_);refine cq BR (x.num.natAbs,y.den) ⟨eg aa.1,eg aJ.2⟩ (J ?_);refine cq ui x trivial (J ?_);refine cq BR (y.num.natAbs,x.den) ⟨eg aJ.1,eg aa.2⟩ (J ?_);refine cq G3 (x.num.natAbs*y.den,y.num.natAbs*x.den) ⟨?_,?_⟩ ?_
 ·exact eg (oU aa.1 aJ.2)
 ·exact eg (oU aJ.1 aa.2)
 refine J ?_;refine aA rfl (.of ?_);show aj.i .i64 (IntKind.i64.wrap (x.num.sign*ji _ _))=aj.i .i64 (ej x y);rw[<-nh he];have: -1<=ej x y∧ej x y<=1:=by
  unfold ej;split
  ·decide
  ·split<;>decide
 exact cX rfl (by omega) (by omega)
def AE(h:ji a b<0):a<b:=by
 unfold ji at h;split at h
 ·assumption
 ·split at h<;>omega
def AF(h:¬ji a b<0):b<=a:=by
 rcases zaj a b with aG|aG
 ·exact absurd (show ji a b<0 by rw[AD aG];decide) h
 ·exact aG
def Ro(ha:eO k a)(hb:eO k b):eO (k+1) (a+b):=BH (by
 have I:=ze ha;have U:=ze hb;rw[zan];omega)
def add_same{x y:Rat}{n:Bool}(aa:x.num=bY n x.num.natAbs)(aJ:y.num=bY n y.num.natAbs):mkRat (bY n (x.num.natAbs*y.den+y.num.natAbs*x.den)) (x.den*y.den)=x+y:=by
 rw[zdc];congr 1;have e:∀a b:Nat,bY n (a+b)=bY n a+bY n b:=fun a b=>by unfold bY;cases n<;>simp<;>omega
 have e2:∀a b:Nat,bY n (a*b)=bY n a*b:=fun a b=>by unfold bY;cases n<;>simp[zch]
 rw[e,e2,e2,<-aa,<-aJ]
def Rn{x y:Rat}{n m:Bool}(Il:n≠m)(aa:x.num=bY n x.num.natAbs)(aJ:y.num=bY m y.num.natAbs)(h:y.num.natAbs*x.den<=x.num.natAbs*y.den):mkRat (bY n (x.num.natAbs*y.den-y.num.natAbs*x.den)) (x.den*y.den)=x+y:=by
 rw[zdc];congr 1;have e2:∀(k:Bool) (a b:Nat),bY k (a*b)=bY k a*b:=fun k a b=>by unfold bY;cases k<;>simp[zch]
 have e:∀a b:Nat,b<=a->bY n (a-b)=bY n a+bY m b:=fun a b fM=>by unfold bY;cases n<;>cases m<;>simp at Il⊢<;>omega
 rw[e _ _ h,e2,e2,<-aa,<-aJ]
def abM:bU where
 L:=Rat×Rat
 args:=fun(x,y)=>[dz x,dz y]
 pre:=fun(x,y)=>fy 268435456 x∧fy 268435456 y
 res:=fun(x,y)=>dz (x+y)
def asA:bD aX.ctx 121 abM.spec:=by
 refine b3 [(162,Dq.spec),(161,I7.spec),(240,Lg.spec),(241,ac3.spec),(163,AB.spec),(156,E3.spec)] T9.1 ?_;intro⟨x,y⟩ ⟨(aa:fy _ x),(aJ:fy _ y)⟩ H aN;have hV:=OQ x;have nL:=OQ y;have fO:eO 536870912 (x.num.natAbs*y.den):=oU aa.1 aJ.2;have ja:eO 536870912 (y.num.natAbs*x.den):=oU aJ.1 aa.2;have se:eO 536870912 (x.den*y.den):=oU aa.2 aJ.2;have ag:x.den*y.den≠0:=zbx x.den_nz y.den_nz;refine J ?_;refine cq ui y trivial (J ?_);refine cq BR (x.num.natAbs,y.den) ⟨eg aa.1,eg aJ.2⟩ (J ?_);refine cq ui x trivial (J ?_);refine cq BR (y.num.natAbs,x.den) ⟨eg aJ.1,eg aa.2⟩ (J ?_);refine cq ui x trivial (J ?_);refine cq ui y trivial (J ?_);refine cq BR (x.den,y.den) ⟨eg aa.2,eg aJ.2⟩ (J ?_);refine zL rfl (fun h=> ?_) (fun h=> ?_)
 ·have ah:decide (x.num<0)=decide (y.num<0):=zbL h;refine J ?_;refine cq Rm (x.num.natAbs*y.den,y.num.natAbs*x.den) ⟨eg fO,eg ja⟩ (J ?_);refine cq xg (decide (x.num<0),x.num.natAbs*y.den+y.num.natAbs*x.den,x.den*y.den) ⟨eg (Ro fO ja),eg se,ag⟩ (J ?_);exact aA rfl (.of (congrArg dz (add_same hV (ah▸nL))))
 have ah:decide (x.num<0)≠decide (y.num<0):=ne_of_beq_false h;refine J ?_;refine a9 G3 (x.num.natAbs*y.den,y.num.natAbs*x.den) ⟨eg fO,eg ja⟩ (J ?_);refine cV (fun h=> ?_) (fun h=> ?_)
 ·have aT:x.num.natAbs*y.den<y.num.natAbs*x.den:=AE h;refine J ?_;refine cq ac5 (y.num.natAbs*x.den,x.num.natAbs*y.den) ⟨eg ja,zbo aT⟩ (J ?_);refine cq xg (decide (y.num<0),y.num.natAbs*x.den-x.num.natAbs*y.den,x.den*y.den) ⟨eg (zf ja (zbP _ _)),eg se,ag⟩ (J ?_);refine aA rfl (.of (congrArg dz ?_));have:=Rn ah.symm nL hV (zbo aT);rw[Rat.add_comm,<-this,zam y.den x.den];rfl
 ·have mL:y.num.natAbs*x.den<=x.num.natAbs*y.den:=AF h;refine J ?_;refine cq ac5 (x.num.natAbs*y.den,y.num.natAbs*x.den) ⟨eg fO,mL⟩ (J ?_);refine cq xg (decide (x.num<0),x.num.natAbs*y.den-y.num.natAbs*x.den,x.den*y.den) ⟨eg (zf fO (zbP _ _)),eg se,ag⟩ (J ?_);exact aA rfl (.of (congrArg dz (Rn ah hV nL mL)))
def ab4:bU where
 L:=Rat×Rat
 args:=fun(x,y)=>[dz x,dz y]
 pre:=fun(x,y)=>fy 268435456 x∧fy 268435456 y
 res:=fun(x,y)=>dz (x-y)
def OI{x:Rat}(h:fy k x):fy k (-x):=by
 unfold fy;rw[zcC,zdb,zda];exact h
def as4:bD aX.ctx 231 ab4.spec:=by
 refine b3 [(201,Zn.spec),(121,abM.spec)] UU.1 ?_;intro⟨x,y⟩ ⟨(aa:fy _ x),(aJ:fy _ y)⟩ H aN;refine J ?_;refine cq aqi y trivial (J ?_);refine cq asA (x,-y) ⟨aa,OI aJ⟩ (J ?_);exact aA rfl (.of (congrArg dz (zdy x y).symm))
def N9:bU where
 L:=Int
 args:=fun n=>[.i .i64 n]
 pre:=fun n=> -9223372036854775808<=n∧n<9223372036854775808
 res:=fun n=>dz (mkRat n 1)
def tq(h:n<18446744073709551616):eO 2 n:=BH h
def Yr:bD aX.ctx 117 N9.spec:=by
 refine b3 [(158,B3.spec),(156,E3.spec)] T7.1 ?_;intro(n:Int) ⟨(I:_<=n),(U:n<_)⟩ H aN;cases n with
 |ofNat k=>
  have U:(k:Int)<9223372036854775808:=U;clear I;refine J ?_;refine aB 12 (.i .u64 (k:Nat)) rfl gg ?_;refine a9 vn k (by show k<_;omega) ?_;refine a9 vn (1:Nat) (by show 1<_;decide) ?_;refine a9 xg (false,k,1) ⟨eg (tq (by omega)),eg (tq (by decide)),by show 1≠0;decide⟩ (J ?_);exact aA rfl (.refl _)
 |negSucc k=>
  refine J ?_;refine asz rfl (by simp) ?_;refine av 7 ?_;have ahO:IntKind.u64.wrap (-(IntKind.u64.wrap (Int.negSucc k)))=((k+1:Nat):Int):=by
   rw[adW,adW];rw[Int.negSucc_eq]at *;omega
  refine aB 7 (.i .u64 ((k+1:Nat):Int)) rfl (gg ahO) ?_;rw[Int.negSucc_eq]at I;refine a9 vn (k+1) (by show k+1<_;omega) ?_;refine a9 vn (1:Nat) (by show 1<_;decide) ?_;refine a9 xg (true,k+1,1) ⟨eg (tq (by omega)),eg (tq (by decide)),by show 1≠0;decide⟩ (J ?_);exact aA rfl (.refl _)
def ef(x:Rat)(k:Int):Rat:=if k<0 then mkRat x.num (x.den*2^(-k).toNat)else mkRat (x.num*2^k.toNat) x.den
def FA(k:Nat):eO (k/32+1) (2^k):=BH (by
 rw[Qq k,zan,zam];exact Nat.mul_lt_mul_of_pos_left (by have:=Jx (zai k (show 0<32 by decide));omega) (zcA (by decide)))
def acn:bU where
 L:=Rat×Int
 args:=fun(x,k)=>[dz x,.i .i64 k]
 pre:=fun(x,k)=>fy 268435456 x∧-17179869184<k∧k<17179869184
 res:=fun(x,k)=>dz (ef x k)
def atp:bD aX.ctx 323 acn.spec:=by
 refine b3 [(162,Dq.spec),(360,Kp.spec),(156,E3.spec)] VF.1 ?_;intro⟨x,k⟩ ⟨(aa:fy _ x),(I:_<k),(U:k<_)⟩ H aN;have hV:=OQ x;refine J ?_;refine cV (fun h=> ?_) (fun h=> ?_)
 ·obtain⟨n,rfl⟩:∃n:Nat,k= -(n:Int):=⟨(-k).toNat,by omega⟩;refine J ?_;refine cq ui x trivial (av 14 ?_);refine eU 14 (.i .i64 (n:Nat)) rfl rfl cX ?_;refine J ?_;refine cq CB (x.den,n) ⟨eg aa.2,by show n<_;omega⟩ (J ?_);refine cq xg (decide (x.num<0),x.num.natAbs,x.den*2^n) ⟨eg aa.1,eg (oU aa.2 (eg (FA n) (show _<=536870913 by omega))),zbx x.den_nz (by have:=zaE n;omega)⟩ (J ?_);refine aA rfl (.of (congrArg dz ?_));show mkRat (bY _ _) _=ef x (-(n:Int));unfold ef;rw[zab h,<-hV];congr 3;omega
 ·obtain⟨n,rfl⟩:∃n:Nat,k=(n:Int):=⟨k.toNat,by omega⟩;refine J ?_;refine cq CB (x.num.natAbs,n) ⟨eg aa.1,by show n<_;omega⟩ (J ?_);refine cq ui x trivial (J ?_);refine cq xg (decide (x.num<0),x.num.natAbs*2^n,x.den) ⟨eg (oU aa.1 (eg (FA n) (show _<=536870913 by omega))),eg aa.2,x.den_nz⟩ (J ?_);refine aA rfl (.of (congrArg dz ?_));show mkRat (bY _ _) _=ef x (n:Int);unfold ef;have e2:∀(t:Bool) (a b:Nat),bY t (a*b)=bY t a*b:=fun t a b=>by unfold bY;cases t<;>simp[zch]
  rw[zaa h,e2,<-hV];congr 1
def Ko:bU where
 L:=Rat×Int
 args:=fun(x,k)=>[dz x,.i .i64 k]
 pre:=fun(x,k)=>fy 268435456 x
 res:=fun(x,k)=>if -20000<=k∧k<=20000 then .bn [dz (ef x k),.i .i64 0]else .bn [dz 0,.i .i64 7]
def acm:bD aX.ctx 232 Ko.spec:=by
 refine b3 [(323,acn.spec)] UW.1 ?_;intro⟨x,k⟩ (aa:fy _ x) H aN;have uX:∀{r:aj},(-20000<=k∧k<=20000->b7 r (.bn [dz (ef x k),.i .i64 0]))->(¬(-20000<=k∧k<=20000)->b7 r (.bn [dz 0,.i .i64 7]))->b7 r (Ko.res (x,k)):=fun I U=>by
  show b7 _ (if _ then _ else _);split
  ·exact I (by assumption)
  ·exact U (by assumption)
 refine av 8 ?_;by_cases I:k< -20000
 ·refine dS 8 I (J ?_);exact aA rfl (uX (fun h=>by omega) (fun _=>.bn ⟨le_zero,.refl _,trivial⟩))
 ·refine ep 8 I (J ?_);refine cV (fun U=> ?_) (fun U=> ?_)
  ·refine J ?_;exact aA rfl (uX (fun h=>by omega) (fun _=>.bn ⟨le_zero,.refl _,trivial⟩))
  ·refine J ?_;refine a9 atp (x,k) ⟨aa,by show _<k;omega,by show k<_;omega⟩ (J ?_);exact aA rfl (uX (fun _=>.refl _) (fun h=>by omega))
def adB:bU where
 L:=Int
 args:=fun k=>[.i .i64 k]
 pre:=fun k=>True
 res:=fun k=>if -20000<=k∧k<=20000 then .bn [dz (ef (mkRat 1 1) k),.i .i64 0]else .bn [dz 0,.i .i64 7]
def avp:bD aX.ctx 381 adB.spec:=by
 refine b3 [(117,N9.spec),(232,Ko.spec)] V5.1 ?_;intro(k:Int) _ H aN;refine J ?_;refine a9 Yr (1:Int) ⟨by decide,by decide⟩ (J ?_);refine a9 acm (mkRat 1 1,k) ⟨eg (tq (by decide)),eg (tq (by decide))⟩ ?_;by_cases h: -20000<=k∧k<=20000
 ·refine aB 6 (.bn [dz (ef (mkRat 1 1) k),.i .i64 0]) rfl (zab h) (J ?_);exact aA rfl (.of (zab h).symm)
 ·refine aB 6 (.bn [dz 0,.i .i64 7]) rfl (zaa h) (J ?_);exact aA rfl (.of (zaa h).symm)
def ae7{A t:Nat}(ik:A=V+4294967296^n*t)(hl:V<4294967296^n)(aV:t≠0):b2 A=32*n+b2 t:=by
 obtain⟨a,b⟩:=sQ aV;have hp:b2 t≠0:=fun e=>by rw[e]at b;omega
 have az:4294967296^n=2^(32*n):=(zbT 2 32 n).symm;rw[az]at ik hl;have:= @ae8 A (32*n+(b2 t-1)) (by
  rw[zat];have:=nQ (2^(32*n)) a;omega) (by
  rw[show 32*n+(b2 t-1)+1=32*n+b2 t by omega,zat];have:=nQ (2^(32*n)) (show t+1<=2^b2 t from b);rw[zaI]at this;omega)
 omega
def Sf:bU where
 L:=Nat
 args:=fun n=>[dH n]
 pre:=fun n=>eO 1073741824 n
 res:=fun n=>.i .i64 (b2 n:Nat)
def Sg:bD aX.ctx 423 Sf.spec:=by
 refine b3 [(345,pw.spec)] Wm.1 ?_;intro(n:Nat) (hn:eO _ n) H aN;have hn:(bb 4294967296 n).length<=1073741824:=hn;refine J ?_;refine cV (fun h=> ?_) (fun h=> ?_)
 ·have h0:n=0:=E0.1 (by omega);refine J ?_;exact aA rfl (.of (by show aj.i .i64 0=aj.i .i64 (b2 n:Nat);rw[h0];rfl))
 have h0:(bb 4294967296 n).length≠0:=fun e=>h (by rw[e];rfl);have bR:=hg (b:=4294967296) (by decide) n;have aE:=gO (b:=4294967296) (by decide) n;have aV:=yu (b:=4294967296) (by decide) n;rcases zcy (bb 4294967296 n)with Ex|⟨dj,t,hc⟩
 ·exact absurd (by rw[Ex];rfl) h0
 rw[zcz]at hc;rw[hc]at bR aE aV hn;have X4:=(Jd (b:=4294967296) aV).2;have Is:=bR t (by simp);have hlen:(bb 4294967296 n).length=dj.length+1:=by rw[hc];simp
 rw[nN]at aE;have n3:=ae7 (A:=n) (n:=dj.length) (V:=val 4294967296 dj) (t:=t) (by rw[<-aE];simp[val]) (ll (fun d ay=>bR d (by simp[ay]))) X4;have ae:dj.length<=1073741823:=by simp at hn;omega
 have X5:(bb 4294967296 n)[dj.length]? =some t:=by rw[hc];simp
 refine av 9 ?_;rw[hlen];refine aB 9 (.i .i64 (dj.length:Nat)) rfl cX (av 10 ?_);refine aB 10 (.i .i64 ((32*dj.length:Nat):Int)) rfl cX (av 13 ?_);refine aB 13 (.i .i64 (dj.length:Nat)) rfl cX ?_;refine dv t X5 ?_;refine J ?_;refine a9 YO t Is (J ?_);have:=LA Is;exact aA rfl (.of cX)
def kc(p q:Nat):Int:=if p*2^((b2 q:Int)-b2 p).toNat<q*2^((b2 p:Int)-b2 q).toNat then(b2 p:Int)-b2 q-1 else(b2 p:Int)-b2 q
def Zq:bU where
 L:=Rat
 args:=fun x=>[dz x]
 pre:=fun x=>fy 268435456 x
 res:=fun x=>.i .i64 (kc x.num.natAbs x.den)
def aqq:bD aX.ctx 405 Zq.spec:=by
 refine b3 [(162,Dq.spec),(423,Sf.spec),(360,Kp.spec),(163,AB.spec)] Wf.1 ?_;intro(x:Rat) (aa:fy _ x) H aN;have c1:=BG aa.1;have dx:=BG aa.2;refine J ?_;refine a9 ui x trivial (J ?_);refine a9 Sg x.num.natAbs (eg aa.1) (J ?_);refine a9 Sg x.den (eg aa.2) (av 12 ?_);refine aB 12 (.i .i64 ((b2 x.num.natAbs:Int)-b2 x.den)) rfl cX (av 17 ?_);refine aB 17 (.i .i64 ((((b2 x.den:Int)-b2 x.num.natAbs).toNat:Nat):Int)) rfl (congrArg (aj.i .i64) (by rw[hK (n:= -((b2 x.num.natAbs:Int)-b2 x.den)) (by omega) (by omega)];omega)) ?_;have fO:((b2 x.den:Int)-b2 x.num.natAbs).toNat<8589934593:=by omega
 have ja:((b2 x.num.natAbs:Int)-b2 x.den).toNat<8589934593:=by omega
 refine a9 CB (x.num.natAbs,((b2 x.den:Int)-b2 x.num.natAbs).toNat) ⟨eg aa.1,by show _<34359738368;omega⟩ (av 21 ?_);refine aB 21 (.i .i64 ((((b2 x.num.natAbs:Int)-b2 x.den).toNat:Nat):Int)) rfl (congrArg (aj.i .i64) (by omega)) ?_;refine a9 CB (x.den,((b2 x.num.natAbs:Int)-b2 x.den).toNat) ⟨eg aa.2,by show _<34359738368;omega⟩ ?_;refine a9 G3 (x.num.natAbs*2^((b2 x.den:Int)-b2 x.num.natAbs).toNat,x.den*2^((b2 x.num.natAbs:Int)-b2 x.den).toNat) ⟨eg (oU aa.1 (eg (FA _) (show _<=268435457 by omega))),eg (oU aa.2 (eg (FA _) (show _<=268435457 by omega)))⟩ (J ?_);refine cV (fun h=> ?_) (fun h=> ?_)
 ·refine J ?_;exact aA rfl (.of (by
   show aj.i _ _=aj.i .i64 (kc _ _);unfold kc;rw[zab (AE h)];exact cX))
 ·refine J ?_;exact aA rfl (.of (by
   show aj.i _ _=aj.i .i64 (kc _ _);unfold kc;rw[zaa (zds.2 (AF h))]))
def abU:bU where
 L:=Rat
 args:=fun x=>[dz x]
 pre:=fun x=>fy 268435456 x
 res:=fun x=>if x.num=0 then .bn [.i .i64 0,.i .i64 8]else .bn [.i .i64 (kc x.num.natAbs x.den),.i .i64 0]
def asS:bD aX.ctx 376 abU.spec:=by
 refine b3 [(142,F1.spec),(405,Zq.spec)] V3.1 ?_;intro(x:Rat) (aa:fy _ x) H aN;refine J ?_;refine a9 F2 x trivial (J ?_);refine cV (fun h=> ?_) (fun h=> ?_)
 ·have h:x.num=0:=zcE.1 h;refine J ?_;exact aA rfl (.of (zab h).symm)
 ·have h:x.num≠0:=fun e=>h (by rw[e];rfl);refine J ?_;refine a9 aqq x aa (J ?_);exact aA rfl (.of (zaa h).symm)
def fY(e p:Int):Prop:=2<=e∧e<=11∧2<=p∧p<=113∧5<=e+p
variable{e:Int}
instance(e p:Int):Decidable (fY e p):=by unfold fY;infer_instance
def qT(e p:Int):aj:=.agg [.i .i64 e,.i .i64 p]
def Hv:bU where
 L:=Int×Int
 args:=fun(e,p)=>[qT e p]
 pre:=fun(e,p)=>True
 res:=fun(e,p)=>.i .i64 (if fY e p then 0 else 2)
def TG:bD aX.ctx 197 Hv.spec:=by
 refine b3 [] UQ.1 ?_;intro⟨e,p⟩ _ H aN;have bad:¬fY e p->b7 (.i .i64 2) (Hv.res (e,p)):=fun h=>.of (by show _=aj.i .i64 (if _ then _ else _);rw[zaa h]);refine av 5 ?_;by_cases I:e<2
 ·refine dS 5 I (J ?_);exact aA rfl (bad (by unfold fY;omega))
 refine ep 5 I (av 9 ?_);by_cases U:11<e
 ·refine dS 9 U (J ?_);exact aA rfl (bad (by unfold fY;omega))
 refine ep 9 U (av 14 ?_);by_cases ag:p<2
 ·refine dS 14 ag (J ?_);exact aA rfl (bad (by unfold fY;omega))
 refine ep 14 ag (av 19 ?_);by_cases au:113<p
 ·refine dS 19 au (J ?_);exact aA rfl (bad (by unfold fY;omega))
 refine ep 19 au (av 26 ?_);refine aB 26 (.i .i64 (e+p)) rfl (cX rfl (by omega) (by omega)) (av 27 ?_);by_cases a0:e+p<5
 ·refine dS 27 a0 (J ?_);exact aA rfl (bad (by unfold fY;omega))
 refine ep 27 a0 (J ?_);exact aA rfl (.of (by show _=aj.i .i64 (if _ then _ else _);rw[zab (by unfold fY;omega)]))
def vf(e p m b:Int):aj:=.agg [.i .i64 e,.i .i64 p,.i .i64 m,.i .i64 b]
def e9(e:Int):Int:=2^(e-1).toNat-1
def KO:bU where
 L:=Int×Int
 args:=fun(e,p)=>[qT e p,.i .i64 0,.nl]
 pre:=fun(e,p)=>True
 res:=fun(e,p)=>if fY e p then .bn [vf e p 0 (e9 e),.i .i64 0]else .bn [vf 0 0 0 0,.i .i64 2]
def awe:bD aX.ctx 290 KO.spec:=by
 refine b3 [(197,Hv.spec)] Vw.1 ?_;intro⟨e,p⟩ _ H aN;refine J ?_;refine a9 TG (e,p) trivial ?_;by_cases h:fY e p
 ·refine aB 20 (.i .i64 0) rfl (by show aj.i .i64 (if _ then _ else _)=_;rw[zab h]) ?_;have cZ:KO.res (e,p)= .bn [vf e p 0 (e9 e),.i .i64 0]:=zab h;obtain⟨r,aD⟩:∃r,r=KO.res (e,p):=⟨_,rfl⟩;obtain⟨I,U,_⟩:=h;refine J ?_;rcases(show e=2∨e=3∨e=4∨e=5∨e=6∨e=7∨e=8∨e=9∨e=10∨e=11 by omega)with h|h|h|h|h|h|h|h|h|h<;>subst h
  all_goals first|refine eU 28 (.i .i64 1) rfl rfl rfl ?_|refine eU 28 (.i .i64 2) rfl rfl rfl ?_|refine eU 28 (.i .i64 3) rfl rfl rfl ?_|refine eU 28 (.i .i64 4) rfl rfl rfl ?_|refine eU 28 (.i .i64 5) rfl rfl rfl ?_|refine eU 28 (.i .i64 6) rfl rfl rfl ?_|refine eU 28 (.i .i64 7) rfl rfl rfl ?_|refine eU 28 (.i .i64 8) rfl rfl rfl ?_|refine eU 28 (.i .i64 9) rfl rfl rfl ?_|refine eU 28 (.i .i64 10) rfl rfl rfl ?_
  all_goals (refine J ?_)
  all_goals (
   refine df (L:=Int×Int) (fun(E,b)=>r= .bn [vf E p 0 b,.i .i64 0]) (fun(E,b)=>⟨[.c 355 [.i .i64 0,.i .i64 0,.i .i64 0,.i .i64 0],.c 355 [.i .i64 E,.i .i64 p,.i .i64 0,.i .i64 b]],2,[(34,.i .i64 0),(33,.i .i64 0),(8,.p 1 0),(6,.p 0 0),(7,.i .i64 0)]⟩) (fun _=>0) [1,2] (_,_) ?_ (by show 0<b0+1;omega) ⟨by decide,rfl,⟨⟨_,rfl,rfl⟩,⟨_,rfl,rfl⟩,trivial⟩,⟨rfl,rfl,rfl,rfl,rfl,trivial⟩,rfl⟩ ?_
   ·rw[aD];exact cZ
   rintro⟨E,b⟩ hi;refine J ?_;exact aA rfl (.of (hi.symm.trans aD)))
 ·refine aB 20 (.i .i64 2) rfl (by show aj.i .i64 (if _ then _ else _)=_;rw[zaa h]) (J ?_);exact aA rfl (.of (zaa h).symm)
def T4:bU where
 L:=Int
 args:=fun k=>[.i .i64 k]
 pre:=fun k=> -20000<=k∧k<=20000
 res:=fun k=>dz (ef (mkRat 1 1) k)
def ai3:bD aX.ctx 325 T4.spec:=by
 refine b3 [(381,adB.spec)] VG.1 ?_;intro(k:Int) (h:_<=k∧k<=_) H aN;refine J ?_;refine a9 avp k trivial ?_;refine aB 7 (.bn [dz (ef (mkRat 1 1) k),.i .i64 0]) rfl (zab h) (J ?_);exact aA rfl (.refl _)
def MA:bU where
 L:=Rat×Int
 args:=fun(x,k)=>[dz x,.i .i64 k]
 pre:=fun(x,k)=>fy 268435456 x∧-20000<=k∧k<=20000
 res:=fun(x,k)=>dz (ef x k)
def T3:bD aX.ctx 291 MA.spec:=by
 refine b3 [(232,Ko.spec)] Vx.1 ?_;intro⟨x,k⟩ ⟨aa,(h:_<=k∧k<=_)⟩ H aN;refine J ?_;refine a9 acm (x,k) aa ?_;refine aB 10 (.bn [dz (ef x k),.i .i64 0]) rfl (zab h) (J ?_);exact aA rfl (.refl _)
def TT:bU where
 L:=Rat
 args:=fun x=>[dz x]
 pre:=fun x=>fy 268435456 x∧x.num≠0
 res:=fun x=>.i .i64 (kc x.num.natAbs x.den)
def aiQ:bD aX.ctx 293 TT.spec:=by
 refine b3 [(376,abU.spec)] Vz.1 ?_;intro(x:Rat) ⟨aa,(h:_≠_)⟩ H aN;refine J ?_;refine a9 asS x aa ?_;refine aB 7 (.bn [.i .i64 (kc x.num.natAbs x.den),.i .i64 0]) rfl (zaa h) (J ?_);exact aA rfl (.refl _)
def qF(I:2<=e)(U:e<=11):1<=e9 e∧e9 e<=1023:=by
 unfold e9;rcases(show e=2∨e=3∨e=4∨e=5∨e=6∨e=7∨e=8∨e=9∨e=10∨e=11 by omega)with h|h|h|h|h|h|h|h|h|h<;>subst h<;>decide
def Zu:bU where
 L:=Int×Int×Int
 args:=fun(e,p,m)=>[vf e p m (e9 e)]
 pre:=fun(e,p,m)=>fY e p
 res:=fun(e,p,m)=>.i .i64 (1-e9 e)
def aqx:bD aX.ctx 375 Zu.spec:=by
 refine b3 [] V2.1 ?_;intro⟨e,p,m⟩ ⟨I,U,ag,au,a0⟩ H aN;obtain⟨c1,dx⟩:=qF I U;refine J ?_;exact aA rfl (.of (cX rfl (by omega) (by omega)))
def BS{n:Int}(I:eO k n.natAbs)(U:eO k d)(ay:d≠0):fy k (mkRat n d):=by
 obtain⟨az,e2⟩:=zr n d ay;refine⟨zf I ?_,zf U ?_⟩
 ·rw[az,Int.natAbs_ediv_of_dvd (Int.ofNat_dvd_left.2 (zdx _ _))];exact zbg _ _
 ·rw[e2];exact zbg _ _
def lU{l:Nat}{x:Rat}(h:fy k x)(hl:k<=l:=by decide):fy l x:=⟨eg h.1 hl,eg h.2 hl⟩
def apJ{c:Int}:b7 (.bn [.agg [.b false,.nl,.nl],.i .i64 c]) (.bn [dz 0,.i .i64 c]):=.bn ⟨le_zero,.refl _,trivial⟩
def I8(c:Nat){x:Rat}{k:Int}(h:fy a x)(I: -(32*(c:Int))<k)(U:k<32*(c:Int)):fy (a+c) (ef x k):=by
 have hp:∀n:Nat,n<32*c->eO c (2^n):=fun n hn=>eg (FA n) (by omega);unfold ef;split
 ·exact BS (eg h.1 (by omega)) (oU h.2 (hp _ (by omega))) (zbx x.den_nz (by have:=zaE (-k).toNat;omega))
 ·refine BS ?_ (eg h.2 (by omega)) x.den_nz;rw[zcd,zdz];exact oU h.1 (hp _ (by omega))
def Zl(n:Int)(I: -9223372036854775808<=n)(U:n<9223372036854775808):fy 2 (mkRat n 1):=BS (tq (by omega)) (tq (by decide)) (by decide)
def aqf{x y:Rat}(I:fy a x)(U:fy b y):fy (a+b+1) (x+y):=by
 rw[zdc];have e6:=oU I.1 U.2;have a3:=oU U.1 I.2;refine BS (zf (Ro e6 (eg a3 (by omega))) ?_) (eg (oU I.2 U.2) (by omega)) (zbx x.den_nz y.den_nz);have:=Int.natAbs_add_le (x.num*y.den) (y.num*x.den);rw[zcd,zcd]at this;simpa using this
def Zm{x y:Rat}(I:fy a x)(U:fy b y):fy (a+b+1) (x-y):=by
 rw[zdy];exact aqf I (OI U)
def oG(e p:Int):Rat:=ef (ef (mkRat 1 1) p-mkRat 1 1) (e9 e-p+1)
def aqg{p:Int}(h:fY e p):fy 41 (oG e p):=by
 obtain⟨I,U,ag,au,a0⟩:=h;obtain⟨c1,dx⟩:=qF I U;have ae:=Zl 1 (by decide) (by decide);exact lU (I8 32 (Zm (I8 4 ae (by omega) (by omega)) ae) (by omega) (by omega))
def Za:bU where
 L:=Int×Int×Int
 args:=fun(e,p,m)=>[vf e p m (e9 e)]
 pre:=fun(e,p,m)=>fY e p
 res:=fun(e,p,m)=>dz (oG e p)
def ap7:bD aX.ctx 295 Za.spec:=by
 refine b3 [(325,T4.spec),(117,N9.spec),(231,ab4.spec),(291,MA.spec)] VB.1 ?_;intro⟨e,p,m⟩ ⟨I,U,ag,au,a0⟩ H aN;obtain⟨c1,dx⟩:=qF I U;have ae:=Zl 1 (by decide) (by decide);refine J ?_;refine cq ai3 p ⟨by omega,by omega⟩ (J ?_);refine cq Yr (1:Int) ⟨by decide,by decide⟩ (J ?_);refine cq as4 (ef (mkRat 1 1) p,mkRat 1 1) ⟨lU (I8 4 ae (by omega) (by omega)),lU ae⟩ (av 14 ?_);refine eU 14 (.i .i64 (e9 e-p)) rfl rfl (cX rfl (by omega) (by omega)) ?_;refine av 15 ?_;refine eU 15 (.i .i64 (e9 e-p+1)) rfl rfl (cX rfl (by omega) (by omega)) ?_;refine J ?_;refine cq T3 (ef (mkRat 1 1) p-mkRat 1 1,e9 e-p+1) ⟨lU (Zm (I8 4 ae (by omega) (by omega)) ae),by show _<=e9 e-p+1;omega,by show e9 e-p+1<=_;omega⟩ (J ?_);exact aA rfl (.refl _)
def Zf:bU where
 L:=Int×Int×Int×Int
 args:=fun(e,p,k,m)=>[vf e p m (e9 e),.i .i64 k]
 pre:=fun(e,p,k,m)=>fY e p∧-1000000000000<=k∧k<=1000000000000
 res:=fun(e,p,k,m)=>.i .i64 (max k (1-e9 e)-p+1)
def aqb:bD aX.ctx 292 Zf.spec:=by
 refine b3 [(375,Zu.spec)] Vy.1 ?_;intro⟨e,p,k,m⟩ ⟨⟨I,U,ag,au,a0⟩,(b5:_<=k),(cY:k<=_)⟩ H aN;obtain⟨c1,dx⟩:=qF I U;refine J ?_;refine cq aqx (e,p,m) ⟨I,U,ag,au,a0⟩ (J ?_);exact aA rfl (.of (by
  show aj.i _ (IntKind.i64.wrap (IntKind.i64.wrap (max k (1-e9 e)-p)+1))=aj.i .i64 (max k (1-e9 e)-p+1);rw[hK (n:=max k (1-e9 e)-p) (by omega) (by omega)];exact cX rfl (by omega) (by omega)))
def Ku(e p:Int)(x:Rat):Int:=if x.num=0 then 2-e9 e-p else max (kc x.num.natAbs x.den) (1-e9 e)-p+1
def yk{x y:Rat}:0<ej x y↔y<x:=by
 unfold ej;constructor
 ·intro h;split at h
  ·omega
  split at h
  ·omega
  exact Rat.lt_of_le_of_ne (zcF.1 (by assumption)) (fun e=>by simp_all)
 ·intro h;rw[zaa (zcF.2 (Rat.le_of_lt h)),zaa (fun e=>by subst e;exact absurd h (zcF.2 (Rat.le_refl)))];decide
def aqe{x:Rat}(h:fy k x):fy k (jz x):=by
 unfold jz;split
 ·exact OI h
 ·exact h
def IV(p q:Nat): -(b2 q:Int)-1<=kc p q∧kc p q<=b2 p:=by unfold kc;split<;>omega
def gn(d:Nat):ac aj:=[.i .i64 d]
def dw(ds:ac Nat):aj:=.bq 1 Nat gn ds
def c9(n:Nat):aj:=dw (bb 1000000000 n)
def ed(k n:Nat):Prop:=(bb 1000000000 n).length<=k
variable{w nc pL:Nat}
def xA:bU where
 L:=ac Nat
 args:=fun ds=>[dw ds]
 pre:=fun ds=>ds.length<=1099511627776
 res:=fun ds=>dw (e1 ds)
def xB:bD aX.ctx 169 xA.spec:=by
 refine b3 [] UM.1 ?_;intro(ds:ac Nat) (hp:ds.length<=1099511627776) H aN;refine J ?_;refine df (fun es:ac Nat=>e1 es=e1 ds∧es.length<=ds.length) (fun es=>⟨[],0,[(0,dw es)]⟩) List.length [] ds ⟨rfl,cf _⟩ (by show ds.length<b0+1;unfold b0;omega) dW ?_;rintro es ⟨I,U⟩;rcases zcy es with rfl|⟨dj,d,rfl⟩
 ·refine J ?_;exact aA rfl (.of (by rw[show xA.res ds=dw (e1 ds)from rfl,<-I];rfl))
 ·rw[zcz]at *;have hl:(dj++[d]).length=dj.length+1:=by simp
  refine J ?_;refine aB 6 (.b true) rfl (by simp) (J ?_);refine aB 10 (.i .i64 (dj.length:Nat)) rfl (by rw[hl,hK]<;>simp<;>omega) ?_;refine hd (N0 rfl rfl (show(dj++[d])[dj.length]? =some d by simp)) ?_;refine J ?_;refine zL rfl (fun ay=> ?_) (fun ay=> ?_)
  ·have ay:d=0:=by simpa using ay
   refine J ?_;refine aB 18 (.i .i64 (dj.length:Nat)) rfl (by rw[hl,hK]<;>simp<;>omega) ?_;refine hd (Qt (p:=0) rfl rfl ⟨_,rfl⟩ (zaf _) (by simp)) ?_;refine J ?_;refine br [] dj ⟨by simp,by rw[<-I,tT,zab ay],by omega⟩ (kx ⟨?_,trivial⟩);simp[ea,lZ,dw]
  ·have ay:d≠0:=by simpa using ay
   refine J ?_;exact aA rfl (.of (by rw[show xA.res ds=dw (e1 ds)from rfl,<-I,tT,zaa ay]))
def tL:bU where
 L:=Nat×Nat
 args:=fun(a,b)=>[c9 a,c9 b]
 pre:=fun(a,b)=>ed 1073741824 a∧ed 1073741824 b
 res:=fun(a,b)=>.i .i64 (ji a b)
def ss:bD aX.ctx 165 tL.spec:=by
 refine b3 [] UI.1 ?_;intro⟨a,b⟩ ⟨(ha:(bb _ a).length<=_),(hb:(bb _ b).length<=_)⟩ H aN;have I:=hg (b:=1000000000) (by decide) a;have U:=hg (b:=1000000000) (by decide) b;have t1:=yu (b:=1000000000) (by decide) a;have t2:=yu (b:=1000000000) (by decide) b;have jL:=gO (b:=1000000000) (by decide) a;have lG:=gO (b:=1000000000) (by decide) b;show aW.ok _ ⟨_,_,⟨_,_,[(0,dw (bb 1000000000 a)),(1,dw (bb 1000000000 b))]⟩⟩;generalize bb 1000000000 a=xs at *;generalize bb 1000000000 b=aw at *;have fin:∀{r:Int},ji a b=r->b7 (.i .i64 r) (tL.res (a,b)):=fun h=>by rw[<-h];exact .refl _
 refine J ?_;refine cV (fun h=> ?_) (fun h=> ?_)
 ·have h:xs.length≠aw.length:=by omega
  refine J ?_;refine cV (fun h=> ?_) (fun h=> ?_)
  ·have h:xs.length<aw.length:=by omega
   refine J ?_;have:=IU (b:=1000000000) (by decide) I t2 h;exact aA rfl (fin (AD (by omega)))
  ·have h:aw.length<xs.length:=by have:aw.length<=xs.length:=by omega
                                  omega
   refine J ?_;have:=IU (b:=1000000000) (by decide) U t1 h;exact aA rfl (fin (G4 (by omega)))
 have h:xs.length=aw.length:=by omega
 refine J ?_;refine df (L:=Nat) (fun k=>k<=xs.length∧xs.drop k=aw.drop k) (fun(k:Nat)=>⟨[],0,[(0,dw xs),(1,dw aw),(5,.i .i64 ((k:Int)-1))]⟩) id [] xs.length ⟨cf _,by rw[zcV,h,zcV]⟩ (by show xs.length<b0+1;unfold b0;omega) (kx ⟨rfl,rfl,fI,trivial⟩) ?_;rintro(k:Nat) ⟨ab,ay⟩;cases k with
 |zero=>
  refine J ?_;exact aA rfl (fin (by simp at ay;rw[ay]at jL;rw[<-jL,<-lG];exact SO _))
 |succ m=>
  have aa:m<xs.length:=by omega
  have aJ:m<aw.length:=by omega
  have e:((m+1:Nat):Int)-1=(m:Nat):=by omega
  refine aB 5 (.i .i64 (m:Nat)) rfl (gg e) (J ?_);refine aB 20 (.b true) rfl (by simp) (J ?_);refine e3 xs[m] (bg aa) ?_;refine J ?_;refine e3 aw[m] (bg aJ) ?_;refine J ?_;have hV:=Hm aa;have nL:=Hm aJ;refine cV (fun h=> ?_) (fun h=> ?_)
  ·have aT:xs[m]<aw[m]:=by omega
   refine J ?_;refine aA rfl (fin (AD ?_));rw[<-jL,<-lG,hV,nL,ay];exact KF (fun x aa=>I x (zbM aa)) (by simp;omega) aT
  refine J ?_;refine e3 xs[m] (bg aa) ?_;refine J ?_;refine e3 aw[m] (bg aJ) ?_;refine J ?_;refine cV (fun aG=> ?_) (fun aG=> ?_)
  ·have aT:aw[m]<xs[m]:=by omega
   refine J ?_;refine aA rfl (fin (G4 ?_));rw[<-jL,<-lG,hV,nL,ay];exact KF (fun x aa=>U x (zbM aa)) (by simp;omega) aT
  ·have he:xs[m]=aw[m]:=by omega
   refine J ?_;refine br [] m ⟨by simp,by omega,?_⟩ (kx ⟨rfl,rfl,fI,trivial⟩);rw[hx aa,hx aJ,he,ay]
def JF:bU where
 L:=Nat×Nat
 args:=fun(a,b)=>[c9 a,c9 b]
 pre:=fun(a,b)=>ed 1073741824 a∧ed 1073741824 b
 res:=fun(a,b)=>c9 (a+b)
def sW(h:(bb 1000000000 n).length<=k):n<1000000000^k:=by
 have I:=ll (hg (b:=1000000000) (by decide) n);rw[gO (by decide)]at I;exact fx I (zaL (by decide) h)
def Lh(ha:(bb 1000000000 a).length<=k)(hb:(bb 1000000000 b).length<=k):(bb 1000000000 (a+b)).length<=k+1:=mD (by decide) (by
 have:=sW ha;have:=sW hb;rw[zan];omega)
def afV{u:Nat}(h:w=u+v+c):w≠0↔(u≠0∨v≠0∨0<c):=by omega
def aew{D:ac Nat}(h:i<D.length)(hm:i<m)(ay:D[i]=d):(D.take i++List.replicate (m-i) 0).take i++([d]++(D.take i++List.replicate (m-i) 0).drop (i+[d].length))=D.take (i+1)++List.replicate (m-(i+1)) 0:=by
 have hl:(D.take i).length=i:=by rw[zao];omega
 rw[avc h,ay,show m-i=(m-(i+1))+1 by omega,zea,zbF];congr 1
 ·rw[zcu (by omega),zau (by omega)]
 ·congr 1;rw[List.drop_append,zbS (by simp;omega),hl];simp
def Px:bD aX.ctx 274 JF.spec:=by
 refine b3 [] Vp.1 ?_;intro⟨a,b⟩ ⟨(ha:(bb _ a).length<=_),(hb:(bb _ b).length<=_)⟩ H aN;show aW.ok _ ⟨_,_,⟨_,_,[(0,dw (bb 1000000000 a)),(1,dw (bb 1000000000 b))]⟩⟩;obtain⟨m,hm⟩:∃m,m=max (bb 1000000000 a).length (bb 1000000000 b).length:=⟨_,rfl⟩;have awE:=Lh (k:=m) (a:=a) (b:=b) (by omega) (by omega);refine av 13 ?_;refine aB 13 (.i .i64 ((m+1:Nat):Int)) rfl cX ?_;refine qn (n:=0) (c:=m+1) gn 0 ?_ (hn:=zaf _);refine J ?_;refine df (L:=Nat) (fun i=>i<=(bb 1000000000 (a+b)).length)
  (fun(i:Nat)=>⟨[.a 2 false 1 Nat gn ((bb 1000000000 (a+b)).take i++List.replicate (m+1-i) 0)],1,[(0,dw (bb 1000000000 a)),(1,dw (bb 1000000000 b)),(5,.a5 0 1 0 i (m+1)),(6,.i .i64 (nj 1000000000 a b i:Nat)),(7,.i .i64 i)]⟩)
  (fun i=>m+1-i) [0] 0 (zaf _) (by show m+1-0<b0+1;unfold b0;omega) (fh ⟨rfl,rfl,rfl,by rw[agR];rfl,rfl,trivial⟩ ⟨_,rfl,rfl,fun _=>rfl⟩) ?_
 rintro(i:Nat) ae;have Sw:=SW (b:=1000000000) (x:=a) (y:=b) (i:=i) (by decide);have bI:=agP (b:=1000000000) (x:=a) (y:=b) (i:=i) (by decide);have NZ:= @AN 1000000000 a i (by decide);have Yf:= @AN 1000000000 b i (by decide);have aoK:= @AN 1000000000 (a+b) i (by decide);have M5:(i<(bb 1000000000 (a+b)).length)↔(i<(bb 1000000000 a).length∨i<(bb 1000000000 b).length∨0<nj 1000000000 a b i):=by rw[NZ,Yf,aoK];exact afV Sw
 refine J ?_;refine ks (L:=Bool) (fun t=>t=decide (i<(bb 1000000000 (a+b)).length)) (fun t=>⟨[.a 2 false 1 Nat gn ((bb 1000000000 (a+b)).take i++List.replicate (m+1-i) 0)],1,[(0,dw (bb 1000000000 a)),(1,dw (bb 1000000000 b)),(5,.a5 0 1 0 i (m+1)),(6,.i .i64 (nj 1000000000 a b i:Nat)),(7,.i .i64 i),(28,.b t)]⟩) ?_ ?_
 ·by_cases I:i<(bb 1000000000 a).length
  ·refine aB 19 (.b true) rfl (by simp[I]) (J ?_);exact br [0] true (by simp[M5,I]) dX
  refine aB 19 (.b false) rfl (by simp[I]) (av 25 ?_);by_cases U:i<(bb 1000000000 b).length
  ·refine aB 25 (.b true) rfl (by simp[U]) (J ?_);exact br [0] true (by simp[M5,U]) dX
  refine aB 25 (.b false) rfl (by simp[U]) (J ?_);exact br [0] (decide ((0:Int)<(nj 1000000000 a b i:Nat))) (by simp only[M5];congr 1;simp;omega) dX
 intro t aV;by_cases aT:i<(bb 1000000000 (a+b)).length
 ·refine aB 28 (.b true) rfl (by rw[aV,zae aT]) ?_;obtain⟨qN,p8⟩:∃d,d=a/1000000000^i%1000000000:=⟨_,rfl⟩;obtain⟨ur,H2⟩:∃d,d=b/1000000000^i%1000000000:=⟨_,rfl⟩;have kn:qN<1000000000:=by rw[p8];exact zai _ (by decide)
  have mh:ur<1000000000:=by rw[H2];exact zai _ (by decide)
  have cs:=agQ (b:=1000000000) (x:=a) (y:=b) (i:=i) (by decide);have LO:=agO (b:=1000000000) (x:=a) (y:=b) (i:=i) (by decide);rw[<-p8,<-H2]at cs LO;obtain⟨c,hc⟩:∃c,c=nj 1000000000 a b i:=⟨_,rfl⟩;rw[<-hc]at cs LO bI;have ahr:=aht (b:=1000000000) (n:=a+b) (i:=i) (by decide) aT;refine aB 6 (.i .i64 (c:Nat)) rfl (by rw[hc]) (J ?_);refine ks (L:=Unit) (fun _=>True) (fun _=>⟨[.a 2 false 1 Nat gn ((bb 1000000000 (a+b)).take i++List.replicate (m+1-i) 0)],1,[(0,dw (bb 1000000000 a)),(1,dw (bb 1000000000 b)),(5,.a5 0 1 0 i (m+1)),(6,.i .i64 ((c+qN:Nat):Int)),(7,.i .i64 i)]⟩) ?_ ?_
  ·refine cV (fun h=> ?_) (fun h=> ?_)
   ·have h:i<(bb 1000000000 a).length:=by omega
    refine J ?_;refine dv qN (by rw[p8];exact ys (by decide) h) ?_;refine J ?_;exact br [0] () trivial (fh ⟨rfl,rfl,rfl,fI,rfl,trivial⟩ ⟨_,rfl,rfl,fun _=>rfl⟩)
   ·have h:¬i<(bb 1000000000 a).length:=by omega
    have h0:qN=0:=by
     have:a/1000000000^i=0:=Decidable.not_not.1 (fun aG=>h (NZ.2 aG));rw[p8,this]
    refine J ?_;exact br [0] () trivial (fh ⟨rfl,rfl,rfl,mZ,rfl,trivial⟩ ⟨_,rfl,rfl,fun _=>rfl⟩)
  intro _ _;refine J ?_;refine ks (L:=Unit) (fun _=>True) (fun _=>⟨[.a 2 false 1 Nat gn ((bb 1000000000 (a+b)).take i++List.replicate (m+1-i) 0)],1,[(0,dw (bb 1000000000 a)),(1,dw (bb 1000000000 b)),(5,.a5 0 1 0 i (m+1)),(6,.i .i64 ((c+qN+ur:Nat):Int)),(7,.i .i64 i)]⟩) ?_ ?_
  ·refine cV (fun h=> ?_) (fun h=> ?_)
   ·have h:i<(bb 1000000000 b).length:=by omega
    refine J ?_;refine dv ur (by rw[H2];exact ys (by decide) h) ?_;refine J ?_;exact br [0] () trivial (fh ⟨rfl,rfl,rfl,fI,rfl,trivial⟩ ⟨_,rfl,rfl,fun _=>rfl⟩)
   ·have h:¬i<(bb 1000000000 b).length:=by omega
    have h0:ur=0:=by
     have:b/1000000000^i=0:=Decidable.not_not.1 (fun aG=>h (Yf.2 aG));rw[H2,this]
    refine J ?_;exact br [0] () trivial (fh ⟨rfl,rfl,rfl,mZ,rfl,trivial⟩ ⟨_,rfl,rfl,fun _=>rfl⟩)
  intro _ _;refine av 53 ?_;refine aB 53 (.i .i64 (((c+qN+ur)%1000000000:Nat):Int)) rfl rfl (J ?_);refine aby (R:=gn) [(c+qN+ur)%1000000000] (h9 (R:=gn) [(c+qN+ur)%1000000000] rfl) ((bb 1000000000 (a+b)).take (i+1)++List.replicate (m+1-(i+1)) 0) ?_ (hl:= ?_) (hc:= ?_)
  ·refine av 57 ?_;refine aB 57 (.i .i64 (((c+qN+ur)/1000000000:Nat):Int)) rfl (by show aj.i _ (IntKind.i64.wrap (((c+qN+ur)/1000000000:Nat):Int))=_;exact cX rfl (by omega) (by omega)) (J ?_);exact br [0] (i+1) ⟨by show m+1-(i+1)<m+1-i;omega,aT⟩ (fh ⟨rfl,rfl,rfl,by rw[cs];rfl,fI,trivial⟩ ⟨_,rfl,rfl,fun _=>rfl⟩)
  ·simp;omega
  ·exact aew aT (by omega) (by rw[ahr,LO])
 ·refine aB 28 (.b false) rfl (by rw[aV,zad aT]) (av 58 ?_);have he:i=(bb 1000000000 (a+b)).length:=by omega
  refine J9 58 (bb 1000000000 (a+b)) ?_ (hl:=by rw[zaq,zcu (by simp;omega),zdp,Nat.min_self,zau (by omega)]) (hn:=he.symm);refine J ?_;exact aA rfl (.refl _)
def JS:bU where
 L:=Nat×Nat
 args:=fun(a,b)=>[c9 a,c9 b]
 pre:=fun(a,b)=>ed 1073741824 a∧b<=a
 res:=fun(a,b)=>c9 (a-b)
def aex{O:ac Nat}(h:O.length=i)(hm:i<m):(O++List.replicate (m-i) 0).take i++([d]++(O++List.replicate (m-i) 0).drop (i+[d].length))=(O++[d])++List.replicate (m-(i+1)) 0:=by
 subst h;rw[show m-O.length=(m-(O.length+1))+1 by omega,zea,zbF];congr 1
 ·rw[zcu (by omega),zau (by omega)]
 ·congr 1;rw[List.drop_append,zbS (by simp)];simp
def FG:bD aX.ctx 273 JS.spec:=by
 refine b3 [(169,xA.spec)] Vo.1 ?_;intro⟨a,b⟩ ⟨(ha:(bb _ a).length<=_),(fM:b<=a)⟩ H aN;have I:=hg (b:=1000000000) (by decide) a;have U:=hg (b:=1000000000) (by decide) b;have jL:=gO (b:=1000000000) (by decide) a;have lG:=gO (b:=1000000000) (by decide) b;have hlen:(bb 1000000000 b).length<=(bb 1000000000 a).length:=mD (by decide) (zbD fM (sW (cf _)));show aW.ok _ ⟨_,_,⟨_,_,[(0,dw (bb 1000000000 a)),(1,dw (bb 1000000000 b))]⟩⟩;generalize bb 1000000000 a=xs at *;generalize bb 1000000000 b=aw at *;refine J ?_;refine qn (n:=0) (c:=xs.length) gn 0 ?_ (hn:=zaf _);refine J ?_;refine df (L:=Nat×ac Nat×Nat) (fun(i,outs,c)=>i<=xs.length∧outs.length=i∧dg 1000000000 outs∧c<=1∧val 1000000000 (xs.take i)+1000000000^i*c=val 1000000000 outs+val 1000000000 (aw.take i))
  (fun((i:Nat),(outs:ac Nat),(c:Nat))=>⟨[.a 2 false 1 Nat gn (outs++List.replicate (xs.length-i) 0)],1,[(0,dw xs),(1,dw aw),(5,.a5 0 1 0 i xs.length),(6,.i .i64 c),(7,.i .i64 i)]⟩)
  (fun l=>xs.length-l.1) [0] (0,[],0) ⟨zaf _,rfl,fun x aa=>by simp at aa,by decide,by simp[val]⟩ (by show xs.length-0<b0+1;unfold b0;omega) dX ?_
 rintro⟨i,outs,c⟩ ⟨ae,ho,bR,hc,aE⟩;refine J ?_;refine cV (fun h=> ?_) (fun h=> ?_)
 ·have h:i<xs.length:=by omega
  have EN:xs[i]? =some xs[i]:=bg h;have aT:=I _ (dp h);refine J ?_;refine dv xs[i] EN ?_;refine J ?_;refine ks (L:=Nat) (fun y=>y<1000000000∧val 1000000000 (aw.take (i+1))=val 1000000000 (aw.take i)+1000000000^i*y) (fun(y:Nat)=>⟨[.a 2 false 1 Nat gn (outs++List.replicate (xs.length-i) 0)],1,[(0,dw xs),(1,dw aw),(5,.a5 0 1 0 i xs.length),(7,.i .i64 i),(8,.i .i64 ((xs[i]:Int)-c-y))]⟩) ?_ ?_
  ·refine cV (fun aG=> ?_) (fun aG=> ?_)
   ·have aG:i<aw.length:=by simpa using aG
    have EO:aw[i]? =some aw[i]:=bg aG;have Et:=U _ (dp aG);refine J ?_;refine dv aw[i] EO ?_;refine J ?_;refine br [0] aw[i] ⟨Et,iN aG⟩ (fh ⟨rfl,rfl,rfl,rfl,?_,trivial⟩ ⟨_,rfl,rfl,fun _=>rfl⟩);exact congrArg (fun n=>some (aj.i .i64 n)) (by rw[hK (n:=(xs[i]:Int)-c) (by omega) (by omega)];exact vJ rfl (by omega) (by omega))
   ·have aG:aw.length<=i:=by simpa using aG
    refine J ?_;refine br [0] 0 ⟨by decide,by rw[kU (by omega),kU aG];simp⟩ (fh ⟨rfl,rfl,rfl,rfl,?_,trivial⟩ ⟨_,rfl,rfl,fun _=>rfl⟩);exact congrArg (fun n=>some (aj.i .i64 n)) (vJ (by omega) (by omega) (by omega))
  rintro y ⟨aJ,gy⟩;refine J ?_;refine ks (L:=Nat×Nat) (fun(d,bL)=>d<1000000000∧bL<=1∧xs[i]+1000000000*bL=d+y+c) (fun((d:Nat),(bL:Nat))=>⟨[.a 2 false 1 Nat gn (outs++List.replicate (xs.length-i) 0)],1,[(0,dw xs),(1,dw aw),(5,.a5 0 1 0 i xs.length),(6,.i .i64 bL),(7,.i .i64 i),(8,.i .i64 d)]⟩) ?_ ?_
  ·refine cV (fun aG=> ?_) (fun aG=> ?_)
   ·refine J ?_;refine br [0] (xs[i]+1000000000-c-y,1) ⟨by omega,by omega,by omega⟩ (fh ⟨rfl,rfl,rfl,rfl,rfl,?_,trivial⟩ ⟨_,rfl,rfl,fun _=>rfl⟩);exact congrArg (fun n=>some (aj.i .i64 n)) (vJ (by omega) (by omega) (by omega))
   ·refine J ?_;refine br [0] (xs[i]-c-y,0) ⟨by omega,by omega,by omega⟩ (fh ⟨rfl,rfl,rfl,rfl,rfl,?_,trivial⟩ ⟨_,rfl,rfl,fun _=>rfl⟩);exact congrArg (fun n=>some (aj.i .i64 n)) (by omega)
  rintro⟨d,bL⟩ ⟨ay,n4,he⟩;refine J ?_;refine aby (R:=gn) [d] (h9 (R:=gn) [d] rfl) ((outs++[d])++List.replicate (xs.length-(i+1)) 0) ?_ (hl:=aex ho h) (hc:=by simp;omega);refine J ?_;refine br [0] (i+1,outs++[d],bL) ⟨by show xs.length-(i+1)<xs.length-i;omega,by omega,by simp[ho],?_,n4,?_⟩ (fh ⟨rfl,rfl,rfl,rfl,fI,trivial⟩ ⟨_,rfl,rfl,fun _=>rfl⟩)
  ·intro x aa;rcases zbl.1 aa with h|h
   ·exact bR x h
   ·simp at h;omega
  ·rw[nN,ho,iN h,gy,zan];have:=ac6 aE he;simp[val];omega
 ·have he:i=xs.length:=by omega
  refine av 42 ?_;refine J9 42 outs ?_ (hl:=by rw[zaq,zcu (by omega),zau (by omega)]) (hn:=ho);refine a9 xB outs (by show outs.length<=_;omega) (J ?_);refine aA rfl (.of ?_);show dw (e1 outs)=c9 (a-b);rw[zV (b:=1000000000) (by decide) bR];have az:xs.take i=xs:=zau (by omega);have e2:aw.take i=aw:=zau (by omega);rw[az,e2,jL,lG]at aE;have aoo:=ll bR;have:c=0:=by
   rcases zcS c with h|h
   ·exact h
   ·exfalso;have:c=1:=by omega
    subst this;rw[ho]at aoo;omega
  subst this;show dw _=dw _;rw[show val 1000000000 outs=a-b by omega]
def zI:bU where
 L:=Nat×Nat
 args:=fun(a,b)=>[c9 a,c9 b]
 pre:=fun(a,b)=>ed 1073741824 a∧ed 1073741824 b
 res:=fun(a,b)=>c9 (a*b)
def arV(hc:c<1000000000)(aa:x<1000000000)(aJ:y<1000000000)(al:o<1000000000):x*y+o+c<1000000000000000000:=by
 have I:x*y<=999999999*999999999:=zdu (by omega) (by omega);omega
def rq:bD aX.ctx 172 zI.spec:=by
 refine b3 [(169,xA.spec)] UO.1 ?_;intro⟨a,b⟩ ⟨(ha:(bb _ a).length<=_),(hb:(bb _ b).length<=_)⟩ H aN;have I:=hg (b:=1000000000) (by decide) a;have U:=hg (b:=1000000000) (by decide) b;have jL:=gO (b:=1000000000) (by decide) a;have lG:=gO (b:=1000000000) (by decide) b;show aW.ok _ ⟨_,_,⟨_,_,[(0,dw (bb 1000000000 a)),(1,dw (bb 1000000000 b))]⟩⟩;generalize bb 1000000000 a=xs at *;generalize bb 1000000000 b=aw at *;refine av 13 ?_;refine aB 13 (.i .i64 ((xs.length+aw.length:Nat):Int)) rfl cX ?_;refine qn gn 0 ?_;refine J ?_;refine df (L:=Nat×ac Nat) (fun(i,outs)=>i<=xs.length∧outs.length=xs.length+aw.length∧dg 1000000000 outs∧val 1000000000 (outs.take (i+aw.length))=val 1000000000 (xs.take i)*val 1000000000 aw)
  (fun((i:Nat),(outs:ac Nat))=>⟨[.a 2 false 1 Nat gn outs],1,[(0,dw xs),(1,dw aw),(5,.a5 0 1 0 (xs.length+aw.length) (xs.length+aw.length)),(6,.i .i64 i)]⟩)
  (fun l=>xs.length-l.1) [0] (0,List.replicate (xs.length+aw.length) 0) ⟨by omega,by simp,tB (by decide) _,by simp[val,val_zero]⟩ (by show xs.length-0<b0+1;unfold b0;omega) dX ?_
 rintro⟨i,outs⟩ ⟨ae,ho,bR,aE⟩;refine J ?_;refine cV (fun h=> ?_) (fun h=> ?_)
 ·have h:i<xs.length:=by omega
  have mg:=I _ (dp h);refine J ?_;refine df (L:=Nat×ac Nat×Nat) (fun(j,os,c)=>j<=aw.length∧os.length=xs.length+aw.length∧dg 1000000000 os∧c<1000000000∧(∀k,i+j<=k->os[k]? =outs[k]?)∧val 1000000000 (os.take (i+j))+1000000000^(i+j)*c=val 1000000000 (outs.take (i+j))+1000000000^i*(xs[i]*val 1000000000 (aw.take j)))
   (fun((j:Nat),(os:ac Nat),(c:Nat))=>⟨[.a 2 false 1 Nat gn os],1,[(0,dw xs),(1,dw aw),(5,.a5 0 1 0 (xs.length+aw.length) (xs.length+aw.length)),(6,.i .i64 i),(7,.i .i64 c),(8,.i .i64 j)]⟩)
   (fun l=>aw.length-l.1) [0] (0,outs,0) ⟨by omega,ho,bR,by omega,fun _ _=>rfl,by simp[val]⟩ (by show aw.length-0<b0+1;unfold b0;omega) dX ?_
  rintro⟨j,os,c⟩ ⟨hj,EA,uT,hc,ns,mW⟩;refine J ?_;refine cV (fun r1=> ?_) (fun r1=> ?_)
  ·have r1:j<aw.length:=by omega
   have Iy:=U _ (dp r1);have hI:i+j<os.length:=by omega
   have Ny:os[i+j]=outs[i+j]:=by
    have:=ns (i+j) (cf _);rw[bg hI,bg (by omega)]at this;exact Option.some.inj this
   have Nz:=uT _ (dp hI);have g:=arV hc mg Iy Nz;refine J ?_;refine eU 31 (.i .i64 ((i+j:Nat):Int)) rfl rfl cX ?_;refine J ?_;refine AJ ?_;refine He os[i+j] (bg hI) ?_;refine J ?_;refine e3 xs[i] (bg h) ?_;refine J ?_;refine e3 aw[j] (bg r1) ?_;refine av 44 ?_;have ahN:IntKind.i64.wrap (IntKind.i64.wrap ((c:Int)+os[i+j])+IntKind.i64.wrap ((xs[i]:Int)*aw[j]))=((c+(xs[i]*aw[j]+os[i+j]):Nat):Int):=by
    rw[<-zaY];rw[hK (n:=(c:Int)+os[i+j]) (by omega) (by omega),hK (n:=((xs[i]*aw[j]:Nat):Int)) (by omega) (by omega),hK (by omega) (by omega)];omega
   refine eU 44 (.i .i64 ((c+(xs[i]*aw[j]+os[i+j]):Nat):Int)) rfl rfl (congrArg (aj.i .i64) ahN) ?_;refine av 48 ?_;refine aB 48 (.i .i64 ((i+j:Nat):Int)) rfl cX ?_;obtain⟨T,jm⟩:∃T,T=c+(xs[i]*aw[j]+os[i+j]):=⟨_,rfl⟩;refine aB 7 (.i .i64 (T:Nat)) rfl (by rw[jm]) ?_;have awG:T<1000000000000000000:=by omega
   refine av 50 ?_;refine aB 50 (.i .i64 ((T%1000000000:Nat):Int)) rfl rfl ?_;refine kt ?_;refine mq (T%1000000000) ?_;refine av 53 ?_;refine aB 53 (.i .i64 ((T/1000000000:Nat):Int)) rfl (by show aj.i _ (IntKind.i64.wrap ((T/1000000000:Nat):Int))=_;exact cX rfl (by omega) (by omega)) (J ?_);refine br [0] (j+1,os.set (i+j) (T%1000000000),T/1000000000) ⟨by show aw.length-(j+1)<aw.length-j;omega,by omega,by simp[EA],nz uT _ (zai _ (by decide)),by omega,fun k ab=>by rw[zbn (by omega)];exact ns k (by omega),?_⟩
    (fh ⟨rfl,rfl,rfl,rfl,rfl,fI,trivial⟩ ⟨_,rfl,rfl,fun _=>rfl⟩)
   rw[<-zbI,iN (l:=os.set (i+j) _) (by simp;omega),iN (l:=outs) (by omega),iN r1,zaV (cf _),zaT,zan,<-Ny,jm];exact Zh (by rw[zat]) mW
  ·have hj:j=aw.length:=by omega
   subst hj;refine av 58 ?_;refine aB 58 (.i .i64 ((i+aw.length:Nat):Int)) rfl cX (J ?_);refine kt ?_;refine mq c ?_;refine J ?_;refine br [0] (i+1,os.set (i+aw.length) c) ⟨by show xs.length-(i+1)<xs.length-i;omega,by omega,by simp[EA],nz uT _ hc,?_⟩ (fh ⟨rfl,rfl,rfl,fI,trivial⟩ ⟨_,rfl,rfl,fun _=>rfl⟩);rw[show i+1+aw.length=i+aw.length+1 by omega,iN (l:=os.set _ _) (by simp;omega),zaV (cf _),zaT,mW,aE,iN h,kU (cf _),zak,zaA]
 ·have ae:i=xs.length:=by omega
  subst ae;refine J ?_;refine iw 61 ?_;refine a9 xB outs (by show outs.length<=_;omega) (J ?_);refine aA rfl (.of ?_);show dw (e1 outs)=c9 (a*b);rw[kU (l:=xs) (cf _),kU (l:=outs) (by omega)]at aE;rw[zV (b:=1000000000) (by decide) bR,aE,jL,lG];rfl
def wA:bb 1000000000 1=[1]:=by rw[qQ (by decide) (by decide),show 1/1000000000=0 from rfl,hQ]
def xy:bU where
 L:=Unit
 args:=fun _=>[]
 pre:=fun _=>True
 res:=fun _=>c9 1
def vq:bD aX.ctx 166 xy.spec:=by
 refine b3 [] UJ.1 ?_;intro _ _ H aN;refine av 1 ?_;refine oi 0 gn [1] ?_;refine iw 1 ?_;refine J ?_;exact aA rfl (.of (by show dw [1]=dw _;rw[wA]))
def cT(x:Rat):aj:=.agg [.i .i64 x.num.sign,c9 x.num.natAbs,dw (if x.num=0 then[]else bb 1000000000 x.den)]
def abn:bU where
 L:=Rat
 args:=fun x=>[cT x]
 pre:=fun _=>True
 res:=fun x=>.i .i64 x.num.sign
def ar8:bD aX.ctx 152 abn.spec:=by
 refine b3 [] Uv.1 ?_;intro(x:Rat) _ H aN;refine J ?_;exact aA rfl (.refl _)
def zE:bU where
 L:=Rat
 args:=fun x=>[cT x]
 pre:=fun _=>True
 res:=fun x=>c9 x.den
def sr:bD aX.ctx 173 zE.spec:=by
 refine b3 [(166,xy.spec)] UP.1 ?_;intro(x:Rat) _ H aN;refine J ?_;refine cV (fun h=> ?_) (fun h=> ?_)
 ·have h:x.num=0:=zcE.1 h;have ay:x.den=1:=by have:=x.reduced;rw[h]at this;simpa[Nat.Coprime]using this
  refine J ?_;refine a9 vq () trivial (J ?_);exact aA rfl (.of (by show c9 1=c9 x.den;rw[ay]))
 ·have h:x.num≠0:=fun e=>h (by rw[e];rfl);refine J ?_;exact aA rfl (.of (by show dw (if _ then _ else _)=dw _;rw[zaa h]))
def abd:bU where
 L:=Rat
 args:=fun x=>[cT x]
 pre:=fun _=>True
 res:=fun x=>cT (-x)
def arX:bD aX.ctx 429 abd.spec:=by
 refine b3 [] Wo.1 ?_;intro(x:Rat) _ H aN;refine J ?_;refine aA rfl (.of ?_);show aj.agg [.i _ (IntKind.i64.wrap (-x.num.sign)),_,_]=aj.agg [.i _ _,_,_];have ec:∀n:Int,-1<=n.sign∧n.sign<=1:=fun n=>by
  rcases(show n<0∨n=0∨0<n by omega)with h|h|h
  ·rw[zcc h];decide
  ·rw[h];decide
  ·rw[zbE h];decide
 have:=ec x.num;rw[hK (by omega) (by omega),zcC,zdb,Int.sign_neg,zda];simp[c9,dw]
def Kz{own:ac aY}{e bS:bQ}{o:aY}(h:kZ [k] bS e)(al:∃a8,own[k]? =some a8∧gm [k] o a8)(hp:pinned p [k] 0=true:=by rfl):Sub p [k] ⟨own,n,e⟩ ⟨[o],1,bS⟩:=⟨by simp,rfl,⟨al,trivial⟩,h,hp⟩
def abb:bU where
 L:=Nat
 args:=fun n=>[.i .u64 n]
 pre:=fun n=>n<18446744073709551616
 res:=fun n=>c9 n
def arW(m:Nat):ac Nat->cB
 |[]=>⟨[],0,[(0,.i .u64 m),(3,.nl)]⟩
 |d::ds=>⟨[.a 2 true 1 Nat gn (d::ds)],1,[(0,.i .u64 m),(3,.a5 0 1 0 (d::ds).length (d::ds).length)]⟩
def abc:bD aX.ctx 430 abb.spec:=by
 refine b3 [] Wp.1 ?_;intro(n:Nat) (hn:n<18446744073709551616) H aN;have hl:(bb 1000000000 n).length<=3:=mD (by decide) (by omega);refine J ?_;refine df (L:=Nat×ac Nat) (fun(m,l)=>m<=n∧bb 1000000000 n=l++bb 1000000000 m) (fun(m,l)=>arW m l) (fun l=>(bb 1000000000 l.1).length) [] (n,[]) ⟨cf _,rfl⟩ (by show(bb 1000000000 n).length<b0+1;unfold b0;omega) dW ?_;rintro⟨m,l⟩ ⟨hm,ay⟩;have q3:l.length<=3:=by rw[ay]at hl;simp at hl;omega
 have step:m≠0->(bb 1000000000 (m/1000000000)).length<(bb 1000000000 m).length∧m/1000000000<=n∧bb 1000000000 n=(l++[m%1000000000])++bb 1000000000 (m/1000000000):=fun h=>by
  rw[ay,qQ (by decide) h];simp;omega
 have hq:((m%1000000000:Nat):Int)<9223372036854775808:=by omega
 have WY:m/1000000000%18446744073709551616=m/1000000000:=by omega
 have qb: -9223372036854775808<=((m%1000000000:Nat):Int):=by omega
 cases l with
 |nil=>
  refine J ?_;refine cV (fun h=> ?_) (fun h=> ?_)
  ·have step:=step (by omega);refine av 9 ?_;refine aB 9 (.i .i64 ((m%1000000000:Nat):Int)) rfl (cX rfl qb hq) (J ?_);refine FL gn [m%1000000000] (h9 (R:=gn) [m%1000000000] rfl) ?_;refine J ?_;exact br [1] (m/1000000000,[m%1000000000]) step (Kz ⟨mZ (congrArg Int.ofNat WY),rfl,trivial⟩ ⟨_,rfl,rfl,fun _=>rfl⟩)
  ·have h0:m=0:=by omega
   subst h0;rw[hQ]at ay;refine J ?_;exact aA rfl (b7.nl.trans (.of (by show dw []=dw _;rw[ay];rfl)))
 |cons d ds=>
  refine J ?_;refine cV (fun h=> ?_) (fun h=> ?_)
  ·have step:=step (by omega);refine av 9 ?_;refine aB 9 (.i .i64 ((m%1000000000:Nat):Int)) rfl (cX rfl qb hq) (J ?_);have iT:ds.length<=2:=by simp at q3;omega
   refine FK (R:=gn) [m%1000000000] (h9 (R:=gn) [m%1000000000] rfl) ?_;refine J ?_;exact br [2] (m/1000000000,d::(ds++[m%1000000000])) step (Kz ⟨mZ (congrArg Int.ofNat WY),congrArg (fun k=>some (aj.a5 2 1 0 k k)) (by simp),trivial⟩ ⟨_,rfl,rfl,fun _=>rfl⟩)
  ·have h0:m=0:=by omega
   subst h0;rw[hQ,zeq]at ay;refine av 14 ?_;refine iw 14 ?_;refine J ?_;exact aA rfl (.of (by show dw (d::ds)=dw _;rw[ay]))
def aaZ:bU where
 L:=Nat
 args:=fun a=>[c9 a]
 pre:=fun a=>ed 1073741824 a
 res:=fun a=>c9 (a/2)
def JK:bD aX.ctx 272 aaZ.spec:=by
 refine b3 [(169,xA.spec)] Vn.1 ?_;intro(a:Nat) (ha:(bb _ a).length<=_) H aN;have I:=hg (b:=1000000000) (by decide) a;have jL:=gO (b:=1000000000) (by decide) a;show aW.ok _ ⟨_,_,⟨_,_,[(0,dw (bb 1000000000 a))]⟩⟩;generalize bb 1000000000 a=xs at *;refine J ?_;refine qn gn 0 ?_;refine J ?_;refine df (L:=Nat×ac Nat×Nat) (fun(k,outs,r)=>k<=xs.length∧outs.length=xs.length∧dg 1000000000 outs∧r<2∧val 1000000000 (xs.drop k)=val 1000000000 (outs.drop k)*2+r)
  (fun((k:Nat),(outs:ac Nat),(r:Nat))=>⟨[.a 2 false 1 Nat gn outs],1,[(0,dw xs),(3,.a5 0 1 0 xs.length xs.length),(4,.i .i64 r),(5,.i .i64 ((k:Int)-1))]⟩)
  (fun l=>l.1) [0] (xs.length,List.replicate xs.length 0,0) ⟨by omega,by simp,tB (by decide) _,by decide,by simp[val]⟩ (by show xs.length<b0+1;unfold b0;omega) (fh ⟨rfl,rfl,rfl,fI,trivial⟩ ⟨_,rfl,rfl,fun _=>rfl⟩) ?_
 rintro⟨k,outs,r⟩ ⟨ab,ho,bR,aD,aE⟩;cases k with
 |zero=>
  refine J ?_;refine iw 30 ?_;refine a9 xB outs (by show outs.length<=_;omega) (J ?_);rw[zaq,zaq]at aE;refine aA rfl (.of ?_);show dw (e1 outs)=c9 (a/2);rw[zV (b:=1000000000) (by decide) bR,show a/2=val 1000000000 outs by omega];rfl
 |succ m=>
  have aa:m<xs.length:=by omega
  have mg:=I _ (dp aa);have p7:=acC aD mg;refine aB 5 (.i .i64 (m:Nat)) rfl gg (J ?_);refine aB 13 (.b true) rfl (by simp) (J ?_);refine dv xs[m] (bg aa) ?_;refine av 22 ?_;refine aB 22 (.i .i64 ((r*1000000000+xs[m]:Nat):Int)) rfl (congrArg (aj.i .i64) (by rw[hK (n:=(r:Int)*1000000000) (by omega) (by omega),hK (by omega) (by omega)];omega)) ?_;obtain⟨T,yG⟩:∃T,T=r*1000000000+xs[m]:=⟨_,rfl⟩;have jm:T<2000000000:=by omega
  rw[<-yG]at p7;refine aB 22 (.i .i64 (T:Nat)) rfl (by rw[yG]) (av 26 ?_);refine aB 26 (.i .i64 ((T/2:Nat):Int)) rfl (by show aj.i _ (IntKind.i64.wrap ((T/2:Nat):Int))=_;exact cX rfl (by omega) (by omega)) ?_;refine kt ?_;refine mq (T/2) ?_;refine av 29 ?_;refine aB 29 (.i .i64 ((T%2:Nat):Int)) rfl rfl (J ?_);have ah:xs.drop m=xs[m]::xs.drop (m+1):=hx aa;refine br [0] (m,outs.set m (T/2),T%2) ⟨by simp,by omega,by simp[ho],nz bR _ p7,zai _ (by decide),?_⟩ (fh ⟨rfl,rfl,rfl,fI,trivial⟩ ⟨_,rfl,rfl,fun _=>rfl⟩);rw[ah,hx (l:=outs.set m _) (by simp;omega),zaT,zcK (by omega),yG];exact acD aE
def abf:bU where
 L:=Nat
 args:=fun a=>[c9 a]
 pre:=fun a=>True
 res:=fun a=>.b (decide (a%2=1))
def JM:bD aX.ctx 271 abf.spec:=by
 refine b3 [] Vm.1 ?_;intro(a:Nat) _ H aN;show aW.ok _ ⟨_,_,⟨_,_,[(0,dw (bb 1000000000 a))]⟩⟩;by_cases h0:a=0
 ·subst h0;rw[hQ];refine J ?_;exact aA rfl (.refl _)
 ·rw[qQ (by decide) h0];refine J ?_;refine aB 6 (.b true) rfl (by simp) (J ?_);refine dv (j:=0) (a%1000000000) rfl ?_;refine av 10 ?_;refine aB 10 (.i .i64 ((a%1000000000%2:Nat):Int)) rfl rfl (J ?_);refine aA rfl (.of ?_);show aj.b (decide _)=aj.b (decide _);congr 2;apply propext;omega
def al2{W:Nat}(ik:V=v*P+nc)(A5:nc<P)(e7:W=w*P+pL)(aE:0<V):w/(v+1)<=W/V:=by
 rw[zbU aE];have I:w/(v+1)*(v+1)<=w:=zek _ _;have U:V<=(v+1)*P:=by rw[zak];omega
 calc w/(v+1)*V<=w/(v+1)*((v+1)*P):=nQ _ U
  _=w/(v+1)*(v+1)*P:=(zaA _ _ _).symm
  _<=w*P:=ix _ I
  _<=W:=by omega
def al1{W:Nat}(ik:V=v*P+nc)(uD:pL<P)(e7:W=w*P+pL)(aE:0<v)(hi:0<P):W/V<=(w+1)/v:=by
 have s5:0<V:=by have:=zca aE hi;omega
 rw[zbU aE];have I:W/V*V<=W:=zek _ _;have U:W/V*(v*P)<=W/V*V:=nQ _ (by omega);have ag:W/V*v*P<(w+1)*P:=by rw[zaA,zak];omega
 exact zbo (Nat.lt_of_mul_lt_mul_right ag)
