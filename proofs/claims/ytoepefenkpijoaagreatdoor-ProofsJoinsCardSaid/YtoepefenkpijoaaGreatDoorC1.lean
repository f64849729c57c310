/- What the functions of the program and of the document compute, for every input (part 1); conditions as in the statements. -/
import Derived.Test.YtoepefenkpijoaaGreatDoorS1
import Derived.Test.YtoepefenkpijoaaGreatDoorT
import Derived.Test.YtoepefenkpijoaaGreatDoorL
set_option linter.all false
namespace Go.ar.a9
open Go.ar
set_option maxRecDepth 100000
set_option maxHeartbeats 4000000
variable{f:ci}{S:bD}
def bI(K:ac (Nat×eY))(xf:cM)(h:∀l,S.pre l->∀H aK,aU.ok ⟨b9 aZ (cg aT.ctx (b5 K)) (bV+1),bV+1,f,H,[],aK,Fin S l xf.res⟩ ⟨[],.c xf.body,⟨[],0,mA 0 (S.args l)⟩⟩)
 (aa:aZ.get f=some xf:=by kernel_rfl) (hl:∀l,(S.args l).length<=xf.aJ:=by exact fun _=>jF rfl):bl aT.ctx f S.spec:=agt aT.dY eR (b5 K) aa hl h
def sF(K:ac (Nat×eY))(xf:cM)(h:∀l,S.pre l->∀H aK,S.hp H->aU.ok ⟨b9 aZ (cg aT.ctx (b5 K)) (bV+1),bV+1,f,H,[],aK,Fin S l xf.res⟩ ⟨[],.c xf.body,⟨[],0,mA 0 (S.args l)⟩⟩)
 (aa:aZ.get f=some xf:=by kernel_rfl) (hl:∀l,(S.args l).length<=xf.aJ:=by exact fun _=>jF rfl):bl aT.ctx f S.spec:=LI aT.dY eR (b5 K) aa hl h
def RP(K:ac (Nat×eY))(xf:cM){S:kx}(h:∀l,S.pre l->∀H i0 aK,i0.length=(S.own l).length->aU.ok ⟨b9 aZ (cg aT.ctx (b5 K)) (bV+1),bV+1,f,H,i0,aK,KF S l xf.res⟩ ⟨[],.c xf.body,⟨S.own l,(S.own l).length,mA 0 (S.args l)⟩⟩)
 (aa:aZ.get f=some xf:=by kernel_rfl) (hl:∀l,(S.args l).length<=xf.aJ:=by exact fun _=>jF rfl):bl aT.ctx f S.spec:=agr aT.dY eR (b5 K) aa hl h
def fQ(d:Nat):ac aj:=[.i .u32 d]
def dg(ds:ac Nat):aj:=.cc 1 Nat fQ ds
def dq(n:Nat):aj:=dg (aY 4294967296 n)
def vz{n m:Int}(h:n=m)(J: -9223372036854775808<=n)(U:n<9223372036854775808):IntKind.i64.wrap n=m:=by rw[hz J U,h]
def ads(n:Int):IntKind.u64.wrap n=n%18446744073709551616:=by
 rw[<-lR];exact tF _ _ (by decide)
def Kq:bD where
 L:=ac Nat
 args:=fun ds=>[dg ds]
 pre:=fun ds=>ds.length<=1099511627776
 res:=fun ds=>dg (eV ds)
def au1:bl aT.ctx 333 Kq.spec:=by
 refine bI [] Vd.1 ?_;intro(ds:ac Nat) (hp:ds.length<=1099511627776) H aK;refine I ?_;refine cN (fun es:ac Nat=>eV es=eV ds∧es.length<=ds.length) (fun es=>⟨[],0,[(0,dg es)]⟩) List.length [] ds ⟨rfl,b8 _⟩ (by show ds.length<bV+1;unfold bV;omega) dj ?_;rintro es ⟨J,U⟩;rcases zcb es with rfl|⟨c7,d,rfl⟩
 ·refine I ?_;exact au rfl (.of (by rw[show Kq.res ds=dg (eV ds)from rfl,<-J];rfl))
 ·rw[zcc]at *;have hl:(c7++[d]).length=c7.length+1:=by simp
  refine I ?_;refine ax 6 (.b true) rfl (by simp) (I ?_);refine ax 10 (.i .i64 (c7.length:Nat)) rfl (by rw[hl,hz]<;>simp<;>omega) ?_;refine fJ (NH rfl rfl (show(c7++[d])[c7.length]? =some d by simp)) ?_;refine I ?_;refine zk rfl (fun aA=> ?_) (fun aA=> ?_)
  ·have aA:d=0:=by simpa using aA
   refine I ?_;refine ax 18 (.i .i64 (c7.length:Nat)) rfl (by rw[hl,hz]<;>simp<;>omega) ?_;refine fJ (ab3 (p:=0) rfl rfl ⟨_,rfl⟩ (zae _) (by simp)) ?_;refine I ?_;refine bf [] c7 ⟨by simp,by rw[<-J,ss,zab aA],by omega⟩ (kd ⟨?_,trivial⟩);simp[eb,n2,dg]
  ·have aA:d≠0:=by simpa using aA
   refine I ?_;exact au rfl (.of (by rw[show Kq.res ds=dg (eV ds)from rfl,<-J,ss,zaa aA]))
def tX:bD where
 L:=ac Nat
 args:=fun ds=>[dg ds]
 pre:=fun ds=>cV 4294967296 ds∧ds.length<=1099511627776
 res:=fun ds=>dq (val 4294967296 ds)
def tY:bl aT.ctx 255 tX.spec:=by
 refine bI [(333,Kq.spec)] UB.1 ?_;intro(ds:ac Nat) ⟨(J:cV 4294967296 ds),(U:ds.length<=_)⟩ H aK;refine I ?_;refine aX au1 ds U (I ?_);exact au rfl (.of (by show dg (eV ds)=dg _;rw[zw (by decide) J]))
def BB:bD where
 L:=Nat
 args:=fun n=>[.i .u64 n]
 pre:=fun n=>n<18446744073709551616
 res:=fun n=>dq n
def u6:bl aT.ctx 167 BB.spec:=by
 refine bI [(255,tX.spec)] T1.1 ?_;intro(n:Nat) (hp:n<18446744073709551616) H aK;refine I ?_;refine aa8 0 (z:=1) (R:=fQ) [n%4294967296,n/4294967296] rfl (by show[aj.i _ _,aj.i _ _]=[aj.i _ _,aj.i _ _];rw[show n/2^32%4294967296=n/4294967296 by omega]) (fun _=>rfl) ?_;refine abb 8 [n%4294967296,n/4294967296] rfl rfl rfl rfl (by decide) (fun _=>rfl) ?_;refine aX tY [n%4294967296,n/4294967296] ⟨fun x aa=> ?_,by simp⟩ ?_
 ·simp at aa;rcases aa with rfl|rfl<;>omega
 refine I ?_;exact au rfl (.of (by show dq _=dq _;simp[val];congr 1;omega))
def ev(k n:Nat):Prop:=(aY 4294967296 n).length<=k
variable{k b x j a:Nat}{us:ac Nat}{n:Nat}{l:ac Nat}{X d s m r y o B h c P R v i V:Nat}{neg:Bool}{p q:Nat}
def KZ:bD where
 L:=Nat×Nat
 args:=fun(a,b)=>[dq a,dq b]
 pre:=fun(a,b)=>ev 1073741824 a∧ev 1073741824 b
 res:=fun(a,b)=>dq (a+b)
def QP:bl aT.ctx 253 KZ.spec:=by
 refine bI [(255,tX.spec)] Uz.1 ?_;intro⟨a,b⟩ ⟨(ha:(aY _ a).length<=_),(hb:(aY _ b).length<=_)⟩ H aK;show aU.ok _ ⟨_,_,⟨_,_,[(0,dg (aY 4294967296 a)),(1,dg (aY 4294967296 b))]⟩⟩;refine I ?_;refine ij (fun((xs:ac Nat),(av:ac Nat))=>av.length<=xs.length∧xs.length<=1073741824∧cV 4294967296 xs∧cV 4294967296 av∧val 4294967296 xs+val 4294967296 av=a+b) (fun(xs,av)=>⟨[],0,[(0,dg xs),(1,dg av)]⟩) ?_ ?_
 ·refine cA (fun h=> ?_) (fun h=> ?_)
  ·have h:(aY 4294967296 a).length<(aY 4294967296 b).length:=by omega
   refine I ?_;exact bf [] (aY _ b,aY _ a) ⟨by omega,hb,hi (by decide) _,hi (by decide) _,by rw[gD (by decide),gD (by decide),zbZ]⟩ dj
  ·have h:(aY 4294967296 b).length<=(aY 4294967296 a).length:=by omega
   refine I ?_;exact bf [] (aY _ a,aY _ b) ⟨h,ha,hi (by decide) _,hi (by decide) _,by rw[gD (by decide),gD (by decide)]⟩ dj
 rintro⟨xs,av⟩ ⟨hl,aa,J,U,ah⟩;refine I ?_;refine ax 18 (.i .i64 ((xs.length+1:Nat):Int)) rfl ct ?_;refine qk fQ 0 ?_;refine I ?_;refine cN (L:=Nat×ac Nat×Nat) (fun(i,outs,c)=>i<=xs.length∧outs.length=xs.length+1∧cV 4294967296 outs∧c<=1∧val 4294967296 (outs.take i)+4294967296^i*c=val 4294967296 (xs.take i)+val 4294967296 (av.take i))
  (fun((i:Nat),(outs:ac Nat),(c:Nat))=>⟨[.a 223 false 1 Nat fQ outs],1,[(0,dg xs),(1,dg av),(5,.a5 0 1 0 (xs.length+1) (xs.length+1)),(6,.i .u64 c),(20,dg xs),(21,.i .i64 xs.length),(22,.i .i64 i)]⟩)
  (fun l=>xs.length-l.1) [0] (0,List.replicate (xs.length+1) 0,0) ⟨by omega,by simp,tf (by decide) _,by omega,by simp[val]⟩ (by show xs.length-0<bV+1;unfold bV;omega) dI ?_
 rintro⟨i,outs,c⟩ ⟨af,hy,bN,hc,aD⟩;refine I ?_;refine cA (fun h=> ?_) (fun h=> ?_)
 ·have h:i<xs.length:=by omega
  have Em:xs[i]? =some xs[i]:=bm h;have aN:=J _ (dy h);refine I ?_;refine dr xs[i] Em ?_;refine I ?_;refine ij (fun y=>y<4294967296∧val 4294967296 (av.take (i+1))=val 4294967296 (av.take i)+4294967296^i*y) (fun(y:Nat)=>⟨[.a 223 false 1 Nat fQ outs],1,[(0,dg xs),(1,dg av),(5,.a5 0 1 0 (xs.length+1) (xs.length+1)),(6,.i .u64 ((c+xs[i]+y:Nat):Int)),(7,.i .i64 i),(20,dg xs),(21,.i .i64 xs.length),(22,.i .i64 i)]⟩) ?_ ?_
  ·refine cA (fun aG=> ?_) (fun aG=> ?_)
   ·have aG:i<av.length:=by simpa using aG
    have En:av[i]? =some av[i]:=bm aG;have DY:=U _ (dy aG);refine I ?_;refine dr av[i] En ?_;refine I ?_;refine bf [0] av[i] ⟨DY,iF aG⟩ (eD ⟨rfl,rfl,rfl,?_,rfl,rfl,rfl,rfl,trivial⟩ ⟨_,rfl,rfl,fun _=>rfl⟩);exact l9
   ·have aG:av.length<=i:=by simpa using aG
    refine I ?_;refine bf [0] 0 ⟨by decide,by rw[kM (by omega),kM aG];simp⟩ (eD ⟨rfl,rfl,rfl,?_,rfl,rfl,rfl,rfl,trivial⟩ ⟨_,rfl,rfl,fun _=>rfl⟩);exact l9
  rintro y ⟨aL,gy⟩;refine I ?_;refine kK ?_;refine lN ((c+xs[i]+y)%4294967296) ?_;refine I ?_;refine bf [0] (i+1,outs.set i ((c+xs[i]+y)%4294967296),(c+xs[i]+y)/4294967296) ⟨by show xs.length-(i+1)<xs.length-i;omega,by omega,by simp[hy],nm bN _ (zah _ (by decide)),by omega,?_⟩ (eD ⟨rfl,rfl,rfl,rfl,rfl,rfl,?_,trivial⟩ ⟨_,rfl,rfl,fun _=>rfl⟩)
  ·rw[iF (l:=outs.set i _) (by simp;omega),iF h,gy,zaT (b8 _),zaR,zal];exact QS (by decide) aD
  ·exact e1
 ·have h:i=xs.length:=by have:xs.length<=i:=by omega
                         omega
  subst h;refine I ?_;refine kK ?_;refine lN (c%4294967296) ?_;refine I ?_;refine kb 56 ?_;refine aX tY (outs.set xs.length (c%4294967296)) ⟨nm bN _ (zah _ (by decide)),by simp[hy];omega⟩ (I ?_);refine au rfl (.of ?_);show dq _=dq _;congr 1;rw[<-kM (i:=xs.length+1) (by simp[hy]),iF (by simp;omega),zaT (b8 _),zaR,gP (by omega),aD,kM (b8 _),kM hl,ah]
def acF:bD where
 L:=Nat×Nat
 args:=fun(a,b)=>[dq a,dq b]
 pre:=fun(a,b)=>ev 1073741824 a∧b<=a
 res:=fun(a,b)=>dq (a-b)
def N7(h:b<=a):(aY 4294967296 b).length<=(aY 4294967296 a).length:=by
 have J:=kZ (hi (b:=4294967296) (by decide) a);rw[gD (by decide)]at J;exact jZ (by decide) (by omega)
def acH:bl aT.ctx 254 acF.spec:=by
 refine bI [(255,tX.spec)] UA.1 ?_;intro⟨a,b⟩ ⟨(ha:(aY _ a).length<=_),(hb:b<=a)⟩ H aK;have hl:=N7 hb;have J:=hi (b:=4294967296) (by decide) a;have U:=hi (b:=4294967296) (by decide) b;have jE:=gD (b:=4294967296) (by decide) a;have g3:=gD (b:=4294967296) (by decide) b;show aU.ok _ ⟨_,_,⟨_,_,[(0,dg (aY 4294967296 a)),(1,dg (aY 4294967296 b))]⟩⟩;generalize aY 4294967296 a=xs at *;generalize aY 4294967296 b=av at *;refine I ?_;refine qk fQ 0 ?_;refine I ?_;refine cN (L:=Nat×ac Nat×Nat) (fun(i,outs,c)=>i<=xs.length∧outs.length=xs.length∧cV 4294967296 outs∧c<=1∧val 4294967296 (xs.take i)+4294967296^i*c=val 4294967296 (outs.take i)+val 4294967296 (av.take i))
  (fun((i:Nat),(outs:ac Nat),(c:Nat))=>⟨[.a 223 false 1 Nat fQ outs],1,[(0,dg xs),(1,dg av),(5,.a5 0 1 0 xs.length xs.length),(6,.i .u64 c),(13,dg xs),(14,.i .i64 xs.length),(15,.i .i64 i)]⟩)
  (fun l=>xs.length-l.1) [0] (0,List.replicate xs.length 0,0) ⟨by omega,by simp,tf (by decide) _,by omega,by simp[val]⟩ (by show xs.length-0<bV+1;unfold bV;omega) dI ?_
 rintro⟨i,outs,c⟩ ⟨af,hy,bN,hc,aD⟩;refine I ?_;refine cA (fun h=> ?_) (fun h=> ?_)
 ·have h:i<xs.length:=by omega
  have Em:xs[i]? =some xs[i]:=bm h;have aN:=J _ (dy h);refine I ?_;refine dr xs[i] Em ?_;refine I ?_;refine ij (fun y=>y<4294967296∧val 4294967296 (av.take (i+1))=val 4294967296 (av.take i)+4294967296^i*y) (fun(y:Nat)=>⟨[.a 223 false 1 Nat fQ outs],1,[(0,dg xs),(1,dg av),(5,.a5 0 1 0 xs.length xs.length),(9,.i .u64 (((xs[i]+18446744073709551616-c-y)%18446744073709551616:Nat):Int)),(7,.i .i64 i),(13,dg xs),(14,.i .i64 xs.length),(15,.i .i64 i)]⟩) ?_ ?_
  ·refine cA (fun aG=> ?_) (fun aG=> ?_)
   ·have aG:i<av.length:=by simpa using aG
    have En:av[i]? =some av[i]:=bm aG;have DY:=U _ (dy aG);refine I ?_;refine dr av[i] En ?_;refine I ?_;exact bf [0] av[i] ⟨DY,iF aG⟩ (eD ⟨rfl,rfl,rfl,l9,rfl,rfl,rfl,rfl,trivial⟩ ⟨_,rfl,rfl,fun _=>rfl⟩)
   ·have aG:av.length<=i:=by simpa using aG
    refine I ?_;exact bf [0] 0 ⟨by decide,by rw[kM (by omega),kM aG];simp⟩ (eD ⟨rfl,rfl,rfl,l9,rfl,rfl,rfl,rfl,trivial⟩ ⟨_,rfl,rfl,fun _=>rfl⟩)
  rintro y ⟨aL,gy⟩;generalize aW:(xs[i]+18446744073709551616-c-y)%18446744073709551616=t;refine I ?_;refine kK ?_;refine lN (t%4294967296) ?_;refine I ?_;refine bf [0] (i+1,outs.set i (t%4294967296),t/9223372036854775808) ⟨by show xs.length-(i+1)<xs.length-i;omega,by omega,by simp[hy],nm bN _ (zah _ (by decide)),by omega,?_⟩ (eD ⟨rfl,rfl,rfl,rfl,rfl,rfl,e1,trivial⟩ ⟨_,rfl,rfl,fun _=>rfl⟩);rw[iF (l:=outs.set i _) (by simp;omega),iF h,gy,zaT (b8 _),zaR,zal];exact acI aD (by omega)
 ·have h:i=xs.length:=by have:xs.length<=i:=by omega
                         omega
  subst h;refine I ?_;refine kb 43 ?_;refine aX tY outs ⟨bN,by omega⟩ (I ?_);refine au rfl (.of ?_);show dq _=dq _;congr 1;rw[kM (b8 _),kM (l:=outs) (by omega),kM hl]at aD;have ag:=kZ bN;rw[hy]at ag;have pa:c=0:=by
   rcases zai 0 c with h|h
   ·have:c=1:=by omega
    rw[this]at aD;omega
   ·omega
  rw[pa]at aD;show _=a-b;omega
def z6:bD where
 L:=Nat×Nat
 args:=fun(a,b)=>[dq a,dq b]
 pre:=fun(a,b)=>ev 1073741824 a∧ev 1073741824 b
 res:=fun(a,b)=>.i .i64 (iY a b)
def z7(h:a<b):iY a b= -1:=by unfold iY;rw[zab h]
def Gx(h:b<a):iY a b=1:=by unfold iY;rw[zaa (by omega),zaa (by omega)]
def Sa(a:Nat):iY a a=0:=by unfold iY;simp
def GR(h:m<l.length):l=l.take m++l[m]::l.drop (m+1):=by
 rw[<-eX h,zbl]
def Gw:bl aT.ctx 161 z6.spec:=by
 refine bI [] TV.1 ?_;intro⟨a,b⟩ ⟨(ha:(aY _ a).length<=_),(hb:(aY _ b).length<=_)⟩ H aK;have J:=hi (b:=4294967296) (by decide) a;have U:=hi (b:=4294967296) (by decide) b;have t1:=we (b:=4294967296) (by decide) a;have t2:=we (b:=4294967296) (by decide) b;have jE:=gD (b:=4294967296) (by decide) a;have g3:=gD (b:=4294967296) (by decide) b;show aU.ok _ ⟨_,_,⟨_,_,[(0,dg (aY 4294967296 a)),(1,dg (aY 4294967296 b))]⟩⟩;generalize aY 4294967296 a=xs at *;generalize aY 4294967296 b=av at *;have fin:∀{r:Int},iY a b=r->bS (.i .i64 r) (z6.res (a,b)):=fun h=>by rw[<-h];exact .refl _
 refine I ?_;refine cA (fun h=> ?_) (fun h=> ?_)
 ·have h:xs.length≠av.length:=by omega
  refine I ?_;refine cA (fun h=> ?_) (fun h=> ?_)
  ·have h:xs.length<av.length:=by omega
   refine I ?_;have:=Iu (b:=4294967296) (by decide) J t2 h;exact au rfl (fin (z7 (by omega)))
  ·have h:av.length<xs.length:=by have:av.length<=xs.length:=by omega
                                  omega
   refine I ?_;have:=Iu (b:=4294967296) (by decide) U t1 h;exact au rfl (fin (Gx (by omega)))
 have h:xs.length=av.length:=by omega
 refine I ?_;refine cN (L:=Nat) (fun k=>k<=xs.length∧xs.drop k=av.drop k) (fun(k:Nat)=>⟨[],0,[(0,dg xs),(1,dg av),(5,.i .i64 ((k:Int)-1))]⟩) id [] xs.length ⟨b8 _,by rw[zcw,h,zcw]⟩ (by show xs.length<bV+1;unfold bV;omega) (kd ⟨rfl,rfl,e1,trivial⟩) ?_;rintro(k:Nat) ⟨ab,aA⟩;cases k with
 |zero=>
  refine I ?_;exact au rfl (fin (by simp at aA;rw[aA]at jE;rw[<-jE,<-g3];exact Sa _))
 |succ m=>
  have aa:m<xs.length:=by omega
  have aL:m<av.length:=by omega
  have e:((m+1:Nat):Int)-1=(m:Nat):=by omega
  refine ax 5 (.i .i64 (m:Nat)) rfl (fG e) (I ?_);refine ax 20 (.b true) rfl (by simp) (I ?_);refine eU xs[m] (bm aa) ?_;refine I ?_;refine eU av[m] (bm aL) ?_;refine I ?_;have hS:=GR aa;have ny:=GR aL;refine cA (fun h=> ?_) (fun h=> ?_)
  ·have cd:xs[m]≠av[m]:=by omega
   refine I ?_;refine eU xs[m] (bm aa) ?_;refine I ?_;refine eU av[m] (bm aL) ?_;refine I ?_;refine cA (fun h=> ?_) (fun h=> ?_)
   ·have aN:xs[m]<av[m]:=by omega
    refine I ?_;refine au rfl (fin (z7 ?_));rw[<-jE,<-g3,hS,ny,aA];exact Kp (fun x aa=>J x (zbJ aa)) (by simp;omega) aN
   ·have aN:av[m]<xs[m]:=by have:av[m]<=xs[m]:=by omega
                            omega
    refine I ?_;refine au rfl (fin (Gx ?_));rw[<-jE,<-g3,hS,ny,aA];exact Kp (fun x aa=>U x (zbJ aa)) (by simp;omega) aN
  ·have he:xs[m]=av[m]:=by omega
   refine I ?_;refine bf [] m ⟨by simp,by omega,?_⟩ (kd ⟨rfl,rfl,e1,trivial⟩);rw[eX aa,eX aL,he,aA]
def On(hc:c<4294967296)(aa:x<4294967296)(aL:y<4294967296)(al:o<4294967296):x*y<18446744073709551616∧x*y+o<18446744073709551616∧c+(x*y+o)<18446744073709551616:=by
 have J:x*y<=4294967295*4294967295:=zdy (by omega) (by omega);omega
def Y0{Q:Nat}(ja:P=Q*R)(h:o+P*c=a+Q*(x*b)):o+P*((c+(x*y+d))%B)+P*B*((c+(x*y+d))/B)=a+P*d+Q*(x*(b+R*y)):=by
 have J:P*(c+(x*y+d))=P*((c+(x*y+d))%B)+P*B*((c+(x*y+d))/B):=by
  rw[zax,<-zaH,zef]
 have U:Q*(x*(b+R*y))=Q*(x*b)+P*(x*y):=by
  rw[ja,zaH,zaH,zax Q R,Nat.mul_left_comm x R y]
 rw[zaH,zaH]at J;omega
def IG:bD where
 L:=Nat×Nat
 args:=fun(a,b)=>[dq a,dq b]
 pre:=fun(a,b)=>ev 1073741824 a∧ev 1073741824 b
 res:=fun(a,b)=>dq (a*b)
def Bq:bl aT.ctx 159 IG.spec:=by
 refine bI [(255,tX.spec)] TT.1 ?_;intro⟨a,b⟩ ⟨(ha:(aY _ a).length<=_),(hb:(aY _ b).length<=_)⟩ H aK;have J:=hi (b:=4294967296) (by decide) a;have U:=hi (b:=4294967296) (by decide) b;have jE:=gD (b:=4294967296) (by decide) a;have g3:=gD (b:=4294967296) (by decide) b;show aU.ok _ ⟨_,_,⟨_,_,[(0,dg (aY 4294967296 a)),(1,dg (aY 4294967296 b))]⟩⟩;generalize aY 4294967296 a=xs at *;generalize aY 4294967296 b=av at *;refine I ?_;refine ax 15 (.i .i64 ((xs.length+av.length:Nat):Int)) rfl ct ?_;refine qk fQ 0 ?_;refine I ?_;refine cN (L:=Nat×ac Nat) (fun(i,outs)=>i<=xs.length∧outs.length=xs.length+av.length∧cV 4294967296 outs∧val 4294967296 (outs.take (i+av.length))=val 4294967296 (xs.take i)*val 4294967296 av)
  (fun((i:Nat),(outs:ac Nat))=>⟨[.a 223 false 1 Nat fQ outs],1,[(1,dg av),(5,.a5 0 1 0 (xs.length+av.length) (xs.length+av.length)),(17,dg xs),(18,.i .i64 xs.length),(19,.i .i64 i)]⟩)
  (fun l=>xs.length-l.1) [0] (0,List.replicate (xs.length+av.length) 0) ⟨by omega,by simp,tf (by decide) _,by simp[val,val_zero]⟩ (by show xs.length-0<bV+1;unfold bV;omega) dI ?_
 rintro⟨i,outs⟩ ⟨af,hy,bN,aD⟩;refine I ?_;refine cA (fun h=> ?_) (fun h=> ?_)
 ·have h:i<xs.length:=by omega
  have l7:=J _ (dy h);refine I ?_;refine dr xs[i] (bm h) ?_;refine I ?_;refine cN (L:=Nat×ac Nat×Nat) (fun(j,os,c)=>j<=av.length∧os.length=xs.length+av.length∧cV 4294967296 os∧c<4294967296∧(∀k,i+j<=k->os[k]? =outs[k]?)∧val 4294967296 (os.take (i+j))+4294967296^(i+j)*c=val 4294967296 (outs.take (i+j))+4294967296^i*(xs[i]*val 4294967296 (av.take j)))
   (fun((j:Nat),(os:ac Nat),(c:Nat))=>⟨[.a 223 false 1 Nat fQ os],1,[(1,dg av),(5,.a5 0 1 0 (xs.length+av.length) (xs.length+av.length)),(17,dg xs),(18,.i .i64 xs.length),(19,.i .i64 i),(6,.i .i64 i),(7,.i .u32 (xs[i]:Nat)),(8,.i .u64 c),(24,dg av),(25,.i .i64 av.length),(26,.i .i64 j)]⟩)
   (fun l=>av.length-l.1) [0] (0,outs,0) ⟨by omega,hy,bN,by omega,fun _ _=>rfl,by simp[val]⟩ (by show av.length-0<bV+1;unfold bV;omega) dI ?_
  rintro⟨j,os,c⟩ ⟨hj,D5,uC,hc,nd,mO⟩;refine I ?_;refine cA (fun rU=> ?_) (fun rU=> ?_)
  ·have rU:j<av.length:=by omega
   have H7:=U _ (dy rU);have km:i+j<os.length:=by omega
   have Nh:os[i+j]=outs[i+j]:=by
    have:=nd (i+j) (b8 _);rw[bm km,bm (by omega)]at this;exact Option.some.inj this
   have Ni:=uC _ (dy km);obtain⟨g1,aM,bc⟩:=On hc l7 H7 Ni;refine I ?_;refine dr av[j] (bm rU) ?_;refine I ?_;refine ax 40 (.i .i64 ((i+j:Nat):Int)) rfl ct ?_;refine kK ?_;refine tt os[i+j] (bm km) ?_
   iterate 3 refine gZ ?_
   refine ax 45 (.i .u64 ((c+(xs[i]*av[j]+os[i+j]):Nat):Int)) rfl (fG ?_) ?_
   ·have aC:xs[i]%18446744073709551616=xs[i]:=by omega
    have e2:av[j]%18446744073709551616=av[j]:=by omega
    have b3:os[i+j]%18446744073709551616=os[i+j]:=by omega
    rw[aC,e2,b3,gP g1,gP aM,gP bc]
   refine I ?_;refine ax 49 (.i .i64 ((i+j:Nat):Int)) rfl ct ?_;generalize jb:c+(xs[i]*av[j]+os[i+j])=T at *;refine kK ?_;refine lN (T%4294967296) ?_;refine I ?_;refine bf [0] (j+1,os.set (i+j) (T%4294967296),T/4294967296) ⟨by show av.length-(j+1)<av.length-j;omega,by omega,by simp[D5],nm uC _ (zah _ (by decide)),by omega,fun k ab=>by rw[zbc (by omega)];exact nd k (by omega),?_⟩
    (eD ⟨rfl,rfl,rfl,rfl,rfl,rfl,rfl,rfl,rfl,rfl,e1,trivial⟩ ⟨_,rfl,rfl,fun _=>rfl⟩)
   rw[<-zbE,iF (l:=os.set (i+j) _) (by simp;omega),iF (l:=outs) (by omega),iF rU,zaT (b8 _),zaR,zal,<-Nh,<-jb];exact Y0 (by rw[zar]) mO
  ·have hj:j=av.length:=by omega
   subst hj;refine I ?_;refine ax 60 (.i .i64 ((i+av.length:Nat):Int)) rfl ct (I ?_);refine kK ?_;refine lN (c%4294967296) ?_;refine I ?_;refine bf [0] (i+1,os.set (i+av.length) (c%4294967296)) ⟨by show xs.length-(i+1)<xs.length-i;omega,by omega,by simp[D5],nm uC _ (zah _ (by decide)),?_⟩ (eD ⟨rfl,rfl,rfl,rfl,e1,trivial⟩ ⟨_,rfl,rfl,fun _=>rfl⟩);rw[show i+1+av.length=i+av.length+1 by omega,iF (l:=os.set _ _) (by simp;omega),zaT (b8 _),zaR,gP hc,mO,aD,iF h,kM (b8 _),zaj,zax]
 ·have af:i=xs.length:=by omega
  subst af;refine I ?_;refine kb 65 ?_;refine aX tY outs ⟨bN,by omega⟩ (I ?_);refine au rfl (.of ?_);show dq _=dq _;congr 1;rw[kM (l:=xs) (b8 _),kM (l:=outs) (by omega)]at aD;rw[aD,jE,g3]
def ab9{O:Nat}(h:X=O*d+r):x+B*X=((r*B+x)/d+B*O)*d+(r*B+x)%d:=by
 have J:=zbK (r*B+x) d;rw[zaj,h,zax,zam (_/d) d,zaH,zam r B]at *;omega
def ab8(aE:r<d)(aa:x<B):(r*B+x)/d<B:=by
 rw[zcW (by omega)];have:(r+1)*B<=d*B:=iq _ aE;rw[zam B d];rw[zaj]at this;omega
def Z0(aa:x<2^k):h*2^k|||x=h*2^k+x:=by
 rw[zam,<-zeA aa]
def OT(aE:r<4294967296)(aa:x<4294967296):(r*2^32%18446744073709551616%18446744073709551616|||x%18446744073709551616%18446744073709551616)=r*4294967296+x:=by
 have aC:r*2^32%18446744073709551616%18446744073709551616=r*2^32:=by omega
 have e2:x%18446744073709551616%18446744073709551616=x:=by omega
 rw[aC,e2,Z0 (k:=32) aa]
def P2:bD where
 L:=Nat×Nat
 args:=fun(a,b)=>[dq a,.i .u32 b]
 pre:=fun(a,b)=>ev 1073741824 a∧0<b∧b<4294967296
 res:=fun(a,b)=>.bP [dq (a/b),.i .u32 ((a%b:Nat):Int)]
def P3:bl aT.ctx 136 P2.spec:=by
 refine bI [(255,tX.spec)] TE.1 ?_;intro⟨a,d⟩ ⟨(ha:(aY _ a).length<=_),(yk:0<d),(aA:d<_)⟩ H aK;have J:=hi (b:=4294967296) (by decide) a;have jE:=gD (b:=4294967296) (by decide) a;show aU.ok _ ⟨_,_,⟨_,_,[(0,dg (aY 4294967296 a)),(1,.i .u32 d)]⟩⟩;generalize aY 4294967296 a=xs at *;refine I ?_;refine qk fQ 0 ?_;refine I ?_;refine cN (L:=Nat×ac Nat×Nat) (fun(k,outs,r)=>k<=xs.length∧outs.length=xs.length∧cV 4294967296 outs∧r<d∧val 4294967296 (xs.drop k)=val 4294967296 (outs.drop k)*d+r)
  (fun((k:Nat),(outs:ac Nat),(r:Nat))=>⟨[.a 223 false 1 Nat fQ outs],1,[(0,dg xs),(1,.i .u32 d),(4,.a5 0 1 0 xs.length xs.length),(6,.i .u64 r),(7,.i .i64 ((k:Int)-1))]⟩)
  (fun l=>l.1) [0] (xs.length,List.replicate xs.length 0,0) ⟨by omega,by simp,tf (by decide) _,yk,by simp[val]⟩ (by show xs.length<bV+1;unfold bV;omega) (eD ⟨rfl,rfl,rfl,rfl,e1,trivial⟩ ⟨_,rfl,rfl,fun _=>rfl⟩) ?_
 rintro⟨k,outs,r⟩ ⟨ab,hy,bN,aE,aD⟩;cases k with
 |zero=>
  refine I ?_;refine kb 38 ?_;refine aX tY outs ⟨bN,by omega⟩ (I ?_);rw[zap,zap]at aD;have hq:a/d=val 4294967296 outs:=by rw[<-jE,aD,zam];rw[Nat.mul_add_div yk,zbL aE];omega
  have hm:a%d=r:=by rw[<-jE,aD,zam,Nat.mul_add_mod,gP aE]
  exact au rfl (.bP ⟨.of (by show dq _=dq (a/d);rw[hq]),.of (fG (by show((r%4294967296:Nat):Int)=((a%d:Nat):Int);omega)),trivial⟩)
 |succ m=>
  have aa:m<xs.length:=by omega
  have l7:=J _ (dy aa);have ix:=ab8 aE l7;have jb:r*4294967296+xs[m]<18446744073709551616:=by
   have:(r+1)*4294967296<=4294967296*4294967296:=iq _ (by omega);omega
  refine ax 7 (.i .i64 (m:Nat)) rfl fG (I ?_);refine ax 15 (.b true) rfl (by simp) (I ?_);refine dr xs[m] (bm aa) ?_
  iterate 3 refine gZ ?_
  refine ax 25 (.i .u64 ((r*4294967296+xs[m]:Nat):Int)) rfl (fG (congrArg _ (OT (by omega) l7))) ?_;generalize yg:r*4294967296+xs[m]=T at *;refine I ?_;refine ax 30 (.i .u64 (d:Nat)) rfl fG ?_;refine ar2 ?_;refine I ?_;refine kK ?_;refine lN (T/d%4294967296) ?_;refine I ?_;refine ax 36 (.i .u64 (d:Nat)) rfl fG ?_;refine ar3 ?_;refine I ?_;have ah:xs.drop m=xs[m]::xs.drop (m+1):=eX aa;refine bf [0] (m,outs.set m (T/d%4294967296),T%d) ⟨by simp,by omega,by simp[hy],nm bN _ (zah _ (by decide)),zah _ yk,?_⟩ (eD ⟨rfl,rfl,rfl,rfl,e1,trivial⟩ ⟨_,rfl,rfl,fun _=>rfl⟩);rw[ah,eX (l:=outs.set m _) (by simp;omega),zaR,zcI (by omega),gP ix,<-yg];exact ab9 aD
def abU(ah:s<32)(hh:h<2^s):h|||(x*2^s)%4294967296=h+(x*2^s)%4294967296:=by
 have e:4294967296=2^s*2^(32-s):=by rw[<-zar,show s+(32-s)=32 by omega]
 have e2:(x*2^s)%4294967296=2^s*(x%2^(32-s)):=by rw[e,zam x,Nat.mul_mod_mul_left]
 rw[e2,Nat.or_comm,<-zeA hh,zbZ]
def Jf(ah:s<32):2^s<=2147483648:=by
 have:2^s<=2^31:=zaJ (by decide) (by omega);exact this
def as2(ah:s<32)(aa:x<4294967296):x*2^s<9223372036854775808:=by
 have J:x*2^s<=4294967295*2147483648:=zdy (by omega) (Jf ah);omega
def as1(aa:x<4294967296):x*2^s/4294967296<2^s:=by
 have h0:0<2^s:=zaD s;rw[zcW (by decide),zam];exact(Nat.mul_lt_mul_left h0).2 aa
def as3(aD:o+P*h=a):o+P*(h+v%4294967296)+P*4294967296*(v/4294967296)=a+P*v:=by
 have J:P*v=P*(v%4294967296)+P*4294967296*(v/4294967296):=by
  rw[zax,<-zaH];congr 1;omega
 rw[zaH];omega
def PY(n:Nat):2^n=2^(n%32)*4294967296^(n/32):=by
 rw[show(4294967296:Nat)=2^32 from rfl,<-zbM,<-zar];congr 1;omega
def aah(h:k<9223372036854775808):aj.i .i64 (IntKind.i64.wrap ((k:Int).tdiv 32))=aj.i .i64 ((k/32:Nat):Int):=ct rfl (by show _<=((k/32:Nat):Int);omega) (by show((k/32:Nat):Int)<_;omega)
def Ka:bD where
 L:=Nat×Nat
 args:=fun(a,b)=>[dq a,.i .i64 b]
 pre:=fun(a,b)=>ev 1073741824 a∧b<34359738368
 res:=fun(a,b)=>dq (a*2^b)
def Cc:bl aT.ctx 364 Ka.spec:=by
 refine bI [(255,tX.spec)] Vt.1 ?_;intro⟨a,n⟩ ⟨(ha:(aY _ a).length<=_),(hn:n<_)⟩ H aK;have J:=hi (b:=4294967296) (by decide) a;have jE:=gD (b:=4294967296) (by decide) a;show aU.ok _ ⟨_,_,⟨_,_,[(0,dg (aY 4294967296 a)),(1,.i .i64 n)]⟩⟩;generalize aY 4294967296 a=xs at *;refine I ?_;refine cA (fun h=> ?_) (fun h=> ?_)
 ·have h0:xs=[]:=zbu (by omega);subst h0;have:a=0:=jE.symm;subst this;refine I ?_;exact au rfl (bS.nl.trans (.of (by show dg []=dq (0*2^n);rw[zau];show _=dg (aY _ 0);rw[gE])))
 iterate 2 refine gZ ?_
 refine gZ ?_;refine gZ ?_;refine gZ ?_;refine gZ ?_;refine gZ ?_;refine ax 15 _ rfl (aah (by omega)) ?_
 iterate 3 refine gZ ?_
 refine ax 17 (.i .i64 ((n%32:Nat):Int)) rfl (fG rfl) ?_;generalize hq:n/32=q;have ah:n%32<32:=zah _ (by decide);have mF:=PY n;rw[hq]at mF;generalize n%32=s at *;refine I ?_;refine ax 23 (.i .i64 ((xs.length+q+1:Nat):Int)) rfl (by rw[hz (n:=(xs.length:Int)+q) (by omega) (by omega)];exact ct) ?_;refine qk fQ 0 ?_;refine I ?_;refine cN (L:=Nat×ac Nat) (fun(i,outs)=>i<=xs.length∧outs.length=xs.length+q+1∧cV 4294967296 outs∧(∃h,outs[i+q]? =some h∧h<2^s)∧val 4294967296 (outs.take (i+q+1))=val 4294967296 (xs.take i)*(2^s*4294967296^q))
  (fun((i:Nat),(outs:ac Nat))=>⟨[.a 223 false 1 Nat fQ outs],1,[(5,.i .i64 q),(6,.i .u64 s),(7,.a5 0 1 0 (xs.length+q+1) (xs.length+q+1)),(25,dg xs),(26,.i .i64 xs.length),(27,.i .i64 i)]⟩)
  (fun l=>xs.length-l.1) [0] (0,List.replicate (xs.length+q+1) 0) ⟨by omega,by simp,tf (by decide) _,⟨0,by rw[zeg,zab (by omega)],zaD s⟩,by rw[List.take_replicate,val_zero];simp[val]⟩ (by show xs.length-0<bV+1;unfold bV;omega) (eD ⟨rfl,l9,rfl,rfl,rfl,rfl,trivial⟩ ⟨_,rfl,rfl,fun _=>rfl⟩) ?_
 rintro⟨i,outs⟩ ⟨af,hy,bN,⟨h,hh,Xb⟩,aD⟩;refine I ?_;refine cA (fun aN=> ?_) (fun aN=> ?_)
 ·have aN:i<xs.length:=by omega
  have l7:=J _ (dy aN);have g1:=as2 ah l7;have aM:=as1 (s:=s) l7;have bc:=Jf ah;refine I ?_;refine dr xs[i] (bm aN) ?_
  iterate 3 refine gZ ?_
  iterate 3 refine gZ ?_
  iterate 3 refine gZ ?_
  iterate 2 refine gZ ?_
  refine ax 35 (.i .u64 ((xs[i]*2^s:Nat):Int)) rfl (fG ?_) ?_
  ·rw[gP (a:=xs[i]) (by omega),gP (by omega)]
  generalize ia:xs[i]*2^s=V at *;refine I ?_;refine ax 39 (.i .i64 ((i+q:Nat):Int)) rfl ct ?_;refine kK ?_;refine tt h hh ?_
  iterate 3 refine gZ ?_
  refine ax 44 (.i .u32 ((h+V%4294967296:Nat):Int)) rfl (fG ?_) ?_
  ·rw[gP (a:=h) (by omega),Nat.mod_mod,<-ia,abU ah Xb]
  have hu:h+V%4294967296<4294967296:=by
   rw[<-ia,<-abU ah Xb];exact Nat.or_lt_two_pow (n:=32) (by omega) (zah _ (by decide))
  generalize al3:h+V%4294967296=KT at *;refine kK ?_;refine lN KT ?_;refine I ?_;refine ax 50 (.i .i64 ((i+q+1:Nat):Int)) rfl (by rw[hz (n:=(i:Int)+q) (by omega) (by omega)];exact ct) ?_;refine kK ?_;refine lN (V/2^32%4294967296) ?_;refine I ?_;have al4:V/2^32%4294967296=V/4294967296:=by omega
  rw[al4];refine bf [0] (i+1,(outs.set (i+q) KT).set (i+q+1) (V/4294967296)) ⟨by show xs.length-(i+1)<xs.length-i;omega,by omega,by simp[hy],nm (nm bN _ hu) _ (by omega),⟨V/4294967296,by rw[show i+1+q=i+q+1 by omega,zdz (by simp;omega)],aM⟩,?_⟩
   (eD ⟨rfl,rfl,rfl,rfl,rfl,e1,trivial⟩ ⟨_,rfl,rfl,fun _=>rfl⟩)
  have a3:val 4294967296 (outs.take (i+q))+4294967296^(i+q)*h=val 4294967296 (xs.take i)*(2^s*4294967296^q):=by
   rw[<-aD,iF (by omega)];congr 2;exact(Option.some.inj ((bm (by omega)).symm.trans hh)).symm
  have aC:=as3 (v:=V) a3;rw[show i+1+q+1=i+q+1+1 by omega,iF (by simp;omega),zaR,zaT (b8 _),iF (by simp;omega),zaR,zaT (b8 _),iF aN,<-al3,zal,aC,<-ia,zaj,zar];congr 1
  ac_rfl
 ·have af:i=xs.length:=by omega
  subst af;refine I ?_;refine kb 56 ?_;refine aX tY outs ⟨bN,by omega⟩ (I ?_);refine au rfl (.of ?_);show dq _=dq _;congr 1;rw[kM (l:=xs) (b8 _),kM (l:=outs) (by omega)]at aD;rw[aD,jE,<-mF]
def q2(h:cV b l)(k:Nat):cV b (l.take k):=fun x aa=>h x (zbJ aa)
def w6(h:cV b l)(k:Nat):cV b (l.drop k):=fun x aa=>h x (zcx aa)
def Ks(ab:k<=l.length):val b l=val b (l.take k)+b^k*val b (l.drop k):=by
 have:=mZ b (l.take k) (l.drop k);rw[zbl,zao,zaE ab]at this;exact this
def adh(hb:0<b)(h:cV b l)(ab:k<=l.length):val b l/b^k=val b (l.drop k):=by
 have U:=kZ (q2 h k);rw[zao,zaE ab]at U;rw[Ks ab,zeh _ _ (zcy hb),zbL U,zaC]
def as8{W:Nat}(ah:s<32)(gS:W=v+18446744073709551616*R):(W/2^s)%4294967296=(v/2^s)%4294967296:=by
 have e:18446744073709551616*R=2^s*(4294967296*(2^(32-s)*R)):=by
  rw[show(18446744073709551616:Nat)=4294967296*2^32 from rfl,show(2:Nat)^32=2^s*2^(32-s) by rw[<-zar,show s+(32-s)=32 by omega]]
  ac_rfl
 rw[gS,e,zeh _ _ (zaD s),zei]
def abW:bD where
 L:=Nat×Nat
 args:=fun(a,b)=>[dq a,.i .i64 b]
 pre:=fun(a,b)=>ev 1073741824 a∧b<9223372036854775808
 res:=fun(a,b)=>dq (a/2^b)
def as7:bl aT.ctx 367 abW.spec:=by
 refine bI [(255,tX.spec)] Vw.1 ?_;intro⟨a,n⟩ ⟨(ha:(aY _ a).length<=_),(hn:n<_)⟩ H aK;have J:=hi (b:=4294967296) (by decide) a;have jE:=gD (b:=4294967296) (by decide) a;show aU.ok _ ⟨_,_,⟨_,_,[(0,dg (aY 4294967296 a)),(1,.i .i64 n)]⟩⟩;generalize aY 4294967296 a=xs at *
 iterate 3 refine gZ ?_
 iterate 3 refine gZ ?_
 iterate 3 refine gZ ?_
 refine ax 11 _ rfl (aah (by omega)) ?_
 iterate 2 refine gZ ?_
 refine ax 13 (.i .i64 ((n%32:Nat):Int)) rfl (fG rfl) ?_;generalize hq:n/32=q;have ah:n%32<32:=zah _ (by decide);have mF:=PY n;rw[hq]at mF;generalize n%32=s at *;refine I ?_;have hdiv:a/2^n=a/4294967296^q/2^s:=by rw[mF,zam,zbg]
 refine cA (fun h=> ?_) (fun h=> ?_)
 ·refine I ?_;have U:=kZ J;have ag:4294967296^xs.length<=4294967296^q:=zaJ (by decide) (by omega);exact au rfl (bS.nl.trans (.of (by show dg []=dq (a/2^n);rw[hdiv,zbL (show a<4294967296^q by omega),Nat.zero_div];show _=dg (aY _ 0);rw[gE])))
 have A0:q<xs.length:=by omega
 refine I ?_;refine ax 22 (.i .i64 ((xs.length-q:Nat):Int)) rfl ct ?_;refine qk fQ 0 ?_;refine I ?_;have al8:a/4294967296^q=val 4294967296 (xs.drop q):=by rw[<-jE,adh (by decide) J (by omega)]
 have WS:=kZ (w6 J q);rw[zaA]at WS;generalize lB:xs.length-q=N at *;refine cN (L:=Nat×ac Nat) (fun(i,outs)=>i<=N∧outs.length=N∧cV 4294967296 outs∧val 4294967296 (outs.take i)=(val 4294967296 (xs.drop q)/2^s)%4294967296^i)
  (fun((i:Nat),(outs:ac Nat))=>⟨[.a 223 false 1 Nat fQ outs],1,[(0,dg xs),(5,.i .i64 q),(6,.i .u64 s),(7,.a5 0 1 0 N N),(25,.i .i64 N),(26,.i .i64 i)]⟩)
  (fun l=>N-l.1) [0] (0,List.replicate N 0) ⟨by omega,by simp,tf (by decide) _,by simp[val,Nat.mod_one]⟩ (by show N-0<bV+1;unfold bV;omega) (eD ⟨rfl,rfl,l9,rfl,rfl,rfl,trivial⟩ ⟨_,rfl,rfl,fun _=>rfl⟩) ?_
 rintro⟨i,outs⟩ ⟨af,hy,bN,aD⟩;refine I ?_;refine cA (fun aN=> ?_) (fun aN=> ?_)
 ·have lg:i+q<xs.length:=by omega
  have l7:=J _ (dy lg);refine I ?_;refine ax 32 (.i .i64 ((i+q:Nat):Int)) rfl ct ?_;refine dr xs[i+q] (bm lg) ?_
  iterate 2 refine gZ ?_
  refine ax 35 (.i .u64 (xs[i+q]:Nat)) rfl fG (I ?_);refine ij (fun(v:Nat)=>∃R,val 4294967296 (xs.drop (i+q))=v+18446744073709551616*R) (fun(v:Nat)=>⟨[.a 223 false 1 Nat fQ outs],1,[(9,.i .u64 v),(8,.i .i64 i),(0,dg xs),(5,.i .i64 q),(6,.i .u64 s),(7,.a5 0 1 0 N N),(25,.i .i64 N),(26,.i .i64 i)]⟩) ?_ ?_
  ·have SI:IntKind.i64.wrap (IntKind.i64.wrap ((i:Int)+q)+1)=((i+q+1:Nat):Int):=by rw[hz (n:=(i:Int)+q) (by omega) (by omega),hz]<;>omega
   rw[SI];refine cA (fun DS=> ?_) (fun DS=> ?_)
   ·have DS:i+q+1<xs.length:=by omega
    have H7:=J _ (dy DS);refine I ?_;refine ax 48 (.i .i64 ((i+q+1:Nat):Int)) rfl (fG SI) ?_;refine dr xs[i+q+1] (bm DS) ?_;refine I ?_;refine bf [0] (xs[i+q]+4294967296*xs[i+q+1]) ⟨val 4294967296 (xs.drop (i+q+1+1)),?_⟩ (eD ⟨l9 (congrArg _ ?_),rfl,rfl,rfl,rfl,rfl,rfl,rfl,trivial⟩ ⟨_,rfl,rfl,fun _=>rfl⟩)
    ·rw[eX lg,eX DS,val,val];omega
    ·have aC:xs[i+q+1]%18446744073709551616*2^32%18446744073709551616%18446744073709551616=xs[i+q+1]*2^32:=by omega
     have e2:xs[i+q]%18446744073709551616=xs[i+q]:=by omega
     rw[aC,e2,Nat.or_comm,Z0 (k:=32) l7];omega
   ·refine I ?_;refine bf [0] xs[i+q] ⟨0,?_⟩ dI;rw[eX lg,zbU (by omega),val,val]
  rintro(v:Nat) ⟨R,cT⟩;refine I ?_;refine ar5 ?_;refine I ?_;refine kK ?_;refine lN (v/2^s%4294967296) ?_;refine I ?_;refine bf [0] (i+1,outs.set i (v/2^s%4294967296)) ⟨by show N-(i+1)<N-i;omega,by omega,by simp[hy],nm bN _ (zah _ (by decide)),?_⟩ (eD ⟨rfl,rfl,rfl,rfl,rfl,e1,trivial⟩ ⟨_,rfl,rfl,fun _=>rfl⟩);rw[iF (by simp;omega),zaT (b8 _),zaR,aD,zal,Nat.mod_mul,<-as8 ah cT,zbg,zam (2^s),<-zbg,adh (by decide) (w6 J q) (by simp;omega),zbp,zbZ q i]
 ·have amP:i=N:=by omega
  subst amP;refine I ?_;refine kb 62 ?_;refine aX tY outs ⟨bN,by omega⟩ (I ?_);refine au rfl (.of ?_);show dq _=dq _;congr 1;rw[kM (l:=outs) (by omega),gP (zbq (zaF _ _) WS)]at aD;show _=a/2^n;rw[aD,hdiv,al8]
def bH(n:Nat):Nat:=if n=0 then 0 else Nat.log2 n+1
def vV(h:1<=n):bH n=bH (n/2)+1:=by
 unfold bH;rw[zaa (by omega)];by_cases U:n/2=0
 ·rw[zab U];have:n=1:=by omega
  subst this;rfl
 ·rw[zaa U,Nat.log2_def,zab (by omega)]
theorem CS:∀(k n:Nat),2^k<=n->bH n=bH (n/2^k)+k
 |0,n,_=>by simp
 |k+1,n,h=>by
  have h0:2^(k+1)=2*2^k:=by rw[zal,zam]
  have hp:0<2^k:=zaD k;rw[vV (by omega),CS k (n/2) (by rw[zbW (by decide)];omega),zbg,h0];omega
def rB(h:n≠0):2^(bH n-1)<=n∧n<2^bH n:=by
 unfold bH;rw[zaa h];exact⟨Nat.log2_self_le h,Nat.lt_log2_self⟩
def aeN{n k:Nat}(J:2^k<=n)(U:n<2^(k+1)):bH n=k+1:=by
 have h0:n≠0:=by have:=zaD k;omega
 obtain⟨a,b⟩:=rB h0;have:=(zcX (by decide:1<2)).1 (zbq J b);have:=(zcX (by decide:1<2)).1 (zbq a U);omega
def ph:bD where
 L:=Nat
 args:=fun n=>[.i .u32 n]
 pre:=fun n=>n<4294967296
 res:=fun n=>.i .i64 (bH n:Nat)
def Ys:bl aT.ctx 350 ph.spec:=by
 refine bI [] Vk.1 ?_;intro(n:Nat) (hn:n<4294967296) H aK;refine I ?_;refine ij (fun((m:Nat),(k:Nat))=>m<65536∧k<=16∧bH n=bH m+k) (fun(m,k)=>⟨[],0,[(0,.i .u32 m),(2,.i .i64 k)]⟩) ?_ ?_
 ·refine cA (fun h=> ?_) (fun h=> ?_)
  ·refine I ?_;exact bf [] (n/65536,16) ⟨by omega,by decide,CS 16 n (by omega)⟩ dj
  ·refine I ?_;exact bf [] (n,0) ⟨by omega,by decide,rfl⟩ dj
 rintro⟨m,k⟩ ⟨hm,ab,hb⟩;refine I ?_;refine ij (fun((m:Nat),(k:Nat))=>m<256∧k<=24∧bH n=bH m+k) (fun(m,k)=>⟨[],0,[(0,.i .u32 m),(2,.i .i64 k)]⟩) ?_ ?_
 ·refine cA (fun h=> ?_) (fun h=> ?_)
  ·refine I ?_;exact bf [] (m/256,k+8) ⟨by omega,by omega,by rw[hb,CS 8 m (by omega),show(2:Nat)^8=256 from rfl];omega⟩ (kd ⟨rfl,e1,trivial⟩)
  ·refine I ?_;exact bf [] (m,k) ⟨by omega,by omega,hb⟩ dj
 rintro⟨m,k⟩ ⟨hm,ab,hb⟩;refine I ?_;refine ax 15 (.i .u8 (m:Nat)) rfl fG ?_;have Cj:∀m,m<256->([0,1,2,2,3,3,3,3,4,4,4,4,4,4,4,4,5,5,5,5,5,5,5,5,5,5,5,5,5,5,5,5,6,6,6,6,6,6,6,6,6,6,6,6,6,6,6,6,6,6,6,6,6,6,6,6,6,6,6,6,6,6,6,6,7,7,7,7,7,7,7,7,7,7,7,7,7,7,7,7,7,7,7,7,7,7,7,7,7,7,7,7,7,7,7,7,7,7,7,7,7,7,7,7,7,7,7,7,7,7,7,7,7,7,7,7,7,7,7,7,7,7,7,7,7,7,7,7,8,8,8,8,8,8,8,8,8,8,8,8,8,8,8,8,8,8,8,8,8,8,8,8,8,8,8,8,8,8,8,8,8,8,8,8,8,8,8,8,8,8,8,8,8,8,8,8,8,8,8,8,8,8,8,8,8,8,8,8,8,8,8,8,8,8,8,8,8,8,8,8,8,8,8,8,8,8,8,8,8,8,8,8,8,8,8,8,8,8,8,8,8,8,8,8,8,8,8,8,8,8,8,8,8,8,8,8,8,8,8,8,8,8,8,8,8,8,8,8,8,8,8,8,8,8,8,8]:ac bv)[m]? =some (UInt8.ofNat (bH m))∧bH m<=8:=by decide +kernel
 obtain⟨t1,t2⟩:=Cj m hm;refine nu _ t1 ?_;refine I ?_;have e:(UInt8.ofNat (bH m)).toNat=bH m:=by simp;omega
 rw[e];refine au rfl (.of ?_);show aj.i _ _=aj.i .i64 (bH n:Nat);rw[hb,hz (n:=((bH m:Nat):Int)) (by omega) (by omega)];exact ct
def YD:bD where
 L:=Nat
 args:=fun n=>[.i .u32 n]
 pre:=fun n=>n<4294967296
 res:=fun n=>.i .i64 ((32-bH n:Nat):Int)
def Lm(h:n<4294967296):bH n<=32:=by
 by_cases h0:n=0
 ·subst h0;decide
 ·have:=(rB h0).1;have:=(zcX (by decide:1<2)).1 (zbq this (show n<2^32 from h));omega
def aps:bl aT.ctx 363 YD.spec:=by
 refine bI [(350,ph.spec)] Vs.1 ?_;intro(n:Nat) (hn:n<4294967296) H aK;refine I ?_;refine aX Ys n hn (I ?_);have:=Lm hn;exact au rfl (.of ct)
def nI(b:Nat):Nat->Nat->ac Nat
 |0,_=>[]
 |k+1,n=>n%b::nI b k (n/b)
theorem De(b:Nat):∀k n,(nI b k n).length=k
 |0,_=>rfl
 |k+1,n=>by simp[nI,De b k]
theorem SC{b:Nat}(hb:0<b):∀k n,cV b (nI b k n)
 |0,_=>fun x aa=>by simp[nI]at aa
 |k+1,n=>fun x aa=>by
  rcases zak.1 aa with rfl|aa
  ·exact zah _ hb
  ·exact SC hb k _ x aa
theorem LN{b:Nat}:∀k n,val b (nI b k n)=n%b^k
 |0,n=>by simp[nI,val,Nat.mod_one]
 |k+1,n=>by rw[nI,val,LN k,zal,zam (b^k) b,Nat.mod_mul]
theorem GN{b:Nat}(hb:0<b):∀{l:ac Nat} {n k:Nat},cV b l->l.length=k->val b l=n->l=nI b k n
 |[],_,_,_,rfl,_=>rfl
 |d::l,_,_,h,rfl,rfl=>by
  have J:=h d (by simp);rw[zaq,nI,val,zei,gP J,zeh _ _ hb,zbL J,zaC,<-GN hb (fun x aa=>h x (zaI _ aa)) rfl rfl]
def acd{os:ac Nat}(hl:os.length=us.length)(hj:j+k<=us.length)(ah:∀p,p<j∨j+k<=p->os[p]? =us[p]?):os=us.take j++((os.drop j).take k++us.drop (j+k)):=by
 apply zbw;intro p;by_cases J:p<j
 ·rw[zaW (by simp;omega),zaG,zab J];exact ah p (.inl J)
 ·rw[zaL (by simp;omega),zao,zaE (by omega)];by_cases U:p<j+k
  ·rw[zaW (by simp;omega),zaG,zab (by omega),zaB];congr 1;omega
  ·rw[zaL (by simp;omega)];have:((os.drop j).take k).length=k:=by simp;omega
   rw[this,zaB,ah p (.inr (by omega))];congr 1;omega
def sv(h:j+i<l.length):val b ((l.drop j).take (i+1))=val b ((l.drop j).take i)+b^i*l[j+i]:=by
 rw[iF (by simp;omega),zdL]
def jU(us:ac Nat)(j k n:Nat):ac Nat:=us.take j++(nI 4294967296 k n++us.drop (j+k))
def eQ(us:ac Nat)(j k:Nat):Nat:=val 4294967296 ((us.drop j).take k)
def acK:kx where
 L:=ac Nat×Nat×ac Nat×Nat
 own:=fun(us,_,_,_)=>[.a 223 false 1 Nat fQ us]
 args:=fun(us,j,vs,g)=>[.a5 0 1 j (us.length-j) (us.length-j),dg vs,.i .u64 g]
 pre:=fun(us,j,vs,g)=>j+vs.length<us.length∧cV 4294967296 us∧cV 4294967296 vs∧g<4294967296∧us.length<=1099511627776
 bF:=fun(us,j,vs,g)=>[.a 223 false 1 Nat fQ (jU us j (vs.length+1) (eQ us j (vs.length+1)+(if eQ us j (vs.length+1)<g*val 4294967296 vs then 4294967296^(vs.length+1)else 0)-g*val 4294967296 vs))]
 res:=fun(us,j,vs,g)=>.b (decide (eQ us j (vs.length+1)<g*val 4294967296 vs))
def auS:bl aT.ctx 365 acK.spec:=by
 refine RP [] Vu.1 ?_;rintro⟨us,j,vs,g⟩ ⟨h0,J,U,aR,uG⟩ H i0 aK af;obtain⟨k6,rfl⟩:∃b,i0=[b]:=zej.1 af;show aU.ok _ ⟨_,_,⟨[.a 223 false 1 Nat fQ us],1,[(0,.a5 0 1 j (us.length-j) (us.length-j)),(1,dg vs),(2,.i .u64 g)]⟩⟩;refine I ?_;refine cN (L:=Nat×ac Nat×Nat×Nat) (fun(i,os,c,w)=>i<=vs.length∧os.length=us.length∧cV 4294967296 os∧c<4294967296∧w<=1∧(∀p,p<j∨j+i<=p->os[p]? =us[p]?)∧eQ us j i+4294967296^i*(c+w)=eQ os j i+g*val 4294967296 (vs.take i))
  (fun((i:Nat),(os:ac Nat),(c:Nat),(w:Nat))=>⟨[.a 223 false 1 Nat fQ os],1,[(0,.a5 0 1 j (us.length-j) (us.length-j)),(1,dg vs),(2,.i .u64 g),(7,.i .u64 c),(8,.i .u64 w),(13,dg vs),(14,.i .i64 vs.length),(15,.i .i64 i)]⟩)
  (fun l=>vs.length-l.1) [0] (0,us,0,0) ⟨by omega,rfl,J,by omega,by omega,fun _ _=>rfl,by simp[eQ,val]⟩ (by show vs.length-0<bV+1;unfold bV;omega) dI ?_
 rintro⟨i,os,c,w⟩ ⟨jd,hy,bN,hc,hw,nd,aD⟩;refine I ?_;refine cA (fun h=> ?_) (fun h=> ?_)
 ·have h:i<vs.length:=by omega
  have aa:=U _ (dy h);have mK:j+i<os.length:=by omega
  have yy:os[j+i]=us[j+i]:=by
   have:=nd (j+i) (.inr (b8 _));rw[bm mK,bm (by omega)]at this;exact Option.some.inj this
  have al:=bN _ (dy mK);obtain⟨eg,fh,j9⟩:=On (o:=0) hc aR aa (by decide);refine I ?_;refine dr vs[i] (bm h) ?_;refine aq 25 ?_;refine ax 25 (.i .u64 ((c+g*vs[i]:Nat):Int)) rfl (fG (congrArg _ ?_)) ?_
  ·rw[gP (a:=vs[i]) (by omega),gP eg,gP (by omega)]
  have jb:c+g*vs[i]<18446744073709551616:=by omega
  generalize yg:c+g*vs[i]=T at *;refine I ?_;refine vj ?_;refine tt os[j+i] (bm mK) ?_;refine aq 36 ?_;refine ax 36 (.i .u64 (((os[j+i]+18446744073709551616-T%4294967296-w)%18446744073709551616:Nat):Int)) rfl fG ?_;generalize aW:(os[j+i]+18446744073709551616-T%4294967296-w)%18446744073709551616=t at *;refine I ?_;refine vj ?_;refine lN (t%4294967296) ?_;refine I ?_;refine bf [0] (i+1,os.set (j+i) (t%4294967296),T/4294967296,t/9223372036854775808) ⟨by show vs.length-(i+1)<vs.length-i;omega,by omega,by simp[hy],nm bN _ (zah _ (by decide)),by omega,by omega,fun p hp=> ?_,?_⟩
   (eD ⟨rfl,rfl,rfl,rfl,rfl,rfl,rfl,e1,trivial⟩ ⟨_,rfl,rfl,fun _=>rfl⟩)
  ·rw[zbc (by omega)];exact nd p (by omega)
  ·unfold eQ at aD⊢;rw[sv (by omega),sv (l:=os.set _ _) (by simp;omega),zaR,iF h,<-yy,zal];have aC:((os.set (j+i) (t%4294967296)).drop j).take i=(os.drop j).take i:=by
    rw[zdA];rw[zaa (by omega),show j+i-j=i by omega,zaT (b8 _)]
   rw[aC];have aA:os[j+i]+4294967296*(t/9223372036854775808)=t%4294967296+T%4294967296+w:=by omega
   have al2:T=T%4294967296+4294967296*(T/4294967296):=by omega
   generalize t/9223372036854775808=w' at *;generalize T/4294967296=bE at *;generalize T%4294967296=c4 at *;generalize t%4294967296=mw at *;generalize 4294967296^i=P at *;have ba:P*(os[j+i]+4294967296*w')=P*(mw+c4+w):=by rw[aA]
   have bx:P*(c+g*vs[i])=P*(c4+4294967296*bE):=by rw[yg,al2]
   rw[zaH g,Nat.mul_left_comm g P];simp only[zaH,zax]at ba bx aD⊢;omega
 ·have af:i=vs.length:=by omega
  subst af;have mK:j+vs.length<os.length:=by omega
  have yy:os[j+vs.length]=us[j+vs.length]:=by
   have:=nd (j+vs.length) (.inr (b8 _));rw[bm mK,bm (by omega)]at this;exact Option.some.inj this
  have al:=bN _ (dy mK);refine I ?_;refine vj ?_;refine tt os[j+vs.length] (bm mK) ?_;refine aq 56 ?_;refine ax 56 (.i .u64 (((os[j+vs.length]+18446744073709551616-c-w)%18446744073709551616:Nat):Int)) rfl fG ?_;generalize aW:(os[j+vs.length]+18446744073709551616-c-w)%18446744073709551616=t at *;refine I ?_;refine vj ?_;refine lN (t%4294967296) ?_;refine I ?_;have D6:cV 4294967296 (os.set (j+vs.length) (t%4294967296)):=nm bN _ (zah _ (by decide));have oA:(((os.set (j+vs.length) (t%4294967296)).drop j).take (vs.length+1)).length=vs.length+1:=by simp;omega
  have Hq:=kZ (q2 (w6 D6 j) (vs.length+1));rw[oA]at Hq;have qS:=acd (us:=us) (os:=os.set (j+vs.length) (t%4294967296)) (j:=j) (k:=vs.length+1) (by simp[hy]) (by omega) (fun p hp=>by rw[zbc (by omega)];exact nd p (by omega));have MM:=GN (b:=4294967296) (by decide) (q2 (w6 D6 j) (vs.length+1)) oA rfl;generalize alZ:val 4294967296 (((os.set (j+vs.length) (t%4294967296)).drop j).take (vs.length+1))=O at *;have key:eQ us j (vs.length+1)+4294967296^(vs.length+1)*(t/9223372036854775808)=O+g*val 4294967296 vs:=by
   rw[<-alZ];unfold eQ at aD⊢;rw[sv (by omega),sv (l:=os.set _ _) (by simp;omega),zaR,<-yy,zal];have aC:((os.set (j+vs.length) (t%4294967296)).drop j).take vs.length=(os.drop j).take vs.length:=by
    rw[zdA];rw[zaa (by omega),show j+vs.length-j=vs.length by omega,zaT (b8 _)]
   rw[aC];rw[kM (b8 _)]at aD;have aA:os[j+vs.length]+4294967296*(t/9223372036854775808)=t%4294967296+c+w:=by omega
   generalize t/9223372036854775808=w' at *;generalize t%4294967296=mw at *;generalize 4294967296^vs.length=P at *;have ba:P*(os[j+vs.length]+4294967296*w')=P*(mw+c+w):=by rw[aA]
   simp only[zaH,zax]at ba aD⊢;omega
  have MB:eQ us j (vs.length+1)+(if eQ us j (vs.length+1)<g*val 4294967296 vs then 4294967296^(vs.length+1)else 0)-g*val 4294967296 vs=O∧(t/2^63=1↔eQ us j (vs.length+1)<g*val 4294967296 vs):=by
   rcases(show t/9223372036854775808=0∨t/9223372036854775808=1 by omega)with hb|hb
   ·rw[hb]at key;rw[zaa (by omega)];exact⟨by omega,by omega⟩
   ·rw[hb]at key;rw[zab (by omega)];exact⟨by omega,by omega⟩
  refine eP ⟨.inr rfl,⟨_,rfl,rfl,.of ?_⟩,[0],rfl,eD trivial ⟨_,rfl,?_,fun _=>rfl⟩⟩
  ·show aj.b (decide (((t/2^63:Nat):Int)=1))=aj.b (decide (eQ us j (vs.length+1)<g*val 4294967296 vs));congr 1;rw[decide_eq_decide,<-MB.2];exact⟨fun h=>by omega,fun h=>by omega⟩
  ·show bj.a _ _ _ _ _ _=bj.a _ _ _ _ _ _;congr 1;rw[MB.1];unfold jU;rw[<-MM];exact qS
def WC:kx where
 L:=ac Nat×Nat×ac Nat
 own:=fun(us,_,_)=>[.a 223 false 1 Nat fQ us]
 args:=fun(us,j,vs)=>[.a5 0 1 j (us.length-j) (us.length-j),dg vs]
 pre:=fun(us,j,vs)=>j+vs.length<us.length∧cV 4294967296 us∧cV 4294967296 vs∧us.length<=1099511627776
 bF:=fun(us,j,vs)=>[.a 223 false 1 Nat fQ (jU us j (vs.length+1) (eQ us j (vs.length+1)+val 4294967296 vs))]
 res:=fun _=>.bP []
theorem LM{b:Nat}:∀k n,nI b k (n%b^k)=nI b k n
 |0,n=>rfl
 |k+1,n=>by
  rw[nI,nI,zal,zam (b^k) b,Nat.mod_mul_right_mod,Nat.mod_mul_right_div_self,LM]
def ald:bl aT.ctx 366 WC.spec:=by
 refine RP [] Vv.1 ?_;rintro⟨us,j,vs⟩ ⟨h0,J,U,uG⟩ H i0 aK af;obtain⟨k6,rfl⟩:∃b,i0=[b]:=zej.1 af;show aU.ok _ ⟨_,_,⟨[.a 223 false 1 Nat fQ us],1,[(0,.a5 0 1 j (us.length-j) (us.length-j)),(1,dg vs)]⟩⟩;refine I ?_;refine cN (L:=Nat×ac Nat×Nat) (fun(i,os,c)=>i<=vs.length∧os.length=us.length∧cV 4294967296 os∧c<=1∧(∀p,p<j∨j+i<=p->os[p]? =us[p]?)∧eQ os j i+4294967296^i*c=eQ us j i+val 4294967296 (vs.take i))
  (fun((i:Nat),(os:ac Nat),(c:Nat))=>⟨[.a 223 false 1 Nat fQ os],1,[(0,.a5 0 1 j (us.length-j) (us.length-j)),(1,dg vs),(4,.i .u64 c),(7,dg vs),(8,.i .i64 vs.length),(9,.i .i64 i)]⟩)
  (fun l=>vs.length-l.1) [0] (0,us,0) ⟨by omega,rfl,J,by omega,fun _ _=>rfl,by simp[eQ,val]⟩ (by show vs.length-0<bV+1;unfold bV;omega) dI ?_
 rintro⟨i,os,c⟩ ⟨jd,hy,bN,hc,nd,aD⟩;refine I ?_;refine cA (fun h=> ?_) (fun h=> ?_)
 ·have h:i<vs.length:=by omega
  have aa:=U _ (dy h);have mK:j+i<os.length:=by omega
  have yy:os[j+i]=us[j+i]:=by
   have:=nd (j+i) (.inr (b8 _));rw[bm mK,bm (by omega)]at this;exact Option.some.inj this
  have al:=bN _ (dy mK);refine I ?_;refine dr vs[i] (bm h) ?_;refine I ?_;refine vj ?_;refine tt os[j+i] (bm mK) ?_;refine aq 23 ?_;refine ax 23 (.i .u64 ((c+os[j+i]+vs[i]:Nat):Int)) rfl fG (I ?_);refine vj ?_;refine lN ((c+os[j+i]+vs[i])%4294967296) ?_;refine I ?_;refine bf [0] (i+1,os.set (j+i) ((c+os[j+i]+vs[i])%4294967296),(c+os[j+i]+vs[i])/4294967296) ⟨by show vs.length-(i+1)<vs.length-i;omega,by omega,by simp[hy],nm bN _ (zah _ (by decide)),by omega,fun p hp=> ?_,?_⟩
   (eD ⟨rfl,rfl,rfl,rfl,rfl,e1,trivial⟩ ⟨_,rfl,rfl,fun _=>rfl⟩)
  ·rw[zbc (by omega)];exact nd p (by omega)
  ·unfold eQ at aD⊢;rw[sv (l:=us) (by omega),sv (l:=os.set _ _) (by simp;omega),zaR,iF h,<-yy,zal];have aC:((os.set (j+i) ((c+os[j+i]+vs[i])%4294967296)).drop j).take i=(os.drop j).take i:=by
    rw[zdA];rw[zaa (by omega),show j+i-j=i by omega,zaT (b8 _)]
   rw[aC];exact QS (by decide) aD
 ·have af:i=vs.length:=by omega
  subst af;have mK:j+vs.length<os.length:=by omega
  have yy:os[j+vs.length]=us[j+vs.length]:=by
   have:=nd (j+vs.length) (.inr (b8 _));rw[bm mK,bm (by omega)]at this;exact Option.some.inj this
  have al:=bN _ (dy mK);refine I ?_;refine vj ?_;refine tt os[j+vs.length] (bm mK) ?_;refine aq 39 ?_;refine ax 39 (.i .u32 (((os[j+vs.length]+c)%4294967296:Nat):Int)) rfl fG ?_;generalize aW:(os[j+vs.length]+c)%4294967296=t at *;refine vj ?_;refine lN t ?_;refine I ?_;have D6:cV 4294967296 (os.set (j+vs.length) t):=nm bN _ (by omega);have oA:(((os.set (j+vs.length) t).drop j).take (vs.length+1)).length=vs.length+1:=by simp;omega
  have Hq:=kZ (q2 (w6 D6 j) (vs.length+1));rw[oA]at Hq;have qS:=acd (us:=us) (os:=os.set (j+vs.length) t) (j:=j) (k:=vs.length+1) (by simp[hy]) (by omega) (fun p hp=>by rw[zbc (by omega)];exact nd p (by omega));have MM:=GN (b:=4294967296) (by decide) (q2 (w6 D6 j) (vs.length+1)) oA rfl;have key:(eQ us j (vs.length+1)+val 4294967296 vs)%4294967296^(vs.length+1)=val 4294967296 (((os.set (j+vs.length) t).drop j).take (vs.length+1)):=by
   rw[<-gP Hq];have:eQ us j (vs.length+1)+val 4294967296 vs=val 4294967296 (((os.set (j+vs.length) t).drop j).take (vs.length+1))+4294967296^(vs.length+1)*((os[j+vs.length]+c)/4294967296):=by
    unfold eQ at aD⊢;rw[sv (l:=us) (by omega),sv (l:=os.set _ _) (by simp;omega),zaR,<-yy,zal];have aC:((os.set (j+vs.length) t).drop j).take vs.length=(os.drop j).take vs.length:=by
     rw[zdA];rw[zaa (by omega),show j+vs.length-j=vs.length by omega,zaT (b8 _)]
    rw[aC];rw[kM (l:=vs) (b8 _)]at aD;have aA:os[j+vs.length]+c=t+4294967296*((os[j+vs.length]+c)/4294967296):=by omega
    generalize(os[j+vs.length]+c)/4294967296=bE at *;generalize 4294967296^vs.length=P at *;have ba:P*(os[j+vs.length]+c)=P*(t+4294967296*bE):=by rw[aA]
    simp only[zaH,zax]at ba aD⊢;omega
   rw[this,zei]
  refine eP ⟨.inl rfl,⟨_,rfl,rfl,.refl _⟩,[0],rfl,eD trivial ⟨_,rfl,?_,fun _=>rfl⟩⟩;show bj.a _ _ _ _ _ _=bj.a _ _ _ _ _ _;congr 1;unfold jU;rw[<-LM,key,<-MM];exact qS
def Kw(h:j+k<=us.length):(jU us j k X).length=us.length:=by
 unfold jU;simp[De];omega
def adq(h:cV 4294967296 us):cV 4294967296 (jU us j k X):=fun x aa=>by
 unfold jU at aa;simp only[zbF]at aa;rcases aa with aa|aa|aa
 ·exact h x (zbJ aa)
 ·exact SC (by decide) _ _ x aa
 ·exact h x (zcx aa)
def avR(h:j+k<=us.length):val 4294967296 (jU us j k X)=val 4294967296 (us.take j)+4294967296^j*(X%4294967296^k+4294967296^k*val 4294967296 (us.drop (j+k))):=by
 unfold jU;rw[mZ,mZ,LN,De,zao,zaE (by omega)]
def avS{Y:Nat}(h:j+k<=us.length):jU (jU us j k X) j k Y=jU us j k Y:=by
 unfold jU;rw[zec (by simp;omega)];congr 2;rw[<-zbp,zdw (by simp;omega),zdw (De _ _ _)]
def avW(h:j+k<=us.length):eQ (jU us j k X) j k=X%4294967296^k:=by
 unfold eQ jU;rw[zdw (by simp;omega),zec (De _ _ _),LN]
def avP:jU us j k (X%4294967296^k)=jU us j k X:=by
 unfold jU;rw[LM]
def avQ(h:j+k<=us.length)(bN:cV 4294967296 us):jU us j k (eQ us j k)=us:=by
 unfold jU eQ;rw[<-GN (by decide) (q2 (w6 bN j) k) (by simp;omega) rfl];rw[<-zbp,zbl,zbl]
def adr(bN:cV 4294967296 us)(h:j+(n+1)<=us.length)(ia:V<4294967296^n)(hu:val 4294967296 us<V*4294967296^(j+1)):
 val 4294967296 us=val 4294967296 (us.take j)+4294967296^j*eQ us j (n+1)∧val 4294967296 (us.drop (j+(n+1)))=0∧eQ us j (n+1)<V*4294967296:=by
 have aC:=Ks (b:=4294967296) (l:=us) (k:=j) (by omega);have e2:=Ks (b:=4294967296) (l:=us.drop j) (k:=n+1) (by simp;omega);rw[zbp]at e2;have an:val 4294967296 (us.drop (j+(n+1)))=0:=by
  rcases zcv (val 4294967296 (us.drop (j+(n+1))))with h0|h0
  ·exact h0
  ·exfalso;have J:4294967296^(j+(n+1))*1<=4294967296^(j+(n+1))*val 4294967296 (us.drop (j+(n+1))):=m1 _ h0;have U:V*4294967296^(j+1)<=4294967296^n*4294967296^(j+1):=iq _ (by omega);rw[<-zar,show n+(j+1)=j+(n+1) by omega]at U;rw[e2,zaH,<-zax,<-zar]at aC;omega
 rw[an,zcz,zaX]at e2;refine⟨by rw[aC,e2];rfl,an,?_⟩;have ag:4294967296^j*eQ us j (n+1)<4294967296^j*(V*4294967296):=by
  have:V*4294967296^(j+1)=4294967296^j*(V*4294967296):=by rw[zal];ac_rfl
  have b3:val 4294967296 (us.drop j)=eQ us j (n+1):=e2;rw[b3]at aC;omega
 exact Nat.lt_of_mul_lt_mul_left ag
def ag6{dt:ac Nat}{A:Nat}(bN:cV 4294967296 us)(h:j+(n+1)<=us.length)(hj:j<dt.length)(sQ:0<V)(ia:V<4294967296^n)(hu:val 4294967296 us<V*4294967296^(j+1))(fE:A=val 4294967296 (dt.drop (j+1))*4294967296^(j+1)*V+val 4294967296 us):
 val 4294967296 (jU us j (n+1) (eQ us j (n+1)%V))<V*4294967296^j∧A=val 4294967296 ((dt.set j (eQ us j (n+1)/V)).drop j)*4294967296^j*V+val 4294967296 (jU us j (n+1) (eQ us j (n+1)%V)):=by
 obtain⟨J,U,ag⟩:=adr bN h ia hu;have hm:=zah (eQ us j (n+1)) sQ;have aA:=zbK (eQ us j (n+1)) V;have awr:4294967296^n<=4294967296^(n+1):=zaJ (by decide) (by omega);rw[avR h,U,zcz,zaX,gP (a:=eQ us j (n+1)%V) (by omega)];have aN:=kZ (q2 bN j);rw[zao,zaE (by omega)]at aN;constructor
 ·have:4294967296^j*(eQ us j (n+1)%V+1)<=4294967296^j*V:=m1 _ hm;rw[zaH,zaZ]at this;rw[zam V];omega
 ·have aC:val 4294967296 ((dt.set j (eQ us j (n+1)/V)).drop j)=eQ us j (n+1)/V+4294967296*val 4294967296 (dt.drop (j+1)):=by
   rw[eX (by simp;omega),zaR,zcI (by omega)];rfl
  have e2:4294967296^j*eQ us j (n+1)=4294967296^j*(V*(eQ us j (n+1)/V))+4294967296^j*(eQ us j (n+1)%V):=by rw[<-zaH,aA]
  rw[fE,J,aC,e2,zaj,zaj,zal];have b3:eQ us j (n+1)/V*4294967296^j*V=4294967296^j*(V*(eQ us j (n+1)/V)):=by ac_rfl
  have fo:4294967296*val 4294967296 (dt.drop (j+1))*4294967296^j*V=val 4294967296 (dt.drop (j+1))*(4294967296^j*4294967296)*V:=by ac_rfl
  rw[b3,fo];omega
def ap5{av:ac Nat}(hl:av.length=m+2)(bN:cV 4294967296 av)(aW:eV av=av)(aD:val 4294967296 av=b):
 bH av[m+1]<=32∧0<bH av[m+1]∧b*2^(32-bH av[m+1])<4294967296^(m+2)∧2147483648*4294967296^(m+1)<=b*2^(32-bH av[m+1]):=by
 have aA:av[m+1]≠0:=by
  have e:av=av.take (m+1)++[av[m+1]]:=by
   have:=zbl (m+1) av;rw[eX (by omega),zbU (by omega)]at this;exact this.symm
  have:=aW;rw[e]at this;exact(EM (b:=4294967296) this).2
 have aN:=bN _ (dy (show m+1<av.length by omega));have alM:=Lm aN;obtain⟨g1,aM⟩:=rB aA;have lZ:0<bH av[m+1]:=by unfold bH;rw[zaa aA];omega
 have aC:b=val 4294967296 (av.take (m+1))+4294967296^(m+1)*av[m+1]:=by
  rw[<-aD,<-iF (by omega),zas (by omega)]
 have J:=kZ (q2 bN (m+1));rw[zao,zaE (by omega)]at J;generalize av[m+1]=d at *;have hp:0<2^(32-bH d):=zaD _;have e2:2^bH d*2^(32-bH d)=4294967296:=by rw[<-zar,show bH d+(32-bH d)=32 by omega]
 have b3:2^(bH d-1)*2^(32-bH d)=2147483648:=by rw[<-zar,show bH d-1+(32-bH d)=31 by omega]
 refine⟨alM,lZ,?_,?_⟩
 ·have U:b<4294967296^(m+1)*2^bH d:=by
   have:4294967296^(m+1)*(d+1)<=4294967296^(m+1)*2^bH d:=m1 _ aM;rw[zaH,zaZ]at this;omega
  have ag:=zeB U hp;rw[zax,e2]at ag;rw[zal _ (m+1)];exact ag
 ·have U:4294967296^(m+1)*2^(bH d-1)<=b:=by
   have:4294967296^(m+1)*2^(bH d-1)<=4294967296^(m+1)*d:=m1 _ g1;omega
  have ag:=iq (2^(32-bH d)) U;rw[zax,b3]at ag;rw[zam];exact ag
def aqH(aE:r<4294967296)(aa:x<4294967296):(r%18446744073709551616*2^32%18446744073709551616%18446744073709551616|||x%18446744073709551616%18446744073709551616)=r*4294967296+x:=by
 rw[gP (a:=r) (by omega)];exact OT aE aa
def ag3(P A rj g2 fK:Nat):A+P*fK+P*4294967296*rj+P*4294967296*4294967296*g2=((g2*4294967296+rj)*4294967296+fK)*P+A:=by
 rw[zaj,zaj,zaj];have aC:P*4294967296*4294967296*g2=g2*4294967296*4294967296*P:=by ac_rfl
 have e2:P*4294967296*rj=rj*4294967296*P:=by ac_rfl
 have b3:P*fK=fK*P:=by ac_rfl
 omega
def ag2(P A rj g2:Nat):A+P*rj+P*4294967296*g2=(g2*4294967296+rj)*P+A:=by
 rw[zaj];have aC:P*4294967296*g2=g2*4294967296*P:=by ac_rfl
 have e2:P*rj=rj*P:=by ac_rfl
 omega
def P5{g:Nat}(h:0<g)(U:g<18446744073709551616):(g+(18446744073709551616*1-1))%18446744073709551616=g-1:=by omega
def DB(h:i<l.length):l[i]? =some l[i]:=bm h
def LO:bD where
 L:=Nat×Nat
 args:=fun(a,b)=>[dq a,dq b]
 pre:=fun(a,b)=>ev 1073741823 a∧ev 1073741823 b∧b≠0
 res:=fun(a,b)=>.bP [dq (a/b),dq (a%b)]
def LP:bl aT.ctx 276 LO.spec:=by
 refine bI [(161,z6.spec),(136,P2.spec),(167,BB.spec),(363,YD.spec),(364,Ka.spec),(367,abW.spec),(365,acK.spec),(366,WC.spec),(255,tX.spec)] UQ.1 ?_;intro⟨a,b⟩ ⟨(ha:(aY _ a).length<=_),(hb:(aY _ b).length<=_),(lZ:b≠0)⟩ H aK;show aU.ok _ ⟨_,_,⟨_,_,[(0,dg (aY 4294967296 a)),(1,dg (aY 4294967296 b))]⟩⟩;have ot:0<(aY 4294967296 b).length:=zaN.2 (fun h=>lZ ((pT (by decide)).1 h));refine I ?_;refine aX Gw (a,b) ⟨by show(aY _ a).length<=_;omega,by show(aY _ b).length<=_;omega⟩ (I ?_);refine cA (fun h=> ?_) (fun h=> ?_)
 ·have aN:a<b:=by
   rcases zai a b with aG|aG
   ·exact aG
   ·have h:iY a b<0:=h;unfold iY at h;rw[zaa (by omega)]at h;split at h<;>omega
  refine I ?_;exact au rfl (.bP ⟨bS.nl.trans (.of (by show dg []=dg (aY _ (a/b));rw[zbL aN,gE])),.of (by show dg _=dg (aY _ (a%b));rw[gP aN]),trivial⟩)
 have mG:b<=a:=by
  rcases zai a b with aG|aG
  ·exact absurd (show iY a b<0 by rw[z7 aG];decide) h
  ·exact aG
 refine I ?_;refine cA (fun J=> ?_) (fun J=> ?_)
 ·have J:(aY 4294967296 b).length=1:=by omega
  obtain⟨d,aA⟩:=zej.1 J;have aD:=gD (b:=4294967296) (by decide) b;have MN:=hi (b:=4294967296) (by decide) b;rw[aA]at aD MN;have AG:b=d:=by simp[val]at aD;exact aD.symm
  have DL:=MN d (by simp);rw[aA];subst AG;refine I ?_;refine dr (j:=0) b rfl ?_;refine I ?_;refine aX P3 (a,b) ⟨by show(aY _ a).length<=_;omega,by show 0<b;omega,DL⟩ (I ?_);refine ax 37 (.i .u64 ((a%b:Nat):Int)) rfl (fG (by have:=zah a (show 0<b by omega);omega)) ?_;refine aX u6 (a%b) (by have:=zah a (show 0<b by omega);show a%b<_;omega) (I ?_);exact au rfl (.bP ⟨.refl _,.refl _,trivial⟩)
 have an0:=hi (b:=4294967296) (by decide) a;have XK:=hi (b:=4294967296) (by decide) b;have cD:=gD (b:=4294967296) (by decide) a;have gy:=gD (b:=4294967296) (by decide) b;have an3:=we (b:=4294967296) (by decide) b;have nR:=N7 mG;generalize ng:aY 4294967296 a=xs at *;generalize wO:aY 4294967296 b=av at *;obtain⟨m,hm⟩:∃m,av.length=m+2:=⟨av.length-2,by omega⟩;obtain⟨kW,fi,pk,q0⟩:=ap5 hm XK an3 gy;have aA:=XK _ (dy (show m+1<av.length by omega));refine I ?_;refine ax 41 (.i .i64 ((m+1:Nat):Int)) rfl ct ?_;refine dr av[m+1] (bm (by omega)) ?_;refine I ?_;refine aX aps av[m+1] aA ?_;generalize aww:av[m+1]=mw at *;refine ax 44 (.i .i64 ((32-bH mw:Nat):Int)) rfl rfl ?_;generalize he:32-bH mw=e at *;have awx:e<=31:=by omega
 refine I ?_;refine aX Cc (b,e) ⟨by show(aY _ b).length<=_;rw[wO];omega,by show e<_;omega⟩ ?_ (he:=by exact⟨.of (congrArg dg wO.symm),.refl _,trivial⟩);refine ax 47 (dg (aY 4294967296 (b*2^e))) rfl rfl (I ?_);refine ax 50 (.i .i64 ((xs.length+1:Nat):Int)) rfl ct ?_;refine qk fQ 0 ?_;refine I ?_;refine aX Cc (a,e) ⟨by show(aY _ a).length<=_;rw[ng];omega,by show e<_;omega⟩ ?_ (he:=by exact⟨.of (congrArg dg ng.symm),.refl _,trivial⟩);have awl:a*2^e<2147483648*4294967296^xs.length:=by
  have J:=kZ an0;rw[cD]at J;have U:(a+1)*2^e<=4294967296^xs.length*2147483648:=zdy (by omega) (Jf (by omega));have ag:0<2^e:=zaD e;rw[zaj]at U;omega
 have alP:a*2^e<4294967296^(xs.length+1):=by
  rw[zal];have:0<4294967296^xs.length:=zcy (by decide);omega
 have uG:(aY 4294967296 (a*2^e)).length<=xs.length+1:=jZ (by decide) alP;refine I ?_;refine arN (aY 4294967296 (a*2^e)) (n3 rfl (fun _=>rfl) (fun _=>rfl)) ?_;refine I ?_;refine ax 61 (.i .i64 ((xs.length-av.length+1:Nat):Int)) rfl (by rw[hz (n:=(xs.length:Int)-av.length) (by omega) (by omega)];exact ct) ?_;refine qk fQ 0 ?_;refine I ?_;have ia:=gD (b:=4294967296) (by decide) (b*2^e);have DG:=hi (b:=4294967296) (by decide) (b*2^e);have AA:(aY 4294967296 (b*2^e)).length=m+2:=by
  have J:=jZ (b:=4294967296) (by decide) pk;have U:=Dc (b:=4294967296) (n:=b*2^e) (k:=m+1) (by decide) (by
   have:0<4294967296^(m+1):=zcy (by decide);omega)
  omega
 generalize XH:aY 4294967296 (b*2^e)=vs at *;have H4:(aY 4294967296 (a*2^e)++(List.replicate (xs.length+1) 0).drop (aY 4294967296 (a*2^e)).length).length=xs.length+1:=by simp;omega
 have p7:val 4294967296 (aY 4294967296 (a*2^e)++(List.replicate (xs.length+1) 0).drop (aY 4294967296 (a*2^e)).length)=a*2^e:=by
  rw[List.drop_replicate,mZ,val_zero,gD (by decide)];omega
 have mO:cV 4294967296 (aY 4294967296 (a*2^e)++(List.replicate (xs.length+1) 0).drop (aY 4294967296 (a*2^e)).length):=fun x aa=>by
  rcases zbF.1 aa with aa|aa
  ·exact hi (by decide) _ x aa
  ·exact tf (by decide) _ x (zcx aa)
 generalize aY 4294967296 (a*2^e)++(List.replicate (xs.length+1) 0).drop (aY 4294967296 (a*2^e)).length=avd at *;refine cN (L:=Nat×ac Nat×ac Nat) (fun(k,us,dt)=>k<=xs.length-av.length+1∧us.length=xs.length+1∧cV 4294967296 us∧dt.length=xs.length-av.length+1∧cV 4294967296 dt∧(∀p,p<k->dt[p]? =some 0)∧val 4294967296 us<b*2^e*4294967296^k∧a*2^e=val 4294967296 (dt.drop k)*4294967296^k*(b*2^e)+val 4294967296 us)
  (fun((k:Nat),(us:ac Nat),(dt:ac Nat))=>⟨[.a 223 false 1 Nat fQ us,.a 223 false 1 Nat fQ dt],2,[(4,.a5 1 1 0 (xs.length-av.length+1) (xs.length-av.length+1)),(6,.i .i64 ((m+2:Nat):Int)),(9,.i .i64 e),(10,dg vs),(11,.a5 0 1 0 (xs.length+1) (xs.length+1)),(12,.i .i64 ((k:Int)-1))]⟩)
  (fun l=>l.1) [0,1] (xs.length-av.length+1,avd,List.replicate (xs.length-av.length+1) 0) ⟨by omega,H4,mO,by simp,tf (by decide) _,fun p hp=>by rw[zeg,zab hp],?_,by rw[p7,zbU (by simp)];simp[val]⟩ (by show xs.length-av.length+1<bV+1;unfold bV;omega) (pz ⟨rfl,l9,rfl,rfl,rfl,e1,trivial⟩ ⟨_,rfl,rfl,fun _=>rfl⟩ ⟨_,rfl,rfl,fun _=>rfl⟩) ?_
 ·rw[p7];have J:=iq (4294967296^(xs.length-av.length+1)) q0;rw[zax,<-zar,show m+1+(xs.length-av.length+1)=xs.length by omega]at J;omega
 rintro⟨k,us,dt⟩ ⟨ab,uG,p6,A0,Ns,hN,hu,fE⟩;cases k with
 |zero=>
  rw[zbX,zaZ]at hu;rw[zbX,zaZ,zap]at fE;refine aq 67 ?_
  iterate 9 refine gZ ?_
  refine PE 4 ?_;refine PE 11 ?_;refine I ?_;refine bQ tY dt ⟨Ns,by omega⟩ (I ?_);refine agJ (us.take (m+2)) ?_;refine I ?_;refine bQ tY (us.take (m+2)) ⟨q2 p6 _,by simp;omega⟩ (I ?_);refine bQ as7 (val 4294967296 (us.take (m+2)),e) ⟨?_,by show e<_;omega⟩ ?_
  ·show(aY _ _).length<=_;have:=jZ (b:=4294967296) (by decide) (kZ (q2 p6 (m+2)));rw[zao]at this;omega
  refine I ?_;have Mr:0<2^e:=zaD e;have p3:0<b*2^e:=zcd (by omega) Mr;have sY:val 4294967296 (us.take (m+2))=val 4294967296 us:=by
   have aC:=Ks (b:=4294967296) (l:=us) (k:=m+2) (by omega);rcases zcv (val 4294967296 (us.drop (m+2)))with h0|h0
   ·rw[h0]at aC;omega
   ·have:4294967296^(m+2)*1<=4294967296^(m+2)*val 4294967296 (us.drop (m+2)):=m1 _ h0;omega
  have ano:val 4294967296 dt=a/b:=by
   have J:a*2^e/(b*2^e)=a/b:=Nat.mul_div_mul_right _ _ Mr;rw[<-J,fE,zbZ,Nat.add_mul_div_right _ _ p3,zbL hu,zaC]
  have rZ:val 4294967296 us/2^e=a%b:=by
   have J:a*2^e%(b*2^e)=a%b*2^e:=Nat.mul_mod_mul_right _ _ _;rw[fE,zbZ,Nat.add_mul_mod_self_right,gP hu]at J;rw[J,Nat.mul_div_cancel _ Mr]
  exact au rfl (.bP ⟨.of (congrArg dq ano),.of (congrArg dq (by rw[sY];exact rZ)),trivial⟩)
 |succ j=>
  refine ax 12 (.i .i64 (j:Nat)) rfl fG (I ?_);refine ax 67 (.b true) rfl (by simp) (I ?_);refine di 73 (.i .i64 ((j+(m+2):Nat):Int)) rfl rfl ct ?_;refine mv ?_;refine GJ us[j+(m+2)] (DB (by omega)) ?_;refine aq 82 ?_;refine di 82 (.i .i64 ((j+(m+1):Nat):Int)) rfl rfl (by rw[hz (n:=(j:Int)+(m+2:Nat)) (by omega) (by omega)];exact ct) ?_;refine mv ?_;refine GJ us[j+(m+1)] (DB (by omega)) ?_;refine aq 86 ?_;have anR:=p6 _ (dy (show j+(m+2)<us.length by omega));have anQ:=p6 _ (dy (show j+(m+1)<us.length by omega));have Nx:=p6 _ (dy (show j+m<us.length by omega));have awX:=DG _ (dy (show m+1<vs.length by omega));have A6:=DG _ (dy (show m<vs.length by omega));obtain⟨top,Ef⟩:∃top,top=us[j+(m+2)]*4294967296+us[j+(m+1)]:=⟨_,rfl⟩;refine di 86 (.i .u64 (top:Nat)) rfl rfl (fG (congrArg _ ((aqH anR anQ).trans Ef.symm))) ?_;obtain⟨e9,axt,adk⟩:=adr (n:=m+2) p6 (by omega) pk hu;have AB:eQ us j (m+2+1)=(top*4294967296+us[j+m])*4294967296^m+eQ us j m:=by
   unfold eQ;rw[Ef];rw[sv (by omega),sv (by omega),sv (by omega),zal,zal];exact ag3 _ _ _ _ _
  have wA:b*2^e=(vs[m+1]*4294967296+vs[m])*4294967296^m+val 4294967296 (vs.take m):=by
   rw[<-ia];have:val 4294967296 vs=val 4294967296 (vs.take (m+1+1)):=by rw[zas (by omega)]
   rw[this,iF (by omega),iF (by omega),zal];exact ag2 _ _ _ _
  have uk:eQ us j m<4294967296^m:=by
   have:=kZ (q2 (w6 p6 j) m);unfold eQ;rw[zao,zaE (by simp;omega)]at this;exact this
  have DH:val 4294967296 (vs.take m)<4294967296^m:=by
   have:=kZ (q2 DG m);rw[zao,zaE (by omega)]at this;exact this
  have Eh:0<vs[m+1]:=by
   rcases zcv vs[m+1]with h0|h0
   ·rw[h0,zau,zaC]at wA;have J:vs[m]*4294967296^m+4294967296^m<=4294967296^(m+1):=by
     have:(vs[m]+1)*4294967296^m<=4294967296*4294967296^m:=iq _ A6;rw[zaj,zbf]at this;rw[zal,zam _ 4294967296];exact this
    have U:1*4294967296^(m+1)<=2147483648*4294967296^(m+1):=iq _ (by decide);omega
   ·exact h0
  have sQ:0<b*2^e:=zcd (by omega) (zaD e);have Xw:eQ us j (m+2+1)/(b*2^e)<4294967296:=(zcW sQ).2 (by rw[zam];exact adk);have Xx:eQ us j (m+2+1)/(b*2^e)*(b*2^e)<=eQ us j (m+2+1):=zek _ _;have jx:=ag6 (dt:=dt) (n:=m+2) p6 (by omega) (by omega) sQ pk hu fE;generalize gS:eQ us j (m+2+1)=W at *;generalize hq:W/(b*2^e)=q at *;generalize awp:b*2^e=V at *;generalize XE:us[j+(m+2)]=g2 at *;generalize XD:us[j+(m+1)]=rj at *;generalize Ee:us[j+m]=fK at *;generalize lF:vs[m+1]=v1 at *;generalize jN:vs[m]=v2 at *;have Hm:vs[m+1]? =some v1:=by rw[DB (by omega),lF]
  have alE:vs[m]? =some v2:=by rw[DB (by omega),jN]
  have alx:us[j+m]? =some fK:=by rw[DB (by omega),Ee]
  have awU:top<18446744073709551616:=by omega
  have awW:2147483648<=v1:=aoV wA DH A6 (by decide) (by rw[zal]at q0;exact q0);have awV:g2<=v1:=aoU wA DH A6 (by decide) AB Ef adk;refine I ?_;refine di 90 (.i .i64 ((m+1:Nat):Int)) rfl rfl ct ?_;refine eU v1 Hm ?_;refine aq 93 ?_;refine di 93 (.i .u64 (v1:Nat)) rfl rfl fG ?_;refine agF ?_;refine I ?_;refine di 98 (.i .i64 ((m+1:Nat):Int)) rfl rfl ct ?_;refine eU v1 Hm ?_;refine aq 101 ?_;refine di 101 (.i .u64 (v1:Nat)) rfl rfl fG ?_;refine agH ?_;refine aq 15 ?_
  iterate 3 refine gZ ?_
  refine ij (fun(g:Nat)=>q<=g∧g<4294967296∧g*V<=W+V) (fun(g:Nat)=>⟨[.a 223 false 1 Nat fQ us,.a 223 false 1 Nat fQ dt],2,[(4,.a5 1 1 0 (xs.length-av.length+1) (xs.length-av.length+1)),(6,.i .i64 ((m+2:Nat):Int)),(9,.i .i64 e),(10,dg vs),(11,.a5 0 1 0 (xs.length+1) (xs.length+1)),(12,.i .i64 j),(14,.i .u64 g)]⟩) ?_ ?_
  ·refine I ?_;refine cN (L:=Nat×Nat) (fun(g,o)=>top=g*v1+o∧q<=g∧g<=4294967297∧o<4294967296)
    (fun((g:Nat),(o:Nat))=>⟨[.a 223 false 1 Nat fQ us,.a 223 false 1 Nat fQ dt],2,[(4,.a5 1 1 0 (xs.length-av.length+1) (xs.length-av.length+1)),(6,.i .i64 ((m+2:Nat):Int)),(9,.i .i64 e),(10,dg vs),(11,.a5 0 1 0 (xs.length+1) (xs.length+1)),(12,.i .i64 j),(14,.i .u64 g),(15,.i .u64 o)]⟩)
    (fun l=>l.1) [0,1] (top/v1,top%v1) ⟨by rw[zam];exact(zbK top v1).symm,?_,?_,?_⟩ ?_ jS ?_
   ·exact(zbW Eh).2 (aoT wA AB uk Nx Xx)
   ·have:top/v1<4294967298:=(zcW Eh).2 (by omega);omega
   ·have:=zah top Eh;omega
   ·have:top/v1<=top:=zaF _ _;have U:top/v1<4294967298:=(zcW Eh).2 (by omega);show top/v1<bV+1;unfold bV;omega
   rintro⟨g,o⟩ ⟨aW,Nr,W8,am8⟩;refine aq 106 ?_;rcases zai g 4294967296 with aR|aR
   ·refine di 106 (.b false) rfl rfl (by show aj.b (decide _)=_;congr 1;simp;omega) ?_;refine aq 110 ?_;refine di 110 (.i .i64 (m:Nat)) rfl rfl ct ?_;refine I ?_;refine eU v2 alE ?_;obtain⟨ba,bx,dE⟩:=On (c:=0) (o:=0) (by decide) aR A6 (by decide);refine aq 114 ?_;refine di 114 (.i .u64 ((g*v2:Nat):Int)) rfl rfl (fG (congrArg _ (by rw[gP (a:=v2) (by omega),gP ba]))) ?_;refine aq 121 ?_;refine di 121 (.i .i64 ((j+m:Nat):Int)) rfl rfl (by rw[hz (n:=(j:Int)+(m+2:Nat)) (by omega) (by omega)];exact ct) ?_;refine I ?_;refine mv ?_;refine I ?_;refine GJ fK alx ?_;refine aq 125 ?_;refine di 125 (.i .u64 ((o*4294967296+fK:Nat):Int)) rfl rfl (fG (congrArg _ (OT am8 Nx))) ?_;refine I ?_;refine cA (fun hc=> ?_) (fun hc=> ?_)
    ·have aN:=aoS wA AB uk Xx Nr aW (by omega);refine I ?_;have amL:(g-1)*v1+v1=g*v1:=by
      rw[<-zcK,show(g-1).succ=g by omega]
     have sX:top=(g-1)*v1+(o+v1):=by omega
     refine ax 14 (.i .u64 ((g-1:Nat):Int)) rfl (fG (congrArg _ (P5 (by omega) (by omega)))) ?_;refine ax 133 (.i .i64 ((m+1:Nat):Int)) rfl ct ?_;refine dr v1 Hm ?_;refine aq 137 ?_;refine ax 137 (.i .u64 ((o+v1:Nat):Int)) rfl fG (I ?_);refine cA (fun hc=> ?_) (fun hc=> ?_)
     ·have hc:(((o+v1)/4294967296:Nat):Int)≠0:=hc;refine I ?_;have yj:=Yf wA DH A6 AB sX (by omega) (by omega);have hle:=(zbW sQ).2 yj;rw[hq]at hle;exact bf [0,1] (g-1) ⟨by omega,by omega,by omega⟩ jS
     ·have hc:¬(((o+v1)/4294967296:Nat):Int)≠0:=hc;refine I ?_;exact bf [0,1] (g-1,o+v1) ⟨by show g-1<g;omega,sX,by omega,by omega,by omega⟩ jS
    ·refine I ?_;exact bf [0,1] g ⟨Nr,aR,aoR wA DH Eh AB aW (by omega) (by omega)⟩ jS
   ·refine di 106 (.b true) rfl rfl (by show aj.b (decide _)=_;congr 1;simp;omega) ?_;refine I ?_;have amL:(g-1)*v1+v1=g*v1:=by
     rw[<-zcK,show(g-1).succ=g by omega]
    have sX:top=(g-1)*v1+(o+v1):=by omega
    refine ax 14 (.i .u64 ((g-1:Nat):Int)) rfl (fG (congrArg _ (P5 (by omega) (by omega)))) ?_;refine ax 133 (.i .i64 ((m+1:Nat):Int)) rfl ct ?_;refine dr v1 Hm ?_;refine aq 137 ?_;refine ax 137 (.i .u64 ((o+v1:Nat):Int)) rfl fG (I ?_);refine cA (fun hc=> ?_) (fun hc=> ?_)
    ·have hc:(((o+v1)/4294967296:Nat):Int)≠0:=hc;refine I ?_;have yj:=Yf wA DH A6 AB sX (by omega) (by omega);have hle:=(zbW sQ).2 yj;rw[hq]at hle;exact bf [0,1] (g-1) ⟨by omega,by omega,by omega⟩ jS
    ·have hc:¬(((o+v1)/4294967296:Nat):Int)≠0:=hc;refine I ?_;exact bf [0,1] (g-1,o+v1) ⟨by show g-1<g;omega,sX,by omega,by omega,by omega⟩ jS
  rintro(g:Nat) ⟨AO,qK,amJ⟩;obtain⟨f1,f2⟩:=aoQ (W:=W) (V:=V) (g:=g) sQ (by rw[hq];exact AO) amJ;refine I ?_;refine cA (fun h0=> ?_) (fun h0=> ?_)
  ·have Xv:q=0:=by omega
   have al6:W<V:=by
    have:=zbK W V;rw[hq,Xv,zcz,zaC]at this;have:=zah W sQ;omega
   refine I ?_;rw[gP al6,<-gS,avQ (by omega) p6,Xv]at jx;have r0:dt.set j 0=dt:=by
    apply zbw;intro p;rw[zaQ];split
    ·rename_i hp;subst hp;rw[zab (by omega),hN _ (by omega)]
    ·rfl
   rw[r0]at jx;exact bf [0,1] (j,us,dt) ⟨by show j<j+1;omega,by omega,uG,p6,A0,Ns,fun p hp=>hN p (by omega),jx.1,jx.2⟩ (pz ⟨rfl,rfl,rfl,rfl,rfl,e1,trivial⟩ ⟨_,rfl,rfl,fun _=>rfl⟩ ⟨_,rfl,rfl,fun _=>rfl⟩)
  refine I ?_;refine abe ?_;refine I ?_;refine aa9 auS 0 (us,j,vs,g) ⟨by omega,p6,DG,qK,by omega⟩ ?_ (he:=by show[aj.a5 0 1 j _ _,dg vs,aj.i .u64 (g:Nat)]=[aj.a5 0 1 j _ _,dg vs,aj.i .u64 (g:Nat)];rw[uG]);have a3:vs.length=m+2:=AA;have aws:∀X,X<V->X%4294967296^(m+2+1)=X:=fun X MB=>gP (by
   have:4294967296^(m+2)<=4294967296^(m+2+1):=zaJ (by decide) (by omega);omega)
  have ams:=zbK W V;rw[hq]at ams;have Xq:=zah W sQ;rw[show eQ us j (vs.length+1)=W by rw[a3];exact gS,ia,a3];refine ax 148 (.b (decide (W<g*V))) rfl (by show aj.b (decide (eQ us j (vs.length+1)<g*val 4294967296 vs))=_;rw[a3,gS,ia]) ?_;refine gZ ?_;refine gZ ?_;refine ij (fun(g:Nat)=>g=q) (fun(g:Nat)=>⟨[.a 223 false 1 Nat fQ (jU us j (m+2+1) (W%V)),.a 223 false 1 Nat fQ dt],2,[(4,.a5 1 1 0 (xs.length-av.length+1) (xs.length-av.length+1)),(6,.i .i64 ((m+2:Nat):Int)),(9,.i .i64 e),(10,dg vs),(11,.a5 0 1 0 (xs.length+1) (xs.length+1)),(12,.i .i64 j),(14,.i .u64 g)]⟩) ?_ ?_
  ·refine cA (fun hc=> ?_) (fun hc=> ?_)
   ·obtain⟨e0,fT⟩:=f1 hc;rw[zab hc];refine aq 14 ?_;refine ax 14 (.i .u64 ((g-1:Nat):Int)) rfl (fG (congrArg _ (P5 (by omega) (by omega)))) (I ?_);refine abe ?_;refine I ?_;refine aa9 ald 0 (jU us j (m+2+1) (W+4294967296^(m+2+1)-g*V),j,vs) ⟨by rw[Kw (by omega)];omega,adq p6,DG,by rw[Kw (by omega)];omega⟩ ?_ (he:=by show[aj.a5 0 1 j _ _,dg vs]=[aj.a5 0 1 j _ _,dg vs];rw[Kw (by omega),uG]);refine I ?_;refine bf [0,1] (g-1) (e0.trans hq) (pz ⟨rfl,rfl,rfl,rfl,rfl,rfl,rfl,trivial⟩ ⟨_,rfl,?_,fun _=>rfl⟩ ⟨_,rfl,rfl,fun _=>rfl⟩);show bj.a _ _ _ _ _ _=bj.a _ _ _ _ _ _;congr 1;rw[a3,avS (by omega),avW (by omega),ia];have awz:(g-1)*V+V=g*V:=by rw[<-zcK,show(g-1).succ=g by omega]
    have HD:(g-1)*V=V*q:=by rw[e0,hq,zam]
    have km:0<4294967296^(m+2+1):=zcy (by decide);have awq:V<4294967296^(m+2+1):=by
     have:4294967296^(m+2)<=4294967296^(m+2+1):=zaJ (by decide) (by omega);omega
    have key:((W+4294967296^(m+2+1)-g*V)%4294967296^(m+2+1)+V)%4294967296^(m+2+1)=W%V:=by
     generalize 4294967296^(m+2+1)=PP at *;rw[gP (show W+PP-g*V<PP by omega),show W+PP-g*V+V=W%V+PP by omega,Nat.add_mod_right,gP (by omega)]
    rw[<-avP,key]
   ·have e0:=f2 hc;rw[zaa hc];refine I ?_;refine bf [0,1] g (by omega) (pz ⟨rfl,rfl,rfl,rfl,rfl,rfl,rfl,trivial⟩ ⟨_,rfl,?_,fun _=>rfl⟩ ⟨_,rfl,rfl,fun _=>rfl⟩);show bj.a _ _ _ _ _ _=bj.a _ _ _ _ _ _;congr 2;rw[zaX];have:g*V=V*q:=by rw[e0,hq,zam]
    omega
  intro hk MT;rw[show hk=q from MT];refine I ?_;refine kK ?_;refine lN (q%4294967296) ?_;refine I ?_;rw[gP Xw];refine bf [0,1] (j,jU us j (m+2+1) (W%V),dt.set j q) ⟨by show j<j+1;omega,by omega,by rw[Kw (by omega)];exact uG,adq p6,by simp[A0],nm Ns _ Xw,fun p hp=>by rw[zbc (by omega)];exact hN p (by omega),jx.1,jx.2⟩ (pz ⟨rfl,rfl,rfl,rfl,rfl,e1,trivial⟩ ⟨_,rfl,rfl,fun _=>rfl⟩ ⟨_,rfl,rfl,fun _=>rfl⟩)
def uT(h:ev k a)(hb:b<=a):ev k b:=zag (N7 hb) h
def wU(h:ev k a):a<4294967296^k:=by
 have J:=kZ (hi (b:=4294967296) (by decide) a);rw[gD (by decide)]at J;exact fM J (zaJ (by decide) h)
def Bf(h:a<4294967296^k):ev k a:=jZ (by decide) h
def Ln(h:m<=n):bH m<=bH n:=by
 by_cases h0:m=0
 ·subst h0;exact zae _
 ·have J:=(rB h0).1;have U:=(rB (show n≠0 by omega)).2;have:=(zcX (by decide:1<2)).1 (zbq (zag J h) U);omega
def aeK(h:m<=n/2)(hn:1<=n):bH m<bH n:=by
 have:=Ln h;rw[vV hn];omega
def Gd(h:n<2^k):bH n<=k:=by
 by_cases h0:n=0
 ·subst h0;exact zae _
 ·have:=(zcX (by decide:1<2)).1 (zbq (rB h0).1 h);omega
def Be(h:ev k a):bH a<=32*k:=Gd (by rw[zbM];exact wU h)
def aeL(ha:ev k a)(hb:ev k b):bH (a*b)<=64*k:=Gd (by
 rw[show 64*k=32*k+32*k by omega,zar,zbM];exact zel (wU ha) (wU hb))
def ahQ(aL:0<y)(h:y<=x):y*(x%y)<=x*y/2:=by
 have J:x%y<y:=zah x aL;have U:2*(x%y)<=x:=by
  have:=zbK x y;have ag:y*1<=y*(x/y):=m1 y (zcY h aL);omega
 rw[zbW (by decide)];have:=m1 y U;rw[zam x y];have e:y*(x%y)*2=y*(2*(x%y)):=by ac_rfl
 omega
def Ml:bD where
 L:=Nat×Nat
 args:=fun(a,b)=>[dq a,dq b]
 pre:=fun(a,b)=>ev 1073741823 a∧ev 1073741823 b
 res:=fun(a,b)=>dq (Nat.gcd a b)
def Ww:bl aT.ctx 169 Ml.spec:=by
 refine bI [(276,LO.spec)] T3.1 ?_;intro⟨a,b⟩ ⟨(ha:ev _ a),(hb:ev _ b)⟩ H aK;refine I ?_;refine cN (L:=Nat×Nat) (fun(x,y)=>ev 1073741823 x∧ev 1073741823 y∧Nat.gcd x y=Nat.gcd a b) (fun((x:Nat),(y:Nat))=>⟨[],0,[(0,dq x),(1,dq y)]⟩) (fun l=>2*bH (l.1*l.2)+if l.1<l.2 then 1 else 0) [] (a,b) ⟨ha,hb,rfl⟩ ?_ dj ?_
 ·show 2*bH (a*b)+(if a<b then 1 else 0)<bV+1;have:=aeL ha hb;unfold bV;split<;>omega
 rintro⟨x,y⟩ ⟨aa,aL,aR⟩;refine I ?_;refine cA (fun h=> ?_) (fun h=> ?_)
 ·have ND:y≠0:=fun h0=>by subst h0;rw[gE]at h;simp at h
  refine I ?_;refine aX LP (x,y) ⟨aa,aL,ND⟩ (I ?_);refine bf [] (y,x%y) ⟨?_,aL,uT aL (zbh (zah x (by omega))),?_⟩ dj
  ·show 2*bH (y*(x%y))+(if y<x%y then 1 else 0)<2*bH (x*y)+(if x<y then 1 else 0);have hm:=zah x (show 0<y by omega);rw[zaa (by omega)];by_cases NC:x<y
   ·rw[zab NC,gP NC,zam y x];omega
   ·rw[zaa NC];have hp:0<x*y:=zcd (by omega) (by omega);have:=aeK (ahQ (by omega) (by omega)) hp;omega
  ·rw[<-aR,zdB x y,Nat.gcd_rec y x,zdB]
 ·have ND:y=0:=(pT (b:=4294967296) (by decide)).1 (zbu (by omega));subst ND;refine I ?_;refine au rfl (.of ?_);show dq x=dq (Nat.gcd a b);rw[<-aR,Nat.gcd_zero_right]
def NR:bD where
 L:=Nat
 args:=fun n=>[dq n]
 pre:=fun _=>True
 res:=fun n=>.b (decide (n=1))
def ag0:aY 4294967296 1=[1]:=by rw[oj (by decide) (by decide),show 1/4294967296=0 from rfl,gE]
def Ig:bl aT.ctx 168 NR.spec:=by
 refine bI [] T2.1 ?_;intro(n:Nat) _ H aK;show aU.ok _ ⟨_,_,⟨_,_,[(0,dg (aY 4294967296 n))]⟩⟩;have aD:=gD (b:=4294967296) (by decide) n;generalize iN:aY 4294967296 n=ds at *;refine aq 6 ?_
 match ds,aD,iN with
 |[],aD,iN=>
  refine I ?_;have:n=0:=by simp[val]at aD;exact aD.symm
  subst this;exact au rfl (.refl _)
 |[d],aD,iN=>
  have:n=d:=by simp[val]at aD;exact aD.symm
  subst this;refine I ?_;refine dr (j:=0) n rfl ?_;refine I ?_;refine au rfl (.of ?_);show aj.b _=aj.b _;congr 1;rw[decide_eq_decide];exact⟨fun h=>by omega,fun h=>by omega⟩
 |d::nG::ds,aD,iN=>
  refine I ?_;refine au rfl (.of ?_);show aj.b false=aj.b _;congr 1
  symm
  rw[decide_eq_false_iff_not];intro J;subst J;rw[ag0]at iN;cases iN
def sK(d:Nat):aj:=.jP 1 Nat fQ (if d=1 then[]else aY 4294967296 d)
def rn(x:Rat):ac aj:=[.b (decide (x.num<0)),dq x.num.natAbs,sK x.den]
def cO(x:Rat):aj:=.agg (rn x)
def Da(h:d≠1):sK d= .jP 1 Nat fQ (aY 4294967296 d):=by unfold sK;rw[zaa h]
def Yp(h:d≠1)(h0:d≠0):bS (dq d) (sK d):=by
 rw[Da h];exact bS.jP (fun e=>h0 ((pT (by decide)).1 e))
def Sz(h:d≠1):bS (sK d) (dq d):=by
 rw[Da h];exact bS.awa
def y0(n:Int)(d:Nat)(h:d≠0):(mkRat n d).num=n/((n.natAbs.gcd d:Nat):Int)∧(mkRat n d).den=d/n.natAbs.gcd d:=by
 rw[<-Rat.normalize_eq_mkRat h,Rat.normalize_eq h];exact⟨rfl,rfl⟩
def Zk(hp:p≠0)(hq:q≠0):(mkRat (if neg then -(p:Int)else p) q).num=(if neg then -((p/p.gcd q:Nat):Int)else((p/p.gcd q:Nat):Int))∧(mkRat (if neg then -(p:Int)else p) q).den=q/p.gcd q:=by
 have aR:0<p.gcd q:=zem _ (by omega);have ha:(if neg then -(p:Int)else(p:Int)).natAbs=p:=by cases neg<;>simp
 obtain⟨J,U⟩:=y0 (if neg then -(p:Int)else p) q hq;rw[ha]at J U;refine⟨?_,U⟩;rw[J];cases neg
 ·simp
 ·simp only[if_true];obtain⟨k,ab⟩:=zdC p q;generalize p.gcd q=g at *;subst ab;rw[Nat.mul_div_cancel_left _ aR,zaV,<-Int.mul_neg,Int.mul_ediv_cancel_left _ (by omega)]
def N4{x:Rat}{c:aj}(J:x.num=if neg then -(p:Int)else(p:Int))(U:x.den=q)(hp:p≠0)(hc:bS c (sK q)):bS (.agg [.b neg,dq p,c]) (cO x):=by
 refine bS.agg ⟨.of ?_,.of ?_,?_,trivial⟩
 ·congr 1;rw[J];cases neg
  ·simp
  ·simp;omega
 ·congr 1;rw[J];cases neg<;>simp
 ·rw[U];exact hc
def le_zero:bS (.agg [.b false,.nl,.nl]) (cO 0):=bS.agg ⟨.refl _,bS.nl.trans (.of (by show dg []=dg (aY _ 0);rw[gE])),bS.Zm,trivial⟩
def EB:bD where
 L:=Bool×Nat×Nat
 args:=fun(n,p,q)=>[.b n,dq p,dq q]
 pre:=fun(_,p,q)=>ev 1073741823 p∧ev 1073741823 q∧q≠0
 res:=fun(n,p,q)=>cO (mkRat (if n then -(p:Int)else p) q)
def s8:(aY 4294967296 n).length=0↔n=0:=by rw[zen];exact pT (by decide)
def wX:bl aT.ctx 165 EB.spec:=by
 refine bI [(168,NR.spec),(169,Ml.spec),(276,LO.spec)] TZ.1 ?_;intro⟨n,p,q⟩ ⟨(hp:ev _ p),(hq:ev _ q),(hN:q≠0)⟩ H aK;refine I ?_;refine cA (fun h=> ?_) (fun h=> ?_)
 ·have sT:p=0:=s8.1 (by omega);subst sT;refine I ?_;refine au rfl (le_zero.trans (.of ?_));show cO 0=cO (mkRat _ q);congr 1;cases n<;>simp
 have sT:p≠0:=fun h0=>h (by rw[h0,gE];rfl);have aR:0<p.gcd q:=zem _ (by omega);refine I ?_;refine aX Ig q trivial (I ?_);refine ij (fun((dO:Nat),(gn:Nat))=>dO=p/p.gcd q∧gn=q/p.gcd q) (fun(dO,gn)=>⟨[.c 60 [.b false,.nl,.nl]],1,[(0,.b n),(1,dq dO),(2,dq gn),(6,.p 0 0)]⟩) ?_ ?_
 ·refine BX (fun J=> ?_) (fun J=> ?_)
  ·refine I ?_;refine aX Ww (p,q) ⟨hp,hq⟩ (I ?_);refine aX Ig (p.gcd q) trivial (I ?_);refine BX (fun U=> ?_) (fun U=> ?_)
   ·have Yt:ev 1073741823 (p.gcd q):=uT hp (Nat.gcd_le_left _ (by omega));refine I ?_;refine aX LP (p,p.gcd q) ⟨hp,Yt,by show p.gcd q≠0;omega⟩ (I ?_);refine aX LP (q,p.gcd q) ⟨hq,Yt,by show p.gcd q≠0;omega⟩ (I ?_);exact bf [0] (p/p.gcd q,q/p.gcd q) ⟨rfl,rfl⟩ dI
   ·refine I ?_;exact bf [0] (p,q) ⟨by rw[U,zce],by rw[U,zce]⟩ dI
  ·refine I ?_;exact bf [0] (p,q) ⟨by rw[J,zeo,zce],by rw[J,zeo,zce]⟩ dI
 rintro⟨dO,gn⟩ ⟨aC,e2⟩;obtain⟨kW,fi⟩:=Zk (neg:=n) sT hN;rw[<-aC]at kW;rw[<-e2]at fi;have iR:dO≠0:=by
  have:=zcY (Nat.gcd_le_left q (show 0<p by omega)) aR;omega
 have Nq:gn≠0:=by
  have:=zcY (zep p (show 0<q by omega)) aR;omega
 refine I ?_;refine aX Ig gn trivial (I ?_);refine cA (fun ag=> ?_) (fun ag=> ?_)
 ·refine I ?_;exact au rfl (N4 kW fi iR (by rw[ag];exact bS.Zm))
 ·refine I ?_;exact au rfl (N4 kW fi iR (Yp ag Nq))
def eF(k:Nat)(x:Rat):Prop:=ev k x.num.natAbs∧ev k x.den
def CV:bD where
 L:=Rat
 args:=fun x=>[cO x]
 pre:=fun _=>True
 res:=fun x=>dq x.den
def tS:bl aT.ctx 160 CV.spec:=by
 refine bI [(167,BB.spec)] TU.1 ?_;intro(x:Rat) _ H aK;refine aq 4 ?_;by_cases aA:x.den=1
 ·refine ax 4 (.jP 1 Nat fQ []) rfl (by show sK x.den=_;rw[aA];rfl) (I ?_);refine aX u6 (1:Nat) (by show 1<_;decide) (I ?_);exact au rfl (.of (by show dq 1=dq x.den;rw[aA]))
 ·refine ax 4 (.jP 1 Nat fQ (aY 4294967296 x.den)) rfl (Da aA) ?_;have cd:(aY 4294967296 x.den).isEmpty=false:=zdt.2 (fun e=>x.den_nz ((pT (by decide)).1 e));refine I ?_;refine arO rfl (by show mr false _=false;rw[cd];rfl) ?_;refine I ?_;exact au rfl (Sz aA)
def Kb:bD where
 L:=Rat
 args:=fun x=>[cO x]
 pre:=fun _=>True
 res:=fun x=>.i .i64 x.num.sign
def Kc:bl aT.ctx 158 Kb.spec:=by
 refine bI [] TS.1 ?_;intro(x:Rat) _ H aK;refine I ?_;refine cA (fun h=> ?_) (fun h=> ?_)
 ·have h0:x.num.natAbs=0:=s8.1 (by omega);refine I ?_;exact au rfl (.of (by show aj.i .i64 0=aj.i .i64 x.num.sign;rw[Int.natAbs_eq_zero.1 h0];rfl))
 have h0:x.num≠0:=fun e=>h (by rw[e];show((aY _ 0).length:Int)=0;rw[gE];rfl);refine I ?_;refine cA (fun h=> ?_) (fun h=> ?_)
 ·refine I ?_;exact au rfl (.of (by show aj.i .i64 (-1)=aj.i .i64 x.num.sign;rw[zcf h]))
 ·refine I ?_;exact au rfl (.of (by show aj.i .i64 1=aj.i .i64 x.num.sign;rw[zbA (by omega)]))
def Y5:bD where
 L:=Rat
 args:=fun x=>[cO x]
 pre:=fun _=>True
 res:=fun x=>cO (-x)
def apR:bl aT.ctx 215 Y5.spec:=by
 refine bI [] Ur.1 ?_;intro(x:Rat) _ H aK;have hle:∀{t:Bool},t=decide (-x.num<0)->bS (.agg [.b t,dq x.num.natAbs,sK x.den]) (cO (-x)):=fun h=>by
  refine bS.agg ⟨.of (by rw[h,zcA]),.of (by rw[zcA,zcZ]),.of (by rw[zda]),trivial⟩
 refine aq 6 ?_;by_cases hn:x.num<0
 ·refine ax 6 (.b false) rfl (by show aj.b (!decide _)=_;rw[zac hn];rfl) (I ?_);exact au rfl (hle (by symm;simp;omega))
 ·refine ax 6 (.b true) rfl (by show aj.b (!decide _)=_;rw[zad hn];rfl) (I ?_);refine au rfl (hle ?_);rw[decide_eq_decide];rcases(show 0<x.num∨x.num<=0 by omega)with h0|h0
  ·have:x.num.natAbs≠0:=by omega
   have:(aY 4294967296 x.num.natAbs).length≠0:=fun e=>this (s8.1 e);exact⟨fun _=>by omega,fun _=>by omega⟩
  ·have J:x.num=0:=by omega
   have U:(aY 4294967296 x.num.natAbs).length=0:=s8.2 (by omega);exact⟨fun h=>by omega,fun h=>by omega⟩
def jr(x:Rat):Rat:=if x.num<0 then -x else x
def rv(x:Rat):(jr x).num=(x.num.natAbs:Int)∧(jr x).den=x.den:=by
 unfold jr;split
 ·rw[zcA,zda];exact⟨by omega,rfl⟩
 ·exact⟨by omega,rfl⟩
def QN:bD where
 L:=Rat
 args:=fun x=>[cO x]
 pre:=fun _=>True
 res:=fun x=>cO (jr x)
def adX:bl aT.ctx 252 QN.spec:=by
 refine bI [] Uy.1 ?_;intro(x:Rat) _ H aK;refine I ?_;refine au rfl (bS.agg ⟨.of ?_,.of ?_,.of ?_,trivial⟩)
 ·rw[(rv x).1];congr 1
 ·rw[(rv x).1];rfl
 ·rw[(rv x).2]
def gd(x y:Rat):Int:=if x<y then -1 else if x=y then 0 else 1
def BZ:bD where
 L:=Rat×Rat
 args:=fun(x,y)=>[cO x,cO y]
 pre:=fun(x,y)=>eF 268435456 x∧eF 268435456 y
 res:=fun(x,y)=>.i .i64 (gd x y)
def oF{l:Nat}(ha:ev k a)(hb:ev l b):ev (k+l) (a*b):=Bf (by rw[zar];exact zel (wU ha) (wU hb))
def bR(n:Bool)(p:Nat):Int:=if n then -(p:Int)else p
def OA(x:Rat):x.num=bR (decide (x.num<0)) x.num.natAbs:=by
 unfold bR;by_cases h:x.num<0
 ·rw[zac h,zab rfl];omega
 ·rw[zad h,zaa (by decide)];omega
def R9(x y:Rat):(x.num.sign<y.num.sign->gd x y= -1)∧(y.num.sign<x.num.sign->gd x y=1)∧(x.num.sign=y.num.sign->gd x y=x.num.sign*iY (x.num.natAbs*y.den) (y.num.natAbs*x.den)):=by
 have aa:=x.den_nz;have aL:=y.den_nz;have lt:x<y↔x.num*y.den<y.num*x.den:=Rat.lt_iff x y;have eq:x=y↔x.num*y.den=y.num*x.den:=by
  constructor
  ·rintro rfl;rfl
  ·intro h;have J:=(Rat.mkRat_eq_iff (n₁:=x.num) (n₂:=y.num) aa aL).2 h;rw[Rat.mkRat_self,Rat.mkRat_self]at J;exact J
 have aw9:(0:Int)<x.den:=by omega
 have axa:(0:Int)<y.den:=by omega
 have ed:∀n:Int,(n<0∧n.sign= -1)∨(n=0∧n.sign=0)∨(0<n∧n.sign=1):=fun n=>by
  rcases(show n<0∨n=0∨0<n by omega)with h|h|h
  ·exact .inl ⟨h,zcf h⟩
  ·exact .inr (.inl ⟨h,by rw[h];rfl⟩)
  ·exact .inr (.inr ⟨h,zbA h⟩)
 have wg:x.num*(y.den:Int)=x.num.sign*((x.num.natAbs*y.den:Nat):Int):=by
  rw[zaV,<-zbr,zcB]
 have ue:y.num*(x.den:Int)=y.num.sign*((y.num.natAbs*x.den:Nat):Int):=by
  rw[zaV,<-zbr,zcB]
 have Z3:x.num≠0->0<x.num.natAbs*y.den:=fun h=>zcd (by omega) (by omega);have Z8:y.num≠0->0<y.num.natAbs*x.den:=fun h=>zcd (by omega) (by omega);rw[wg,ue]at lt eq;unfold gd iY;generalize x.num.natAbs*y.den=A at *;generalize y.num.natAbs*x.den=C at *;simp only[lt,eq];rcases ed x.num with⟨fa,fR⟩|⟨fa,fR⟩|⟨fa,fR⟩<;>rcases ed y.num with⟨c3,dP⟩|⟨c3,dP⟩|⟨c3,dP⟩<;>rw[fR,dP]<;>refine⟨fun h=> ?_,fun h=> ?_,fun h=> ?_⟩<;>first
  |(exfalso;omega)
  |(have J:=Z3 (by omega);have U:=Z8 (by omega);split<;>first|omega|(split<;>first|omega|(split<;>omega)))
  |(have J:=Z3 (by omega);split<;>first|omega|(split<;>omega))
  |(have U:=Z8 (by omega);split<;>first|omega|(split<;>omega))
  |(split<;>first|omega|(split<;>first|omega|(split<;>omega)))
def dT{l:Nat}(h:ev k a)(hl:k<=l):ev l a:=zag h hl
def B0:bl aT.ctx 74 BZ.spec:=by
 refine bI [(158,Kb.spec),(160,CV.spec),(159,IG.spec),(161,z6.spec)] We.1 ?_;intro⟨x,y⟩ ⟨(aa:eF _ x),(aL:eF _ y)⟩ H aK;obtain⟨e0,fT,oe⟩:=R9 x y;refine I ?_;refine bQ Kc x trivial (I ?_);refine bQ Kc y trivial (I ?_);have ed:∀n:Int,-1<=n.sign∧n.sign<=1:=fun n=>by
  rcases(show n<0∨n=0∨0<n by omega)with h|h|h
  ·rw[zcf h];decide
  ·rw[h];decide
  ·rw[zbA h];decide
 refine cA (fun h=> ?_) (fun h=> ?_)
 ·refine I ?_;refine cA (fun J=> ?_) (fun J=> ?_)
  ·refine I ?_;exact au rfl (.of (by show aj.i .i64 (-1)=aj.i .i64 (gd x y);rw[e0 J]))
  ·refine I ?_;exact au rfl (.of (by show aj.i .i64 1=aj.i .i64 (gd x y);rw[fT (by omega)]))
 have he:x.num.sign=y.num.sign:=by omega
 refine I ?_;refine bQ tS y trivial (I ?_);refine bQ Bq (x.num.natAbs,y.den) ⟨dT aa.1 (by decide),dT aL.2 (by decide)⟩ (I ?_);refine bQ tS x trivial (I ?_);refine bQ Bq (y.num.natAbs,x.den) ⟨dT aL.1 (by decide),dT aa.2 (by decide)⟩ (I ?_);refine bQ Gw (x.num.natAbs*y.den,y.num.natAbs*x.den) ⟨?_,?_⟩ ?_
 ·exact dT (oF aa.1 aL.2) (by decide)
 ·exact dT (oF aL.1 aa.2) (by decide)
 refine I ?_;refine au rfl (.of ?_);show aj.i .i64 (IntKind.i64.wrap (x.num.sign*iY _ _))=aj.i .i64 (gd x y);rw[<-oe he];have: -1<=gd x y∧gd x y<=1:=by
  unfold gd;split
  ·decide
  ·split<;>decide
 exact ct rfl (by omega) (by omega)
def z8(h:iY a b<0):a<b:=by
 unfold iY at h;split at h
 ·assumption
 ·split at h<;>omega
def z9(h:¬iY a b<0):b<=a:=by
 rcases zai a b with aG|aG
 ·exact absurd (show iY a b<0 by rw[z7 aG];decide) h
 ·exact aG
def QR(ha:ev k a)(hb:ev k b):ev (k+1) (a+b):=Bf (by
 have J:=wU ha;have U:=wU hb;rw[zal];omega)
def add_same{x y:Rat}{n:Bool}(aa:x.num=bR n x.num.natAbs)(aL:y.num=bR n y.num.natAbs):mkRat (bR n (x.num.natAbs*y.den+y.num.natAbs*x.den)) (x.den*y.den)=x+y:=by
 rw[zdb];congr 1;have e:∀a b:Nat,bR n (a+b)=bR n a+bR n b:=fun a b=>by unfold bR;cases n<;>simp<;>omega
 have e2:∀a b:Nat,bR n (a*b)=bR n a*b:=fun a b=>by unfold bR;cases n<;>simp[zci]
 rw[e,e2,e2,<-aa,<-aL]
def QQ{x y:Rat}{n m:Bool}(HQ:n≠m)(aa:x.num=bR n x.num.natAbs)(aL:y.num=bR m y.num.natAbs)(h:y.num.natAbs*x.den<=x.num.natAbs*y.den):mkRat (bR n (x.num.natAbs*y.den-y.num.natAbs*x.den)) (x.den*y.den)=x+y:=by
 rw[zdb];congr 1;have e2:∀(k:Bool) (a b:Nat),bR k (a*b)=bR k a*b:=fun k a b=>by unfold bR;cases k<;>simp[zci]
 have e:∀a b:Nat,b<=a->bR n (a-b)=bR n a+bR m b:=fun a b ib=>by unfold bR;cases n<;>cases m<;>simp at HQ⊢<;>omega
 rw[e _ _ h,e2,e2,<-aa,<-aL]
def abg:bD where
 L:=Rat×Rat
 args:=fun(x,y)=>[cO x,cO y]
 pre:=fun(x,y)=>eF 268435456 x∧eF 268435456 y
 res:=fun(x,y)=>cO (x+y)
def ar7:bl aT.ctx 135 abg.spec:=by
 refine bI [(160,CV.spec),(159,IG.spec),(253,KZ.spec),(254,acF.spec),(161,z6.spec),(165,EB.spec)] TD.1 ?_;intro⟨x,y⟩ ⟨(aa:eF _ x),(aL:eF _ y)⟩ H aK;have hS:=OA x;have ny:=OA y;have e6:ev 536870912 (x.num.natAbs*y.den):=oF aa.1 aL.2;have iC:ev 536870912 (y.num.natAbs*x.den):=oF aL.1 aa.2;have r7:ev 536870912 (x.den*y.den):=oF aa.2 aL.2;have ag:x.den*y.den≠0:=zbs x.den_nz y.den_nz;refine I ?_;refine bQ tS y trivial (I ?_);refine bQ Bq (x.num.natAbs,y.den) ⟨dT aa.1 (by decide),dT aL.2 (by decide)⟩ (I ?_);refine bQ tS x trivial (I ?_);refine bQ Bq (y.num.natAbs,x.den) ⟨dT aL.1 (by decide),dT aa.2 (by decide)⟩ (I ?_);refine bQ tS x trivial (I ?_);refine bQ tS y trivial (I ?_);refine bQ Bq (x.den,y.den) ⟨dT aa.2 (by decide),dT aL.2 (by decide)⟩ (I ?_);refine zk rfl (fun h=> ?_) (fun h=> ?_)
 ·have ah:decide (x.num<0)=decide (y.num<0):=zbH h;refine I ?_;refine bQ QP (x.num.natAbs*y.den,y.num.natAbs*x.den) ⟨dT e6 (by decide),dT iC (by decide)⟩ (I ?_);refine bQ wX (decide (x.num<0),x.num.natAbs*y.den+y.num.natAbs*x.den,x.den*y.den) ⟨dT (QR e6 iC) (by decide),dT r7 (by decide),ag⟩ (I ?_);exact au rfl (.of (congrArg cO (add_same hS (ah▸ny))))
 have ah:decide (x.num<0)≠decide (y.num<0):=ne_of_beq_false h;refine I ?_;refine aX Gw (x.num.natAbs*y.den,y.num.natAbs*x.den) ⟨dT e6 (by decide),dT iC (by decide)⟩ (I ?_);refine cA (fun h=> ?_) (fun h=> ?_)
 ·have aN:x.num.natAbs*y.den<y.num.natAbs*x.den:=z8 h;refine I ?_;refine bQ acH (y.num.natAbs*x.den,x.num.natAbs*y.den) ⟨dT iC (by decide),zbh aN⟩ (I ?_);refine bQ wX (decide (y.num<0),y.num.natAbs*x.den-x.num.natAbs*y.den,x.den*y.den) ⟨dT (uT iC (zbY _ _)) (by decide),dT r7 (by decide),ag⟩ (I ?_);refine au rfl (.of (congrArg cO ?_));have:=QQ ah.symm ny hS (zbh aN);rw[Rat.add_comm,<-this,zam y.den x.den];rfl
 ·have mG:y.num.natAbs*x.den<=x.num.natAbs*y.den:=z9 h;refine I ?_;refine bQ acH (x.num.natAbs*y.den,y.num.natAbs*x.den) ⟨dT e6 (by decide),mG⟩ (I ?_);refine bQ wX (decide (x.num<0),x.num.natAbs*y.den-y.num.natAbs*x.den,x.den*y.den) ⟨dT (uT e6 (zbY _ _)) (by decide),dT r7 (by decide),ag⟩ (I ?_);exact au rfl (.of (congrArg cO (QQ ah hS ny mG)))
def abB:bD where
 L:=Rat×Rat
 args:=fun(x,y)=>[cO x,cO y]
 pre:=fun(x,y)=>eF 268435456 x∧eF 268435456 y
 res:=fun(x,y)=>cO (x-y)
def Oo{x:Rat}(h:eF k x):eF k (-x):=by
 unfold eF;rw[zcA,zda,zcZ];exact h
def asx:bl aT.ctx 244 abB.spec:=by
 refine bI [(215,Y5.spec),(135,abg.spec)] Uv.1 ?_;intro⟨x,y⟩ ⟨(aa:eF _ x),(aL:eF _ y)⟩ H aK;refine I ?_;refine bQ apR y trivial (I ?_);refine bQ ar7 (x,-y) ⟨aa,Oo aL⟩ (I ?_);exact au rfl (.of (congrArg cO (zdD x y).symm))
def NQ:bD where
 L:=Int
 args:=fun n=>[.i .i64 n]
 pre:=fun n=> -9223372036854775808<=n∧n<9223372036854775808
 res:=fun n=>cO (mkRat n 1)
def s6(h:n<18446744073709551616):ev 2 n:=Bf h
def XZ:bl aT.ctx 131 NQ.spec:=by
 refine bI [(167,BB.spec),(165,EB.spec)] TC.1 ?_;intro(n:Int) ⟨(J:_<=n),(U:n<_)⟩ H aK;cases n with
 |ofNat k=>
  have U:(k:Int)<9223372036854775808:=U;clear J;refine I ?_;refine ax 12 (.i .u64 (k:Nat)) rfl fG ?_;refine aX u6 k (by show k<_;omega) ?_;refine aX u6 (1:Nat) (by show 1<_;decide) ?_;refine aX wX (false,k,1) ⟨dT (s6 (by omega)) (by decide),dT (s6 (by decide)) (by decide),by show 1≠0;decide⟩ (I ?_);exact au rfl (.refl _)
 |negSucc k=>
  refine I ?_;refine abf rfl (by simp) ?_;refine aq 7 ?_;have ahk:IntKind.u64.wrap (-(IntKind.u64.wrap (Int.negSucc k)))=((k+1:Nat):Int):=by
   rw[ads,ads];rw[Int.negSucc_eq]at *;omega
  refine ax 7 (.i .u64 ((k+1:Nat):Int)) rfl (fG ahk) ?_;rw[Int.negSucc_eq]at J;refine aX u6 (k+1) (by show k+1<_;omega) ?_;refine aX u6 (1:Nat) (by show 1<_;decide) ?_;refine aX wX (true,k+1,1) ⟨dT (s6 (by omega)) (by decide),dT (s6 (by decide)) (by decide),by show 1≠0;decide⟩ (I ?_);exact au rfl (.refl _)
def eh(x:Rat)(k:Int):Rat:=if k<0 then mkRat x.num (x.den*2^(-k).toNat)else mkRat (x.num*2^k.toNat) x.den
def E4(k:Nat):ev (k/32+1) (2^k):=Bf (by
 rw[PY k,zal,zam];exact Nat.mul_lt_mul_of_pos_left (by have:=Jf (zah k (show 0<32 by decide));omega) (zcy (by decide)))
def abS:bD where
 L:=Rat×Int
 args:=fun(x,k)=>[cO x,.i .i64 k]
 pre:=fun(x,k)=>eF 268435456 x∧-17179869184<k∧k<17179869184
 res:=fun(x,k)=>cO (eh x k)
def asZ:bl aT.ctx 329 abS.spec:=by
 refine bI [(160,CV.spec),(364,Ka.spec),(165,EB.spec)] Va.1 ?_;intro⟨x,k⟩ ⟨(aa:eF _ x),(J:_<k),(U:k<_)⟩ H aK;have hS:=OA x;refine I ?_;refine cA (fun h=> ?_) (fun h=> ?_)
 ·obtain⟨n,rfl⟩:∃n:Nat,k= -(n:Int):=⟨(-k).toNat,by omega⟩;refine I ?_;refine bQ tS x trivial (aq 14 ?_);refine di 14 (.i .i64 (n:Nat)) rfl rfl ct ?_;refine I ?_;refine bQ Cc (x.den,n) ⟨dT aa.2 (by decide),by show n<_;omega⟩ (I ?_);refine bQ wX (decide (x.num<0),x.num.natAbs,x.den*2^n) ⟨dT aa.1 (by decide),dT (oF aa.2 (dT (E4 n) (show _<=536870913 by omega))) (by decide),zbs x.den_nz (by have:=zaD n;omega)⟩ (I ?_);refine au rfl (.of (congrArg cO ?_));show mkRat (bR _ _) _=eh x (-(n:Int));unfold eh;rw[zab h,<-hS];congr 3;omega
 ·obtain⟨n,rfl⟩:∃n:Nat,k=(n:Int):=⟨k.toNat,by omega⟩;refine I ?_;refine bQ Cc (x.num.natAbs,n) ⟨dT aa.1 (by decide),by show n<_;omega⟩ (I ?_);refine bQ tS x trivial (I ?_);refine bQ wX (decide (x.num<0),x.num.natAbs*2^n,x.den) ⟨dT (oF aa.1 (dT (E4 n) (show _<=536870913 by omega))) (by decide),dT aa.2 (by decide),x.den_nz⟩ (I ?_);refine au rfl (.of (congrArg cO ?_));show mkRat (bR _ _) _=eh x (n:Int);unfold eh;have e2:∀(t:Bool) (a b:Nat),bR t (a*b)=bR t a*b:=fun t a b=>by unfold bR;cases t<;>simp[zci]
  rw[zaa h,e2,<-hS];congr 1
def J9:bD where
 L:=Rat×Int
 args:=fun(x,k)=>[cO x,.i .i64 k]
 pre:=fun(x,k)=>eF 268435456 x
 res:=fun(x,k)=>if -20000<=k∧k<=20000 then .bP [cO (eh x k),.i .i64 0]else .bP [cO 0,.i .i64 7]
def abR:bl aT.ctx 245 J9.spec:=by
 refine bI [(329,abS.spec)] Uw.1 ?_;intro⟨x,k⟩ (aa:eF _ x) H aK;have yC:∀{r:aj},(-20000<=k∧k<=20000->bS r (.bP [cO (eh x k),.i .i64 0]))->(¬(-20000<=k∧k<=20000)->bS r (.bP [cO 0,.i .i64 7]))->bS r (J9.res (x,k)):=fun J U=>by
  show bS _ (if _ then _ else _);split
  ·exact J (by assumption)
  ·exact U (by assumption)
 refine aq 8 ?_;by_cases J:k< -20000
 ·refine dS 8 J (I ?_);exact au rfl (yC (fun h=>by omega) (fun _=>.bP ⟨le_zero,.refl _,trivial⟩))
 ·refine eu 8 J (I ?_);refine cA (fun U=> ?_) (fun U=> ?_)
  ·refine I ?_;exact au rfl (yC (fun h=>by omega) (fun _=>.bP ⟨le_zero,.refl _,trivial⟩))
  ·refine I ?_;refine aX asZ (x,k) ⟨aa,by show _<k;omega,by show k<_;omega⟩ (I ?_);exact au rfl (yC (fun _=>.refl _) (fun h=>by omega))
def ac5:bD where
 L:=Int
 args:=fun k=>[.i .i64 k]
 pre:=fun k=>True
 res:=fun k=>if -20000<=k∧k<=20000 then .bP [cO (eh (mkRat 1 1) k),.i .i64 0]else .bP [cO 0,.i .i64 7]
def au6:bl aT.ctx 386 ac5.spec:=by
 refine bI [(131,NQ.spec),(245,J9.spec)] VE.1 ?_;intro(k:Int) _ H aK;refine I ?_;refine aX XZ (1:Int) ⟨by decide,by decide⟩ (I ?_);refine aX abR (mkRat 1 1,k) ⟨dT (s6 (by decide)) (by decide),dT (s6 (by decide)) (by decide)⟩ ?_;by_cases h: -20000<=k∧k<=20000
 ·refine ax 6 (.bP [cO (eh (mkRat 1 1) k),.i .i64 0]) rfl (zab h) (I ?_);exact au rfl (.of (zab h).symm)
 ·refine ax 6 (.bP [cO 0,.i .i64 7]) rfl (zaa h) (I ?_);exact au rfl (.of (zaa h).symm)
def aeM{A t:Nat}(ia:A=V+4294967296^n*t)(hl:V<4294967296^n)(aW:t≠0):bH A=32*n+bH t:=by
 obtain⟨a,b⟩:=rB aW;have hp:bH t≠0:=fun e=>by rw[e]at b;omega
 have aC:4294967296^n=2^(32*n):=(zbM 2 32 n).symm;rw[aC]at ia hl;have:= @aeN A (32*n+(bH t-1)) (by
  rw[zar];have:=m1 (2^(32*n)) a;omega) (by
  rw[show 32*n+(bH t-1)+1=32*n+bH t by omega,zar];have:=m1 (2^(32*n)) (show t+1<=2^bH t from b);rw[zaH]at this;omega)
 omega
def RG:bD where
 L:=Nat
 args:=fun n=>[dq n]
 pre:=fun n=>ev 1073741824 n
 res:=fun n=>.i .i64 (bH n:Nat)
def RH:bl aT.ctx 419 RG.spec:=by
 refine bI [(350,ph.spec)] VT.1 ?_;intro(n:Nat) (hn:ev _ n) H aK;have hn:(aY 4294967296 n).length<=1073741824:=hn;refine I ?_;refine cA (fun h=> ?_) (fun h=> ?_)
 ·have h0:n=0:=s8.1 (by omega);refine I ?_;exact au rfl (.of (by show aj.i .i64 0=aj.i .i64 (bH n:Nat);rw[h0];rfl))
 have h0:(aY 4294967296 n).length≠0:=fun e=>h (by rw[e];rfl);have bN:=hi (b:=4294967296) (by decide) n;have aD:=gD (b:=4294967296) (by decide) n;have aW:=we (b:=4294967296) (by decide) n;rcases zcb (aY 4294967296 n)with D2|⟨c7,t,hc⟩
 ·exact absurd (by rw[D2];rfl) h0
 rw[zcc]at hc;rw[hc]at bN aD aW hn;have XD:=(EM (b:=4294967296) aW).2;have HZ:=bN t (by simp);have hlen:(aY 4294967296 n).length=c7.length+1:=by rw[hc];simp
 rw[mZ]at aD;have ot:=aeM (A:=n) (n:=c7.length) (V:=val 4294967296 c7) (t:=t) (by rw[<-aD];simp[val]) (kZ (fun d aA=>bN d (by simp[aA]))) XD;have af:c7.length<=1073741823:=by simp at hn;omega
 have XE:(aY 4294967296 n)[c7.length]? =some t:=by rw[hc];simp
 refine aq 9 ?_;rw[hlen];refine ax 9 (.i .i64 (c7.length:Nat)) rfl ct (aq 10 ?_);refine ax 10 (.i .i64 ((32*c7.length:Nat):Int)) rfl ct (aq 13 ?_);refine ax 13 (.i .i64 (c7.length:Nat)) rfl ct ?_;refine dr t XE ?_;refine I ?_;refine aX Ys t HZ (I ?_);have:=Lm HZ;exact au rfl (.of ct)
def j7(p q:Nat):Int:=if p*2^((bH q:Int)-bH p).toNat<q*2^((bH p:Int)-bH q).toNat then(bH p:Int)-bH q-1 else(bH p:Int)-bH q
def Y7:bD where
 L:=Rat
 args:=fun x=>[cO x]
 pre:=fun x=>eF 268435456 x
 res:=fun x=>.i .i64 (j7 x.num.natAbs x.den)
def apZ:bl aT.ctx 397 Y7.spec:=by
 refine bI [(160,CV.spec),(419,RG.spec),(364,Ka.spec),(161,z6.spec)] VI.1 ?_;intro(x:Rat) (aa:eF _ x) H aK;have c3:=Be aa.1;have dP:=Be aa.2;refine I ?_;refine aX tS x trivial (I ?_);refine aX RH x.num.natAbs (dT aa.1 (by decide)) (I ?_);refine aX RH x.den (dT aa.2 (by decide)) (aq 12 ?_);refine ax 12 (.i .i64 ((bH x.num.natAbs:Int)-bH x.den)) rfl ct (aq 17 ?_);refine ax 17 (.i .i64 ((((bH x.den:Int)-bH x.num.natAbs).toNat:Nat):Int)) rfl (congrArg (aj.i .i64) (by rw[hz (n:= -((bH x.num.natAbs:Int)-bH x.den)) (by omega) (by omega)];omega)) ?_;have e6:((bH x.den:Int)-bH x.num.natAbs).toNat<8589934593:=by omega
 have iC:((bH x.num.natAbs:Int)-bH x.den).toNat<8589934593:=by omega
 refine aX Cc (x.num.natAbs,((bH x.den:Int)-bH x.num.natAbs).toNat) ⟨dT aa.1 (by decide),by show _<34359738368;omega⟩ (aq 21 ?_);refine ax 21 (.i .i64 ((((bH x.num.natAbs:Int)-bH x.den).toNat:Nat):Int)) rfl (congrArg (aj.i .i64) (by omega)) ?_;refine aX Cc (x.den,((bH x.num.natAbs:Int)-bH x.den).toNat) ⟨dT aa.2 (by decide),by show _<34359738368;omega⟩ ?_;refine aX Gw (x.num.natAbs*2^((bH x.den:Int)-bH x.num.natAbs).toNat,x.den*2^((bH x.num.natAbs:Int)-bH x.den).toNat) ⟨dT (oF aa.1 (dT (E4 _) (show _<=268435457 by omega))) (by decide),dT (oF aa.2 (dT (E4 _) (show _<=268435457 by omega))) (by decide)⟩ (I ?_);refine cA (fun h=> ?_) (fun h=> ?_)
 ·refine I ?_;exact au rfl (.of (by
   show aj.i _ _=aj.i .i64 (j7 _ _);unfold j7;rw[zab (z8 h)];exact ct))
 ·refine I ?_;exact au rfl (.of (by
   show aj.i _ _=aj.i .i64 (j7 _ _);unfold j7;rw[zaa (Nat.not_lt.2 (z9 h))]))
def abq:bD where
 L:=Rat
 args:=fun x=>[cO x]
 pre:=fun x=>eF 268435456 x
 res:=fun x=>if x.num=0 then .bP [.i .i64 0,.i .i64 8]else .bP [.i .i64 (j7 x.num.natAbs x.den),.i .i64 0]
def asm:bl aT.ctx 355 abq.spec:=by
 refine bI [(158,Kb.spec),(397,Y7.spec)] Vn.1 ?_;intro(x:Rat) (aa:eF _ x) H aK;refine I ?_;refine aX Kc x trivial (I ?_);refine cA (fun h=> ?_) (fun h=> ?_)
 ·have h:x.num=0:=zcC.1 h;refine I ?_;exact au rfl (.of (zab h).symm)
 ·have h:x.num≠0:=fun e=>h (by rw[e];rfl);refine I ?_;refine aX apZ x aa (I ?_);exact au rfl (.of (zaa h).symm)
def gj(e p:Int):Prop:=2<=e∧e<=11∧2<=p∧p<=113∧5<=e+p
variable{e:Int}
instance(e p:Int):Decidable (gj e p):=by unfold gj;infer_instance
def qC(e p:Int):aj:=.agg [.i .i64 e,.i .i64 p]
def G1:bD where
 L:=Int×Int
 args:=fun(e,p)=>[qC e p]
 pre:=fun(e,p)=>True
 res:=fun(e,p)=>.i .i64 (if gj e p then 0 else 2)
def Tb:bl aT.ctx 149 G1.spec:=by
 refine bI [] TJ.1 ?_;intro⟨e,p⟩ _ H aK;have bad:¬gj e p->bS (.i .i64 2) (G1.res (e,p)):=fun h=>.of (by show _=aj.i .i64 (if _ then _ else _);rw[zaa h]);refine aq 5 ?_;by_cases J:e<2
 ·refine dS 5 J (I ?_);exact au rfl (bad (by unfold gj;omega))
 refine eu 5 J (aq 9 ?_);by_cases U:11<e
 ·refine dS 9 U (I ?_);exact au rfl (bad (by unfold gj;omega))
 refine eu 9 U (aq 14 ?_);by_cases ag:p<2
 ·refine dS 14 ag (I ?_);exact au rfl (bad (by unfold gj;omega))
 refine eu 14 ag (aq 19 ?_);by_cases az:113<p
 ·refine dS 19 az (I ?_);exact au rfl (bad (by unfold gj;omega))
 refine eu 19 az (aq 26 ?_);refine ax 26 (.i .i64 (e+p)) rfl (ct rfl (by omega) (by omega)) (aq 27 ?_);by_cases a4:e+p<5
 ·refine dS 27 a4 (I ?_);exact au rfl (bad (by unfold gj;omega))
 refine eu 27 a4 (I ?_);exact au rfl (.of (by show _=aj.i .i64 (if _ then _ else _);rw[zab (by unfold gj;omega)]))
def uX(e p m b:Int):aj:=.agg [.i .i64 e,.i .i64 p,.i .i64 m,.i .i64 b]
def fb(e:Int):Int:=2^(e-1).toNat-1
def Kx:bD where
 L:=Int×Int
 args:=fun(e,p)=>[qC e p,.i .i64 0,.nl]
 pre:=fun(e,p)=>True
 res:=fun(e,p)=>if gj e p then .bP [uX e p 0 (fb e),.i .i64 0]else .bP [uX 0 0 0 0,.i .i64 2]
def avT:bl aT.ctx 266 Kx.spec:=by
 refine bI [(149,G1.spec)] UF.1 ?_;intro⟨e,p⟩ _ H aK;refine I ?_;refine aX Tb (e,p) trivial ?_;by_cases h:gj e p
 ·refine ax 20 (.i .i64 0) rfl (by show aj.i .i64 (if _ then _ else _)=_;rw[zab h]) ?_;have cT:Kx.res (e,p)= .bP [uX e p 0 (fb e),.i .i64 0]:=zab h;obtain⟨r,aE⟩:∃r,r=Kx.res (e,p):=⟨_,rfl⟩;obtain⟨J,U,_⟩:=h;refine I ?_;rcases(show e=2∨e=3∨e=4∨e=5∨e=6∨e=7∨e=8∨e=9∨e=10∨e=11 by omega)with h|h|h|h|h|h|h|h|h|h<;>subst h
  all_goals first|refine di 28 (.i .i64 1) rfl rfl rfl ?_|refine di 28 (.i .i64 2) rfl rfl rfl ?_|refine di 28 (.i .i64 3) rfl rfl rfl ?_|refine di 28 (.i .i64 4) rfl rfl rfl ?_|refine di 28 (.i .i64 5) rfl rfl rfl ?_|refine di 28 (.i .i64 6) rfl rfl rfl ?_|refine di 28 (.i .i64 7) rfl rfl rfl ?_|refine di 28 (.i .i64 8) rfl rfl rfl ?_|refine di 28 (.i .i64 9) rfl rfl rfl ?_|refine di 28 (.i .i64 10) rfl rfl rfl ?_
  all_goals (refine I ?_)
  all_goals (
   refine cN (L:=Int×Int) (fun(E,b)=>r= .bP [uX E p 0 b,.i .i64 0]) (fun(E,b)=>⟨[.c 335 [.i .i64 0,.i .i64 0,.i .i64 0,.i .i64 0],.c 335 [.i .i64 E,.i .i64 p,.i .i64 0,.i .i64 b]],2,[(34,.i .i64 0),(33,.i .i64 0),(8,.p 1 0),(6,.p 0 0),(7,.i .i64 0)]⟩) (fun _=>0) [1,2] (_,_) ?_ (by show 0<bV+1;omega) ⟨by decide,rfl,⟨⟨_,rfl,rfl⟩,⟨_,rfl,rfl⟩,trivial⟩,⟨rfl,rfl,rfl,rfl,rfl,trivial⟩,rfl⟩ ?_
   ·rw[aE];exact cT
   rintro⟨E,b⟩ ja;refine I ?_;exact au rfl (.of (ja.symm.trans aE)))
 ·refine ax 20 (.i .i64 2) rfl (by show aj.i .i64 (if _ then _ else _)=_;rw[zaa h]) (I ?_);exact au rfl (.of (zaa h).symm)
def Ty:bD where
 L:=Int
 args:=fun k=>[.i .i64 k]
 pre:=fun k=> -20000<=k∧k<=20000
 res:=fun k=>cO (eh (mkRat 1 1) k)
def aiB:bl aT.ctx 331 Ty.spec:=by
 refine bI [(386,ac5.spec)] Vc.1 ?_;intro(k:Int) (h:_<=k∧k<=_) H aK;refine I ?_;refine aX au6 k trivial ?_;refine ax 7 (.bP [cO (eh (mkRat 1 1) k),.i .i64 0]) rfl (zab h) (I ?_);exact au rfl (.refl _)
def Mc:bD where
 L:=Rat×Int
 args:=fun(x,k)=>[cO x,.i .i64 k]
 pre:=fun(x,k)=>eF 268435456 x∧-20000<=k∧k<=20000
 res:=fun(x,k)=>cO (eh x k)
def Tx:bl aT.ctx 267 Mc.spec:=by
 refine bI [(245,J9.spec)] UG.1 ?_;intro⟨x,k⟩ ⟨aa,(h:_<=k∧k<=_)⟩ H aK;refine I ?_;refine aX abR (x,k) aa ?_;refine ax 10 (.bP [cO (eh x k),.i .i64 0]) rfl (zab h) (I ?_);exact au rfl (.refl _)
def To:bD where
 L:=Rat
 args:=fun x=>[cO x]
 pre:=fun x=>eF 268435456 x∧x.num≠0
 res:=fun x=>.i .i64 (j7 x.num.natAbs x.den)
def ais:bl aT.ctx 269 To.spec:=by
 refine bI [(355,abq.spec)] UI.1 ?_;intro(x:Rat) ⟨aa,(h:_≠_)⟩ H aK;refine I ?_;refine aX asm x aa ?_;refine ax 7 (.bP [.i .i64 (j7 x.num.natAbs x.den),.i .i64 0]) rfl (zaa h) (I ?_);exact au rfl (.refl _)
def qu(J:2<=e)(U:e<=11):1<=fb e∧fb e<=1023:=by
 unfold fb;rcases(show e=2∨e=3∨e=4∨e=5∨e=6∨e=7∨e=8∨e=9∨e=10∨e=11 by omega)with h|h|h|h|h|h|h|h|h|h<;>subst h<;>decide
def Zb:bD where
 L:=Int×Int
 args:=fun(e,p)=>[uX e p 0 (fb e)]
 pre:=fun(e,p)=>gj e p
 res:=fun(e,p)=>.i .i64 (1-fb e)
def ap6:bl aT.ctx 354 Zb.spec:=by
 refine bI [] Vm.1 ?_;intro⟨e,p⟩ ⟨J,U,ag,az,a4⟩ H aK;obtain⟨c3,dP⟩:=qu J U;refine I ?_;exact au rfl (.of (ct rfl (by omega) (by omega)))
def Bt{n:Int}(J:ev k n.natAbs)(U:ev k d)(aA:d≠0):eF k (mkRat n d):=by
 obtain⟨aC,e2⟩:=y0 n d aA;refine⟨uT J ?_,uT U ?_⟩
 ·rw[aC,Int.natAbs_ediv_of_dvd (Int.ofNat_dvd_left.2 (zdC _ _))];exact zaF _ _
 ·rw[e2];exact zaF _ _
def kI{l:Nat}{x:Rat}(h:eF k x)(hl:k<=l):eF l x:=⟨dT h.1 hl,dT h.2 hl⟩
def apc{c:Int}:bS (.bP [.agg [.b false,.nl,.nl],.i .i64 c]) (.bP [cO 0,.i .i64 c]):=.bP ⟨le_zero,.refl _,trivial⟩
def II(c:Nat){x:Rat}{k:Int}(h:eF a x)(J: -(32*(c:Int))<k)(U:k<32*(c:Int)):eF (a+c) (eh x k):=by
 have hp:∀n:Nat,n<32*c->ev c (2^n):=fun n hn=>dT (E4 n) (by omega);unfold eh;split
 ·exact Bt (dT h.1 (by omega)) (oF h.2 (hp _ (by omega))) (zbs x.den_nz (by have:=zaD (-k).toNat;omega))
 ·refine Bt ?_ (dT h.2 (by omega)) x.den_nz;rw[zcg,zdE];exact oF h.1 (hp _ (by omega))
def Y2(n:Int)(J: -9223372036854775808<=n)(U:n<9223372036854775808):eF 2 (mkRat n 1):=Bt (s6 (by omega)) (s6 (by decide)) (by decide)
def apL{x y:Rat}(J:eF a x)(U:eF b y):eF (a+b+1) (x+y):=by
 rw[zdb];have fE:=oF J.1 U.2;have a0:=oF U.1 J.2;refine Bt (uT (QR fE (dT a0 (by omega))) ?_) (dT (oF J.2 U.2) (by omega)) (zbs x.den_nz y.den_nz);have:=Int.natAbs_add_le (x.num*y.den) (y.num*x.den);rw[zcg,zcg]at this;simpa using this
def Y3{x y:Rat}(J:eF a x)(U:eF b y):eF (a+b+1) (x-y):=by
 rw[zdD];exact apL J (Oo U)
def oq(e p:Int):Rat:=eh (eh (mkRat 1 1) p-mkRat 1 1) (fb e-p+1)
def apM{p:Int}(h:gj e p):eF 41 (oq e p):=by
 obtain⟨J,U,ag,az,a4⟩:=h;obtain⟨c3,dP⟩:=qu J U;have af:=Y2 1 (by decide) (by decide);exact kI (II 32 (Y3 (II 4 af (by omega) (by omega)) af) (by omega) (by omega)) (by decide)
def YS:bD where
 L:=Int×Int
 args:=fun(e,p)=>[uX e p 0 (fb e)]
 pre:=fun(e,p)=>gj e p
 res:=fun(e,p)=>cO (oq e p)
def apy:bl aT.ctx 271 YS.spec:=by
 refine bI [(331,Ty.spec),(131,NQ.spec),(244,abB.spec),(267,Mc.spec)] UL.1 ?_;intro⟨e,p⟩ ⟨J,U,ag,az,a4⟩ H aK;obtain⟨c3,dP⟩:=qu J U;have af:=Y2 1 (by decide) (by decide);refine I ?_;refine bQ aiB p ⟨by omega,by omega⟩ (I ?_);refine bQ XZ (1:Int) ⟨by decide,by decide⟩ (I ?_);refine bQ asx (eh (mkRat 1 1) p,mkRat 1 1) ⟨kI (II 4 af (by omega) (by omega)) (by decide),kI af (by decide)⟩ (aq 14 ?_);refine di 14 (.i .i64 (fb e-p)) rfl rfl (ct rfl (by omega) (by omega)) ?_;refine aq 15 ?_;refine di 15 (.i .i64 (fb e-p+1)) rfl rfl (ct rfl (by omega) (by omega)) ?_;refine I ?_;refine bQ Tx (eh (mkRat 1 1) p-mkRat 1 1,fb e-p+1) ⟨kI (Y3 (II 4 af (by omega) (by omega)) af) (by decide),by show _<=fb e-p+1;omega,by show fb e-p+1<=_;omega⟩ (I ?_);exact au rfl (.refl _)
def YY:bD where
 L:=Int×Int×Int
 args:=fun(e,p,k)=>[uX e p 0 (fb e),.i .i64 k]
 pre:=fun(e,p,k)=>gj e p∧-1000000000000<=k∧k<=1000000000000
 res:=fun(e,p,k)=>.i .i64 (max k (1-fb e)-p+1)
def apC:bl aT.ctx 268 YY.spec:=by
 refine bI [(354,Zb.spec)] UH.1 ?_;intro⟨e,p,k⟩ ⟨⟨J,U,ag,az,a4⟩,(cl:_<=k),(dn:k<=_)⟩ H aK;obtain⟨c3,dP⟩:=qu J U;refine I ?_;refine bQ ap6 (e,p) ⟨J,U,ag,az,a4⟩ (I ?_);exact au rfl (.of (by
  show aj.i _ (IntKind.i64.wrap (IntKind.i64.wrap (max k (1-fb e)-p)+1))=aj.i .i64 (max k (1-fb e)-p+1);rw[hz (n:=max k (1-fb e)-p) (by omega) (by omega)];exact ct rfl (by omega) (by omega)))
def Kg(e p:Int)(x:Rat):Int:=if x.num=0 then 2-fb e-p else max (j7 x.num.natAbs x.den) (1-fb e)-p+1
def xU{x y:Rat}:0<gd x y↔y<x:=by
 unfold gd;constructor
 ·intro h;split at h
  ·omega
  split at h
  ·omega
  exact Rat.lt_of_le_of_ne (zcD.1 (by assumption)) (fun e=>by simp_all)
 ·intro h;rw[zaa (zcD.2 (Rat.le_of_lt h)),zaa (fun e=>by subst e;exact absurd h (zcD.2 (Rat.le_refl)))];decide
def apK{x:Rat}(h:eF k x):eF k (jr x):=by
 unfold jr;split
 ·exact Oo h
 ·exact h
def Iv(p q:Nat): -(bH q:Int)-1<=j7 p q∧j7 p q<=bH p:=by unfold j7;split<;>omega
def gr(d:Nat):ac aj:=[.i .i64 d]
def dk(ds:ac Nat):aj:=.cc 1 Nat gr ds
def cZ(n:Nat):aj:=dk (aY 1000000000 n)
def ee(k n:Nat):Prop:=(aY 1000000000 n).length<=k
variable{w m5 pI:Nat}
def xi:bD where
 L:=ac Nat
 args:=fun ds=>[dk ds]
 pre:=fun ds=>ds.length<=1099511627776
 res:=fun ds=>dk (eV ds)
def xj:bl aT.ctx 182 xi.spec:=by
 refine bI [] Uh.1 ?_;intro(ds:ac Nat) (hp:ds.length<=1099511627776) H aK;refine I ?_;refine cN (fun es:ac Nat=>eV es=eV ds∧es.length<=ds.length) (fun es=>⟨[],0,[(0,dk es)]⟩) List.length [] ds ⟨rfl,b8 _⟩ (by show ds.length<bV+1;unfold bV;omega) dj ?_;rintro es ⟨J,U⟩;rcases zcb es with rfl|⟨c7,d,rfl⟩
 ·refine I ?_;exact au rfl (.of (by rw[show xi.res ds=dk (eV ds)from rfl,<-J];rfl))
 ·rw[zcc]at *;have hl:(c7++[d]).length=c7.length+1:=by simp
  refine I ?_;refine ax 6 (.b true) rfl (by simp) (I ?_);refine ax 10 (.i .i64 (c7.length:Nat)) rfl (by rw[hl,hz]<;>simp<;>omega) ?_;refine fJ (NH rfl rfl (show(c7++[d])[c7.length]? =some d by simp)) ?_;refine I ?_;refine zk rfl (fun aA=> ?_) (fun aA=> ?_)
  ·have aA:d=0:=by simpa using aA
   refine I ?_;refine ax 18 (.i .i64 (c7.length:Nat)) rfl (by rw[hl,hz]<;>simp<;>omega) ?_;refine fJ (ab3 (p:=0) rfl rfl ⟨_,rfl⟩ (zae _) (by simp)) ?_;refine I ?_;refine bf [] c7 ⟨by simp,by rw[<-J,ss,zab aA],by omega⟩ (kd ⟨?_,trivial⟩);simp[eb,n2,dk]
  ·have aA:d≠0:=by simpa using aA
   refine I ?_;exact au rfl (.of (by rw[show xi.res ds=dk (eV ds)from rfl,<-J,ss,zaa aA]))
def tq:bD where
 L:=Nat×Nat
 args:=fun(a,b)=>[cZ a,cZ b]
 pre:=fun(a,b)=>ee 1073741824 a∧ee 1073741824 b
 res:=fun(a,b)=>.i .i64 (iY a b)
def sg:bl aT.ctx 82 tq.spec:=by
 refine bI [] Wm.1 ?_;intro⟨a,b⟩ ⟨(ha:(aY _ a).length<=_),(hb:(aY _ b).length<=_)⟩ H aK;have J:=hi (b:=1000000000) (by decide) a;have U:=hi (b:=1000000000) (by decide) b;have t1:=we (b:=1000000000) (by decide) a;have t2:=we (b:=1000000000) (by decide) b;have jE:=gD (b:=1000000000) (by decide) a;have g3:=gD (b:=1000000000) (by decide) b;show aU.ok _ ⟨_,_,⟨_,_,[(0,dk (aY 1000000000 a)),(1,dk (aY 1000000000 b))]⟩⟩;generalize aY 1000000000 a=xs at *;generalize aY 1000000000 b=av at *;have fin:∀{r:Int},iY a b=r->bS (.i .i64 r) (tq.res (a,b)):=fun h=>by rw[<-h];exact .refl _
 refine I ?_;refine cA (fun h=> ?_) (fun h=> ?_)
 ·have h:xs.length≠av.length:=by omega
  refine I ?_;refine cA (fun h=> ?_) (fun h=> ?_)
  ·have h:xs.length<av.length:=by omega
   refine I ?_;have:=Iu (b:=1000000000) (by decide) J t2 h;exact au rfl (fin (z7 (by omega)))
  ·have h:av.length<xs.length:=by have:av.length<=xs.length:=by omega
                                  omega
   refine I ?_;have:=Iu (b:=1000000000) (by decide) U t1 h;exact au rfl (fin (Gx (by omega)))
 have h:xs.length=av.length:=by omega
 refine I ?_;refine cN (L:=Nat) (fun k=>k<=xs.length∧xs.drop k=av.drop k) (fun(k:Nat)=>⟨[],0,[(0,dk xs),(1,dk av),(5,.i .i64 ((k:Int)-1))]⟩) id [] xs.length ⟨b8 _,by rw[zcw,h,zcw]⟩ (by show xs.length<bV+1;unfold bV;omega) (kd ⟨rfl,rfl,e1,trivial⟩) ?_;rintro(k:Nat) ⟨ab,aA⟩;cases k with
 |zero=>
  refine I ?_;exact au rfl (fin (by simp at aA;rw[aA]at jE;rw[<-jE,<-g3];exact Sa _))
 |succ m=>
  have aa:m<xs.length:=by omega
  have aL:m<av.length:=by omega
  have e:((m+1:Nat):Int)-1=(m:Nat):=by omega
  refine ax 5 (.i .i64 (m:Nat)) rfl (fG e) (I ?_);refine ax 20 (.b true) rfl (by simp) (I ?_);refine eU xs[m] (bm aa) ?_;refine I ?_;refine eU av[m] (bm aL) ?_;refine I ?_;have hS:=GR aa;have ny:=GR aL;refine cA (fun h=> ?_) (fun h=> ?_)
  ·have aN:xs[m]<av[m]:=by omega
   refine I ?_;refine au rfl (fin (z7 ?_));rw[<-jE,<-g3,hS,ny,aA];exact Kp (fun x aa=>J x (zbJ aa)) (by simp;omega) aN
  refine I ?_;refine eU xs[m] (bm aa) ?_;refine I ?_;refine eU av[m] (bm aL) ?_;refine I ?_;refine cA (fun aG=> ?_) (fun aG=> ?_)
  ·have aN:av[m]<xs[m]:=by omega
   refine I ?_;refine au rfl (fin (Gx ?_));rw[<-jE,<-g3,hS,ny,aA];exact Kp (fun x aa=>U x (zbJ aa)) (by simp;omega) aN
  ·have he:xs[m]=av[m]:=by omega
   refine I ?_;refine bf [] m ⟨by simp,by omega,?_⟩ (kd ⟨rfl,rfl,e1,trivial⟩);rw[eX aa,eX aL,he,aA]
def Jo:bD where
 L:=Nat×Nat
 args:=fun(a,b)=>[cZ a,cZ b]
 pre:=fun(a,b)=>ee 1073741824 a∧ee 1073741824 b
 res:=fun(a,b)=>cZ (a+b)
def sL(h:(aY 1000000000 n).length<=k):n<1000000000^k:=by
 have J:=kZ (hi (b:=1000000000) (by decide) n);rw[gD (by decide)]at J;exact fM J (zaJ (by decide) h)
def K0(ha:(aY 1000000000 a).length<=k)(hb:(aY 1000000000 b).length<=k):(aY 1000000000 (a+b)).length<=k+1:=jZ (by decide) (by
 have:=sL ha;have:=sL hb;rw[zal];omega)
def afm{u:Nat}(h:w=u+v+c):w≠0↔(u≠0∨v≠0∨0<c):=by omega
def aea{D:ac Nat}(h:i<D.length)(hm:i<m)(aA:D[i]=d):(D.take i++List.replicate (m-i) 0).take i++([d]++(D.take i++List.replicate (m-i) 0).drop (i+[d].length))=D.take (i+1)++List.replicate (m-(i+1)) 0:=by
 have hl:(D.take i).length=i:=by rw[zao];omega
 rw[auT h,aA,show m-i=(m-(i+1))+1 by omega,zeb,zbN];congr 1
 ·rw[zcR (by omega),zas (by omega)]
 ·congr 1;rw[List.drop_append,zbU (by simp;omega),hl];simp
def Pb:bl aT.ctx 287 Jo.spec:=by
 refine bI [] U3.1 ?_;intro⟨a,b⟩ ⟨(ha:(aY _ a).length<=_),(hb:(aY _ b).length<=_)⟩ H aK;show aU.ok _ ⟨_,_,⟨_,_,[(0,dk (aY 1000000000 a)),(1,dk (aY 1000000000 b))]⟩⟩;obtain⟨m,hm⟩:∃m,m=max (aY 1000000000 a).length (aY 1000000000 b).length:=⟨_,rfl⟩;have iw:=K0 (k:=m) (a:=a) (b:=b) (by omega) (by omega);refine aq 13 ?_;refine ax 13 (.i .i64 ((m+1:Nat):Int)) rfl ct ?_;refine qk (n:=0) (c:=m+1) gr 0 ?_ (hn:=zae _);refine I ?_;refine cN (L:=Nat) (fun i=>i<=(aY 1000000000 (a+b)).length)
  (fun(i:Nat)=>⟨[.a 2 false 1 Nat gr ((aY 1000000000 (a+b)).take i++List.replicate (m+1-i) 0)],1,[(0,dk (aY 1000000000 a)),(1,dk (aY 1000000000 b)),(5,.a5 0 1 0 i (m+1)),(6,.i .i64 (m9 1000000000 a b i:Nat)),(7,.i .i64 i)]⟩)
  (fun i=>m+1-i) [0] 0 (zae _) (by show m+1-0<bV+1;unfold bV;omega) (eD ⟨rfl,rfl,rfl,by rw[agk];rfl,rfl,trivial⟩ ⟨_,rfl,rfl,fun _=>rfl⟩) ?_
 rintro(i:Nat) af;have RV:=Si (b:=1000000000) (x:=a) (y:=b) (i:=i) (by decide);have c4:=agi (b:=1000000000) (x:=a) (y:=b) (i:=i) (by decide);have NG:= @x3 1000000000 a i (by decide);have XQ:= @x3 1000000000 b i (by decide);have aoc:= @x3 1000000000 (a+b) i (by decide);have MK:(i<(aY 1000000000 (a+b)).length)↔(i<(aY 1000000000 a).length∨i<(aY 1000000000 b).length∨0<m9 1000000000 a b i):=by rw[NG,XQ,aoc];exact afm RV
 refine I ?_;refine ij (L:=Bool) (fun t=>t=decide (i<(aY 1000000000 (a+b)).length)) (fun t=>⟨[.a 2 false 1 Nat gr ((aY 1000000000 (a+b)).take i++List.replicate (m+1-i) 0)],1,[(0,dk (aY 1000000000 a)),(1,dk (aY 1000000000 b)),(5,.a5 0 1 0 i (m+1)),(6,.i .i64 (m9 1000000000 a b i:Nat)),(7,.i .i64 i),(28,.b t)]⟩) ?_ ?_
 ·by_cases J:i<(aY 1000000000 a).length
  ·refine ax 19 (.b true) rfl (by simp[J]) (I ?_);exact bf [0] true (by simp[MK,J]) dI
  refine ax 19 (.b false) rfl (by simp[J]) (aq 25 ?_);by_cases U:i<(aY 1000000000 b).length
  ·refine ax 25 (.b true) rfl (by simp[U]) (I ?_);exact bf [0] true (by simp[MK,U]) dI
  refine ax 25 (.b false) rfl (by simp[U]) (I ?_);exact bf [0] (decide ((0:Int)<(m9 1000000000 a b i:Nat))) (by simp only[MK];congr 1;simp;omega) dI
 intro t aW;by_cases aN:i<(aY 1000000000 (a+b)).length
 ·refine ax 28 (.b true) rfl (by rw[aW,zac aN]) ?_;obtain⟨qy,p4⟩:∃d,d=a/1000000000^i%1000000000:=⟨_,rfl⟩;obtain⟨ua,Hw⟩:∃d,d=b/1000000000^i%1000000000:=⟨_,rfl⟩;have pg:qy<1000000000:=by rw[p4];exact zah _ (by decide)
  have uS:ua<1000000000:=by rw[Hw];exact zah _ (by decide)
  have cs:=agj (b:=1000000000) (x:=a) (y:=b) (i:=i) (by decide);have Lv:=agh (b:=1000000000) (x:=a) (y:=b) (i:=i) (by decide);rw[<-p4,<-Hw]at cs Lv;obtain⟨c,hc⟩:∃c,c=m9 1000000000 a b i:=⟨_,rfl⟩;rw[<-hc]at cs Lv c4;have agX:=agZ (b:=1000000000) (n:=a+b) (i:=i) (by decide) aN;refine ax 6 (.i .i64 (c:Nat)) rfl (by rw[hc]) (I ?_);refine ij (L:=Unit) (fun _=>True) (fun _=>⟨[.a 2 false 1 Nat gr ((aY 1000000000 (a+b)).take i++List.replicate (m+1-i) 0)],1,[(0,dk (aY 1000000000 a)),(1,dk (aY 1000000000 b)),(5,.a5 0 1 0 i (m+1)),(6,.i .i64 ((c+qy:Nat):Int)),(7,.i .i64 i)]⟩) ?_ ?_
  ·refine cA (fun h=> ?_) (fun h=> ?_)
   ·have h:i<(aY 1000000000 a).length:=by omega
    refine I ?_;refine dr qy (by rw[p4];exact uc (by decide) h) ?_;refine I ?_;exact bf [0] () trivial (eD ⟨rfl,rfl,rfl,e1,rfl,trivial⟩ ⟨_,rfl,rfl,fun _=>rfl⟩)
   ·have h:¬i<(aY 1000000000 a).length:=by omega
    have h0:qy=0:=by
     have:a/1000000000^i=0:=Decidable.not_not.1 (fun aG=>h (NG.2 aG));rw[p4,this]
    refine I ?_;exact bf [0] () trivial (eD ⟨rfl,rfl,rfl,l9,rfl,trivial⟩ ⟨_,rfl,rfl,fun _=>rfl⟩)
  intro _ _;refine I ?_;refine ij (L:=Unit) (fun _=>True) (fun _=>⟨[.a 2 false 1 Nat gr ((aY 1000000000 (a+b)).take i++List.replicate (m+1-i) 0)],1,[(0,dk (aY 1000000000 a)),(1,dk (aY 1000000000 b)),(5,.a5 0 1 0 i (m+1)),(6,.i .i64 ((c+qy+ua:Nat):Int)),(7,.i .i64 i)]⟩) ?_ ?_
  ·refine cA (fun h=> ?_) (fun h=> ?_)
   ·have h:i<(aY 1000000000 b).length:=by omega
    refine I ?_;refine dr ua (by rw[Hw];exact uc (by decide) h) ?_;refine I ?_;exact bf [0] () trivial (eD ⟨rfl,rfl,rfl,e1,rfl,trivial⟩ ⟨_,rfl,rfl,fun _=>rfl⟩)
   ·have h:¬i<(aY 1000000000 b).length:=by omega
    have h0:ua=0:=by
     have:b/1000000000^i=0:=Decidable.not_not.1 (fun aG=>h (XQ.2 aG));rw[Hw,this]
    refine I ?_;exact bf [0] () trivial (eD ⟨rfl,rfl,rfl,l9,rfl,trivial⟩ ⟨_,rfl,rfl,fun _=>rfl⟩)
  intro _ _;refine aq 53 ?_;refine ax 53 (.i .i64 (((c+qy+ua)%1000000000:Nat):Int)) rfl rfl (I ?_);refine aa6 (R:=gr) [(c+qy+ua)%1000000000] (jj (R:=gr) [(c+qy+ua)%1000000000] rfl) ((aY 1000000000 (a+b)).take (i+1)++List.replicate (m+1-(i+1)) 0) ?_ (hl:= ?_) (hc:= ?_)
  ·refine aq 57 ?_;refine ax 57 (.i .i64 (((c+qy+ua)/1000000000:Nat):Int)) rfl (by show aj.i _ (IntKind.i64.wrap (((c+qy+ua)/1000000000:Nat):Int))=_;exact ct rfl (by omega) (by omega)) (I ?_);exact bf [0] (i+1) ⟨by show m+1-(i+1)<m+1-i;omega,aN⟩ (eD ⟨rfl,rfl,rfl,by rw[cs];rfl,e1,trivial⟩ ⟨_,rfl,rfl,fun _=>rfl⟩)
  ·simp;omega
  ·exact aea aN (by omega) (by rw[agX,Lv])
 ·refine ax 28 (.b false) rfl (by rw[aW,zad aN]) (aq 58 ?_);have he:i=(aY 1000000000 (a+b)).length:=by omega
  refine JU 58 (aY 1000000000 (a+b)) ?_ (hl:=by rw[zap,zcR (by simp;omega),zdu,Nat.min_self,zas (by omega)]) (hn:=he.symm);refine I ?_;exact au rfl (.refl _)
def JD:bD where
 L:=Nat×Nat
 args:=fun(a,b)=>[cZ a,cZ b]
 pre:=fun(a,b)=>ee 1073741824 a∧b<=a
 res:=fun(a,b)=>cZ (a-b)
def aeb{O:ac Nat}(h:O.length=i)(hm:i<m):(O++List.replicate (m-i) 0).take i++([d]++(O++List.replicate (m-i) 0).drop (i+[d].length))=(O++[d])++List.replicate (m-(i+1)) 0:=by
 subst h;rw[show m-O.length=(m-(O.length+1))+1 by omega,zeb,zbN];congr 1
 ·rw[zcR (by omega),zas (by omega)]
 ·congr 1;rw[List.drop_append,zbU (by simp)];simp
def Fb:bl aT.ctx 286 JD.spec:=by
 refine bI [(182,xi.spec)] U2.1 ?_;intro⟨a,b⟩ ⟨(ha:(aY _ a).length<=_),(ib:b<=a)⟩ H aK;have J:=hi (b:=1000000000) (by decide) a;have U:=hi (b:=1000000000) (by decide) b;have jE:=gD (b:=1000000000) (by decide) a;have g3:=gD (b:=1000000000) (by decide) b;have hlen:(aY 1000000000 b).length<=(aY 1000000000 a).length:=jZ (by decide) (zbq ib (sL (b8 _)));show aU.ok _ ⟨_,_,⟨_,_,[(0,dk (aY 1000000000 a)),(1,dk (aY 1000000000 b))]⟩⟩;generalize aY 1000000000 a=xs at *;generalize aY 1000000000 b=av at *;refine I ?_;refine qk (n:=0) (c:=xs.length) gr 0 ?_ (hn:=zae _);refine I ?_;refine cN (L:=Nat×ac Nat×Nat) (fun(i,outs,c)=>i<=xs.length∧outs.length=i∧cV 1000000000 outs∧c<=1∧val 1000000000 (xs.take i)+1000000000^i*c=val 1000000000 outs+val 1000000000 (av.take i))
  (fun((i:Nat),(outs:ac Nat),(c:Nat))=>⟨[.a 2 false 1 Nat gr (outs++List.replicate (xs.length-i) 0)],1,[(0,dk xs),(1,dk av),(5,.a5 0 1 0 i xs.length),(6,.i .i64 c),(7,.i .i64 i)]⟩)
  (fun l=>xs.length-l.1) [0] (0,[],0) ⟨zae _,rfl,fun x aa=>by simp at aa,by decide,by simp[val]⟩ (by show xs.length-0<bV+1;unfold bV;omega) dI ?_
 rintro⟨i,outs,c⟩ ⟨af,hy,bN,hc,aD⟩;refine I ?_;refine cA (fun h=> ?_) (fun h=> ?_)
 ·have h:i<xs.length:=by omega
  have Em:xs[i]? =some xs[i]:=bm h;have aN:=J _ (dy h);refine I ?_;refine dr xs[i] Em ?_;refine I ?_;refine ij (L:=Nat) (fun y=>y<1000000000∧val 1000000000 (av.take (i+1))=val 1000000000 (av.take i)+1000000000^i*y) (fun(y:Nat)=>⟨[.a 2 false 1 Nat gr (outs++List.replicate (xs.length-i) 0)],1,[(0,dk xs),(1,dk av),(5,.a5 0 1 0 i xs.length),(7,.i .i64 i),(8,.i .i64 ((xs[i]:Int)-c-y))]⟩) ?_ ?_
  ·refine cA (fun aG=> ?_) (fun aG=> ?_)
   ·have aG:i<av.length:=by simpa using aG
    have En:av[i]? =some av[i]:=bm aG;have DY:=U _ (dy aG);refine I ?_;refine dr av[i] En ?_;refine I ?_;refine bf [0] av[i] ⟨DY,iF aG⟩ (eD ⟨rfl,rfl,rfl,rfl,?_,trivial⟩ ⟨_,rfl,rfl,fun _=>rfl⟩);exact congrArg (fun n=>some (aj.i .i64 n)) (by rw[hz (n:=(xs[i]:Int)-c) (by omega) (by omega)];exact vz rfl (by omega) (by omega))
   ·have aG:av.length<=i:=by simpa using aG
    refine I ?_;refine bf [0] 0 ⟨by decide,by rw[kM (by omega),kM aG];simp⟩ (eD ⟨rfl,rfl,rfl,rfl,?_,trivial⟩ ⟨_,rfl,rfl,fun _=>rfl⟩);exact congrArg (fun n=>some (aj.i .i64 n)) (vz (by omega) (by omega) (by omega))
  rintro y ⟨aL,gy⟩;refine I ?_;refine ij (L:=Nat×Nat) (fun(d,bE)=>d<1000000000∧bE<=1∧xs[i]+1000000000*bE=d+y+c) (fun((d:Nat),(bE:Nat))=>⟨[.a 2 false 1 Nat gr (outs++List.replicate (xs.length-i) 0)],1,[(0,dk xs),(1,dk av),(5,.a5 0 1 0 i xs.length),(6,.i .i64 bE),(7,.i .i64 i),(8,.i .i64 d)]⟩) ?_ ?_
  ·refine cA (fun aG=> ?_) (fun aG=> ?_)
   ·refine I ?_;refine bf [0] (xs[i]+1000000000-c-y,1) ⟨by omega,by omega,by omega⟩ (eD ⟨rfl,rfl,rfl,rfl,rfl,?_,trivial⟩ ⟨_,rfl,rfl,fun _=>rfl⟩);exact congrArg (fun n=>some (aj.i .i64 n)) (vz (by omega) (by omega) (by omega))
   ·refine I ?_;refine bf [0] (xs[i]-c-y,0) ⟨by omega,by omega,by omega⟩ (eD ⟨rfl,rfl,rfl,rfl,rfl,?_,trivial⟩ ⟨_,rfl,rfl,fun _=>rfl⟩);exact congrArg (fun n=>some (aj.i .i64 n)) (by omega)
  rintro⟨d,bE⟩ ⟨aA,nQ,he⟩;refine I ?_;refine aa6 (R:=gr) [d] (jj (R:=gr) [d] rfl) ((outs++[d])++List.replicate (xs.length-(i+1)) 0) ?_ (hl:=aeb hy h) (hc:=by simp;omega);refine I ?_;refine bf [0] (i+1,outs++[d],bE) ⟨by show xs.length-(i+1)<xs.length-i;omega,by omega,by simp[hy],?_,nQ,?_⟩ (eD ⟨rfl,rfl,rfl,rfl,e1,trivial⟩ ⟨_,rfl,rfl,fun _=>rfl⟩)
  ·intro x aa;rcases zbF.1 aa with h|h
   ·exact bN x h
   ·simp at h;omega
  ·rw[mZ,hy,iF h,gy,zal];have:=acI aD he;simp[val];omega
 ·have he:i=xs.length:=by omega
  refine aq 42 ?_;refine JU 42 outs ?_ (hl:=by rw[zap,zcR (by omega),zas (by omega)]) (hn:=hy);refine aX xj outs (by show outs.length<=_;omega) (I ?_);refine au rfl (.of ?_);show dk (eV outs)=cZ (a-b);rw[zw (b:=1000000000) (by decide) bN];have aC:xs.take i=xs:=zas (by omega);have e2:av.take i=av:=zas (by omega);rw[aC,e2,jE,g3]at aD;have anT:=kZ bN;have:c=0:=by
   rcases zcv c with h|h
   ·exact h
   ·exfalso;have:c=1:=by omega
    subst this;rw[hy]at anT;omega
  subst this;show dk _=dk _;rw[show val 1000000000 outs=a-b by omega]
def zh:bD where
 L:=Nat×Nat
 args:=fun(a,b)=>[cZ a,cZ b]
 pre:=fun(a,b)=>ee 1073741824 a∧ee 1073741824 b
 res:=fun(a,b)=>cZ (a*b)
def aro(hc:c<1000000000)(aa:x<1000000000)(aL:y<1000000000)(al:o<1000000000):x*y+o+c<1000000000000000000:=by
 have J:x*y<=999999999*999999999:=zdy (by omega) (by omega);omega
def q7:bl aT.ctx 83 zh.spec:=by
 refine bI [(182,xi.spec)] Wn.1 ?_;intro⟨a,b⟩ ⟨(ha:(aY _ a).length<=_),(hb:(aY _ b).length<=_)⟩ H aK;have J:=hi (b:=1000000000) (by decide) a;have U:=hi (b:=1000000000) (by decide) b;have jE:=gD (b:=1000000000) (by decide) a;have g3:=gD (b:=1000000000) (by decide) b;show aU.ok _ ⟨_,_,⟨_,_,[(0,dk (aY 1000000000 a)),(1,dk (aY 1000000000 b))]⟩⟩;generalize aY 1000000000 a=xs at *;generalize aY 1000000000 b=av at *;refine aq 13 ?_;refine ax 13 (.i .i64 ((xs.length+av.length:Nat):Int)) rfl ct ?_;refine qk gr 0 ?_;refine I ?_;refine cN (L:=Nat×ac Nat) (fun(i,outs)=>i<=xs.length∧outs.length=xs.length+av.length∧cV 1000000000 outs∧val 1000000000 (outs.take (i+av.length))=val 1000000000 (xs.take i)*val 1000000000 av)
  (fun((i:Nat),(outs:ac Nat))=>⟨[.a 2 false 1 Nat gr outs],1,[(0,dk xs),(1,dk av),(5,.a5 0 1 0 (xs.length+av.length) (xs.length+av.length)),(6,.i .i64 i)]⟩)
  (fun l=>xs.length-l.1) [0] (0,List.replicate (xs.length+av.length) 0) ⟨by omega,by simp,tf (by decide) _,by simp[val,val_zero]⟩ (by show xs.length-0<bV+1;unfold bV;omega) dI ?_
 rintro⟨i,outs⟩ ⟨af,hy,bN,aD⟩;refine I ?_;refine cA (fun h=> ?_) (fun h=> ?_)
 ·have h:i<xs.length:=by omega
  have l7:=J _ (dy h);refine I ?_;refine cN (L:=Nat×ac Nat×Nat) (fun(j,os,c)=>j<=av.length∧os.length=xs.length+av.length∧cV 1000000000 os∧c<1000000000∧(∀k,i+j<=k->os[k]? =outs[k]?)∧val 1000000000 (os.take (i+j))+1000000000^(i+j)*c=val 1000000000 (outs.take (i+j))+1000000000^i*(xs[i]*val 1000000000 (av.take j)))
   (fun((j:Nat),(os:ac Nat),(c:Nat))=>⟨[.a 2 false 1 Nat gr os],1,[(0,dk xs),(1,dk av),(5,.a5 0 1 0 (xs.length+av.length) (xs.length+av.length)),(6,.i .i64 i),(7,.i .i64 c),(8,.i .i64 j)]⟩)
   (fun l=>av.length-l.1) [0] (0,outs,0) ⟨by omega,hy,bN,by omega,fun _ _=>rfl,by simp[val]⟩ (by show av.length-0<bV+1;unfold bV;omega) dI ?_
  rintro⟨j,os,c⟩ ⟨hj,D5,uC,hc,nd,mO⟩;refine I ?_;refine cA (fun rU=> ?_) (fun rU=> ?_)
  ·have rU:j<av.length:=by omega
   have H7:=U _ (dy rU);have km:i+j<os.length:=by omega
   have Nh:os[i+j]=outs[i+j]:=by
    have:=nd (i+j) (b8 _);rw[bm km,bm (by omega)]at this;exact Option.some.inj this
   have Ni:=uC _ (dy km);have g:=aro hc l7 H7 Ni;refine I ?_;refine di 31 (.i .i64 ((i+j:Nat):Int)) rfl rfl ct ?_;refine I ?_;refine mv ?_;refine GJ os[i+j] (bm km) ?_;refine I ?_;refine eU xs[i] (bm h) ?_;refine I ?_;refine eU av[j] (bm rU) ?_;refine aq 44 ?_;have ahj:IntKind.i64.wrap (IntKind.i64.wrap ((c:Int)+os[i+j])+IntKind.i64.wrap ((xs[i]:Int)*av[j]))=((c+(xs[i]*av[j]+os[i+j]):Nat):Int):=by
    rw[<-zaV];rw[hz (n:=(c:Int)+os[i+j]) (by omega) (by omega),hz (n:=((xs[i]*av[j]:Nat):Int)) (by omega) (by omega),hz (by omega) (by omega)];omega
   refine di 44 (.i .i64 ((c+(xs[i]*av[j]+os[i+j]):Nat):Int)) rfl rfl (congrArg (aj.i .i64) ahj) ?_;refine aq 48 ?_;refine ax 48 (.i .i64 ((i+j:Nat):Int)) rfl ct ?_;obtain⟨T,jb⟩:∃T,T=c+(xs[i]*av[j]+os[i+j]):=⟨_,rfl⟩;refine ax 7 (.i .i64 (T:Nat)) rfl (by rw[jb]) ?_;have awo:T<1000000000000000000:=by omega
   refine aq 50 ?_;refine ax 50 (.i .i64 ((T%1000000000:Nat):Int)) rfl rfl ?_;refine kK ?_;refine lN (T%1000000000) ?_;refine aq 53 ?_;refine ax 53 (.i .i64 ((T/1000000000:Nat):Int)) rfl (by show aj.i _ (IntKind.i64.wrap ((T/1000000000:Nat):Int))=_;exact ct rfl (by omega) (by omega)) (I ?_);refine bf [0] (j+1,os.set (i+j) (T%1000000000),T/1000000000) ⟨by show av.length-(j+1)<av.length-j;omega,by omega,by simp[D5],nm uC _ (zah _ (by decide)),by omega,fun k ab=>by rw[zbc (by omega)];exact nd k (by omega),?_⟩
    (eD ⟨rfl,rfl,rfl,rfl,rfl,e1,trivial⟩ ⟨_,rfl,rfl,fun _=>rfl⟩)
   rw[<-zbE,iF (l:=os.set (i+j) _) (by simp;omega),iF (l:=outs) (by omega),iF rU,zaT (b8 _),zaR,zal,<-Nh,jb];exact Y0 (by rw[zar]) mO
  ·have hj:j=av.length:=by omega
   subst hj;refine aq 58 ?_;refine ax 58 (.i .i64 ((i+av.length:Nat):Int)) rfl ct (I ?_);refine kK ?_;refine lN c ?_;refine I ?_;refine bf [0] (i+1,os.set (i+av.length) c) ⟨by show xs.length-(i+1)<xs.length-i;omega,by omega,by simp[D5],nm uC _ hc,?_⟩ (eD ⟨rfl,rfl,rfl,e1,trivial⟩ ⟨_,rfl,rfl,fun _=>rfl⟩);rw[show i+1+av.length=i+av.length+1 by omega,iF (l:=os.set _ _) (by simp;omega),zaT (b8 _),zaR,mO,aD,iF h,kM (b8 _),zaj,zax]
 ·have af:i=xs.length:=by omega
  subst af;refine I ?_;refine kb 61 ?_;refine aX xj outs (by show outs.length<=_;omega) (I ?_);refine au rfl (.of ?_);show dk (eV outs)=cZ (a*b);rw[kM (l:=xs) (b8 _),kM (l:=outs) (by omega)]at aD;rw[zw (b:=1000000000) (by decide) bN,aD,jE,g3];rfl
def wc:aY 1000000000 1=[1]:=by rw[oj (by decide) (by decide),show 1/1000000000=0 from rfl,gE]
def xe:bD where
 L:=Unit
 args:=fun _=>[]
 pre:=fun _=>True
 res:=fun _=>cZ 1
def vd:bl aT.ctx 179 xe.spec:=by
 refine bI [] Ue.1 ?_;intro _ _ H aK;refine aq 1 ?_;refine oN 0 gr [1] ?_;refine kb 1 ?_;refine I ?_;exact au rfl (.of (by show dk [1]=dk _;rw[wc]))
def cG(x:Rat):aj:=.agg [.i .i64 x.num.sign,cZ x.num.natAbs,dk (if x.num=0 then[]else aY 1000000000 x.den)]
def zd:bD where
 L:=Rat
 args:=fun x=>[cG x]
 pre:=fun _=>True
 res:=fun x=>cZ x.den
def sf:bl aT.ctx 84 zd.spec:=by
 refine bI [(179,xe.spec)] Wo.1 ?_;intro(x:Rat) _ H aK;refine I ?_;refine cA (fun h=> ?_) (fun h=> ?_)
 ·have h:x.num=0:=zcC.1 h;have aA:x.den=1:=by have:=x.reduced;rw[h]at this;simpa[Nat.Coprime]using this
  refine I ?_;refine aX vd () trivial (I ?_);exact au rfl (.of (by show cZ 1=cZ x.den;rw[aA]))
 ·have h:x.num≠0:=fun e=>h (by rw[e];rfl);refine I ?_;exact au rfl (.of (by show dk (if _ then _ else _)=dk _;rw[zaa h]))
def aaN:bD where
 L:=Rat
 args:=fun x=>[cG x]
 pre:=fun _=>True
 res:=fun x=>cG (-x)
def arq:bl aT.ctx 435 aaN.spec:=by
 refine bI [] V3.1 ?_;intro(x:Rat) _ H aK;refine I ?_;refine au rfl (.of ?_);show aj.agg [.i _ (IntKind.i64.wrap (-x.num.sign)),_,_]=aj.agg [.i _ _,_,_];have ed:∀n:Int,-1<=n.sign∧n.sign<=1:=fun n=>by
  rcases(show n<0∨n=0∨0<n by omega)with h|h|h
  ·rw[zcf h];decide
  ·rw[h];decide
  ·rw[zbA h];decide
 have:=ed x.num;rw[hz (by omega) (by omega),zcA,zda,Int.sign_neg,zcZ];simp[cZ,dk]
def Fv{own:ac bj}{e bL:bO}{o:bj}(h:k5 [k] bL e)(al:∃bh,own[k]? =some bh∧gQ [k] o bh)(hp:pinned p [k] 0=true:=by rfl):Sub p [k] ⟨own,n,e⟩ ⟨[o],1,bL⟩:=⟨by simp,rfl,⟨al,trivial⟩,h,hp⟩
def aaL:bD where
 L:=Nat
 args:=fun n=>[.i .u64 n]
 pre:=fun n=>n<18446744073709551616
 res:=fun n=>cZ n
def arp(m:Nat):ac Nat->cz
 |[]=>⟨[],0,[(0,.i .u64 m),(3,.nl)]⟩
 |d::ds=>⟨[.a 2 true 1 Nat gr (d::ds)],1,[(0,.i .u64 m),(3,.a5 0 1 0 (d::ds).length (d::ds).length)]⟩
def aaM:bl aT.ctx 436 aaL.spec:=by
 refine bI [] V4.1 ?_;intro(n:Nat) (hn:n<18446744073709551616) H aK;have hl:(aY 1000000000 n).length<=3:=jZ (by decide) (by omega);refine I ?_;refine cN (L:=Nat×ac Nat) (fun(m,l)=>m<=n∧aY 1000000000 n=l++aY 1000000000 m) (fun(m,l)=>arp m l) (fun l=>(aY 1000000000 l.1).length) [] (n,[]) ⟨b8 _,rfl⟩ (by show(aY 1000000000 n).length<bV+1;unfold bV;omega) dj ?_;rintro⟨m,l⟩ ⟨hm,aA⟩;have nR:l.length<=3:=by rw[aA]at hl;simp at hl;omega
 have step:m≠0->(aY 1000000000 (m/1000000000)).length<(aY 1000000000 m).length∧m/1000000000<=n∧aY 1000000000 n=(l++[m%1000000000])++aY 1000000000 (m/1000000000):=fun h=>by
  rw[aA,oj (by decide) h];simp;omega
 have hq:((m%1000000000:Nat):Int)<9223372036854775808:=by omega
 have WI:m/1000000000%18446744073709551616=m/1000000000:=by omega
 have hN: -9223372036854775808<=((m%1000000000:Nat):Int):=by omega
 cases l with
 |nil=>
  refine I ?_;refine cA (fun h=> ?_) (fun h=> ?_)
  ·have step:=step (by omega);refine aq 9 ?_;refine ax 9 (.i .i64 ((m%1000000000:Nat):Int)) rfl (ct rfl hN hq) (I ?_);refine vh gr [m%1000000000] (jj (R:=gr) [m%1000000000] rfl) ?_;refine I ?_;exact bf [1] (m/1000000000,[m%1000000000]) step (Fv ⟨l9 (congrArg Int.ofNat WI),rfl,trivial⟩ ⟨_,rfl,rfl,fun _=>rfl⟩)
  ·have h0:m=0:=by omega
   subst h0;rw[gE]at aA;refine I ?_;exact au rfl (bS.nl.trans (.of (by show dk []=dk _;rw[aA];rfl)))
 |cons d ds=>
  refine I ?_;refine cA (fun h=> ?_) (fun h=> ?_)
  ·have step:=step (by omega);refine aq 9 ?_;refine ax 9 (.i .i64 ((m%1000000000:Nat):Int)) rfl (ct rfl hN hq) (I ?_);have iN:ds.length<=2:=by simp at nR;omega
   refine vg (R:=gr) [m%1000000000] (jj (R:=gr) [m%1000000000] rfl) ?_;refine I ?_;exact bf [2] (m/1000000000,d::(ds++[m%1000000000])) step (Fv ⟨l9 (congrArg Int.ofNat WI),congrArg (fun k=>some (aj.a5 2 1 0 k k)) (by simp),trivial⟩ ⟨_,rfl,rfl,fun _=>rfl⟩)
  ·have h0:m=0:=by omega
   subst h0;rw[gE,zcE]at aA;refine aq 14 ?_;refine kb 14 ?_;refine I ?_;exact au rfl (.of (by show dk (d::ds)=dk _;rw[aA]))
def aay:bD where
 L:=Nat
 args:=fun a=>[cZ a]
 pre:=fun a=>ee 1073741824 a
 res:=fun a=>cZ (a/2)
def Ju:bl aT.ctx 285 aay.spec:=by
 refine bI [(182,xi.spec)] U1.1 ?_;intro(a:Nat) (ha:(aY _ a).length<=_) H aK;have J:=hi (b:=1000000000) (by decide) a;have jE:=gD (b:=1000000000) (by decide) a;show aU.ok _ ⟨_,_,⟨_,_,[(0,dk (aY 1000000000 a))]⟩⟩;generalize aY 1000000000 a=xs at *;refine I ?_;refine qk gr 0 ?_;refine I ?_;refine cN (L:=Nat×ac Nat×Nat) (fun(k,outs,r)=>k<=xs.length∧outs.length=xs.length∧cV 1000000000 outs∧r<2∧val 1000000000 (xs.drop k)=val 1000000000 (outs.drop k)*2+r)
  (fun((k:Nat),(outs:ac Nat),(r:Nat))=>⟨[.a 2 false 1 Nat gr outs],1,[(0,dk xs),(3,.a5 0 1 0 xs.length xs.length),(4,.i .i64 r),(5,.i .i64 ((k:Int)-1))]⟩)
  (fun l=>l.1) [0] (xs.length,List.replicate xs.length 0,0) ⟨by omega,by simp,tf (by decide) _,by decide,by simp[val]⟩ (by show xs.length<bV+1;unfold bV;omega) (eD ⟨rfl,rfl,rfl,e1,trivial⟩ ⟨_,rfl,rfl,fun _=>rfl⟩) ?_
 rintro⟨k,outs,r⟩ ⟨ab,hy,bN,aE,aD⟩;cases k with
 |zero=>
  refine I ?_;refine kb 30 ?_;refine aX xj outs (by show outs.length<=_;omega) (I ?_);rw[zap,zap]at aD;refine au rfl (.of ?_);show dk (eV outs)=cZ (a/2);rw[zw (b:=1000000000) (by decide) bN,show a/2=val 1000000000 outs by omega];rfl
 |succ m=>
  have aa:m<xs.length:=by omega
  have l7:=J _ (dy aa);have ix:=ab8 aE l7;refine ax 5 (.i .i64 (m:Nat)) rfl fG (I ?_);refine ax 13 (.b true) rfl (by simp) (I ?_);refine dr xs[m] (bm aa) ?_;refine aq 22 ?_;refine ax 22 (.i .i64 ((r*1000000000+xs[m]:Nat):Int)) rfl (congrArg (aj.i .i64) (by rw[hz (n:=(r:Int)*1000000000) (by omega) (by omega),hz (by omega) (by omega)];omega)) ?_;obtain⟨T,yg⟩:∃T,T=r*1000000000+xs[m]:=⟨_,rfl⟩;have jb:T<2000000000:=by omega
  rw[<-yg]at ix;refine ax 22 (.i .i64 (T:Nat)) rfl (by rw[yg]) (aq 26 ?_);refine ax 26 (.i .i64 ((T/2:Nat):Int)) rfl (by show aj.i _ (IntKind.i64.wrap ((T/2:Nat):Int))=_;exact ct rfl (by omega) (by omega)) ?_;refine kK ?_;refine lN (T/2) ?_;refine aq 29 ?_;refine ax 29 (.i .i64 ((T%2:Nat):Int)) rfl rfl (I ?_);have ah:xs.drop m=xs[m]::xs.drop (m+1):=eX aa;refine bf [0] (m,outs.set m (T/2),T%2) ⟨by simp,by omega,by simp[hy],nm bN _ ix,zah _ (by decide),?_⟩ (eD ⟨rfl,rfl,rfl,e1,trivial⟩ ⟨_,rfl,rfl,fun _=>rfl⟩);rw[ah,eX (l:=outs.set m _) (by simp;omega),zaR,zcI (by omega),yg];exact ab9 aD
def aaP:bD where
 L:=Nat
 args:=fun a=>[cZ a]
 pre:=fun a=>True
 res:=fun a=>.b (decide (a%2=1))
def Jx:bl aT.ctx 284 aaP.spec:=by
 refine bI [] U0.1 ?_;intro(a:Nat) _ H aK;show aU.ok _ ⟨_,_,⟨_,_,[(0,dk (aY 1000000000 a))]⟩⟩;by_cases h0:a=0
 ·subst h0;rw[gE];refine I ?_;exact au rfl (.refl _)
 ·rw[oj (by decide) h0];refine I ?_;refine ax 6 (.b true) rfl (by simp) (I ?_);refine dr (j:=0) (a%1000000000) rfl ?_;refine aq 10 ?_;refine ax 10 (.i .i64 ((a%1000000000%2:Nat):Int)) rfl rfl (I ?_);refine au rfl (.of ?_);show aj.b (decide _)=aj.b (decide _);congr 2;apply propext;omega
def als{W:Nat}(ia:V=v*P+m5)(AA:m5<P)(gS:W=w*P+pI)(aD:0<V):w/(v+1)<=W/V:=by
 rw[zbW aD];have J:w/(v+1)*(v+1)<=w:=zek _ _;have U:V<=(v+1)*P:=by rw[zaj];omega
 calc w/(v+1)*V<=w/(v+1)*((v+1)*P):=m1 _ U
  _=w/(v+1)*(v+1)*P:=(zax _ _ _).symm
  _<=w*P:=iq _ J
  _<=W:=by omega
def alr{W:Nat}(ia:V=v*P+m5)(uk:pI<P)(gS:W=w*P+pI)(aD:0<v)(ja:0<P):W/V<=(w+1)/v:=by
 have sQ:0<V:=by have:=zcd aD ja;omega
 rw[zbW aD];have J:W/V*V<=W:=zek _ _;have U:W/V*(v*P)<=W/V*V:=m1 _ (by omega);have ag:W/V*v*P<(w+1)*P:=by rw[zax,zaj];omega
 exact zbh (Nat.lt_of_mul_lt_mul_right ag)
