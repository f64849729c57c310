/- What the functions of the program and of the document compute, for every input (part 1); conditions as in the statements. -/
import Derived.Test.YthdlbilidpgknaaGreatDoorPtS1
import Derived.Test.YthdlbilidpgknaaGreatDoorPtT
import Derived.Test.YthdlbilidpgknaaGreatDoorPtL
set_option linter.all false
namespace Go.ak.a2
open Go.ak
set_option maxRecDepth 100000
set_option maxHeartbeats 4000000
variable{f:ci}{S:bc}{n m:Int}
def bq(K:ac (Nat×gN))(xf:dv)(h:∀l,S.pre l->∀H aH,a1.ok ⟨dc bB (dz aS.ctx (cp K)) (bT+1),bT+1,f,H,[],aH,Fin S l xf.res⟩ ⟨[],.c xf.body,⟨[],0,oa 0 (S.args l)⟩⟩)
 (aa:bB.get f=some xf:=by kernel_rfl) (hl:∀l,(S.args l).length<=xf.aQ:=by exact fun _=>jw rfl):a6 aS.ctx f S.spec:=afj aS.fF gM (cp K) aa hl h
def kn(K:ac (Nat×gN))(xf:dv)(h:∀l,S.pre l->∀H aH,S.hp H->a1.ok ⟨dc bB (dz aS.ctx (cp K)) (bT+1),bT+1,f,H,[],aH,Fin S l xf.res⟩ ⟨[],.c xf.body,⟨[],0,oa 0 (S.args l)⟩⟩)
 (aa:bB.get f=some xf:=by kernel_rfl) (hl:∀l,(S.args l).length<=xf.aQ:=by exact fun _=>jw rfl):a6 aS.ctx f S.spec:=Lb aS.fF gM (cp K) aa hl h
def Re(K:ac (Nat×gN))(xf:dv){S:iH}(h:∀l,S.pre l->∀H i0 aH,i0.length=(S.own l).length->a1.ok ⟨dc bB (dz aS.ctx (cp K)) (bT+1),bT+1,f,H,i0,aH,Ke S l xf.res⟩ ⟨[],.c xf.body,⟨S.own l,(S.own l).length,oa 0 (S.args l)⟩⟩)
 (aa:bB.get f=some xf:=by kernel_rfl) (hl:∀l,(S.args l).length<=xf.aQ:=by exact fun _=>jw rfl):a6 aS.ctx f S.spec:=afi aS.fF gM (cp K) aa hl h
def eS(d:Nat):ac ah:=[.i .u32 d]
def cU(ds:ac Nat):ah:=.c5 1 Nat eS ds
def c3(n:Nat):ah:=cU (aT 4294967296 n)
def uX(h:n=m)(J: -9223372036854775808<=n)(U:n<9223372036854775808):IntKind.i64.wrap n=m:=by rw[gd J U,h]
def at0(h:n%4294967296=m):IntKind.u32.wrap n=m:=by
 rw[<-ki];show y1 4294967296 n=m;rw[rS _ _ (by decide)];exact h
def J3(n:Int):IntKind.u64.wrap n=n%18446744073709551616:=by
 rw[<-ki];exact rS _ _ (by decide)
def JV:bc where
 L:=ac Nat
 args:=fun ds=>[cU ds]
 pre:=fun ds=>ds.length<=1099511627776
 res:=fun ds=>cU (eF ds)
def asV:a6 aS.ctx 165 JV.spec:=by
 refine bq [] Tk.1 ?_;intro(ds:ac Nat) (hp:ds.length<=1099511627776) H aH;refine I ?_;refine df (fun es:ac Nat=>eF es=eF ds∧es.length<=ds.length) (fun es=>⟨[],0,[(0,cU es)]⟩) List.length [] ds ⟨rfl,b5 _⟩ (by show ds.length<bT+1;unfold bT;omega) ew ?_;rintro es ⟨J,U⟩;rcases zcg es with rfl|⟨c2,d,rfl⟩
 ·refine I ?_;exact au rfl (.of (by rw[show JV.res ds=cU (eF ds)from rfl,<-J];rfl))
 ·rw[zch]at *;have hl:(c2++[d]).length=c2.length+1:=by simp
  refine I ?_;refine ag 6 (.b true) rfl (by simp) (I ?_);refine ag 10 (.i .i64 (c2.length:Nat)) rfl (by rw[hl,gd]<;>simp<;>omega) ?_;refine e7 (MT rfl rfl (show(c2++[d])[c2.length]? =some d by simp)) ?_;refine I ?_;refine yJ rfl (fun aq=> ?_) (fun aq=> ?_)
  ·have aq:d=0:=by simpa using aq
   refine I ?_;refine ag 18 (.i .i64 (c2.length:Nat)) rfl (by rw[hl,gd]<;>simp<;>omega) ?_;refine e7 (Pq (p:=0) rfl rfl ⟨_,rfl⟩ (zaf _) (by simp)) ?_;refine I ?_;refine ba [] c2 ⟨by simp,by rw[<-J,rQ,zab aq],by omega⟩ (iC ⟨?_,trivial⟩);simp[dZ,m7,cU]
  ·have aq:d≠0:=by simpa using aq
   refine I ?_;exact au rfl (.of (by rw[show JV.res ds=cU (eF ds)from rfl,<-J,rQ,zaa aq]))
def tr:bc where
 L:=ac Nat
 args:=fun ds=>[cU ds]
 pre:=fun ds=>cX 4294967296 ds∧ds.length<=1099511627776
 res:=fun ds=>c3 (val 4294967296 ds)
def tt:a6 aS.ctx 83 tr.spec:=by
 refine bq [(165,JV.spec)] VH.1 ?_;intro(ds:ac Nat) ⟨(J:cX 4294967296 ds),(U:ds.length<=_)⟩ H aH;refine I ?_;refine aC asV ds U (I ?_);exact au rfl (.of (by show cU (eF ds)=cU _;rw[yV (by decide) J]))
def wg:bc where
 L:=Nat
 args:=fun n=>[.i .u64 n]
 pre:=fun n=>n<18446744073709551616
 res:=fun n=>c3 n
def ow:a6 aS.ctx 32 wg.spec:=by
 refine bq [(83,tr.spec)] Uu.1 ?_;intro(n:Nat) (hp:n<18446744073709551616) H aH;refine I ?_;refine aaw 0 (z:=1) (R:=eS) [n%4294967296,n/4294967296] rfl (by show[ah.i _ _,ah.i _ _]=[ah.i _ _,ah.i _ _];rw[show n/2^32%4294967296=n/4294967296 by omega]) (fun _=>rfl) ?_;refine aaz 8 [n%4294967296,n/4294967296] rfl rfl rfl rfl (by decide) (fun _=>rfl) ?_;refine aC tt [n%4294967296,n/4294967296] ⟨fun x aa=> ?_,by simp⟩ ?_
 ·simp at aa;rcases aa with rfl|rfl<;>omega
 refine I ?_;exact au rfl (.of (by show c3 _=c3 _;simp[val];congr 1;omega))
def dI(k n:Nat):Prop:=(aT 4294967296 n).length<=k
variable{k b x j a:Nat}{us l:ac Nat}{X d s r y o B h c P R v i V:Nat}{neg:Bool}{p q:Nat}
def Fu:bc where
 L:=Nat×Nat
 args:=fun(a,b)=>[c3 a,c3 b]
 pre:=fun(a,b)=>dI 1073741824 a∧dI 1073741824 b
 res:=fun(a,b)=>c3 (a+b)
def Kw:a6 aS.ctx 88 Fu.spec:=by
 refine bq [(83,tr.spec)] VM.1 ?_;intro⟨a,b⟩ ⟨(aY:(aT _ a).length<=_),(hb:(aT _ b).length<=_)⟩ H aH;show a1.ok _ ⟨_,_,⟨_,_,[(0,cU (aT 4294967296 a)),(1,cU (aT 4294967296 b))]⟩⟩;refine I ?_;refine fK (fun((xs:ac Nat),(av:ac Nat))=>av.length<=xs.length∧xs.length<=1073741824∧cX 4294967296 xs∧cX 4294967296 av∧val 4294967296 xs+val 4294967296 av=a+b) (fun(xs,av)=>⟨[],0,[(0,cU xs),(1,cU av)]⟩) ?_ ?_
 ·refine cf (fun h=> ?_) (fun h=> ?_)
  ·have h:(aT 4294967296 a).length<(aT 4294967296 b).length:=by omega
   refine I ?_;exact ba [] (aT _ b,aT _ a) ⟨by omega,hb,fW (by decide) _,fW (by decide) _,by rw[fE (by decide),fE (by decide),zbt]⟩ ew
  ·have h:(aT 4294967296 b).length<=(aT 4294967296 a).length:=by omega
   refine I ?_;exact ba [] (aT _ a,aT _ b) ⟨h,aY,fW (by decide) _,fW (by decide) _,by rw[fE (by decide),fE (by decide)]⟩ ew
 rintro⟨xs,av⟩ ⟨hl,aa,J,U,ai⟩;refine I ?_;refine ag 18 (.i .i64 ((xs.length+1:Nat):Int)) rfl bo ?_;refine pz eS 0 ?_;refine I ?_;refine df (L:=Nat×ac Nat×Nat) (fun(i,outs,c)=>i<=xs.length∧outs.length=xs.length+1∧cX 4294967296 outs∧c<=1∧val 4294967296 (outs.take i)+4294967296^i*c=val 4294967296 (xs.take i)+val 4294967296 (av.take i))
  (fun((i:Nat),(outs:ac Nat),(c:Nat))=>⟨[.a 165 false 1 Nat eS outs],1,[(0,cU xs),(1,cU av),(5,.bj 0 1 0 (xs.length+1) (xs.length+1)),(6,.i .u64 c),(20,cU xs),(21,.i .i64 xs.length),(22,.i .i64 i)]⟩)
  (fun l=>xs.length-l.1) [0] (0,List.replicate (xs.length+1) 0,0) ⟨by omega,by simp,sH (by decide) _,by omega,by simp[val]⟩ (by show xs.length-0<bT+1;unfold bT;omega) du ?_
 rintro⟨i,outs,c⟩ ⟨hi,gT,bE,hc,aI⟩;refine I ?_;refine cf (fun h=> ?_) (fun h=> ?_)
 ·have h:i<xs.length:=by omega
  have Dy:xs[i]? =some xs[i]:=bV h;have a4:=J _ (ea h);refine I ?_;refine ep xs[i] Dy ?_;refine I ?_;refine fK (fun y=>y<4294967296∧val 4294967296 (av.take (i+1))=val 4294967296 (av.take i)+4294967296^i*y) (fun(y:Nat)=>⟨[.a 165 false 1 Nat eS outs],1,[(0,cU xs),(1,cU av),(5,.bj 0 1 0 (xs.length+1) (xs.length+1)),(6,.i .u64 ((c+xs[i]+y:Nat):Int)),(7,.i .i64 i),(20,cU xs),(21,.i .i64 xs.length),(22,.i .i64 i)]⟩) ?_ ?_
  ·refine cf (fun aB=> ?_) (fun aB=> ?_)
   ·have aB:i<av.length:=by simpa using aB
    have DA:av[i]? =some av[i]:=bV aB;have Dc:=U _ (ea aB);refine I ?_;refine ep av[i] DA ?_;refine I ?_;refine ba [0] av[i] ⟨Dc,hF aB⟩ (dK ⟨rfl,rfl,rfl,?_,rfl,rfl,rfl,rfl,trivial⟩ ⟨_,rfl,rfl,fun _=>rfl⟩);exact lN
   ·have aB:av.length<=i:=by simpa using aB
    refine I ?_;refine ba [0] 0 ⟨by decide,by rw[jv (by omega),jv aB];simp⟩ (dK ⟨rfl,rfl,rfl,?_,rfl,rfl,rfl,rfl,trivial⟩ ⟨_,rfl,rfl,fun _=>rfl⟩);exact lN
  rintro y ⟨aF,fR⟩;refine I ?_;refine jS ?_;refine kX ((c+xs[i]+y)%4294967296) ?_;refine I ?_;refine ba [0] (i+1,outs.set i ((c+xs[i]+y)%4294967296),(c+xs[i]+y)/4294967296) ⟨by show xs.length-(i+1)<xs.length-i;omega,by omega,by simp[gT],mv bE _ (zae _ (by decide)),by omega,?_⟩ (dK ⟨rfl,rfl,rfl,rfl,rfl,rfl,?_,trivial⟩ ⟨_,rfl,rfl,fun _=>rfl⟩)
  ·rw[hF (l:=outs.set i _) (by simp;omega),hF h,fR,zba (b5 _),zaW,zak];exact Qm (by decide) aI
  ·exact eC
 ·have h:i=xs.length:=by have:xs.length<=i:=by omega
                         omega
  subst h;refine I ?_;refine jS ?_;refine kX (c%4294967296) ?_;refine I ?_;refine jh 56 ?_;refine aC tt (outs.set xs.length (c%4294967296)) ⟨mv bE _ (zae _ (by decide)),by simp[gT];omega⟩ (I ?_);refine au rfl (.of ?_);show c3 _=c3 _;congr 1;rw[<-jv (i:=xs.length+1) (by simp[gT]),hF (by simp;omega),zba (b5 _),zaW,dH (by omega),aI,jv (b5 _),jv hl,ai]
def abQ:bc where
 L:=Nat×Nat
 args:=fun(a,b)=>[c3 a,c3 b]
 pre:=fun(a,b)=>dI 1073741824 a∧b<=a
 res:=fun(a,b)=>c3 (a-b)
def Nn(h:b<=a):(aT 4294967296 b).length<=(aT 4294967296 a).length:=by
 have J:=jW (fW (b:=4294967296) (by decide) a);rw[fE (by decide)]at J;exact hL (by decide) (by omega)
def abS:a6 aS.ctx 230 abQ.spec:=by
 refine bq [(83,tr.spec)] TG.1 ?_;intro⟨a,b⟩ ⟨(aY:(aT _ a).length<=_),(hb:b<=a)⟩ H aH;have hl:=Nn hb;have J:=fW (b:=4294967296) (by decide) a;have U:=fW (b:=4294967296) (by decide) b;have iF:=fE (b:=4294967296) (by decide) a;have nZ:=fE (b:=4294967296) (by decide) b;show a1.ok _ ⟨_,_,⟨_,_,[(0,cU (aT 4294967296 a)),(1,cU (aT 4294967296 b))]⟩⟩;generalize aT 4294967296 a=xs at *;generalize aT 4294967296 b=av at *;refine I ?_;refine pz eS 0 ?_;refine I ?_;refine df (L:=Nat×ac Nat×Nat) (fun(i,outs,c)=>i<=xs.length∧outs.length=xs.length∧cX 4294967296 outs∧c<=1∧val 4294967296 (xs.take i)+4294967296^i*c=val 4294967296 (outs.take i)+val 4294967296 (av.take i))
  (fun((i:Nat),(outs:ac Nat),(c:Nat))=>⟨[.a 165 false 1 Nat eS outs],1,[(0,cU xs),(1,cU av),(5,.bj 0 1 0 xs.length xs.length),(6,.i .u64 c),(13,cU xs),(14,.i .i64 xs.length),(15,.i .i64 i)]⟩)
  (fun l=>xs.length-l.1) [0] (0,List.replicate xs.length 0,0) ⟨by omega,by simp,sH (by decide) _,by omega,by simp[val]⟩ (by show xs.length-0<bT+1;unfold bT;omega) du ?_
 rintro⟨i,outs,c⟩ ⟨hi,gT,bE,hc,aI⟩;refine I ?_;refine cf (fun h=> ?_) (fun h=> ?_)
 ·have h:i<xs.length:=by omega
  have Dy:xs[i]? =some xs[i]:=bV h;have a4:=J _ (ea h);refine I ?_;refine ep xs[i] Dy ?_;refine I ?_;refine fK (fun y=>y<4294967296∧val 4294967296 (av.take (i+1))=val 4294967296 (av.take i)+4294967296^i*y) (fun(y:Nat)=>⟨[.a 165 false 1 Nat eS outs],1,[(0,cU xs),(1,cU av),(5,.bj 0 1 0 xs.length xs.length),(9,.i .u64 (((xs[i]+18446744073709551616-c-y)%18446744073709551616:Nat):Int)),(7,.i .i64 i),(13,cU xs),(14,.i .i64 xs.length),(15,.i .i64 i)]⟩) ?_ ?_
  ·refine cf (fun aB=> ?_) (fun aB=> ?_)
   ·have aB:i<av.length:=by simpa using aB
    have DA:av[i]? =some av[i]:=bV aB;have Dc:=U _ (ea aB);refine I ?_;refine ep av[i] DA ?_;refine I ?_;exact ba [0] av[i] ⟨Dc,hF aB⟩ (dK ⟨rfl,rfl,rfl,lN,rfl,rfl,rfl,rfl,trivial⟩ ⟨_,rfl,rfl,fun _=>rfl⟩)
   ·have aB:av.length<=i:=by simpa using aB
    refine I ?_;exact ba [0] 0 ⟨by decide,by rw[jv (by omega),jv aB];simp⟩ (dK ⟨rfl,rfl,rfl,lN,rfl,rfl,rfl,rfl,trivial⟩ ⟨_,rfl,rfl,fun _=>rfl⟩)
  rintro y ⟨aF,fR⟩;generalize aV:(xs[i]+18446744073709551616-c-y)%18446744073709551616=t;refine I ?_;refine jS ?_;refine kX (t%4294967296) ?_;refine I ?_;refine ba [0] (i+1,outs.set i (t%4294967296),t/9223372036854775808) ⟨by show xs.length-(i+1)<xs.length-i;omega,by omega,by simp[gT],mv bE _ (zae _ (by decide)),by omega,?_⟩ (dK ⟨rfl,rfl,rfl,rfl,rfl,rfl,eC,trivial⟩ ⟨_,rfl,rfl,fun _=>rfl⟩);rw[hF (l:=outs.set i _) (by simp;omega),hF h,fR,zba (b5 _),zaW,zak];exact abT aI (by omega)
 ·have h:i=xs.length:=by have:xs.length<=i:=by omega
                         omega
  subst h;refine I ?_;refine jh 43 ?_;refine aC tt outs ⟨bE,by omega⟩ (I ?_);refine au rfl (.of ?_);show c3 _=c3 _;congr 1;rw[jv (b5 _),jv (l:=outs) (by omega),jv hl]at aI;have af:=jW bE;rw[gT]at af;have oj:c=0:=by
   rcases zao 0 c with h|h
   ·have:c=1:=by omega
    rw[this]at aI;omega
   ·omega
  rw[oj]at aI;show _=a-b;omega
def xd:bc where
 L:=Nat×Nat
 args:=fun(a,b)=>[c3 a,c3 b]
 pre:=fun(a,b)=>dI 1073741824 a∧dI 1073741824 b
 res:=fun(a,b)=>.i .i64 (hJ a b)
def zx(h:a<b):hJ a b= -1:=by unfold hJ;rw[zab h]
def FQ(h:b<a):hJ a b=1:=by unfold hJ;rw[zaa (by omega),zaa (by omega)]
def Rs(a:Nat):hJ a a=0:=by unfold hJ;simp
def F9{m:Nat}(h:m<l.length):l=l.take m++l[m]::l.drop (m+1):=by
 rw[<-hk h,zbh]
def Ci:a6 aS.ctx 42 xd.spec:=by
 refine bq [] Va.1 ?_;intro⟨a,b⟩ ⟨(aY:(aT _ a).length<=_),(hb:(aT _ b).length<=_)⟩ H aH;have J:=fW (b:=4294967296) (by decide) a;have U:=fW (b:=4294967296) (by decide) b;have t1:=tw (b:=4294967296) (by decide) a;have t2:=tw (b:=4294967296) (by decide) b;have iF:=fE (b:=4294967296) (by decide) a;have nZ:=fE (b:=4294967296) (by decide) b;show a1.ok _ ⟨_,_,⟨_,_,[(0,cU (aT 4294967296 a)),(1,cU (aT 4294967296 b))]⟩⟩;generalize aT 4294967296 a=xs at *;generalize aT 4294967296 b=av at *;have fin:∀{r:Int},hJ a b=r->bY (.i .i64 r) (xd.res (a,b)):=fun h=>by rw[<-h];exact .refl _
 refine I ?_;refine cf (fun h=> ?_) (fun h=> ?_)
 ·have h:xs.length≠av.length:=by omega
  refine I ?_;refine cf (fun h=> ?_) (fun h=> ?_)
  ·have h:xs.length<av.length:=by omega
   refine I ?_;have:=HN (b:=4294967296) (by decide) J t2 h;exact au rfl (fin (zx (by omega)))
  ·have h:av.length<xs.length:=by have:av.length<=xs.length:=by omega
                                  omega
   refine I ?_;have:=HN (b:=4294967296) (by decide) U t1 h;exact au rfl (fin (FQ (by omega)))
 have h:xs.length=av.length:=by omega
 refine I ?_;refine df (L:=Nat) (fun k=>k<=xs.length∧xs.drop k=av.drop k) (fun(k:Nat)=>⟨[],0,[(0,cU xs),(1,cU av),(5,.i .i64 ((k:Int)-1))]⟩) id [] xs.length ⟨b5 _,by rw[zct,h,zct]⟩ (by show xs.length<bT+1;unfold bT;omega) (iC ⟨rfl,rfl,eC,trivial⟩) ?_;rintro(k:Nat) ⟨ab,aq⟩;cases k with
 |zero=>
  refine I ?_;exact au rfl (fin (by simp at aq;rw[aq]at iF;rw[<-iF,<-nZ];exact Rs _))
 |succ m=>
  have aa:m<xs.length:=by omega
  have aF:m<av.length:=by omega
  have e:((m+1:Nat):Int)-1=(m:Nat):=by omega
  refine ag 5 (.i .i64 (m:Nat)) rfl (dY e) (I ?_);refine ag 20 (.b true) rfl (by simp) (I ?_);refine hK xs[m] (bV aa) ?_;refine I ?_;refine hK av[m] (bV aF) ?_;refine I ?_;have gy:=F9 aa;have mJ:=F9 aF;refine cf (fun h=> ?_) (fun h=> ?_)
  ·have cx:xs[m]≠av[m]:=by omega
   refine I ?_;refine hK xs[m] (bV aa) ?_;refine I ?_;refine hK av[m] (bV aF) ?_;refine I ?_;refine cf (fun h=> ?_) (fun h=> ?_)
   ·have a4:xs[m]<av[m]:=by omega
    refine I ?_;refine au rfl (fin (zx ?_));rw[<-iF,<-nZ,gy,mJ,aq];exact JU (fun x aa=>J x (zbL aa)) (by simp;omega) a4
   ·have a4:av[m]<xs[m]:=by have:av[m]<=xs[m]:=by omega
                            omega
    refine I ?_;refine au rfl (fin (FQ ?_));rw[<-iF,<-nZ,gy,mJ,aq];exact JU (fun x aa=>U x (zbL aa)) (by simp;omega) a4
  ·have he:xs[m]=av[m]:=by omega
   refine I ?_;refine ba [] m ⟨by simp,by omega,?_⟩ (iC ⟨rfl,rfl,eC,trivial⟩);rw[hk aa,hk aF,he,aq]
def NF(hc:c<4294967296)(aa:x<4294967296)(aF:y<4294967296)(ao:o<4294967296):x*y<18446744073709551616∧x*y+o<18446744073709551616∧c+(x*y+o)<18446744073709551616:=by
 have J:x*y<=4294967295*4294967295:=zdL (by omega) (by omega);omega
def Yo{Q:Nat}(fP:P=Q*R)(h:o+P*c=a+Q*(x*b)):o+P*((c+(x*y+d))%B)+P*B*((c+(x*y+d))/B)=a+P*d+Q*(x*(b+R*y)):=by
 have J:P*(c+(x*y+d))=P*((c+(x*y+d))%B)+P*B*((c+(x*y+d))/B):=by
  rw[zat,<-zaz,zeu]
 have U:Q*(x*(b+R*y))=Q*(x*b)+P*(x*y):=by
  rw[fP,zaz,zaz,zat Q R,Nat.mul_left_comm x R y]
 rw[zaz,zaz]at J;omega
def AE:bc where
 L:=Nat×Nat
 args:=fun(a,b)=>[c3 a,c3 b]
 pre:=fun(a,b)=>dI 1073741824 a∧dI 1073741824 b
 res:=fun(a,b)=>c3 (a*b)
def sA:a6 aS.ctx 40 AE.spec:=by
 refine bq [(83,tr.spec)] U5.1 ?_;intro⟨a,b⟩ ⟨(aY:(aT _ a).length<=_),(hb:(aT _ b).length<=_)⟩ H aH;have J:=fW (b:=4294967296) (by decide) a;have U:=fW (b:=4294967296) (by decide) b;have iF:=fE (b:=4294967296) (by decide) a;have nZ:=fE (b:=4294967296) (by decide) b;show a1.ok _ ⟨_,_,⟨_,_,[(0,cU (aT 4294967296 a)),(1,cU (aT 4294967296 b))]⟩⟩;generalize aT 4294967296 a=xs at *;generalize aT 4294967296 b=av at *;refine I ?_;refine ag 15 (.i .i64 ((xs.length+av.length:Nat):Int)) rfl bo ?_;refine pz eS 0 ?_;refine I ?_;refine df (L:=Nat×ac Nat) (fun(i,outs)=>i<=xs.length∧outs.length=xs.length+av.length∧cX 4294967296 outs∧val 4294967296 (outs.take (i+av.length))=val 4294967296 (xs.take i)*val 4294967296 av)
  (fun((i:Nat),(outs:ac Nat))=>⟨[.a 165 false 1 Nat eS outs],1,[(1,cU av),(5,.bj 0 1 0 (xs.length+av.length) (xs.length+av.length)),(17,cU xs),(18,.i .i64 xs.length),(19,.i .i64 i)]⟩)
  (fun l=>xs.length-l.1) [0] (0,List.replicate (xs.length+av.length) 0) ⟨by omega,by simp,sH (by decide) _,by simp[val,val_zero]⟩ (by show xs.length-0<bT+1;unfold bT;omega) du ?_
 rintro⟨i,outs⟩ ⟨hi,gT,bE,aI⟩;refine I ?_;refine cf (fun h=> ?_) (fun h=> ?_)
 ·have h:i<xs.length:=by omega
  have la:=J _ (ea h);refine I ?_;refine ep xs[i] (bV h) ?_;refine I ?_;refine df (L:=Nat×ac Nat×Nat) (fun(j,os,c)=>j<=av.length∧os.length=xs.length+av.length∧cX 4294967296 os∧c<4294967296∧(∀k,i+j<=k->os[k]? =outs[k]?)∧val 4294967296 (os.take (i+j))+4294967296^(i+j)*c=val 4294967296 (outs.take (i+j))+4294967296^i*(xs[i]*val 4294967296 (av.take j)))
   (fun((j:Nat),(os:ac Nat),(c:Nat))=>⟨[.a 165 false 1 Nat eS os],1,[(1,cU av),(5,.bj 0 1 0 (xs.length+av.length) (xs.length+av.length)),(17,cU xs),(18,.i .i64 xs.length),(19,.i .i64 i),(6,.i .i64 i),(7,.i .u32 (xs[i]:Nat)),(8,.i .u64 c),(24,cU av),(25,.i .i64 av.length),(26,.i .i64 j)]⟩)
   (fun l=>av.length-l.1) [0] (0,outs,0) ⟨by omega,gT,bE,by omega,fun _ _=>rfl,by simp[val]⟩ (by show av.length-0<bT+1;unfold bT;omega) du ?_
  rintro⟨j,os,c⟩ ⟨hj,Dj,tR,hc,ml,lK⟩;refine I ?_;refine cf (fun q5=> ?_) (fun q5=> ?_)
  ·have q5:j<av.length:=by omega
   have Hs:=U _ (ea q5);have jq:i+j<os.length:=by omega
   have My:os[i+j]=outs[i+j]:=by
    have:=ml (i+j) (b5 _);rw[bV jq,bV (by omega)]at this;exact Option.some.inj this
   have Mz:=tR _ (ea jq);obtain⟨aM,aN,bf⟩:=NF hc la Hs Mz;refine I ?_;refine ep av[j] (bV q5) ?_;refine I ?_;refine ag 40 (.i .i64 ((i+j:Nat):Int)) rfl bo ?_;refine jS ?_;refine sS os[i+j] (bV jq) ?_
   iterate 3 refine ha ?_
   refine ag 45 (.i .u64 ((c+(xs[i]*av[j]+os[i+j]):Nat):Int)) rfl (dY ?_) ?_
   ·have aw:xs[i]%18446744073709551616=xs[i]:=by omega
    have e2:av[j]%18446744073709551616=av[j]:=by omega
    have bW:os[i+j]%18446744073709551616=os[i+j]:=by omega
    rw[aw,e2,bW,dH aM,dH aN,dH bf]
   refine I ?_;refine ag 49 (.i .i64 ((i+j:Nat):Int)) rfl bo ?_;generalize fY:c+(xs[i]*av[j]+os[i+j])=T at *;refine jS ?_;refine kX (T%4294967296) ?_;refine I ?_;refine ba [0] (j+1,os.set (i+j) (T%4294967296),T/4294967296) ⟨by show av.length-(j+1)<av.length-j;omega,by omega,by simp[Dj],mv tR _ (zae _ (by decide)),by omega,fun k ab=>by rw[zbv (by omega)];exact ml k (by omega),?_⟩
    (dK ⟨rfl,rfl,rfl,rfl,rfl,rfl,rfl,rfl,rfl,rfl,eC,trivial⟩ ⟨_,rfl,rfl,fun _=>rfl⟩)
   rw[<-zbS,hF (l:=os.set (i+j) _) (by simp;omega),hF (l:=outs) (by omega),hF q5,zba (b5 _),zaW,zak,<-My,<-fY];exact Yo (by rw[zal]) lK
  ·have hj:j=av.length:=by omega
   subst hj;refine I ?_;refine ag 60 (.i .i64 ((i+av.length:Nat):Int)) rfl bo (I ?_);refine jS ?_;refine kX (c%4294967296) ?_;refine I ?_;refine ba [0] (i+1,os.set (i+av.length) (c%4294967296)) ⟨by show xs.length-(i+1)<xs.length-i;omega,by omega,by simp[Dj],mv tR _ (zae _ (by decide)),?_⟩ (dK ⟨rfl,rfl,rfl,rfl,eC,trivial⟩ ⟨_,rfl,rfl,fun _=>rfl⟩);rw[show i+1+av.length=i+av.length+1 by omega,hF (l:=os.set _ _) (by simp;omega),zba (b5 _),zaW,dH hc,lK,aI,hF h,jv (b5 _),zan,zat]
 ·have hi:i=xs.length:=by omega
  subst hi;refine I ?_;refine jh 65 ?_;refine aC tt outs ⟨bE,by omega⟩ (I ?_);refine au rfl (.of ?_);show c3 _=c3 _;congr 1;rw[jv (l:=xs) (b5 _),jv (l:=outs) (by omega)]at aI;rw[aI,iF,nZ]
def abA{O:Nat}(h:X=O*d+r):x+B*X=((r*B+x)/d+B*O)*d+(r*B+x)%d:=by
 have J:=zaN (r*B+x) d;rw[zan,h,zat,zai (_/d) d,zaz,zai r B]at *;omega
def abz(hr:r<d)(aa:x<B):(r*B+x)/d<B:=by
 rw[zbd (by omega)];have:(r+1)*B<=d*B:=fq _ hr;rw[zai B d];rw[zan]at this;omega
def Zk(aa:x<2^k):h*2^k|||x=h*2^k+x:=by
 rw[zai,<-zev aa]
def Ob(hr:r<4294967296)(aa:x<4294967296):(r*2^32%18446744073709551616%18446744073709551616|||x%18446744073709551616%18446744073709551616)=r*4294967296+x:=by
 have aw:r*2^32%18446744073709551616%18446744073709551616=r*2^32:=by omega
 have e2:x%18446744073709551616%18446744073709551616=x:=by omega
 rw[aw,e2,Zk (k:=32) aa]
def Pr:bc where
 L:=Nat×Nat
 args:=fun(a,b)=>[c3 a,.i .u32 b]
 pre:=fun(a,b)=>dI 1073741824 a∧0<b∧b<4294967296
 res:=fun(a,b)=>.bu [c3 (a/b),.i .u32 ((a%b:Nat):Int)]
def Ps:a6 aS.ctx 159 Pr.spec:=by
 refine bq [(83,tr.spec)] Te.1 ?_;intro⟨a,d⟩ ⟨(aY:(aT _ a).length<=_),(tG:0<d),(aq:d<_)⟩ H aH;have J:=fW (b:=4294967296) (by decide) a;have iF:=fE (b:=4294967296) (by decide) a;show a1.ok _ ⟨_,_,⟨_,_,[(0,cU (aT 4294967296 a)),(1,.i .u32 d)]⟩⟩;generalize aT 4294967296 a=xs at *;refine I ?_;refine pz eS 0 ?_;refine I ?_;refine df (L:=Nat×ac Nat×Nat) (fun(k,outs,r)=>k<=xs.length∧outs.length=xs.length∧cX 4294967296 outs∧r<d∧val 4294967296 (xs.drop k)=val 4294967296 (outs.drop k)*d+r)
  (fun((k:Nat),(outs:ac Nat),(r:Nat))=>⟨[.a 165 false 1 Nat eS outs],1,[(0,cU xs),(1,.i .u32 d),(4,.bj 0 1 0 xs.length xs.length),(6,.i .u64 r),(7,.i .i64 ((k:Int)-1))]⟩)
  (fun l=>l.1) [0] (xs.length,List.replicate xs.length 0,0) ⟨by omega,by simp,sH (by decide) _,tG,by simp[val]⟩ (by show xs.length<bT+1;unfold bT;omega) (dK ⟨rfl,rfl,rfl,rfl,eC,trivial⟩ ⟨_,rfl,rfl,fun _=>rfl⟩) ?_
 rintro⟨k,outs,r⟩ ⟨ab,gT,bE,hr,aI⟩;cases k with
 |zero=>
  refine I ?_;refine jh 38 ?_;refine aC tt outs ⟨bE,by omega⟩ (I ?_);rw[zap,zap]at aI;have hq:a/d=val 4294967296 outs:=by rw[<-iF,aI,zai];rw[zde tG,zaX hr];omega
  have hm:a%d=r:=by rw[<-iF,aI,zai,Nat.mul_add_mod,dH hr]
  exact au rfl (.bu ⟨.of (by show c3 _=c3 (a/d);rw[hq]),.of (dY (by show((r%4294967296:Nat):Int)=((a%d:Nat):Int);omega)),trivial⟩)
 |succ m=>
  have aa:m<xs.length:=by omega
  have la:=J _ (ea aa);have o6:=abz hr la;have fY:r*4294967296+xs[m]<18446744073709551616:=by
   have:(r+1)*4294967296<=4294967296*4294967296:=fq _ (by omega);omega
  refine ag 7 (.i .i64 (m:Nat)) rfl dY (I ?_);refine ag 15 (.b true) rfl (by simp) (I ?_);refine ep xs[m] (bV aa) ?_
  iterate 3 refine ha ?_
  refine ag 25 (.i .u64 ((r*4294967296+xs[m]:Nat):Int)) rfl (dY (congrArg _ (Ob (by omega) la))) ?_;generalize xD:r*4294967296+xs[m]=T at *;refine I ?_;refine ag 30 (.i .u64 (d:Nat)) rfl dY ?_;refine ap7 ?_;refine I ?_;refine jS ?_;refine kX (T/d%4294967296) ?_;refine I ?_;refine ag 36 (.i .u64 (d:Nat)) rfl dY ?_;refine ap8 ?_;refine I ?_;have ai:xs.drop m=xs[m]::xs.drop (m+1):=hk aa;refine ba [0] (m,outs.set m (T/d%4294967296),T%d) ⟨by simp,by omega,by simp[gT],mv bE _ (zae _ (by decide)),zae _ tG,?_⟩ (dK ⟨rfl,rfl,rfl,rfl,eC,trivial⟩ ⟨_,rfl,rfl,fun _=>rfl⟩);rw[ai,hk (l:=outs.set m _) (by simp;omega),zaW,zcU (by omega),dH o6,<-xD];exact abA aI
def abn(ai:s<32)(hh:h<2^s):h|||(x*2^s)%4294967296=h+(x*2^s)%4294967296:=by
 have e:4294967296=2^s*2^(32-s):=by rw[<-zal,show s+(32-s)=32 by omega]
 have e2:(x*2^s)%4294967296=2^s*(x%2^(32-s)):=by rw[e,zai x,Nat.mul_mod_mul_left]
 rw[e2,zcI,<-zev hh,zbt]
def Iy(ai:s<32):2^s<=2147483648:=by
 have:2^s<=2^31:=zax (by decide) (by omega);exact this
def aqT(ai:s<32)(aa:x<4294967296):x*2^s<9223372036854775808:=by
 have J:x*2^s<=4294967295*2147483648:=zdL (by omega) (Iy ai);omega
def aqS(aa:x<4294967296):x*2^s/4294967296<2^s:=by
 have h0:0<2^s:=zag s;rw[zbd (by decide),zai];exact(Nat.mul_lt_mul_left h0).2 aa
def aqV(aI:o+P*h=a):o+P*(h+v%4294967296)+P*4294967296*(v/4294967296)=a+P*v:=by
 have J:P*v=P*(v%4294967296)+P*4294967296*(v/4294967296):=by
  rw[zat,<-zaz];congr 1;omega
 rw[zaz];omega
def Pl(n:Nat):2^n=2^(n%32)*4294967296^(n/32):=by
 rw[show(4294967296:Nat)=2^32 from rfl,<-zbD,<-zal];congr 1;omega
def ZA(h:k<9223372036854775808):ah.i .i64 (IntKind.i64.wrap ((k:Int).tdiv 32))=ah.i .i64 ((k/32:Nat):Int):=bo rfl (by show _<=((k/32:Nat):Int);omega) (by show((k/32:Nat):Int)<_;omega)
def JA:bc where
 L:=Nat×Nat
 args:=fun(a,b)=>[c3 a,.i .i64 b]
 pre:=fun(a,b)=>dI 1073741824 a∧b<34359738368
 res:=fun(a,b)=>c3 (a*2^b)
def Bs:a6 aS.ctx 161 JA.spec:=by
 refine bq [(83,tr.spec)] Tg.1 ?_;intro⟨a,n⟩ ⟨(aY:(aT _ a).length<=_),(hn:n<_)⟩ H aH;have J:=fW (b:=4294967296) (by decide) a;have iF:=fE (b:=4294967296) (by decide) a;show a1.ok _ ⟨_,_,⟨_,_,[(0,cU (aT 4294967296 a)),(1,.i .i64 n)]⟩⟩;generalize aT 4294967296 a=xs at *;refine I ?_;refine cf (fun h=> ?_) (fun h=> ?_)
 ·have h0:xs=[]:=zbz (by omega);subst h0;have:a=0:=iF.symm;subst this;refine I ?_;exact au rfl (bY.nl.trans (.of (by show cU []=c3 (0*2^n);rw[zas];show _=cU (aT _ 0);rw[ft])))
 iterate 2 refine ha ?_
 refine ha ?_;refine ha ?_;refine ha ?_;refine ha ?_;refine ha ?_;refine ag 15 _ rfl (ZA (by omega)) ?_
 iterate 3 refine ha ?_
 refine ag 17 (.i .i64 ((n%32:Nat):Int)) rfl (dY rfl) ?_;generalize hq:n/32=q;have ai:n%32<32:=zae _ (by decide);have kP:=Pl n;rw[hq]at kP;generalize n%32=s at *;refine I ?_;refine ag 23 (.i .i64 ((xs.length+q+1:Nat):Int)) rfl (by rw[gd (n:=(xs.length:Int)+q) (by omega) (by omega)];exact bo) ?_;refine pz eS 0 ?_;refine I ?_;refine df (L:=Nat×ac Nat) (fun(i,outs)=>i<=xs.length∧outs.length=xs.length+q+1∧cX 4294967296 outs∧(∃h,outs[i+q]? =some h∧h<2^s)∧val 4294967296 (outs.take (i+q+1))=val 4294967296 (xs.take i)*(2^s*4294967296^q))
  (fun((i:Nat),(outs:ac Nat))=>⟨[.a 165 false 1 Nat eS outs],1,[(5,.i .i64 q),(6,.i .u64 s),(7,.bj 0 1 0 (xs.length+q+1) (xs.length+q+1)),(25,cU xs),(26,.i .i64 xs.length),(27,.i .i64 i)]⟩)
  (fun l=>xs.length-l.1) [0] (0,List.replicate (xs.length+q+1) 0) ⟨by omega,by simp,sH (by decide) _,⟨0,by rw[zew,zab (by omega)],zag s⟩,by rw[List.take_replicate,val_zero];simp[val]⟩ (by show xs.length-0<bT+1;unfold bT;omega) (dK ⟨rfl,lN,rfl,rfl,rfl,rfl,trivial⟩ ⟨_,rfl,rfl,fun _=>rfl⟩) ?_
 rintro⟨i,outs⟩ ⟨hi,gT,bE,⟨h,hh,Wy⟩,aI⟩;refine I ?_;refine cf (fun a4=> ?_) (fun a4=> ?_)
 ·have a4:i<xs.length:=by omega
  have la:=J _ (ea a4);have aM:=aqT ai la;have aN:=aqS (s:=s) la;have bf:=Iy ai;refine I ?_;refine ep xs[i] (bV a4) ?_
  iterate 3 refine ha ?_
  iterate 3 refine ha ?_
  iterate 3 refine ha ?_
  iterate 2 refine ha ?_
  refine ag 35 (.i .u64 ((xs[i]*2^s:Nat):Int)) rfl (dY ?_) ?_
  ·rw[dH (a:=xs[i]) (by omega),dH (by omega)]
  generalize hA:xs[i]*2^s=V at *;refine I ?_;refine ag 39 (.i .i64 ((i+q:Nat):Int)) rfl bo ?_;refine jS ?_;refine sS h hh ?_
  iterate 3 refine ha ?_
  refine ag 44 (.i .u32 ((h+V%4294967296:Nat):Int)) rfl (dY ?_) ?_
  ·rw[dH (a:=h) (by omega),zdM,<-hA,abn ai Wy]
  have hu:h+V%4294967296<4294967296:=by
   rw[<-hA,<-abn ai Wy];exact Nat.or_lt_two_pow (n:=32) (by omega) (zae _ (by decide))
  generalize GM:h+V%4294967296=Kp at *;refine jS ?_;refine kX Kp ?_;refine I ?_;refine ag 50 (.i .i64 ((i+q+1:Nat):Int)) rfl (by rw[gd (n:=(i:Int)+q) (by omega) (by omega)];exact bo) ?_;refine jS ?_;refine kX (V/2^32%4294967296) ?_;refine I ?_;have ake:V/2^32%4294967296=V/4294967296:=by omega
  rw[ake];refine ba [0] (i+1,(outs.set (i+q) Kp).set (i+q+1) (V/4294967296)) ⟨by show xs.length-(i+1)<xs.length-i;omega,by omega,by simp[gT],mv (mv bE _ hu) _ (by omega),⟨V/4294967296,by rw[show i+1+q=i+q+1 by omega,zdN (by simp;omega)],aN⟩,?_⟩
   (dK ⟨rfl,rfl,rfl,rfl,rfl,eC,trivial⟩ ⟨_,rfl,rfl,fun _=>rfl⟩)
  have a7:val 4294967296 (outs.take (i+q))+4294967296^(i+q)*h=val 4294967296 (xs.take i)*(2^s*4294967296^q):=by
   rw[<-aI,hF (by omega)];congr 2;exact(Option.some.inj ((bV (by omega)).symm.trans hh)).symm
  have aw:=aqV (v:=V) a7;rw[show i+1+q+1=i+q+1+1 by omega,hF (by simp;omega),zaW,zba (b5 _),hF (by simp;omega),zaW,zba (b5 _),hF a4,<-GM,zak,aw,<-hA,zan,zal];congr 1
  ac_rfl
 ·have hi:i=xs.length:=by omega
  subst hi;refine I ?_;refine jh 56 ?_;refine aC tt outs ⟨bE,by omega⟩ (I ?_);refine au rfl (.of ?_);show c3 _=c3 _;congr 1;rw[jv (l:=xs) (b5 _),jv (l:=outs) (by omega)]at aI;rw[aI,iF,<-kP]
def qp(h:cX b l)(k:Nat):cX b (l.take k):=fun x aa=>h x (zbL aa)
def wj(h:cX b l)(k:Nat):cX b (l.drop k):=fun x aa=>h x (zcJ aa)
def JX(ab:k<=l.length):val b l=val b (l.take k)+b^k*val b (l.drop k):=by
 have:=k0 b (l.take k) (l.drop k);rw[zbh,zay,zaB ab]at this;exact this
def acA(hb:0<b)(h:cX b l)(ab:k<=l.length):val b l/b^k=val b (l.drop k):=by
 have U:=jW (qp h k);rw[zay,zaB ab]at U;rw[JX ab,zcK _ _ (zcu hb),zaX U,zav]
def aq0{W:Nat}(ai:s<32)(gG:W=v+18446744073709551616*R):(W/2^s)%4294967296=(v/2^s)%4294967296:=by
 have e:18446744073709551616*R=2^s*(4294967296*(2^(32-s)*R)):=by
  rw[show(18446744073709551616:Nat)=4294967296*2^32 from rfl,show(2:Nat)^32=2^s*2^(32-s) by rw[<-zal,show s+(32-s)=32 by omega]]
  ac_rfl
 rw[gG,e,zcK _ _ (zag s),zdf]
def abp:bc where
 L:=Nat×Nat
 args:=fun(a,b)=>[c3 a,.i .i64 b]
 pre:=fun(a,b)=>dI 1073741824 a∧b<9223372036854775808
 res:=fun(a,b)=>c3 (a/2^b)
def aqZ:a6 aS.ctx 164 abp.spec:=by
 refine bq [(83,tr.spec)] Tj.1 ?_;intro⟨a,n⟩ ⟨(aY:(aT _ a).length<=_),(hn:n<_)⟩ H aH;have J:=fW (b:=4294967296) (by decide) a;have iF:=fE (b:=4294967296) (by decide) a;show a1.ok _ ⟨_,_,⟨_,_,[(0,cU (aT 4294967296 a)),(1,.i .i64 n)]⟩⟩;generalize aT 4294967296 a=xs at *
 iterate 3 refine ha ?_
 iterate 3 refine ha ?_
 iterate 3 refine ha ?_
 refine ag 11 _ rfl (ZA (by omega)) ?_
 iterate 2 refine ha ?_
 refine ag 13 (.i .i64 ((n%32:Nat):Int)) rfl (dY rfl) ?_;generalize hq:n/32=q;have ai:n%32<32:=zae _ (by decide);have kP:=Pl n;rw[hq]at kP;generalize n%32=s at *;refine I ?_;have hdiv:a/2^n=a/4294967296^q/2^s:=by rw[kP,zai,zaY]
 refine cf (fun h=> ?_) (fun h=> ?_)
 ·refine I ?_;have U:=jW J;have af:4294967296^xs.length<=4294967296^q:=zax (by decide) (by omega);exact au rfl (bY.nl.trans (.of (by show cU []=c3 (a/2^n);rw[hdiv,zaX (show a<4294967296^q by omega),zdg];show _=cU (aT _ 0);rw[ft])))
 have Ag:q<xs.length:=by omega
 refine I ?_;refine ag 22 (.i .i64 ((xs.length-q:Nat):Int)) rfl bo ?_;refine pz eS 0 ?_;refine I ?_;have aki:a/4294967296^q=val 4294967296 (xs.drop q):=by rw[<-iF,acA (by decide) J (by omega)]
 have Wi:=jW (wj J q);rw[zaH]at Wi;generalize iM:xs.length-q=N at *;refine df (L:=Nat×ac Nat) (fun(i,outs)=>i<=N∧outs.length=N∧cX 4294967296 outs∧val 4294967296 (outs.take i)=(val 4294967296 (xs.drop q)/2^s)%4294967296^i)
  (fun((i:Nat),(outs:ac Nat))=>⟨[.a 165 false 1 Nat eS outs],1,[(0,cU xs),(5,.i .i64 q),(6,.i .u64 s),(7,.bj 0 1 0 N N),(25,.i .i64 N),(26,.i .i64 i)]⟩)
  (fun l=>N-l.1) [0] (0,List.replicate N 0) ⟨by omega,by simp,sH (by decide) _,by simp[val,Nat.mod_one]⟩ (by show N-0<bT+1;unfold bT;omega) (dK ⟨rfl,rfl,lN,rfl,rfl,rfl,trivial⟩ ⟨_,rfl,rfl,fun _=>rfl⟩) ?_
 rintro⟨i,outs⟩ ⟨hi,gT,bE,aI⟩;refine I ?_;refine cf (fun a4=> ?_) (fun a4=> ?_)
 ·have ku:i+q<xs.length:=by omega
  have la:=J _ (ea ku);refine I ?_;refine ag 32 (.i .i64 ((i+q:Nat):Int)) rfl bo ?_;refine ep xs[i+q] (bV ku) ?_
  iterate 2 refine ha ?_
  refine ag 35 (.i .u64 (xs[i+q]:Nat)) rfl dY (I ?_);refine fK (fun(v:Nat)=>∃R,val 4294967296 (xs.drop (i+q))=v+18446744073709551616*R) (fun(v:Nat)=>⟨[.a 165 false 1 Nat eS outs],1,[(9,.i .u64 v),(8,.i .i64 i),(0,cU xs),(5,.i .i64 q),(6,.i .u64 s),(7,.bj 0 1 0 N N),(25,.i .i64 N),(26,.i .i64 i)]⟩) ?_ ?_
  ·have R0:IntKind.i64.wrap (IntKind.i64.wrap ((i:Int)+q)+1)=((i+q+1:Nat):Int):=by rw[gd (n:=(i:Int)+q) (by omega) (by omega),gd]<;>omega
   rw[R0];refine cf (fun C6=> ?_) (fun C6=> ?_)
   ·have C6:i+q+1<xs.length:=by omega
    have Hs:=J _ (ea C6);refine I ?_;refine ag 48 (.i .i64 ((i+q+1:Nat):Int)) rfl (dY R0) ?_;refine ep xs[i+q+1] (bV C6) ?_;refine I ?_;refine ba [0] (xs[i+q]+4294967296*xs[i+q+1]) ⟨val 4294967296 (xs.drop (i+q+1+1)),?_⟩ (dK ⟨lN (congrArg _ ?_),rfl,rfl,rfl,rfl,rfl,rfl,rfl,trivial⟩ ⟨_,rfl,rfl,fun _=>rfl⟩)
    ·rw[hk ku,hk C6,val,val];omega
    ·have aw:xs[i+q+1]%18446744073709551616*2^32%18446744073709551616%18446744073709551616=xs[i+q+1]*2^32:=by omega
     have e2:xs[i+q]%18446744073709551616=xs[i+q]:=by omega
     rw[aw,e2,zcI,Zk (k:=32) la];omega
   ·refine I ?_;refine ba [0] xs[i+q] ⟨0,?_⟩ du;rw[hk ku,zcf (by omega),val,val]
  rintro(v:Nat) ⟨R,dm⟩;refine I ?_;refine aaC ?_;refine I ?_;refine jS ?_;refine kX (v/2^s%4294967296) ?_;refine I ?_;refine ba [0] (i+1,outs.set i (v/2^s%4294967296)) ⟨by show N-(i+1)<N-i;omega,by omega,by simp[gT],mv bE _ (zae _ (by decide)),?_⟩ (dK ⟨rfl,rfl,rfl,rfl,rfl,eC,trivial⟩ ⟨_,rfl,rfl,fun _=>rfl⟩);rw[hF (by simp;omega),zba (b5 _),zaW,aI,zak,Nat.mod_mul,<-aq0 ai dm,zaY,zai (2^s),<-zaY,acA (by decide) (wj J q) (by simp;omega),zbC,zbt q i]
 ·have ak7:i=N:=by omega
  subst ak7;refine I ?_;refine jh 62 ?_;refine aC tt outs ⟨bE,by omega⟩ (I ?_);refine au rfl (.of ?_);show c3 _=c3 _;congr 1;rw[jv (l:=outs) (by omega),dH (zaG (zau _ _) Wi)]at aI;show _=a/2^n;rw[aI,hdiv,aki]
def bI(n:Nat):Nat:=if n=0 then 0 else Nat.log2 n+1
def vf{n:Nat}(h:1<=n):bI n=bI (n/2)+1:=by
 unfold bI;rw[zaa (by omega)];by_cases U:n/2=0
 ·rw[zab U];have:n=1:=by omega
  subst this;rfl
 ·rw[zaa U,Nat.log2_def,zab (by omega)]
theorem Ca:∀(k n:Nat),2^k<=n->bI n=bI (n/2^k)+k
 |0,n,_=>by simp
 |k+1,n,h=>by
  have h0:2^(k+1)=2*2^k:=by rw[zak,zai]
  have hp:0<2^k:=zag k;rw[vf (by omega),Ca k (n/2) (by rw[zbM (by decide)];omega),zaY,h0];omega
def qP{n:Nat}(h:n≠0):2^(bI n-1)<=n∧n<2^bI n:=by
 unfold bI;rw[zaa h];exact⟨Nat.log2_self_le h,Nat.lt_log2_self⟩
def ad4{n k:Nat}(J:2^k<=n)(U:n<2^(k+1)):bI n=k+1:=by
 have h0:n≠0:=by have:=zag k;omega
 obtain⟨a,b⟩:=qP h0;have:=(zdh (by decide:1<2)).1 (zaG J b);have:=(zdh (by decide:1<2)).1 (zaG a U);omega
def ot:bc where
 L:=Nat
 args:=fun n=>[.i .u32 n]
 pre:=fun n=>n<4294967296
 res:=fun n=>.i .i64 (bI n:Nat)
def XN:a6 aS.ctx 264 ot.spec:=by
 refine bq [] Uh.1 ?_;intro(n:Nat) (hn:n<4294967296) H aH;refine I ?_;refine fK (fun((m:Nat),(k:Nat))=>m<65536∧k<=16∧bI n=bI m+k) (fun(m,k)=>⟨[],0,[(0,.i .u32 m),(2,.i .i64 k)]⟩) ?_ ?_
 ·refine cf (fun h=> ?_) (fun h=> ?_)
  ·refine I ?_;exact ba [] (n/65536,16) ⟨by omega,by decide,Ca 16 n (by omega)⟩ ew
  ·refine I ?_;exact ba [] (n,0) ⟨by omega,by decide,rfl⟩ ew
 rintro⟨m,k⟩ ⟨hm,ab,hb⟩;refine I ?_;refine fK (fun((m:Nat),(k:Nat))=>m<256∧k<=24∧bI n=bI m+k) (fun(m,k)=>⟨[],0,[(0,.i .u32 m),(2,.i .i64 k)]⟩) ?_ ?_
 ·refine cf (fun h=> ?_) (fun h=> ?_)
  ·refine I ?_;exact ba [] (m/256,k+8) ⟨by omega,by omega,by rw[hb,Ca 8 m (by omega),show(2:Nat)^8=256 from rfl];omega⟩ (iC ⟨rfl,eC,trivial⟩)
  ·refine I ?_;exact ba [] (m,k) ⟨by omega,by omega,hb⟩ ew
 rintro⟨m,k⟩ ⟨hm,ab,hb⟩;refine I ?_;refine ag 15 (.i .u8 (m:Nat)) rfl dY ?_;have hv:∀m,m<256->([0,1,2,2,3,3,3,3,4,4,4,4,4,4,4,4,5,5,5,5,5,5,5,5,5,5,5,5,5,5,5,5,6,6,6,6,6,6,6,6,6,6,6,6,6,6,6,6,6,6,6,6,6,6,6,6,6,6,6,6,6,6,6,6,7,7,7,7,7,7,7,7,7,7,7,7,7,7,7,7,7,7,7,7,7,7,7,7,7,7,7,7,7,7,7,7,7,7,7,7,7,7,7,7,7,7,7,7,7,7,7,7,7,7,7,7,7,7,7,7,7,7,7,7,7,7,7,7,8,8,8,8,8,8,8,8,8,8,8,8,8,8,8,8,8,8,8,8,8,8,8,8,8,8,8,8,8,8,8,8,8,8,8,8,8,8,8,8,8,8,8,8,8,8,8,8,8,8,8,8,8,8,8,8,8,8,8,8,8,8,8,8,8,8,8,8,8,8,8,8,8,8,8,8,8,8,8,8,8,8,8,8,8,8,8,8,8,8,8,8,8,8,8,8,8,8,8,8,8,8,8,8,8,8,8,8,8,8,8,8,8,8,8,8,8,8,8,8,8,8,8,8,8,8,8,8]:ac bv)[m]? =some (UInt8.ofNat (bI m))∧bI m<=8:=by decide +kernel
 obtain⟨t1,t2⟩:=hv m hm;refine mF _ t1 ?_;refine I ?_;have e:(UInt8.ofNat (bI m)).toNat=bI m:=by simp;omega
 rw[e];refine au rfl (.of ?_);show ah.i _ _=ah.i .i64 (bI n:Nat);rw[hb,gd (n:=((bI m:Nat):Int)) (by omega) (by omega)];exact bo
def XY:bc where
 L:=Nat
 args:=fun n=>[.i .u32 n]
 pre:=fun n=>n<4294967296
 res:=fun n=>.i .i64 ((32-bI n:Nat):Int)
def KT{n:Nat}(h:n<4294967296):bI n<=32:=by
 by_cases h0:n=0
 ·subst h0;decide
 ·have:=(qP h0).1;have:=(zdh (by decide:1<2)).1 (zaG this (show n<2^32 from h));omega
def anJ:a6 aS.ctx 160 XY.spec:=by
 refine bq [(264,ot.spec)] Tf.1 ?_;intro(n:Nat) (hn:n<4294967296) H aH;refine I ?_;refine aC XN n hn (I ?_);have:=KT hn;exact au rfl (.of bo)
def mS(b:Nat):Nat->Nat->ac Nat
 |0,_=>[]
 |k+1,n=>n%b::mS b k (n/b)
theorem Ct(b:Nat):∀k n,(mS b k n).length=k
 |0,_=>rfl
 |k+1,n=>by simp[mS,Ct b k]
theorem RT{b:Nat}(hb:0<b):∀k n,cX b (mS b k n)
 |0,_=>fun x aa=>by simp[mS]at aa
 |k+1,n=>fun x aa=>by
  rcases zar.1 aa with rfl|aa
  ·exact zae _ hb
  ·exact RT hb k _ x aa
theorem Li{b:Nat}:∀k n,val b (mS b k n)=n%b^k
 |0,n=>by simp[mS,val,Nat.mod_one]
 |k+1,n=>by rw[mS,val,Li k,zak,zai (b^k) b,Nat.mod_mul]
theorem F2{b:Nat}(hb:0<b):∀{l:ac Nat} {n k:Nat},cX b l->l.length=k->val b l=n->l=mS b k n
 |[],_,_,_,rfl,_=>rfl
 |d::l,_,_,h,rfl,rfl=>by
  have J:=h d (by simp);rw[zaD,mS,val,zdf,dH J,zcK _ _ hb,zaX J,zav,<-F2 hb (fun x aa=>h x (zaM _ aa)) rfl rfl]
def abC{os:ac Nat}(hl:os.length=us.length)(hj:j+k<=us.length)(ai:∀p,p<j∨j+k<=p->os[p]? =us[p]?):os=us.take j++((os.drop j).take k++us.drop (j+k)):=by
 apply zbJ;intro p;by_cases J:p<j
 ·rw[zbc (by simp;omega),zaK,zab J];exact ai p (.inl J)
 ·rw[zaQ (by simp;omega),zay,zaB (by omega)];by_cases U:p<j+k
  ·rw[zbc (by simp;omega),zaK,zab (by omega),zaI];congr 1;omega
  ·rw[zaQ (by simp;omega)];have:((os.drop j).take k).length=k:=by simp;omega
   rw[this,zaI,ai p (.inr (by omega))];congr 1;omega
def rT(h:j+i<l.length):val b ((l.drop j).take (i+1))=val b ((l.drop j).take i)+b^i*l[j+i]:=by
 rw[hF (by simp;omega),zdZ]
def iY(us:ac Nat)(j k n:Nat):ac Nat:=us.take j++(mS 4294967296 k n++us.drop (j+k))
def ey(us:ac Nat)(j k:Nat):Nat:=val 4294967296 ((us.drop j).take k)
def abV:iH where
 L:=ac Nat×Nat×ac Nat×Nat
 own:=fun(us,_,_,_)=>[.a 165 false 1 Nat eS us]
 args:=fun(us,j,vs,g)=>[.bj 0 1 j (us.length-j) (us.length-j),cU vs,.i .u64 g]
 pre:=fun(us,j,vs,g)=>j+vs.length<us.length∧cX 4294967296 us∧cX 4294967296 vs∧g<4294967296∧us.length<=1099511627776
 bP:=fun(us,j,vs,g)=>[.a 165 false 1 Nat eS (iY us j (vs.length+1) (ey us j (vs.length+1)+(if ey us j (vs.length+1)<g*val 4294967296 vs then 4294967296^(vs.length+1)else 0)-g*val 4294967296 vs))]
 res:=fun(us,j,vs,g)=>.b (decide (ey us j (vs.length+1)<g*val 4294967296 vs))
def asP:a6 aS.ctx 162 abV.spec:=by
 refine Re [] Th.1 ?_;rintro⟨us,j,vs,g⟩ ⟨h0,J,U,aO,tU⟩ H i0 aH hi;obtain⟨km,rfl⟩:∃b,i0=[b]:=zex.1 hi;show a1.ok _ ⟨_,_,⟨[.a 165 false 1 Nat eS us],1,[(0,.bj 0 1 j (us.length-j) (us.length-j)),(1,cU vs),(2,.i .u64 g)]⟩⟩;refine I ?_;refine df (L:=Nat×ac Nat×Nat×Nat) (fun(i,os,c,w)=>i<=vs.length∧os.length=us.length∧cX 4294967296 os∧c<4294967296∧w<=1∧(∀p,p<j∨j+i<=p->os[p]? =us[p]?)∧ey us j i+4294967296^i*(c+w)=ey os j i+g*val 4294967296 (vs.take i))
  (fun((i:Nat),(os:ac Nat),(c:Nat),(w:Nat))=>⟨[.a 165 false 1 Nat eS os],1,[(0,.bj 0 1 j (us.length-j) (us.length-j)),(1,cU vs),(2,.i .u64 g),(7,.i .u64 c),(8,.i .u64 w),(13,cU vs),(14,.i .i64 vs.length),(15,.i .i64 i)]⟩)
  (fun l=>vs.length-l.1) [0] (0,us,0,0) ⟨by omega,rfl,J,by omega,by omega,fun _ _=>rfl,by simp[ey,val]⟩ (by show vs.length-0<bT+1;unfold bT;omega) du ?_
 rintro⟨i,os,c,w⟩ ⟨jb,gT,bE,hc,hw,ml,aI⟩;refine I ?_;refine cf (fun h=> ?_) (fun h=> ?_)
 ·have h:i<vs.length:=by omega
  have aa:=U _ (ea h);have mZ:j+i<os.length:=by omega
  have xQ:os[j+i]=us[j+i]:=by
   have:=ml (j+i) (.inr (b5 _));rw[bV mZ,bV (by omega)]at this;exact Option.some.inj this
  have ao:=bE _ (ea mZ);obtain⟨fc,hQ,yd⟩:=NF (o:=0) hc aO aa (by decide);refine I ?_;refine ep vs[i] (bV h) ?_;refine an 25 ?_;refine ag 25 (.i .u64 ((c+g*vs[i]:Nat):Int)) rfl (dY (congrArg _ ?_)) ?_
  ·rw[dH (a:=vs[i]) (by omega),dH fc,dH (by omega)]
  have fY:c+g*vs[i]<18446744073709551616:=by omega
  generalize xD:c+g*vs[i]=T at *;refine I ?_;refine uG ?_;refine sS os[j+i] (bV mZ) ?_;refine an 36 ?_;refine ag 36 (.i .u64 (((os[j+i]+18446744073709551616-T%4294967296-w)%18446744073709551616:Nat):Int)) rfl dY ?_;generalize aV:(os[j+i]+18446744073709551616-T%4294967296-w)%18446744073709551616=t at *;refine I ?_;refine uG ?_;refine kX (t%4294967296) ?_;refine I ?_;refine ba [0] (i+1,os.set (j+i) (t%4294967296),T/4294967296,t/9223372036854775808) ⟨by show vs.length-(i+1)<vs.length-i;omega,by omega,by simp[gT],mv bE _ (zae _ (by decide)),by omega,by omega,fun p hp=> ?_,?_⟩
   (dK ⟨rfl,rfl,rfl,rfl,rfl,rfl,rfl,eC,trivial⟩ ⟨_,rfl,rfl,fun _=>rfl⟩)
  ·rw[zbv (by omega)];exact ml p (by omega)
  ·unfold ey at aI⊢;rw[rT (by omega),rT (l:=os.set _ _) (by simp;omega),zaW,hF h,<-xQ,zak];have aw:((os.set (j+i) (t%4294967296)).drop j).take i=(os.drop j).take i:=by
    rw[zdO];rw[zaa (by omega),show j+i-j=i by omega,zba (b5 _)]
   rw[aw];have aq:os[j+i]+4294967296*(t/9223372036854775808)=t%4294967296+T%4294967296+w:=by omega
   have akd:T=T%4294967296+4294967296*(T/4294967296):=by omega
   generalize t/9223372036854775808=w' at *;generalize T/4294967296=b6 at *;generalize T%4294967296=fV at *;generalize t%4294967296=lv at *;generalize 4294967296^i=P at *;have a5:P*(os[j+i]+4294967296*w')=P*(lv+fV+w):=by rw[aq]
   have bD:P*(c+g*vs[i])=P*(fV+4294967296*b6):=by rw[xD,akd]
   rw[zaz g,Nat.mul_left_comm g P];simp only[zaz,zat]at a5 bD aI⊢;omega
 ·have hi:i=vs.length:=by omega
  subst hi;have mZ:j+vs.length<os.length:=by omega
  have xQ:os[j+vs.length]=us[j+vs.length]:=by
   have:=ml (j+vs.length) (.inr (b5 _));rw[bV mZ,bV (by omega)]at this;exact Option.some.inj this
  have ao:=bE _ (ea mZ);refine I ?_;refine uG ?_;refine sS os[j+vs.length] (bV mZ) ?_;refine an 56 ?_;refine ag 56 (.i .u64 (((os[j+vs.length]+18446744073709551616-c-w)%18446744073709551616:Nat):Int)) rfl dY ?_;generalize aV:(os[j+vs.length]+18446744073709551616-c-w)%18446744073709551616=t at *;refine I ?_;refine uG ?_;refine kX (t%4294967296) ?_;refine I ?_;have Dk:cX 4294967296 (os.set (j+vs.length) (t%4294967296)):=mv bE _ (zae _ (by decide));have pd:(((os.set (j+vs.length) (t%4294967296)).drop j).take (vs.length+1)).length=vs.length+1:=by simp;omega
  have GK:=jW (qp (wj Dk j) (vs.length+1));rw[pd]at GK;have vO:=abC (us:=us) (os:=os.set (j+vs.length) (t%4294967296)) (j:=j) (k:=vs.length+1) (by simp[gT]) (by omega) (fun p hp=>by rw[zbv (by omega)];exact ml p (by omega));have L9:=F2 (b:=4294967296) (by decide) (qp (wj Dk j) (vs.length+1)) pd rfl;generalize aka:val 4294967296 (((os.set (j+vs.length) (t%4294967296)).drop j).take (vs.length+1))=O at *;have key:ey us j (vs.length+1)+4294967296^(vs.length+1)*(t/9223372036854775808)=O+g*val 4294967296 vs:=by
   rw[<-aka];unfold ey at aI⊢;rw[rT (by omega),rT (l:=os.set _ _) (by simp;omega),zaW,<-xQ,zak];have aw:((os.set (j+vs.length) (t%4294967296)).drop j).take vs.length=(os.drop j).take vs.length:=by
    rw[zdO];rw[zaa (by omega),show j+vs.length-j=vs.length by omega,zba (b5 _)]
   rw[aw];rw[jv (b5 _)]at aI;have aq:os[j+vs.length]+4294967296*(t/9223372036854775808)=t%4294967296+c+w:=by omega
   generalize t/9223372036854775808=w' at *;generalize t%4294967296=lv at *;generalize 4294967296^vs.length=P at *;have a5:P*(os[j+vs.length]+4294967296*w')=P*(lv+c+w):=by rw[aq]
   simp only[zaz,zat]at a5 aI⊢;omega
  have GN:ey us j (vs.length+1)+(if ey us j (vs.length+1)<g*val 4294967296 vs then 4294967296^(vs.length+1)else 0)-g*val 4294967296 vs=O∧(t/2^63=1↔ey us j (vs.length+1)<g*val 4294967296 vs):=by
   rcases(show t/9223372036854775808=0∨t/9223372036854775808=1 by omega)with hb|hb
   ·rw[hb]at key;rw[zaa (by omega)];exact⟨by omega,by omega⟩
   ·rw[hb]at key;rw[zab (by omega)];exact⟨by omega,by omega⟩
  refine mE ⟨.inr rfl,⟨_,rfl,rfl,.of ?_⟩,[0],rfl,dK trivial ⟨_,rfl,?_,fun _=>rfl⟩⟩
  ·show ah.b (decide (((t/2^63:Nat):Int)=1))=ah.b (decide (ey us j (vs.length+1)<g*val 4294967296 vs));congr 1;rw[decide_eq_decide,<-GN.2];exact⟨fun h=>by omega,fun h=>by omega⟩
  ·show bp.a _ _ _ _ _ _=bp.a _ _ _ _ _ _;congr 1;rw[GN.1];unfold iY;rw[<-L9];exact vO
def V0:iH where
 L:=ac Nat×Nat×ac Nat
 own:=fun(us,_,_)=>[.a 165 false 1 Nat eS us]
 args:=fun(us,j,vs)=>[.bj 0 1 j (us.length-j) (us.length-j),cU vs]
 pre:=fun(us,j,vs)=>j+vs.length<us.length∧cX 4294967296 us∧cX 4294967296 vs∧us.length<=1099511627776
 bP:=fun(us,j,vs)=>[.a 165 false 1 Nat eS (iY us j (vs.length+1) (ey us j (vs.length+1)+val 4294967296 vs))]
 res:=fun _=>.bu []
theorem Lh{b:Nat}:∀k n,mS b k (n%b^k)=mS b k n
 |0,n=>rfl
 |k+1,n=>by
  rw[mS,mS,zak,zai (b^k) b,zey,zez,Lh]
def ajy:a6 aS.ctx 163 V0.spec:=by
 refine Re [] Ti.1 ?_;rintro⟨us,j,vs⟩ ⟨h0,J,U,tU⟩ H i0 aH hi;obtain⟨km,rfl⟩:∃b,i0=[b]:=zex.1 hi;show a1.ok _ ⟨_,_,⟨[.a 165 false 1 Nat eS us],1,[(0,.bj 0 1 j (us.length-j) (us.length-j)),(1,cU vs)]⟩⟩;refine I ?_;refine df (L:=Nat×ac Nat×Nat) (fun(i,os,c)=>i<=vs.length∧os.length=us.length∧cX 4294967296 os∧c<=1∧(∀p,p<j∨j+i<=p->os[p]? =us[p]?)∧ey os j i+4294967296^i*c=ey us j i+val 4294967296 (vs.take i))
  (fun((i:Nat),(os:ac Nat),(c:Nat))=>⟨[.a 165 false 1 Nat eS os],1,[(0,.bj 0 1 j (us.length-j) (us.length-j)),(1,cU vs),(4,.i .u64 c),(7,cU vs),(8,.i .i64 vs.length),(9,.i .i64 i)]⟩)
  (fun l=>vs.length-l.1) [0] (0,us,0) ⟨by omega,rfl,J,by omega,fun _ _=>rfl,by simp[ey,val]⟩ (by show vs.length-0<bT+1;unfold bT;omega) du ?_
 rintro⟨i,os,c⟩ ⟨jb,gT,bE,hc,ml,aI⟩;refine I ?_;refine cf (fun h=> ?_) (fun h=> ?_)
 ·have h:i<vs.length:=by omega
  have aa:=U _ (ea h);have mZ:j+i<os.length:=by omega
  have xQ:os[j+i]=us[j+i]:=by
   have:=ml (j+i) (.inr (b5 _));rw[bV mZ,bV (by omega)]at this;exact Option.some.inj this
  have ao:=bE _ (ea mZ);refine I ?_;refine ep vs[i] (bV h) ?_;refine I ?_;refine uG ?_;refine sS os[j+i] (bV mZ) ?_;refine an 23 ?_;refine ag 23 (.i .u64 ((c+os[j+i]+vs[i]:Nat):Int)) rfl dY (I ?_);refine uG ?_;refine kX ((c+os[j+i]+vs[i])%4294967296) ?_;refine I ?_;refine ba [0] (i+1,os.set (j+i) ((c+os[j+i]+vs[i])%4294967296),(c+os[j+i]+vs[i])/4294967296) ⟨by show vs.length-(i+1)<vs.length-i;omega,by omega,by simp[gT],mv bE _ (zae _ (by decide)),by omega,fun p hp=> ?_,?_⟩
   (dK ⟨rfl,rfl,rfl,rfl,rfl,eC,trivial⟩ ⟨_,rfl,rfl,fun _=>rfl⟩)
  ·rw[zbv (by omega)];exact ml p (by omega)
  ·unfold ey at aI⊢;rw[rT (l:=us) (by omega),rT (l:=os.set _ _) (by simp;omega),zaW,hF h,<-xQ,zak];have aw:((os.set (j+i) ((c+os[j+i]+vs[i])%4294967296)).drop j).take i=(os.drop j).take i:=by
    rw[zdO];rw[zaa (by omega),show j+i-j=i by omega,zba (b5 _)]
   rw[aw];exact Qm (by decide) aI
 ·have hi:i=vs.length:=by omega
  subst hi;have mZ:j+vs.length<os.length:=by omega
  have xQ:os[j+vs.length]=us[j+vs.length]:=by
   have:=ml (j+vs.length) (.inr (b5 _));rw[bV mZ,bV (by omega)]at this;exact Option.some.inj this
  have ao:=bE _ (ea mZ);refine I ?_;refine uG ?_;refine sS os[j+vs.length] (bV mZ) ?_;refine an 39 ?_;refine ag 39 (.i .u32 (((os[j+vs.length]+c)%4294967296:Nat):Int)) rfl dY ?_;generalize aV:(os[j+vs.length]+c)%4294967296=t at *;refine uG ?_;refine kX t ?_;refine I ?_;have Dk:cX 4294967296 (os.set (j+vs.length) t):=mv bE _ (by omega);have pd:(((os.set (j+vs.length) t).drop j).take (vs.length+1)).length=vs.length+1:=by simp;omega
  have GK:=jW (qp (wj Dk j) (vs.length+1));rw[pd]at GK;have vO:=abC (us:=us) (os:=os.set (j+vs.length) t) (j:=j) (k:=vs.length+1) (by simp[gT]) (by omega) (fun p hp=>by rw[zbv (by omega)];exact ml p (by omega));have L9:=F2 (b:=4294967296) (by decide) (qp (wj Dk j) (vs.length+1)) pd rfl;have key:(ey us j (vs.length+1)+val 4294967296 vs)%4294967296^(vs.length+1)=val 4294967296 (((os.set (j+vs.length) t).drop j).take (vs.length+1)):=by
   rw[<-dH GK];have:ey us j (vs.length+1)+val 4294967296 vs=val 4294967296 (((os.set (j+vs.length) t).drop j).take (vs.length+1))+4294967296^(vs.length+1)*((os[j+vs.length]+c)/4294967296):=by
    unfold ey at aI⊢;rw[rT (l:=us) (by omega),rT (l:=os.set _ _) (by simp;omega),zaW,<-xQ,zak];have aw:((os.set (j+vs.length) t).drop j).take vs.length=(os.drop j).take vs.length:=by
     rw[zdO];rw[zaa (by omega),show j+vs.length-j=vs.length by omega,zba (b5 _)]
    rw[aw];rw[jv (l:=vs) (b5 _)]at aI;have aq:os[j+vs.length]+c=t+4294967296*((os[j+vs.length]+c)/4294967296):=by omega
    generalize(os[j+vs.length]+c)/4294967296=b6 at *;generalize 4294967296^vs.length=P at *;have a5:P*(os[j+vs.length]+c)=P*(t+4294967296*b6):=by rw[aq]
    simp only[zaz,zat]at a5 aI⊢;omega
   rw[this,zdf]
  refine mE ⟨.inl rfl,⟨_,rfl,rfl,.refl _⟩,[0],rfl,dK trivial ⟨_,rfl,?_,fun _=>rfl⟩⟩;show bp.a _ _ _ _ _ _=bp.a _ _ _ _ _ _;congr 1;unfold iY;rw[<-Lh,key,<-L9];exact vO
def J2(h:j+k<=us.length):(iY us j k X).length=us.length:=by
 unfold iY;simp[Ct];omega
def acH(h:cX 4294967296 us):cX 4294967296 (iY us j k X):=fun x aa=>by
 unfold iY at aa;simp only[zcd]at aa;rcases aa with aa|aa|aa
 ·exact h x (zbL aa)
 ·exact RT (by decide) _ _ x aa
 ·exact h x (zcJ aa)
def atU(h:j+k<=us.length):val 4294967296 (iY us j k X)=val 4294967296 (us.take j)+4294967296^j*(X%4294967296^k+4294967296^k*val 4294967296 (us.drop (j+k))):=by
 unfold iY;rw[k0,k0,Li,Ct,zay,zaB (by omega)]
def atV{Y:Nat}(h:j+k<=us.length):iY (iY us j k X) j k Y=iY us j k Y:=by
 unfold iY;rw[zeq (by simp;omega)];congr 2;rw[<-zbC,zdK (by simp;omega),zdK (Ct _ _ _)]
def at1(h:j+k<=us.length):ey (iY us j k X) j k=X%4294967296^k:=by
 unfold ey iY;rw[zdK (by simp;omega),zeq (Ct _ _ _),Li]
def atS:iY us j k (X%4294967296^k)=iY us j k X:=by
 unfold iY;rw[Lh]
def atT(h:j+k<=us.length)(bE:cX 4294967296 us):iY us j k (ey us j k)=us:=by
 unfold iY ey;rw[<-F2 (by decide) (qp (wj bE j) k) (by simp;omega) rfl];rw[<-zbC,zbh,zbh]
def acI{n:Nat}(bE:cX 4294967296 us)(h:j+(n+1)<=us.length)(hA:V<4294967296^n)(hu:val 4294967296 us<V*4294967296^(j+1)):
 val 4294967296 us=val 4294967296 (us.take j)+4294967296^j*ey us j (n+1)∧val 4294967296 (us.drop (j+(n+1)))=0∧ey us j (n+1)<V*4294967296:=by
 have aw:=JX (b:=4294967296) (l:=us) (k:=j) (by omega);have e2:=JX (b:=4294967296) (l:=us.drop j) (k:=n+1) (by simp;omega);rw[zbC]at e2;have aJ:val 4294967296 (us.drop (j+(n+1)))=0:=by
  rcases zcH (val 4294967296 (us.drop (j+(n+1))))with h0|h0
  ·exact h0
  ·exfalso;have J:4294967296^(j+(n+1))*1<=4294967296^(j+(n+1))*val 4294967296 (us.drop (j+(n+1))):=lp _ h0;have U:V*4294967296^(j+1)<=4294967296^n*4294967296^(j+1):=fq _ (by omega);rw[<-zal,show n+(j+1)=j+(n+1) by omega]at U;rw[e2,zaz,<-zat,<-zal]at aw;omega
 rw[aJ,zbw,zaJ]at e2;refine⟨by rw[aw,e2];rfl,aJ,?_⟩;have af:4294967296^j*ey us j (n+1)<4294967296^j*(V*4294967296):=by
  have:V*4294967296^(j+1)=4294967296^j*(V*4294967296):=by rw[zak];ac_rfl
  have bW:val 4294967296 (us.drop j)=ey us j (n+1):=e2;rw[bW]at aw;omega
 exact Nat.lt_of_mul_lt_mul_left af
def afU{dh:ac Nat}{n A:Nat}(bE:cX 4294967296 us)(h:j+(n+1)<=us.length)(hj:j<dh.length)(sc:0<V)(hA:V<4294967296^n)(hu:val 4294967296 us<V*4294967296^(j+1))(er:A=val 4294967296 (dh.drop (j+1))*4294967296^(j+1)*V+val 4294967296 us):
 val 4294967296 (iY us j (n+1) (ey us j (n+1)%V))<V*4294967296^j∧A=val 4294967296 ((dh.set j (ey us j (n+1)/V)).drop j)*4294967296^j*V+val 4294967296 (iY us j (n+1) (ey us j (n+1)%V)):=by
 obtain⟨J,U,af⟩:=acI bE h hA hu;have hm:=zae (ey us j (n+1)) sc;have aq:=zaN (ey us j (n+1)) V;have auy:4294967296^n<=4294967296^(n+1):=zax (by decide) (by omega);rw[atU h,U,zbw,zaJ,dH (a:=ey us j (n+1)%V) (by omega)];have a4:=jW (qp bE j);rw[zay,zaB (by omega)]at a4;constructor
 ·have:4294967296^j*(ey us j (n+1)%V+1)<=4294967296^j*V:=lp _ hm;rw[zaz,zaE]at this;rw[zai V];omega
 ·have aw:val 4294967296 ((dh.set j (ey us j (n+1)/V)).drop j)=ey us j (n+1)/V+4294967296*val 4294967296 (dh.drop (j+1)):=by
   rw[hk (by simp;omega),zaW,zcU (by omega)];rfl
  have e2:4294967296^j*ey us j (n+1)=4294967296^j*(V*(ey us j (n+1)/V))+4294967296^j*(ey us j (n+1)%V):=by rw[<-zaz,aq]
  rw[er,J,aw,e2,zan,zan,zak];have bW:ey us j (n+1)/V*4294967296^j*V=4294967296^j*(V*(ey us j (n+1)/V)):=by ac_rfl
  have e6:4294967296*val 4294967296 (dh.drop (j+1))*4294967296^j*V=val 4294967296 (dh.drop (j+1))*(4294967296^j*4294967296)*V:=by ac_rfl
  rw[bW,e6];omega
def aoj{av:ac Nat}{m:Nat}(hl:av.length=m+2)(bE:cX 4294967296 av)(aV:eF av=av)(aI:val 4294967296 av=b):
 bI av[m+1]<=32∧0<bI av[m+1]∧b*2^(32-bI av[m+1])<4294967296^(m+2)∧2147483648*4294967296^(m+1)<=b*2^(32-bI av[m+1]):=by
 have aq:av[m+1]≠0:=by
  have e:av=av.take (m+1)++[av[m+1]]:=by
   have:=zbh (m+1) av;rw[hk (by omega),zcf (by omega)]at this;exact this.symm
  have:=aV;rw[e]at this;exact(AI (b:=4294967296) this).2
 have a4:=bE _ (ea (show m+1<av.length by omega));have aj0:=KT a4;obtain⟨aM,aN⟩:=qP aq;have k4:0<bI av[m+1]:=by unfold bI;rw[zaa aq];omega
 have aw:b=val 4294967296 (av.take (m+1))+4294967296^(m+1)*av[m+1]:=by
  rw[<-aI,<-hF (by omega),zaF (by omega)]
 have J:=jW (qp bE (m+1));rw[zay,zaB (by omega)]at J;generalize av[m+1]=d at *;have hp:0<2^(32-bI d):=zag _;have e2:2^bI d*2^(32-bI d)=4294967296:=by rw[<-zal,show bI d+(32-bI d)=32 by omega]
 have bW:2^(bI d-1)*2^(32-bI d)=2147483648:=by rw[<-zal,show bI d-1+(32-bI d)=31 by omega]
 refine⟨aj0,k4,?_,?_⟩
 ·have U:b<4294967296^(m+1)*2^bI d:=by
   have:4294967296^(m+1)*(d+1)<=4294967296^(m+1)*2^bI d:=lp _ aN;rw[zaz,zaE]at this;omega
  have af:=zcv U hp;rw[zat,e2]at af;rw[zak _ (m+1)];exact af
 ·have U:4294967296^(m+1)*2^(bI d-1)<=b:=by
   have:4294967296^(m+1)*2^(bI d-1)<=4294967296^(m+1)*d:=lp _ aM;omega
  have af:=fq (2^(32-bI d)) U;rw[zat,bW]at af;rw[zai];exact af
def aoU(hr:r<4294967296)(aa:x<4294967296):(r%18446744073709551616*2^32%18446744073709551616%18446744073709551616|||x%18446744073709551616%18446744073709551616)=r*4294967296+x:=by
 rw[dH (a:=r) (by omega)];exact Ob hr aa
def afR(P A qB iV hf:Nat):A+P*hf+P*4294967296*qB+P*4294967296*4294967296*iV=((iV*4294967296+qB)*4294967296+hf)*P+A:=by
 rw[zan,zan,zan];have aw:P*4294967296*4294967296*iV=iV*4294967296*4294967296*P:=by ac_rfl
 have e2:P*4294967296*qB=qB*4294967296*P:=by ac_rfl
 have bW:P*hf=hf*P:=by ac_rfl
 omega
def afQ(P A qB iV:Nat):A+P*qB+P*4294967296*iV=(iV*4294967296+qB)*P+A:=by
 rw[zan];have aw:P*4294967296*iV=iV*4294967296*P:=by ac_rfl
 have e2:P*qB=qB*P:=by ac_rfl
 omega
def JP{g:Nat}(h:0<g)(U:g<18446744073709551616):(g+(18446744073709551616*1-1))%18446744073709551616=g-1:=by omega
def CO(h:i<l.length):l[i]? =some l[i]:=bV h
def F4:bc where
 L:=Nat×Nat
 args:=fun(a,b)=>[c3 a,c3 b]
 pre:=fun(a,b)=>dI 1073741823 a∧dI 1073741823 b∧b≠0
 res:=fun(a,b)=>.bu [c3 (a/b),c3 (a%b)]
def F5:a6 aS.ctx 82 F4.spec:=by
 refine bq [(42,xd.spec),(159,Pr.spec),(32,wg.spec),(160,XY.spec),(161,JA.spec),(164,abp.spec),(162,abV.spec),(163,V0.spec),(83,tr.spec)] VG.1 ?_;intro⟨a,b⟩ ⟨(aY:(aT _ a).length<=_),(hb:(aT _ b).length<=_),(k4:b≠0)⟩ H aH;show a1.ok _ ⟨_,_,⟨_,_,[(0,cU (aT 4294967296 a)),(1,cU (aT 4294967296 b))]⟩⟩;have nA:0<(aT 4294967296 b).length:=zbg.2 (fun h=>k4 ((nu (by decide)).1 h));refine I ?_;refine aC Ci (a,b) ⟨by show(aT _ a).length<=_;omega,by show(aT _ b).length<=_;omega⟩ (I ?_);refine cf (fun h=> ?_) (fun h=> ?_)
 ·have a4:a<b:=by
   rcases zao a b with aB|aB
   ·exact aB
   ·have h:hJ a b<0:=h;unfold hJ at h;rw[zaa (by omega)]at h;split at h<;>omega
  refine I ?_;exact au rfl (.bu ⟨bY.nl.trans (.of (by show cU []=cU (aT _ (a/b));rw[zaX a4,ft])),.of (by show cU _=cU (aT _ (a%b));rw[dH a4]),trivial⟩)
 have lD:b<=a:=by
  rcases zao a b with aB|aB
  ·exact absurd (show hJ a b<0 by rw[zx aB];decide) h
  ·exact aB
 refine I ?_;refine cf (fun J=> ?_) (fun J=> ?_)
 ·have J:(aT 4294967296 b).length=1:=by omega
  obtain⟨d,aq⟩:=zex.1 J;have aI:=fE (b:=4294967296) (by decide) b;have Wr:=fW (b:=4294967296) (by decide) b;rw[aq]at aI Wr;have oi:b=d:=by simp[val]at aI;exact aI.symm
  have tH:=Wr d (by simp);rw[aq];subst oi;refine I ?_;refine ep (j:=0) b rfl ?_;refine I ?_;refine aC Ps (a,b) ⟨by show(aT _ a).length<=_;omega,by show 0<b;omega,tH⟩ (I ?_);refine ag 37 (.i .u64 ((a%b:Nat):Int)) rfl (dY (by have:=zae a (show 0<b by omega);omega)) ?_;refine aC ow (a%b) (by have:=zae a (show 0<b by omega);show a%b<_;omega) (I ?_);exact au rfl (.bu ⟨.refl _,.refl _,trivial⟩)
 have ami:=fW (b:=4294967296) (by decide) a;have Xa:=fW (b:=4294967296) (by decide) b;have cu:=fE (b:=4294967296) (by decide) a;have fR:=fE (b:=4294967296) (by decide) b;have aml:=tw (b:=4294967296) (by decide) b;have lG:=Nn lD;generalize x3:aT 4294967296 a=xs at *;generalize vS:aT 4294967296 b=av at *;obtain⟨m,hm⟩:∃m,av.length=m+2:=⟨av.length-2,by omega⟩;obtain⟨iS,gI,pk,yl⟩:=aoj hm Xa aml fR;have aq:=Xa _ (ea (show m+1<av.length by omega));refine I ?_;refine ag 41 (.i .i64 ((m+1:Nat):Int)) rfl bo ?_;refine ep av[m+1] (bV (by omega)) ?_;refine I ?_;refine aC anJ av[m+1] aq ?_;generalize L8:av[m+1]=lv at *;refine ag 44 (.i .i64 ((32-bI lv:Nat):Int)) rfl rfl ?_;generalize he:32-bI lv=e at *;have auD:e<=31:=by omega
 refine I ?_;refine aC Bs (b,e) ⟨by show(aT _ b).length<=_;rw[vS];omega,by show e<_;omega⟩ ?_ (he:=by exact⟨.of (congrArg cU vS.symm),.refl _,trivial⟩);refine ag 47 (cU (aT 4294967296 (b*2^e))) rfl rfl (I ?_);refine ag 50 (.i .i64 ((xs.length+1:Nat):Int)) rfl bo ?_;refine pz eS 0 ?_;refine I ?_;refine aC Bs (a,e) ⟨by show(aT _ a).length<=_;rw[x3];omega,by show e<_;omega⟩ ?_ (he:=by exact⟨.of (congrArg cU x3.symm),.refl _,trivial⟩);have aur:a*2^e<2147483648*4294967296^xs.length:=by
  have J:=jW ami;rw[cu]at J;have U:(a+1)*2^e<=4294967296^xs.length*2147483648:=zdL (by omega) (Iy (by omega));have af:0<2^e:=zag e;rw[zan]at U;omega
 have aj2:a*2^e<4294967296^(xs.length+1):=by
  rw[zak];have:0<4294967296^xs.length:=zcu (by decide);omega
 have tU:(aT 4294967296 (a*2^e)).length<=xs.length+1:=hL (by decide) aj2;refine I ?_;refine apY (aT 4294967296 (a*2^e)) (JG rfl (fun _=>rfl) (fun _=>rfl)) ?_;refine I ?_;refine ag 61 (.i .i64 ((xs.length-av.length+1:Nat):Int)) rfl (by rw[gd (n:=(xs.length:Int)-av.length) (by omega) (by omega)];exact bo) ?_;refine pz eS 0 ?_;refine I ?_;have hA:=fE (b:=4294967296) (by decide) (b*2^e);have CX:=fW (b:=4294967296) (by decide) (b*2^e);have zW:(aT 4294967296 (b*2^e)).length=m+2:=by
  have J:=hL (b:=4294967296) (by decide) pk;have U:=Cr (b:=4294967296) (n:=b*2^e) (k:=m+1) (by decide) (by
   have:0<4294967296^(m+1):=zcu (by decide);omega)
  omega
 generalize W5:aT 4294967296 (b*2^e)=vs at *;have oq:(aT 4294967296 (a*2^e)++(List.replicate (xs.length+1) 0).drop (aT 4294967296 (a*2^e)).length).length=xs.length+1:=by simp;omega
 have pc:val 4294967296 (aT 4294967296 (a*2^e)++(List.replicate (xs.length+1) 0).drop (aT 4294967296 (a*2^e)).length)=a*2^e:=by
  rw[List.drop_replicate,k0,val_zero,fE (by decide)];omega
 have lK:cX 4294967296 (aT 4294967296 (a*2^e)++(List.replicate (xs.length+1) 0).drop (aT 4294967296 (a*2^e)).length):=fun x aa=>by
  rcases zcd.1 aa with aa|aa
  ·exact fW (by decide) _ x aa
  ·exact sH (by decide) _ x (zcJ aa)
 generalize aT 4294967296 (a*2^e)++(List.replicate (xs.length+1) 0).drop (aT 4294967296 (a*2^e)).length=as9 at *;refine df (L:=Nat×ac Nat×ac Nat) (fun(k,us,dh)=>k<=xs.length-av.length+1∧us.length=xs.length+1∧cX 4294967296 us∧dh.length=xs.length-av.length+1∧cX 4294967296 dh∧(∀p,p<k->dh[p]? =some 0)∧val 4294967296 us<b*2^e*4294967296^k∧a*2^e=val 4294967296 (dh.drop k)*4294967296^k*(b*2^e)+val 4294967296 us)
  (fun((k:Nat),(us:ac Nat),(dh:ac Nat))=>⟨[.a 165 false 1 Nat eS us,.a 165 false 1 Nat eS dh],2,[(4,.bj 1 1 0 (xs.length-av.length+1) (xs.length-av.length+1)),(6,.i .i64 ((m+2:Nat):Int)),(9,.i .i64 e),(10,cU vs),(11,.bj 0 1 0 (xs.length+1) (xs.length+1)),(12,.i .i64 ((k:Int)-1))]⟩)
  (fun l=>l.1) [0,1] (xs.length-av.length+1,as9,List.replicate (xs.length-av.length+1) 0) ⟨by omega,oq,lK,by simp,sH (by decide) _,fun p hp=>by rw[zew,zab hp],?_,by rw[pc,zcf (by simp)];simp[val]⟩ (by show xs.length-av.length+1<bT+1;unfold bT;omega) (nW ⟨rfl,lN,rfl,rfl,rfl,eC,trivial⟩ ⟨_,rfl,rfl,fun _=>rfl⟩ ⟨_,rfl,rfl,fun _=>rfl⟩) ?_
 ·rw[pc];have J:=fq (4294967296^(xs.length-av.length+1)) yl;rw[zat,<-zal,show m+1+(xs.length-av.length+1)=xs.length by omega]at J;omega
 rintro⟨k,us,dh⟩ ⟨ab,tU,pb,Ag,MI,g7,hu,er⟩;cases k with
 |zero=>
  rw[zbi,zaE]at hu;rw[zbi,zaE,zap]at er;refine an 67 ?_
  iterate 9 refine ha ?_
  refine O2 4 ?_;refine O2 11 ?_;refine I ?_;refine aZ tt dh ⟨MI,by omega⟩ (I ?_);refine afx (us.take (m+2)) ?_;refine I ?_;refine aZ tt (us.take (m+2)) ⟨qp pb _,by simp;omega⟩ (I ?_);refine aZ aqZ (val 4294967296 (us.take (m+2)),e) ⟨?_,by show e<_;omega⟩ ?_
  ·show(aT _ _).length<=_;have:=hL (b:=4294967296) (by decide) (jW (qp pb (m+2)));rw[zay]at this;omega
  refine I ?_;have LS:0<2^e:=zag e;have o7:0<b*2^e:=zbe (by omega) LS;have xZ:val 4294967296 (us.take (m+2))=val 4294967296 us:=by
   have aw:=JX (b:=4294967296) (l:=us) (k:=m+2) (by omega);rcases zcH (val 4294967296 (us.drop (m+2)))with h0|h0
   ·rw[h0]at aw;omega
   ·have:4294967296^(m+2)*1<=4294967296^(m+2)*val 4294967296 (us.drop (m+2)):=lp _ h0;omega
  have Hh:val 4294967296 dh=a/b:=by
   have J:a*2^e/(b*2^e)=a/b:=Nat.mul_div_mul_right _ _ LS;rw[<-J,er,zbt,Nat.add_mul_div_right _ _ o7,zaX hu,zav]
  have lI:val 4294967296 us/2^e=a%b:=by
   have J:a*2^e%(b*2^e)=a%b*2^e:=Nat.mul_mod_mul_right _ _ _;rw[er,zbt,zdP,dH hu]at J;rw[J,zdi _ LS]
  exact au rfl (.bu ⟨.of (congrArg c3 Hh),.of (congrArg c3 (by rw[xZ];exact lI)),trivial⟩)
 |succ j=>
  refine ag 12 (.i .i64 (j:Nat)) rfl dY (I ?_);refine ag 67 (.b true) rfl (by simp) (I ?_);refine cm 73 (.i .i64 ((j+(m+2):Nat):Int)) rfl rfl bo ?_;refine lu ?_;refine FX us[j+(m+2)] (CO (by omega)) ?_;refine an 82 ?_;refine cm 82 (.i .i64 ((j+(m+1):Nat):Int)) rfl rfl (by rw[gd (n:=(j:Int)+(m+2:Nat)) (by omega) (by omega)];exact bo) ?_;refine lu ?_;refine FX us[j+(m+1)] (CO (by omega)) ?_;refine an 86 ?_;have al9:=pb _ (ea (show j+(m+2)<us.length by omega));have al8:=pb _ (ea (show j+(m+1)<us.length by omega));have MM:=pb _ (ea (show j+m<us.length by omega));have au3:=CX _ (ea (show m+1<vs.length by omega));have Ak:=CX _ (ea (show m<vs.length by omega));obtain⟨top,Ds⟩:∃top,top=us[j+(m+2)]*4294967296+us[j+(m+1)]:=⟨_,rfl⟩;refine cm 86 (.i .u64 (top:Nat)) rfl rfl (dY (congrArg _ ((aoU al9 al8).trans Ds.symm))) ?_;obtain⟨gX,wT,J0⟩:=acI (n:=m+2) pb (by omega) pk hu;have zX:ey us j (m+2+1)=(top*4294967296+us[j+m])*4294967296^m+ey us j m:=by
   unfold ey;rw[Ds];rw[rT (by omega),rT (by omega),rT (by omega),zak,zak];exact afR _ _ _ _ _
  have vz:b*2^e=(vs[m+1]*4294967296+vs[m])*4294967296^m+val 4294967296 (vs.take m):=by
   rw[<-hA];have:val 4294967296 vs=val 4294967296 (vs.take (m+1+1)):=by rw[zaF (by omega)]
   rw[this,hF (by omega),hF (by omega),zak];exact afQ _ _ _ _
  have tC:ey us j m<4294967296^m:=by
   have:=jW (qp (wj pb j) m);unfold ey;rw[zay,zaB (by simp;omega)]at this;exact this
  have CY:val 4294967296 (vs.take m)<4294967296^m:=by
   have:=jW (qp CX m);rw[zay,zaB (by omega)]at this;exact this
  have Du:0<vs[m+1]:=by
   rcases zcH vs[m+1]with h0|h0
   ·rw[h0,zas,zav]at vz;have J:vs[m]*4294967296^m+4294967296^m<=4294967296^(m+1):=by
     have:(vs[m]+1)*4294967296^m<=4294967296*4294967296^m:=fq _ Ak;rw[zan,zaw]at this;rw[zak,zai _ 4294967296];exact this
    have U:1*4294967296^(m+1)<=2147483648*4294967296^(m+1):=fq _ (by decide);omega
   ·exact h0
  have sc:0<b*2^e:=zbe (by omega) (zag e);have WU:ey us j (m+2+1)/(b*2^e)<4294967296:=(zbd sc).2 (by rw[zai];exact J0);have WV:ey us j (m+2+1)/(b*2^e)*(b*2^e)<=ey us j (m+2+1):=zdj _ _;have iz:=afU (dh:=dh) (n:=m+2) pb (by omega) (by omega) sc pk hu er;generalize gG:ey us j (m+2+1)=W at *;generalize hq:W/(b*2^e)=q at *;generalize auv:b*2^e=V at *;generalize W3:us[j+(m+2)]=iV at *;generalize W2:us[j+(m+1)]=qB at *;generalize al4:us[j+m]=hf at *;generalize k8:vs[m+1]=v1 at *;generalize kx:vs[m]=v2 at *;have GG:vs[m+1]? =some v1:=by rw[CO (by omega),k8]
  have ajU:vs[m]? =some v2:=by rw[CO (by omega),kx]
  have ajN:us[j+m]? =some hf:=by rw[CO (by omega),al4]
  have au0:top<18446744073709551616:=by omega
  have au2:2147483648<=v1:=ang vz CY Ak (by decide) (by rw[zak]at yl;exact yl);have au1:iV<=v1:=anf vz CY Ak (by decide) zX Ds J0;refine I ?_;refine cm 90 (.i .i64 ((m+1:Nat):Int)) rfl rfl bo ?_;refine hK v1 GG ?_;refine an 93 ?_;refine cm 93 (.i .u64 (v1:Nat)) rfl rfl dY ?_;refine afs ?_;refine I ?_;refine cm 98 (.i .i64 ((m+1:Nat):Int)) rfl rfl bo ?_;refine hK v1 GG ?_;refine an 101 ?_;refine cm 101 (.i .u64 (v1:Nat)) rfl rfl dY ?_;refine afv ?_;refine an 15 ?_
  iterate 3 refine ha ?_
  refine fK (fun(g:Nat)=>q<=g∧g<4294967296∧g*V<=W+V) (fun(g:Nat)=>⟨[.a 165 false 1 Nat eS us,.a 165 false 1 Nat eS dh],2,[(4,.bj 1 1 0 (xs.length-av.length+1) (xs.length-av.length+1)),(6,.i .i64 ((m+2:Nat):Int)),(9,.i .i64 e),(10,cU vs),(11,.bj 0 1 0 (xs.length+1) (xs.length+1)),(12,.i .i64 j),(14,.i .u64 g)]⟩) ?_ ?_
  ·refine I ?_;refine df (L:=Nat×Nat) (fun(g,o)=>top=g*v1+o∧q<=g∧g<=4294967297∧o<4294967296)
    (fun((g:Nat),(o:Nat))=>⟨[.a 165 false 1 Nat eS us,.a 165 false 1 Nat eS dh],2,[(4,.bj 1 1 0 (xs.length-av.length+1) (xs.length-av.length+1)),(6,.i .i64 ((m+2:Nat):Int)),(9,.i .i64 e),(10,cU vs),(11,.bj 0 1 0 (xs.length+1) (xs.length+1)),(12,.i .i64 j),(14,.i .u64 g),(15,.i .u64 o)]⟩)
    (fun l=>l.1) [0,1] (top/v1,top%v1) ⟨by rw[zai];exact(zaN top v1).symm,?_,?_,?_⟩ ?_ ji ?_
   ·exact(zbM Du).2 (ane vz zX tC MM WV)
   ·have:top/v1<4294967298:=(zbd Du).2 (by omega);omega
   ·have:=zae top Du;omega
   ·have:top/v1<=top:=zau _ _;have U:top/v1<4294967298:=(zbd Du).2 (by omega);show top/v1<bT+1;unfold bT;omega
   rintro⟨g,o⟩ ⟨aV,MH,Wv,alw⟩;refine an 106 ?_;rcases zao g 4294967296 with aO|aO
   ·refine cm 106 (.b false) rfl rfl (by show ah.b (decide _)=_;congr 1;simp;omega) ?_;refine an 110 ?_;refine cm 110 (.i .i64 (m:Nat)) rfl rfl bo ?_;refine I ?_;refine hK v2 ajU ?_;obtain⟨a5,bD,dt⟩:=NF (c:=0) (o:=0) (by decide) aO Ak (by decide);refine an 114 ?_;refine cm 114 (.i .u64 ((g*v2:Nat):Int)) rfl rfl (dY (congrArg _ (by rw[dH (a:=v2) (by omega),dH a5]))) ?_;refine an 121 ?_;refine cm 121 (.i .i64 ((j+m:Nat):Int)) rfl rfl (by rw[gd (n:=(j:Int)+(m+2:Nat)) (by omega) (by omega)];exact bo) ?_;refine I ?_;refine lu ?_;refine I ?_;refine FX hf ajN ?_;refine an 125 ?_;refine cm 125 (.i .u64 ((o*4294967296+hf:Nat):Int)) rfl rfl (dY (congrArg _ (Ob alw MM))) ?_;refine I ?_;refine cf (fun hc=> ?_) (fun hc=> ?_)
    ·have a4:=anc vz zX tC WV MH aV (by omega);refine I ?_;have ak4:(g-1)*v1+v1=g*v1:=by
      rw[<-zbZ,show(g-1).succ=g by omega]
     have sn:top=(g-1)*v1+(o+v1):=by omega
     refine ag 14 (.i .u64 ((g-1:Nat):Int)) rfl (dY (congrArg _ (JP (by omega) (by omega)))) ?_;refine ag 133 (.i .i64 ((m+1:Nat):Int)) rfl bo ?_;refine ep v1 GG ?_;refine an 137 ?_;refine ag 137 (.i .u64 ((o+v1:Nat):Int)) rfl dY (I ?_);refine cf (fun hc=> ?_) (fun hc=> ?_)
     ·have hc:(((o+v1)/4294967296:Nat):Int)≠0:=hc;refine I ?_;have xG:=XA vz CY Ak zX sn (by omega) (by omega);have hle:=(zbM sc).2 xG;rw[hq]at hle;exact ba [0,1] (g-1) ⟨by omega,by omega,by omega⟩ ji
     ·have hc:¬(((o+v1)/4294967296:Nat):Int)≠0:=hc;refine I ?_;exact ba [0,1] (g-1,o+v1) ⟨by show g-1<g;omega,sn,by omega,by omega,by omega⟩ ji
    ·refine I ?_;exact ba [0,1] g ⟨MH,aO,anb vz CY Du zX aV (by omega) (by omega)⟩ ji
   ·refine cm 106 (.b true) rfl rfl (by show ah.b (decide _)=_;congr 1;simp;omega) ?_;refine I ?_;have ak4:(g-1)*v1+v1=g*v1:=by
     rw[<-zbZ,show(g-1).succ=g by omega]
    have sn:top=(g-1)*v1+(o+v1):=by omega
    refine ag 14 (.i .u64 ((g-1:Nat):Int)) rfl (dY (congrArg _ (JP (by omega) (by omega)))) ?_;refine ag 133 (.i .i64 ((m+1:Nat):Int)) rfl bo ?_;refine ep v1 GG ?_;refine an 137 ?_;refine ag 137 (.i .u64 ((o+v1:Nat):Int)) rfl dY (I ?_);refine cf (fun hc=> ?_) (fun hc=> ?_)
    ·have hc:(((o+v1)/4294967296:Nat):Int)≠0:=hc;refine I ?_;have xG:=XA vz CY Ak zX sn (by omega) (by omega);have hle:=(zbM sc).2 xG;rw[hq]at hle;exact ba [0,1] (g-1) ⟨by omega,by omega,by omega⟩ ji
    ·have hc:¬(((o+v1)/4294967296:Nat):Int)≠0:=hc;refine I ?_;exact ba [0,1] (g-1,o+v1) ⟨by show g-1<g;omega,sn,by omega,by omega,by omega⟩ ji
  rintro(g:Nat) ⟨ak1,se,ak2⟩;obtain⟨f1,f2⟩:=ana (W:=W) (V:=V) (g:=g) sc (by rw[hq];exact ak1) ak2;refine I ?_;refine cf (fun h0=> ?_) (fun h0=> ?_)
  ·have WT:q=0:=by omega
   have akg:W<V:=by
    have:=zaN W V;rw[hq,WT,zbw,zav]at this;have:=zae W sc;omega
   refine I ?_;rw[dH akg,<-gG,atT (by omega) pb,WT]at iz;have ra:dh.set j 0=dh:=by
    apply zbJ;intro p;rw[zbu];split
    ·rename_i hp;subst hp;rw[zab (by omega),g7 _ (by omega)]
    ·rfl
   rw[ra]at iz;exact ba [0,1] (j,us,dh) ⟨by show j<j+1;omega,by omega,tU,pb,Ag,MI,fun p hp=>g7 p (by omega),iz.1,iz.2⟩ (nW ⟨rfl,rfl,rfl,rfl,rfl,eC,trivial⟩ ⟨_,rfl,rfl,fun _=>rfl⟩ ⟨_,rfl,rfl,fun _=>rfl⟩)
  refine I ?_;refine aaB ?_;refine I ?_;refine aax asP 0 (us,j,vs,g) ⟨by omega,pb,CX,se,by omega⟩ ?_ (he:=by show[ah.bj 0 1 j _ _,cU vs,ah.i .u64 (g:Nat)]=[ah.bj 0 1 j _ _,cU vs,ah.i .u64 (g:Nat)];rw[tU]);have a7:vs.length=m+2:=zW;have auz:∀X,X<V->X%4294967296^(m+2+1)=X:=fun X GN=>dH (by
   have:4294967296^(m+2)<=4294967296^(m+2+1):=zax (by decide) (by omega);omega)
  have mX:=zaN W V;rw[hq]at mX;have WN:=zae W sc;rw[show ey us j (vs.length+1)=W by rw[a7];exact gG,hA,a7];refine ag 148 (.b (decide (W<g*V))) rfl (by show ah.b (decide (ey us j (vs.length+1)<g*val 4294967296 vs))=_;rw[a7,gG,hA]) ?_;refine ha ?_;refine ha ?_;refine fK (fun(g:Nat)=>g=q) (fun(g:Nat)=>⟨[.a 165 false 1 Nat eS (iY us j (m+2+1) (W%V)),.a 165 false 1 Nat eS dh],2,[(4,.bj 1 1 0 (xs.length-av.length+1) (xs.length-av.length+1)),(6,.i .i64 ((m+2:Nat):Int)),(9,.i .i64 e),(10,cU vs),(11,.bj 0 1 0 (xs.length+1) (xs.length+1)),(12,.i .i64 j),(14,.i .u64 g)]⟩) ?_ ?_
  ·refine cf (fun hc=> ?_) (fun hc=> ?_)
   ·obtain⟨ee,fa⟩:=f1 hc;rw[zab hc];refine an 14 ?_;refine ag 14 (.i .u64 ((g-1:Nat):Int)) rfl (dY (congrArg _ (JP (by omega) (by omega)))) (I ?_);refine aaB ?_;refine I ?_;refine aax ajy 0 (iY us j (m+2+1) (W+4294967296^(m+2+1)-g*V),j,vs) ⟨by rw[J2 (by omega)];omega,acH pb,CX,by rw[J2 (by omega)];omega⟩ ?_ (he:=by show[ah.bj 0 1 j _ _,cU vs]=[ah.bj 0 1 j _ _,cU vs];rw[J2 (by omega),tU]);refine I ?_;refine ba [0,1] (g-1) (ee.trans hq) (nW ⟨rfl,rfl,rfl,rfl,rfl,rfl,rfl,trivial⟩ ⟨_,rfl,?_,fun _=>rfl⟩ ⟨_,rfl,rfl,fun _=>rfl⟩);show bp.a _ _ _ _ _ _=bp.a _ _ _ _ _ _;congr 1;rw[a7,atV (by omega),at1 (by omega),hA];have auF:(g-1)*V+V=g*V:=by rw[<-zbZ,show(g-1).succ=g by omega]
    have G3:(g-1)*V=V*q:=by rw[ee,hq,zai]
    have jq:0<4294967296^(m+2+1):=zcu (by decide);have auw:V<4294967296^(m+2+1):=by
     have:4294967296^(m+2)<=4294967296^(m+2+1):=zax (by decide) (by omega);omega
    have key:((W+4294967296^(m+2+1)-g*V)%4294967296^(m+2+1)+V)%4294967296^(m+2+1)=W%V:=by
     generalize 4294967296^(m+2+1)=PP at *;rw[dH (show W+PP-g*V<PP by omega),show W+PP-g*V+V=W%V+PP by omega,Nat.add_mod_right,dH (by omega)]
    rw[<-atS,key]
   ·have ee:=f2 hc;rw[zaa hc];refine I ?_;refine ba [0,1] g (by omega) (nW ⟨rfl,rfl,rfl,rfl,rfl,rfl,rfl,trivial⟩ ⟨_,rfl,?_,fun _=>rfl⟩ ⟨_,rfl,rfl,fun _=>rfl⟩);show bp.a _ _ _ _ _ _=bp.a _ _ _ _ _ _;congr 2;rw[zaJ];have:g*V=V*q:=by rw[ee,hq,zai]
    omega
  intro gr Mc;rw[show gr=q from Mc];refine I ?_;refine jS ?_;refine kX (q%4294967296) ?_;refine I ?_;rw[dH WU];refine ba [0,1] (j,iY us j (m+2+1) (W%V),dh.set j q) ⟨by show j<j+1;omega,by omega,by rw[J2 (by omega)];exact tU,acH pb,by simp[Ag],mv MI _ WU,fun p hp=>by rw[zbv (by omega)];exact g7 p (by omega),iz.1,iz.2⟩ (nW ⟨rfl,rfl,rfl,rfl,rfl,eC,trivial⟩ ⟨_,rfl,rfl,fun _=>rfl⟩ ⟨_,rfl,rfl,fun _=>rfl⟩)
def sw(h:dI k a)(hb:b<=a):dI k b:=zaj (Nn hb) h
def vZ(h:dI k a):a<4294967296^k:=by
 have J:=jW (fW (b:=4294967296) (by decide) a);rw[fE (by decide)]at J;exact fy J (zax (by decide) h)
def rl(h:a<4294967296^k):dI k a:=hL (by decide) h
def KU{m n:Nat}(h:m<=n):bI m<=bI n:=by
 by_cases h0:m=0
 ·subst h0;exact zaf _
 ·have J:=(qP h0).1;have U:=(qP (show n≠0 by omega)).2;have:=(zdh (by decide:1<2)).1 (zaG (zaj J h) U);omega
def ad1{m n:Nat}(h:m<=n/2)(hn:1<=n):bI m<bI n:=by
 have:=KU h;rw[vf hn];omega
def FG{n:Nat}(h:n<2^k):bI n<=k:=by
 by_cases h0:n=0
 ·subst h0;exact zaf _
 ·have:=(zdh (by decide:1<2)).1 (zaG (qP h0).1 h);omega
def vY(h:dI k a):bI a<=32*k:=FG (by rw[zbD];exact vZ h)
def ad2(aY:dI k a)(hb:dI k b):bI (a*b)<=64*k:=FG (by
 rw[show 64*k=32*k+32*k by omega,zal,zbD];exact zeA (vZ aY) (vZ hb))
def agz(aF:0<y)(h:y<=x):y*(x%y)<=x*y/2:=by
 have J:x%y<y:=zae x aF;have U:2*(x%y)<=x:=by
  have:=zaN x y;have af:y*1<=y*(x/y):=lp y (zdk h aF);omega
 rw[zbM (by decide)];have:=lp y U;rw[zai x y];have e:y*(x%y)*2=y*(2*(x%y)):=by ac_rfl
 omega
def LN:bc where
 L:=Nat×Nat
 args:=fun(a,b)=>[c3 a,c3 b]
 pre:=fun(a,b)=>dI 1073741823 a∧dI 1073741823 b
 res:=fun(a,b)=>c3 (Nat.gcd a b)
def VV:a6 aS.ctx 38 LN.spec:=by
 refine bq [(82,F4.spec)] UU.1 ?_;intro⟨a,b⟩ ⟨(aY:dI _ a),(hb:dI _ b)⟩ H aH;refine I ?_;refine df (L:=Nat×Nat) (fun(x,y)=>dI 1073741823 x∧dI 1073741823 y∧Nat.gcd x y=Nat.gcd a b) (fun((x:Nat),(y:Nat))=>⟨[],0,[(0,c3 x),(1,c3 y)]⟩) (fun l=>2*bI (l.1*l.2)+if l.1<l.2 then 1 else 0) [] (a,b) ⟨aY,hb,rfl⟩ ?_ ew ?_
 ·show 2*bI (a*b)+(if a<b then 1 else 0)<bT+1;have:=ad2 aY hb;unfold bT;split<;>omega
 rintro⟨x,y⟩ ⟨aa,aF,aO⟩;refine I ?_;refine cf (fun h=> ?_) (fun h=> ?_)
 ·have Dz:y≠0:=fun h0=>by subst h0;rw[ft]at h;simp at h
  refine I ?_;refine aC F5 (x,y) ⟨aa,aF,Dz⟩ (I ?_);refine ba [] (y,x%y) ⟨?_,aF,sw aF (zbf (zae x (by omega))),?_⟩ ew
  ·show 2*bI (y*(x%y))+(if y<x%y then 1 else 0)<2*bI (x*y)+(if x<y then 1 else 0);have hm:=zae x (show 0<y by omega);rw[zaa (by omega)];by_cases MQ:x<y
   ·rw[zab MQ,dH MQ,zai y x];omega
   ·rw[zaa MQ];have hp:0<x*y:=zbe (by omega) (by omega);have:=ad1 (agz (by omega) (by omega)) hp;omega
  ·rw[<-aO,zdQ x y,Nat.gcd_rec y x,zdQ]
 ·have Dz:y=0:=(nu (b:=4294967296) (by decide)).1 (zbz (by omega));subst Dz;refine I ?_;refine au rfl (.of ?_);show c3 x=c3 (Nat.gcd a b);rw[<-aO,Nat.gcd_zero_right]
def M1:bc where
 L:=Nat
 args:=fun n=>[c3 n]
 pre:=fun _=>True
 res:=fun n=>.b (decide (n=1))
def afO:aT 4294967296 1=[1]:=by rw[nv (by decide) (by decide),show 1/4294967296=0 from rfl,ft]
def HC:a6 aS.ctx 37 M1.spec:=by
 refine bq [] UP.1 ?_;intro(n:Nat) _ H aH;show a1.ok _ ⟨_,_,⟨_,_,[(0,cU (aT 4294967296 n))]⟩⟩;have aI:=fE (b:=4294967296) (by decide) n;generalize ga:aT 4294967296 n=ds at *;refine an 6 ?_
 match ds,aI,ga with
 |[],aI,ga=>
  refine I ?_;have:n=0:=by simp[val]at aI;exact aI.symm
  subst this;exact au rfl (.refl _)
 |[d],aI,ga=>
  have:n=d:=by simp[val]at aI;exact aI.symm
  subst this;refine I ?_;refine ep (j:=0) n rfl ?_;refine I ?_;refine au rfl (.of ?_);show ah.b _=ah.b _;congr 1;rw[decide_eq_decide];exact⟨fun h=>by omega,fun h=>by omega⟩
 |d::j4::ds,aI,ga=>
  refine I ?_;refine au rfl (.of ?_);show ah.b false=ah.b _;congr 1
  symm
  rw[decide_eq_false_iff_not];intro J;subst J;rw[afO]at ga;cases ga
def r2(d:Nat):ah:=.ih 1 Nat eS (if d=1 then[]else aT 4294967296 d)
def nm(x:Rat):ac ah:=[.b (decide (x.num<0)),c3 x.num.natAbs,r2 x.den]
def bN(x:Rat):ah:=.agg (nm x)
def Cp(h:d≠1):r2 d= .ih 1 Nat eS (aT 4294967296 d):=by unfold r2;rw[zaa h]
def XI(h:d≠1)(h0:d≠0):bY (c3 d) (r2 d):=by
 rw[Cp h];exact bY.ih (fun e=>h0 ((nu (by decide)).1 e))
def RQ(h:d≠1):bY (r2 d) (c3 d):=by
 rw[Cp h];exact bY.aud
def sz(n:Int)(d:Nat)(h:d≠0):(mkRat n d).num=n/((n.natAbs.gcd d:Nat):Int)∧(mkRat n d).den=d/n.natAbs.gcd d:=by
 rw[<-Rat.normalize_eq_mkRat h,Rat.normalize_eq h];exact⟨rfl,rfl⟩
def YM(hp:p≠0)(hq:q≠0):(mkRat (if neg then -(p:Int)else p) q).num=(if neg then -((p/p.gcd q:Nat):Int)else((p/p.gcd q:Nat):Int))∧(mkRat (if neg then -(p:Int)else p) q).den=q/p.gcd q:=by
 have aO:0<p.gcd q:=zeB _ (by omega);have aY:(if neg then -(p:Int)else(p:Int)).natAbs=p:=by cases neg<;>simp
 obtain⟨J,U⟩:=sz (if neg then -(p:Int)else p) q hq;rw[aY]at J U;refine⟨?_,U⟩;rw[J];cases neg
 ·simp
 ·simp only[if_true];obtain⟨k,ab⟩:=zdl p q;generalize p.gcd q=g at *;subst ab;rw[zeC _ aO,zam,<-zcS,Int.mul_ediv_cancel_left _ (by omega)]
def Ni{x:Rat}{c:ah}(J:x.num=if neg then -(p:Int)else(p:Int))(U:x.den=q)(hp:p≠0)(hc:bY c (r2 q)):bY (.agg [.b neg,c3 p,c]) (bN x):=by
 refine bY.agg ⟨.of ?_,.of ?_,?_,trivial⟩
 ·congr 1;rw[J];cases neg
  ·simp
  ·simp;omega
 ·congr 1;rw[J];cases neg<;>simp
 ·rw[U];exact hc
def le_zero:bY (.agg [.b false,.nl,.nl]) (bN 0):=bY.agg ⟨.refl _,bY.nl.trans (.of (by show cU []=cU (aT _ 0);rw[ft])),bY.D1,trivial⟩
def v8:bc where
 L:=Bool×Nat×Nat
 args:=fun(n,p,q)=>[.b n,c3 p,c3 q]
 pre:=fun(_,p,q)=>dI 1073741823 p∧dI 1073741823 q∧q≠0
 res:=fun(n,p,q)=>bN (mkRat (if n then -(p:Int)else p) q)
def rm{n:Nat}:(aT 4294967296 n).length=0↔n=0:=by rw[zeD];exact nu (by decide)
def ph:a6 aS.ctx 31 v8.spec:=by
 refine bq [(37,M1.spec),(38,LN.spec),(82,F4.spec)] Ur.1 ?_;intro⟨n,p,q⟩ ⟨(hp:dI _ p),(hq:dI _ q),(g7:q≠0)⟩ H aH;refine I ?_;refine cf (fun h=> ?_) (fun h=> ?_)
 ·have oo:p=0:=rm.1 (by omega);subst oo;refine I ?_;refine au rfl (le_zero.trans (.of ?_));show bN 0=bN (mkRat _ q);congr 1;cases n<;>simp
 have oo:p≠0:=fun h0=>h (by rw[h0,ft];rfl);have aO:0<p.gcd q:=zeB _ (by omega);refine I ?_;refine aC HC q trivial (I ?_);refine fK (fun((dA:Nat),(fJ:Nat))=>dA=p/p.gcd q∧fJ=q/p.gcd q) (fun(dA,fJ)=>⟨[.c 42 [.b false,.nl,.nl]],1,[(0,.b n),(1,c3 dA),(2,c3 fJ),(6,.p 0 0)]⟩) ?_ ?_
 ·refine Bi (fun J=> ?_) (fun J=> ?_)
  ·refine I ?_;refine aC VV (p,q) ⟨hp,hq⟩ (I ?_);refine aC HC (p.gcd q) trivial (I ?_);refine Bi (fun U=> ?_) (fun U=> ?_)
   ·have yb:dI 1073741823 (p.gcd q):=sw hp (Nat.gcd_le_left _ (by omega));refine I ?_;refine aC F5 (p,p.gcd q) ⟨hp,yb,by show p.gcd q≠0;omega⟩ (I ?_);refine aC F5 (q,p.gcd q) ⟨hq,yb,by show p.gcd q≠0;omega⟩ (I ?_);exact ba [0] (p/p.gcd q,q/p.gcd q) ⟨rfl,rfl⟩ du
   ·refine I ?_;exact ba [0] (p,q) ⟨by rw[U,zbV],by rw[U,zbV]⟩ du
  ·refine I ?_;exact ba [0] (p,q) ⟨by rw[J,zeE,zbV],by rw[J,zeE,zbV]⟩ du
 rintro⟨dA,fJ⟩ ⟨aw,e2⟩;obtain⟨iS,gI⟩:=YM (neg:=n) oo g7;rw[<-aw]at iS;rw[<-e2]at gI;have k6:dA≠0:=by
  have:=zdk (Nat.gcd_le_left q (show 0<p by omega)) aO;omega
 have MG:fJ≠0:=by
  have:=zdk (zeF p (show 0<q by omega)) aO;omega
 refine I ?_;refine aC HC fJ trivial (I ?_);refine cf (fun af=> ?_) (fun af=> ?_)
 ·refine I ?_;exact au rfl (Ni iS gI k6 (by rw[af];exact bY.D1))
 ·refine I ?_;exact au rfl (Ni iS gI k6 (XI af MG))
def cK(k:Nat)(x:Rat):Prop:=dI k x.num.natAbs∧dI k x.den
def tk:bc where
 L:=Rat
 args:=fun x=>[bN x]
 pre:=fun _=>True
 res:=fun x=>c3 x.den
def np:a6 aS.ctx 41 tk.spec:=by
 refine bq [(32,wg.spec)] U8.1 ?_;intro(x:Rat) _ H aH;refine an 4 ?_;by_cases aq:x.den=1
 ·refine ag 4 (.ih 1 Nat eS []) rfl (by show r2 x.den=_;rw[aq];rfl) (I ?_);refine aC ow (1:Nat) (by show 1<_;decide) (I ?_);exact au rfl (.of (by show c3 1=c3 x.den;rw[aq]))
 ·refine ag 4 (.ih 1 Nat eS (aT 4294967296 x.den)) rfl (Cp aq) ?_;have cx:(aT 4294967296 x.den).isEmpty=false:=zdG.2 (fun e=>x.den_nz ((nu (by decide)).1 e));refine I ?_;refine apZ rfl (by show j2 false _=false;rw[cx];rfl) ?_;refine I ?_;exact au rfl (RQ aq)
def uP:bc where
 L:=Rat
 args:=fun x=>[bN x]
 pre:=fun _=>True
 res:=fun x=>.i .i64 x.num.sign
def sU:a6 aS.ctx 39 uP.spec:=by
 refine bq [] U4.1 ?_;intro(x:Rat) _ H aH;refine I ?_;refine cf (fun h=> ?_) (fun h=> ?_)
 ·have h0:x.num.natAbs=0:=rm.1 (by omega);refine I ?_;exact au rfl (.of (by show ah.i .i64 0=ah.i .i64 x.num.sign;rw[Int.natAbs_eq_zero.1 h0];rfl))
 have h0:x.num≠0:=fun e=>h (by rw[e];show((aT _ 0).length:Int)=0;rw[ft];rfl);refine I ?_;refine cf (fun h=> ?_) (fun h=> ?_)
 ·refine I ?_;exact au rfl (.of (by show ah.i .i64 (-1)=ah.i .i64 x.num.sign;rw[zbx h]))
 ·refine I ?_;exact au rfl (.of (by show ah.i .i64 1=ah.i .i64 x.num.sign;rw[zby (by omega)]))
def H4:bc where
 L:=Rat
 args:=fun x=>[bN x]
 pre:=fun _=>True
 res:=fun x=>bN (-x)
def H6:a6 aS.ctx 123 H4.spec:=by
 refine bq [] SC.1 ?_;intro(x:Rat) _ H aH;have hle:∀{t:Bool},t=decide (-x.num<0)->bY (.agg [.b t,c3 x.num.natAbs,r2 x.den]) (bN (-x)):=fun h=>by
  refine bY.agg ⟨.of (by rw[h,zbN]),.of (by rw[zbN,zbp]),.of (by rw[zci]),trivial⟩
 refine an 6 ?_;by_cases hn:x.num<0
 ·refine ag 6 (.b false) rfl (by show ah.b (!decide _)=_;rw[zad hn];rfl) (I ?_);exact au rfl (hle (by symm;simp;omega))
 ·refine ag 6 (.b true) rfl (by show ah.b (!decide _)=_;rw[zac hn];rfl) (I ?_);refine au rfl (hle ?_);rw[decide_eq_decide];rcases(show 0<x.num∨x.num<=0 by omega)with h0|h0
  ·have:x.num.natAbs≠0:=by omega
   have:(aT 4294967296 x.num.natAbs).length≠0:=fun e=>this (rm.1 e);exact⟨fun _=>by omega,fun _=>by omega⟩
  ·have J:x.num=0:=by omega
   have U:(aT 4294967296 x.num.natAbs).length=0:=rm.2 (by omega);exact⟨fun h=>by omega,fun h=>by omega⟩
def fD(x:Rat):Rat:=if x.num<0 then -x else x
def mN(x:Rat):(fD x).num=(x.num.natAbs:Int)∧(fD x).den=x.den:=by
 unfold fD;split
 ·rw[zbN,zci];exact⟨by omega,rfl⟩
 ·exact⟨by omega,rfl⟩
def Ft:bc where
 L:=Rat
 args:=fun x=>[bN x]
 pre:=fun _=>True
 res:=fun x=>bN (fD x)
def Ku:a6 aS.ctx 117 Ft.spec:=by
 refine bq [] Sz.1 ?_;intro(x:Rat) _ H aH;refine I ?_;refine au rfl (bY.agg ⟨.of ?_,.of ?_,.of ?_,trivial⟩)
 ·rw[(mN x).1];congr 1
 ·rw[(mN x).1];rfl
 ·rw[(mN x).2]
def ho(x y:Rat):Int:=if x<y then -1 else if x=y then 0 else 1
def wG:bc where
 L:=Rat×Rat
 args:=fun(x,y)=>[bN x,bN y]
 pre:=fun(x,y)=>cK 268435456 x∧cK 268435456 y
 res:=fun(x,y)=>.i .i64 (ho x y)
def ld{l:Nat}(aY:dI k a)(hb:dI l b):dI (k+l) (a*b):=rl (by rw[zal];exact zeA (vZ aY) (vZ hb))
def ca(n:Bool)(p:Nat):Int:=if n then -(p:Int)else p
def AN(x:Rat):x.num=ca (decide (x.num<0)) x.num.natAbs:=by
 unfold ca;by_cases h:x.num<0
 ·rw[zad h,zab rfl];omega
 ·rw[zac h,zaa (by decide)];omega
def Rr(x y:Rat):(x.num.sign<y.num.sign->ho x y= -1)∧(y.num.sign<x.num.sign->ho x y=1)∧(x.num.sign=y.num.sign->ho x y=x.num.sign*hJ (x.num.natAbs*y.den) (y.num.natAbs*x.den)):=by
 have aa:=x.den_nz;have aF:=y.den_nz;have lt:x<y↔x.num*y.den<y.num*x.den:=Rat.lt_iff x y;have eq:x=y↔x.num*y.den=y.num*x.den:=by
  constructor
  ·rintro rfl;rfl
  ·intro h;have J:=(zcw (n₁:=x.num) (n₂:=y.num) aa aF).2 h;rw[zcL,zcL]at J;exact J
 have avf:(0:Int)<x.den:=by omega
 have A5:(0:Int)<y.den:=by omega
 have dQ:∀n:Int,(n<0∧n.sign= -1)∨(n=0∧n.sign=0)∨(0<n∧n.sign=1):=fun n=>by
  rcases(show n<0∨n=0∨0<n by omega)with h|h|h
  ·exact .inl ⟨h,zbx h⟩
  ·exact .inr (.inl ⟨h,by rw[h];rfl⟩)
  ·exact .inr (.inr ⟨h,zby h⟩)
 have Cy:x.num*(y.den:Int)=x.num.sign*((x.num.natAbs*y.den:Nat):Int):=by
  rw[zam,<-zbE,zcj]
 have af9:y.num*(x.den:Int)=y.num.sign*((y.num.natAbs*x.den:Nat):Int):=by
  rw[zam,<-zbE,zcj]
 have Zn:x.num≠0->0<x.num.natAbs*y.den:=fun h=>zbe (by omega) (by omega);have Zs:y.num≠0->0<y.num.natAbs*x.den:=fun h=>zbe (by omega) (by omega);rw[Cy,af9]at lt eq;unfold ho hJ;generalize x.num.natAbs*y.den=A at *;generalize y.num.natAbs*x.den=C at *;simp only[lt,eq];rcases dQ x.num with⟨fC,gO⟩|⟨fC,gO⟩|⟨fC,gO⟩<;>rcases dQ y.num with⟨cD,db⟩|⟨cD,db⟩|⟨cD,db⟩<;>rw[gO,db]<;>refine⟨fun h=> ?_,fun h=> ?_,fun h=> ?_⟩<;>first
  |(exfalso;omega)
  |(have J:=Zn (by omega);have U:=Zs (by omega);split<;>first|omega|(split<;>first|omega|(split<;>omega)))
  |(have J:=Zn (by omega);split<;>first|omega|(split<;>omega))
  |(have U:=Zs (by omega);split<;>first|omega|(split<;>omega))
  |(split<;>first|omega|(split<;>first|omega|(split<;>omega)))
def cH{l:Nat}(h:dI k a)(hl:k<=l):dI l a:=zaj h hl
def yL:a6 aS.ctx 12 wG.spec:=by
 refine bq [(39,uP.spec),(41,tk.spec),(40,AE.spec),(42,xd.spec)] SB.1 ?_;intro⟨x,y⟩ ⟨(aa:cK _ x),(aF:cK _ y)⟩ H aH;obtain⟨ee,fa,n6⟩:=Rr x y;refine I ?_;refine aZ sU x trivial (I ?_);refine aZ sU y trivial (I ?_);have dQ:∀n:Int,-1<=n.sign∧n.sign<=1:=fun n=>by
  rcases(show n<0∨n=0∨0<n by omega)with h|h|h
  ·rw[zbx h];decide
  ·rw[h];decide
  ·rw[zby h];decide
 refine cf (fun h=> ?_) (fun h=> ?_)
 ·refine I ?_;refine cf (fun J=> ?_) (fun J=> ?_)
  ·refine I ?_;exact au rfl (.of (by show ah.i .i64 (-1)=ah.i .i64 (ho x y);rw[ee J]))
  ·refine I ?_;exact au rfl (.of (by show ah.i .i64 1=ah.i .i64 (ho x y);rw[fa (by omega)]))
 have he:x.num.sign=y.num.sign:=by omega
 refine I ?_;refine aZ np y trivial (I ?_);refine aZ sA (x.num.natAbs,y.den) ⟨cH aa.1 (by decide),cH aF.2 (by decide)⟩ (I ?_);refine aZ np x trivial (I ?_);refine aZ sA (y.num.natAbs,x.den) ⟨cH aF.1 (by decide),cH aa.2 (by decide)⟩ (I ?_);refine aZ Ci (x.num.natAbs*y.den,y.num.natAbs*x.den) ⟨?_,?_⟩ ?_
 ·exact cH (ld aa.1 aF.2) (by decide)
 ·exact cH (ld aF.1 aa.2) (by decide)
 refine I ?_;refine au rfl (.of ?_);show ah.i .i64 (IntKind.i64.wrap (x.num.sign*hJ _ _))=ah.i .i64 (ho x y);rw[<-n6 he];have: -1<=ho x y∧ho x y<=1:=by
  unfold ho;split
  ·decide
  ·split<;>decide
 exact bo rfl (by omega) (by omega)
def zy(h:hJ a b<0):a<b:=by
 unfold hJ at h;split at h
 ·assumption
 ·split at h<;>omega
def zz(h:¬hJ a b<0):b<=a:=by
 rcases zao a b with aB|aB
 ·exact absurd (show hJ a b<0 by rw[zx aB];decide) h
 ·exact aB
def Kx(aY:dI k a)(hb:dI k b):dI (k+1) (a+b):=rl (by
 have J:=vZ aY;have U:=vZ hb;rw[zak];omega)
def add_same{x y:Rat}{n:Bool}(aa:x.num=ca n x.num.natAbs)(aF:y.num=ca n y.num.natAbs):mkRat (ca n (x.num.natAbs*y.den+y.num.natAbs*x.den)) (x.den*y.den)=x+y:=by
 rw[zdm];congr 1;have e:∀a b:Nat,ca n (a+b)=ca n a+ca n b:=fun a b=>by unfold ca;cases n<;>simp<;>omega
 have e2:∀a b:Nat,ca n (a*b)=ca n a*b:=fun a b=>by unfold ca;cases n<;>simp[zaT]
 rw[e,e2,e2,<-aa,<-aF]
def Ql{x y:Rat}{n m:Bool}(Hd:n≠m)(aa:x.num=ca n x.num.natAbs)(aF:y.num=ca m y.num.natAbs)(h:y.num.natAbs*x.den<=x.num.natAbs*y.den):mkRat (ca n (x.num.natAbs*y.den-y.num.natAbs*x.den)) (x.den*y.den)=x+y:=by
 rw[zdm];congr 1;have e2:∀(k:Bool) (a b:Nat),ca k (a*b)=ca k a*b:=fun k a b=>by unfold ca;cases k<;>simp[zaT]
 have e:∀a b:Nat,b<=a->ca n (a-b)=ca n a+ca m b:=fun a b iN=>by unfold ca;cases n<;>cases m<;>simp at Hd⊢<;>omega
 rw[e _ _ h,e2,e2,<-aa,<-aF]
def wE:bc where
 L:=Rat×Rat
 args:=fun(x,y)=>[bN x,bN y]
 pre:=fun(x,y)=>cK 268435456 x∧cK 268435456 y
 res:=fun(x,y)=>bN (x+y)
def wF:a6 aS.ctx 129 wE.spec:=by
 refine bq [(41,tk.spec),(40,AE.spec),(88,Fu.spec),(230,abQ.spec),(42,xd.spec),(31,v8.spec)] SH.1 ?_;intro⟨x,y⟩ ⟨(aa:cK _ x),(aF:cK _ y)⟩ H aH;have gy:=AN x;have mJ:=AN y;have eW:dI 536870912 (x.num.natAbs*y.den):=ld aa.1 aF.2;have g1:dI 536870912 (y.num.natAbs*x.den):=ld aF.1 aa.2;have rk:dI 536870912 (x.den*y.den):=ld aa.2 aF.2;have af:x.den*y.den≠0:=zaO x.den_nz y.den_nz;refine I ?_;refine aZ np y trivial (I ?_);refine aZ sA (x.num.natAbs,y.den) ⟨cH aa.1 (by decide),cH aF.2 (by decide)⟩ (I ?_);refine aZ np x trivial (I ?_);refine aZ sA (y.num.natAbs,x.den) ⟨cH aF.1 (by decide),cH aa.2 (by decide)⟩ (I ?_);refine aZ np x trivial (I ?_);refine aZ np y trivial (I ?_);refine aZ sA (x.den,y.den) ⟨cH aa.2 (by decide),cH aF.2 (by decide)⟩ (I ?_);refine yJ rfl (fun h=> ?_) (fun h=> ?_)
 ·have ai:decide (x.num<0)=decide (y.num<0):=zcs h;refine I ?_;refine aZ Kw (x.num.natAbs*y.den,y.num.natAbs*x.den) ⟨cH eW (by decide),cH g1 (by decide)⟩ (I ?_);refine aZ ph (decide (x.num<0),x.num.natAbs*y.den+y.num.natAbs*x.den,x.den*y.den) ⟨cH (Kx eW g1) (by decide),cH rk (by decide),af⟩ (I ?_);exact au rfl (.of (congrArg bN (add_same gy (ai▸mJ))))
 have ai:decide (x.num<0)≠decide (y.num<0):=ne_of_beq_false h;refine I ?_;refine aC Ci (x.num.natAbs*y.den,y.num.natAbs*x.den) ⟨cH eW (by decide),cH g1 (by decide)⟩ (I ?_);refine cf (fun h=> ?_) (fun h=> ?_)
 ·have a4:x.num.natAbs*y.den<y.num.natAbs*x.den:=zy h;refine I ?_;refine aZ abS (y.num.natAbs*x.den,x.num.natAbs*y.den) ⟨cH g1 (by decide),zbf a4⟩ (I ?_);refine aZ ph (decide (y.num<0),y.num.natAbs*x.den-x.num.natAbs*y.den,x.den*y.den) ⟨cH (sw g1 (zck _ _)) (by decide),cH rk (by decide),af⟩ (I ?_);refine au rfl (.of (congrArg bN ?_));have:=Ql ai.symm mJ gy (zbf a4);rw[Rat.add_comm,<-this,zai y.den x.den];rfl
 ·have lD:y.num.natAbs*x.den<=x.num.natAbs*y.den:=zz h;refine I ?_;refine aZ abS (x.num.natAbs*y.den,y.num.natAbs*x.den) ⟨cH eW (by decide),lD⟩ (I ?_);refine aZ ph (decide (x.num<0),x.num.natAbs*y.den-y.num.natAbs*x.den,x.den*y.den) ⟨cH (sw eW (zck _ _)) (by decide),cH rk (by decide),af⟩ (I ?_);exact au rfl (.of (congrArg bN (Ql ai gy mJ lD)))
def Bn:bc where
 L:=Rat×Rat
 args:=fun(x,y)=>[bN x,bN y]
 pre:=fun(x,y)=>cK 268435456 x∧cK 268435456 y
 res:=fun(x,y)=>bN (x-y)
def NG{x:Rat}(h:cK k x):cK k (-x):=by
 unfold cK;rw[zbN,zci,zbp];exact h
def EI:a6 aS.ctx 116 Bn.spec:=by
 refine bq [(123,H4.spec),(129,wE.spec)] Sy.1 ?_;intro⟨x,y⟩ ⟨(aa:cK _ x),(aF:cK _ y)⟩ H aH;refine I ?_;refine aZ H6 y trivial (I ?_);refine aZ wF (x,-y) ⟨aa,NG aF⟩ (I ?_);exact au rfl (.of (congrArg bN (zcM x y).symm))
def sr:bc where
 L:=Int
 args:=fun n=>[.i .i64 n]
 pre:=fun n=> -9223372036854775808<=n∧n<9223372036854775808
 res:=fun n=>bN (mkRat n 1)
def nN{n:Nat}(h:n<18446744073709551616):dI 2 n:=rl h
def lM:a6 aS.ctx 10 sr.spec:=by
 refine bq [(32,wg.spec),(31,v8.spec)] vw.1 ?_;intro(n:Int) ⟨(J:_<=n),(U:n<_)⟩ H aH;cases n with
 |ofNat k=>
  have U:(k:Int)<9223372036854775808:=U;clear J;refine I ?_;refine ag 12 (.i .u64 (k:Nat)) rfl dY ?_;refine aC ow k (by show k<_;omega) ?_;refine aC ow (1:Nat) (by show 1<_;decide) ?_;refine aC ph (false,k,1) ⟨cH (nN (by omega)) (by decide),cH (nN (by decide)) (by decide),by show 1≠0;decide⟩ (I ?_);exact au rfl (.refl _)
 |negSucc k=>
  refine I ?_;refine aaD rfl (by simp) ?_;refine an 7 ?_;have af7:IntKind.u64.wrap (-(IntKind.u64.wrap (Int.negSucc k)))=((k+1:Nat):Int):=by
   rw[J3,J3];rw[Int.negSucc_eq]at *;omega
  refine ag 7 (.i .u64 ((k+1:Nat):Int)) rfl (dY af7) ?_;rw[Int.negSucc_eq]at J;refine aC ow (k+1) (by show k+1<_;omega) ?_;refine aC ow (1:Nat) (by show 1<_;decide) ?_;refine aC ph (true,k+1,1) ⟨cH (nN (by omega)) (by decide),cH (nN (by decide)) (by decide),by show 1≠0;decide⟩ (I ?_);exact au rfl (.refl _)
def b9(x:Rat)(k:Int):Rat:=if k<0 then mkRat x.num (x.den*2^(-k).toNat)else mkRat (x.num*2^k.toNat) x.den
def A4(k:Nat):dI (k/32+1) (2^k):=rl (by
 rw[Pl k,zak,zai];exact Nat.mul_lt_mul_of_pos_left (by have:=Iy (zae k (show 0<32 by decide));omega) (zcu (by decide)))
def abm:bc where
 L:=Rat×Int
 args:=fun(x,k)=>[bN x,.i .i64 k]
 pre:=fun(x,k)=>cK 268435456 x∧-17179869184<k∧k<17179869184
 res:=fun(x,k)=>bN (b9 x k)
def aqQ:a6 aS.ctx 216 abm.spec:=by
 refine bq [(41,tk.spec),(161,JA.spec),(31,v8.spec)] Tx.1 ?_;intro⟨x,k⟩ ⟨(aa:cK _ x),(J:_<k),(U:k<_)⟩ H aH;have gy:=AN x;refine I ?_;refine cf (fun h=> ?_) (fun h=> ?_)
 ·obtain⟨n,rfl⟩:∃n:Nat,k= -(n:Int):=⟨(-k).toNat,by omega⟩;refine I ?_;refine aZ np x trivial (an 14 ?_);refine cm 14 (.i .i64 (n:Nat)) rfl rfl bo ?_;refine I ?_;refine aZ Bs (x.den,n) ⟨cH aa.2 (by decide),by show n<_;omega⟩ (I ?_);refine aZ ph (decide (x.num<0),x.num.natAbs,x.den*2^n) ⟨cH aa.1 (by decide),cH (ld aa.2 (cH (A4 n) (show _<=536870913 by omega))) (by decide),zaO x.den_nz (by have:=zag n;omega)⟩ (I ?_);refine au rfl (.of (congrArg bN ?_));show mkRat (ca _ _) _=b9 x (-(n:Int));unfold b9;rw[zab h,<-gy];congr 3;omega
 ·obtain⟨n,rfl⟩:∃n:Nat,k=(n:Int):=⟨k.toNat,by omega⟩;refine I ?_;refine aZ Bs (x.num.natAbs,n) ⟨cH aa.1 (by decide),by show n<_;omega⟩ (I ?_);refine aZ np x trivial (I ?_);refine aZ ph (decide (x.num<0),x.num.natAbs*2^n,x.den) ⟨cH (ld aa.1 (cH (A4 n) (show _<=536870913 by omega))) (by decide),cH aa.2 (by decide),x.den_nz⟩ (I ?_);refine au rfl (.of (congrArg bN ?_));show mkRat (ca _ _) _=b9 x (n:Int);unfold b9;have e2:∀(t:Bool) (a b:Nat),ca t (a*b)=ca t a*b:=fun t a b=>by unfold ca;cases t<;>simp[zaT]
  rw[zaa h,e2,<-gy];congr 1
def Jz:bc where
 L:=Rat×Int
 args:=fun(x,k)=>[bN x,.i .i64 k]
 pre:=fun(x,k)=>cK 268435456 x
 res:=fun(x,k)=>if -20000<=k∧k<=20000 then .bu [bN (b9 x k),.i .i64 0]else .bu [bN 0,.i .i64 7]
def abl:a6 aS.ctx 118 Jz.spec:=by
 refine bq [(216,abm.spec)] SA.1 ?_;intro⟨x,k⟩ (aa:cK _ x) H aH;have lJ:∀{r:ah},(-20000<=k∧k<=20000->bY r (.bu [bN (b9 x k),.i .i64 0]))->(¬(-20000<=k∧k<=20000)->bY r (.bu [bN 0,.i .i64 7]))->bY r (Jz.res (x,k)):=fun J U=>by
  show bY _ (if _ then _ else _);split
  ·exact J (by assumption)
  ·exact U (by assumption)
 refine an 8 ?_;by_cases J:k< -20000
 ·refine dG 8 J (I ?_);exact au rfl (lJ (fun h=>by omega) (fun _=>.bu ⟨le_zero,.refl _,trivial⟩))
 ·refine dW 8 J (I ?_);refine cf (fun U=> ?_) (fun U=> ?_)
  ·refine I ?_;exact au rfl (lJ (fun h=>by omega) (fun _=>.bu ⟨le_zero,.refl _,trivial⟩))
  ·refine I ?_;refine aC aqQ (x,k) ⟨aa,by show _<k;omega,by show k<_;omega⟩ (I ?_);exact au rfl (lJ (fun _=>.refl _) (fun h=>by omega))
def ach:bc where
 L:=Int
 args:=fun k=>[.i .i64 k]
 pre:=fun k=>True
 res:=fun k=>if -20000<=k∧k<=20000 then .bu [bN (b9 (mkRat 1 1) k),.i .i64 0]else .bu [bN 0,.i .i64 7]
def as0:a6 aS.ctx 231 ach.spec:=by
 refine bq [(10,sr.spec),(118,Jz.spec)] TH.1 ?_;intro(k:Int) _ H aH;refine I ?_;refine aC lM (1:Int) ⟨by decide,by decide⟩ (I ?_);refine aC abl (mkRat 1 1,k) ⟨cH (nN (by decide)) (by decide),cH (nN (by decide)) (by decide)⟩ ?_;by_cases h: -20000<=k∧k<=20000
 ·refine ag 6 (.bu [bN (b9 (mkRat 1 1) k),.i .i64 0]) rfl (zab h) (I ?_);exact au rfl (.of (zab h).symm)
 ·refine ag 6 (.bu [bN 0,.i .i64 7]) rfl (zaa h) (I ?_);exact au rfl (.of (zaa h).symm)
def ad3{n A t:Nat}(hA:A=V+4294967296^n*t)(hl:V<4294967296^n)(aV:t≠0):bI A=32*n+bI t:=by
 obtain⟨a,b⟩:=qP aV;have hp:bI t≠0:=fun e=>by rw[e]at b;omega
 have aw:4294967296^n=2^(32*n):=(zbD 2 32 n).symm;rw[aw]at hA hl;have:= @ad4 A (32*n+(bI t-1)) (by
  rw[zal];have:=lp (2^(32*n)) a;omega) (by
  rw[show 32*n+(bI t-1)+1=32*n+bI t by omega,zal];have:=lp (2^(32*n)) (show t+1<=2^bI t from b);rw[zaz]at this;omega)
 omega
def Q5:bc where
 L:=Nat
 args:=fun n=>[c3 n]
 pre:=fun n=>dI 1073741824 n
 res:=fun n=>.i .i64 (bI n:Nat)
def Q6:a6 aS.ctx 389 Q5.spec:=by
 refine bq [(264,ot.spec)] U3.1 ?_;intro(n:Nat) (hn:dI _ n) H aH;have hn:(aT 4294967296 n).length<=1073741824:=hn;refine I ?_;refine cf (fun h=> ?_) (fun h=> ?_)
 ·have h0:n=0:=rm.1 (by omega);refine I ?_;exact au rfl (.of (by show ah.i .i64 0=ah.i .i64 (bI n:Nat);rw[h0];rfl))
 have h0:(aT 4294967296 n).length≠0:=fun e=>h (by rw[e];rfl);have bE:=fW (b:=4294967296) (by decide) n;have aI:=fE (b:=4294967296) (by decide) n;have aV:=tw (b:=4294967296) (by decide) n;rcases zcg (aT 4294967296 n)with Dh|⟨c2,t,hc⟩
 ·exact absurd (by rw[Dh];rfl) h0
 rw[zch]at hc;rw[hc]at bE aI aV hn;have W2:=(AI (b:=4294967296) aV).2;have Hl:=bE t (by simp);have hlen:(aT 4294967296 n).length=c2.length+1:=by rw[hc];simp
 rw[k0]at aI;have nA:=ad3 (A:=n) (n:=c2.length) (V:=val 4294967296 c2) (t:=t) (by rw[<-aI];simp[val]) (jW (fun d aq=>bE d (by simp[aq]))) W2;have hi:c2.length<=1073741823:=by simp at hn;omega
 have W3:(aT 4294967296 n)[c2.length]? =some t:=by rw[hc];simp
 refine an 9 ?_;rw[hlen];refine ag 9 (.i .i64 (c2.length:Nat)) rfl bo (an 10 ?_);refine ag 10 (.i .i64 ((32*c2.length:Nat):Int)) rfl bo (an 13 ?_);refine ag 13 (.i .i64 (c2.length:Nat)) rfl bo ?_;refine ep t W3 ?_;refine I ?_;refine aC XN t Hl (I ?_);have:=KT Hl;exact au rfl (.of bo)
def gf(p q:Nat):Int:=if p*2^((bI q:Int)-bI p).toNat<q*2^((bI p:Int)-bI q).toNat then(bI p:Int)-bI q-1 else(bI p:Int)-bI q
def Yu:bc where
 L:=Rat
 args:=fun x=>[bN x]
 pre:=fun x=>cK 268435456 x
 res:=fun x=>.i .i64 (gf x.num.natAbs x.den)
def aod:a6 aS.ctx 344 Yu.spec:=by
 refine bq [(41,tk.spec),(389,Q5.spec),(161,JA.spec),(42,xd.spec)] UM.1 ?_;intro(x:Rat) (aa:cK _ x) H aH;have cD:=vY aa.1;have db:=vY aa.2;refine I ?_;refine aC np x trivial (I ?_);refine aC Q6 x.num.natAbs (cH aa.1 (by decide)) (I ?_);refine aC Q6 x.den (cH aa.2 (by decide)) (an 12 ?_);refine ag 12 (.i .i64 ((bI x.num.natAbs:Int)-bI x.den)) rfl bo (an 17 ?_);refine ag 17 (.i .i64 ((((bI x.den:Int)-bI x.num.natAbs).toNat:Nat):Int)) rfl (congrArg (ah.i .i64) (by rw[gd (n:= -((bI x.num.natAbs:Int)-bI x.den)) (by omega) (by omega)];omega)) ?_;have eW:((bI x.den:Int)-bI x.num.natAbs).toNat<8589934593:=by omega
 have g1:((bI x.num.natAbs:Int)-bI x.den).toNat<8589934593:=by omega
 refine aC Bs (x.num.natAbs,((bI x.den:Int)-bI x.num.natAbs).toNat) ⟨cH aa.1 (by decide),by show _<34359738368;omega⟩ (an 21 ?_);refine ag 21 (.i .i64 ((((bI x.num.natAbs:Int)-bI x.den).toNat:Nat):Int)) rfl (congrArg (ah.i .i64) (by omega)) ?_;refine aC Bs (x.den,((bI x.num.natAbs:Int)-bI x.den).toNat) ⟨cH aa.2 (by decide),by show _<34359738368;omega⟩ ?_;refine aC Ci (x.num.natAbs*2^((bI x.den:Int)-bI x.num.natAbs).toNat,x.den*2^((bI x.num.natAbs:Int)-bI x.den).toNat) ⟨cH (ld aa.1 (cH (A4 _) (show _<=268435457 by omega))) (by decide),cH (ld aa.2 (cH (A4 _) (show _<=268435457 by omega))) (by decide)⟩ (I ?_);refine cf (fun h=> ?_) (fun h=> ?_)
 ·refine I ?_;exact au rfl (.of (by
   show ah.i _ _=ah.i .i64 (gf _ _);unfold gf;rw[zab (zy h)];exact bo))
 ·refine I ?_;exact au rfl (.of (by
   show ah.i _ _=ah.i .i64 (gf _ _);unfold gf;rw[zaa (Nat.not_lt.2 (zz h))]))
def aaQ:bc where
 L:=Rat
 args:=fun x=>[bN x]
 pre:=fun x=>cK 268435456 x
 res:=fun x=>if x.num=0 then .bu [.i .i64 0,.i .i64 8]else .bu [.i .i64 (gf x.num.natAbs x.den),.i .i64 0]
def aqo:a6 aS.ctx 275 aaQ.spec:=by
 refine bq [(39,uP.spec),(344,Yu.spec)] Um.1 ?_;intro(x:Rat) (aa:cK _ x) H aH;refine I ?_;refine aC sU x trivial (I ?_);refine cf (fun h=> ?_) (fun h=> ?_)
 ·have h:x.num=0:=zbF.1 h;refine I ?_;exact au rfl (.of (zab h).symm)
 ·have h:x.num≠0:=fun e=>h (by rw[e];rfl);refine I ?_;refine aC aod x aa (I ?_);exact au rfl (.of (zaa h).symm)
def b0(e p:Int):Prop:=2<=e∧e<=11∧2<=p∧p<=113∧5<=e+p
variable{e:Int}
instance(e p:Int):Decidable (b0 e p):=by unfold b0;infer_instance
def hz(e p:Int):ah:=.agg [.i .i64 e,.i .i64 p]
def CG:bc where
 L:=Int×Int
 args:=fun(e,p)=>[hz e p]
 pre:=fun(e,p)=>True
 res:=fun(e,p)=>.i .i64 (if b0 e p then 0 else 2)
def Lw:a6 aS.ctx 92 CG.spec:=by
 refine bq [] VN.1 ?_;intro⟨e,p⟩ _ H aH;have bad:¬b0 e p->bY (.i .i64 2) (CG.res (e,p)):=fun h=>.of (by show _=ah.i .i64 (if _ then _ else _);rw[zaa h]);refine an 5 ?_;by_cases J:e<2
 ·refine dG 5 J (I ?_);exact au rfl (bad (by unfold b0;omega))
 refine dW 5 J (an 9 ?_);by_cases U:11<e
 ·refine dG 9 U (I ?_);exact au rfl (bad (by unfold b0;omega))
 refine dW 9 U (an 14 ?_);by_cases af:p<2
 ·refine dG 14 af (I ?_);exact au rfl (bad (by unfold b0;omega))
 refine dW 14 af (an 19 ?_);by_cases ax:113<p
 ·refine dG 19 ax (I ?_);exact au rfl (bad (by unfold b0;omega))
 refine dW 19 ax (an 26 ?_);refine ag 26 (.i .i64 (e+p)) rfl (bo rfl (by omega) (by omega)) (an 27 ?_);by_cases a0:e+p<5
 ·refine dG 27 a0 (I ?_);exact au rfl (bad (by unfold b0;omega))
 refine dW 27 a0 (I ?_);exact au rfl (.of (by show _=ah.i .i64 (if _ then _ else _);rw[zab (by unfold b0;omega)]))
def je(e p m b:Int):ah:=.agg [.i .i64 e,.i .i64 p,.i .i64 m,.i .i64 b]
def ch(e:Int):Int:=2^(e-1).toNat-1
def BL:bc where
 L:=Int×Int
 args:=fun(e,p)=>[hz e p,.i .i64 0,.nl]
 pre:=fun(e,p)=>True
 res:=fun(e,p)=>if b0 e p then .bu [je e p 0 (ch e),.i .i64 0]else .bu [je 0 0 0 0,.i .i64 2]
def PV:a6 aS.ctx 127 BL.spec:=by
 refine bq [(92,CG.spec)] LH.1 ?_;intro⟨e,p⟩ _ H aH;refine I ?_;refine aC Lw (e,p) trivial ?_;by_cases h:b0 e p
 ·refine ag 20 (.i .i64 0) rfl (by show ah.i .i64 (if _ then _ else _)=_;rw[zab h]) ?_;have dm:BL.res (e,p)= .bu [je e p 0 (ch e),.i .i64 0]:=zab h;obtain⟨r,hr⟩:∃r,r=BL.res (e,p):=⟨_,rfl⟩;obtain⟨J,U,_⟩:=h;refine I ?_;rcases(show e=2∨e=3∨e=4∨e=5∨e=6∨e=7∨e=8∨e=9∨e=10∨e=11 by omega)with h|h|h|h|h|h|h|h|h|h<;>subst h
  all_goals first|refine cm 28 (.i .i64 1) rfl rfl rfl ?_|refine cm 28 (.i .i64 2) rfl rfl rfl ?_|refine cm 28 (.i .i64 3) rfl rfl rfl ?_|refine cm 28 (.i .i64 4) rfl rfl rfl ?_|refine cm 28 (.i .i64 5) rfl rfl rfl ?_|refine cm 28 (.i .i64 6) rfl rfl rfl ?_|refine cm 28 (.i .i64 7) rfl rfl rfl ?_|refine cm 28 (.i .i64 8) rfl rfl rfl ?_|refine cm 28 (.i .i64 9) rfl rfl rfl ?_|refine cm 28 (.i .i64 10) rfl rfl rfl ?_
  all_goals (refine I ?_)
  all_goals (
   refine df (L:=Int×Int) (fun(E,b)=>r= .bu [je E p 0 b,.i .i64 0]) (fun(E,b)=>⟨[.c 234 [.i .i64 0,.i .i64 0,.i .i64 0,.i .i64 0],.c 234 [.i .i64 E,.i .i64 p,.i .i64 0,.i .i64 b]],2,[(34,.i .i64 0),(33,.i .i64 0),(8,.p 1 0),(6,.p 0 0),(7,.i .i64 0)]⟩) (fun _=>0) [1,2] (_,_) ?_ (by show 0<bT+1;omega) ⟨by decide,rfl,⟨⟨_,rfl,rfl⟩,⟨_,rfl,rfl⟩,trivial⟩,⟨rfl,rfl,rfl,rfl,rfl,trivial⟩,rfl⟩ ?_
   ·rw[hr];exact dm
   rintro⟨E,b⟩ fP;refine I ?_;exact au rfl (.of (fP.symm.trans hr)))
 ·refine ag 20 (.i .i64 2) rfl (by show ah.i .i64 (if _ then _ else _)=_;rw[zaa h]) (I ?_);exact au rfl (.of (zaa h).symm)
def Gs:bc where
 L:=Int
 args:=fun k=>[.i .i64 k]
 pre:=fun k=> -20000<=k∧k<=20000
 res:=fun k=>bN (b9 (mkRat 1 1) k)
def LG:a6 aS.ctx 130 Gs.spec:=by
 refine bq [(231,ach.spec)] SI.1 ?_;intro(k:Int) (h:_<=k∧k<=_) H aH;refine I ?_;refine aC as0 k trivial ?_;refine ag 7 (.bu [bN (b9 (mkRat 1 1) k),.i .i64 0]) rfl (zab h) (I ?_);exact au rfl (.refl _)
def r8:bc where
 L:=Rat×Int
 args:=fun(x,k)=>[bN x,.i .i64 k]
 pre:=fun(x,k)=>cK 268435456 x∧-20000<=k∧k<=20000
 res:=fun(x,k)=>bN (b9 x k)
def p0:a6 aS.ctx 177 r8.spec:=by
 refine bq [(118,Jz.spec)] Tq.1 ?_;intro⟨x,k⟩ ⟨aa,(h:_<=k∧k<=_)⟩ H aH;refine I ?_;refine aC abl (x,k) aa ?_;refine ag 10 (.bu [bN (b9 x k),.i .i64 0]) rfl (zab h) (I ?_);exact au rfl (.refl _)
def LC:bc where
 L:=Rat
 args:=fun x=>[bN x]
 pre:=fun x=>cK 268435456 x∧x.num≠0
 res:=fun x=>.i .i64 (gf x.num.natAbs x.den)
def So:a6 aS.ctx 179 LC.spec:=by
 refine bq [(275,aaQ.spec)] Ts.1 ?_;intro(x:Rat) ⟨aa,(h:_≠_)⟩ H aH;refine I ?_;refine aC aqo x aa ?_;refine ag 7 (.bu [.i .i64 (gf x.num.natAbs x.den),.i .i64 0]) rfl (zaa h) (I ?_);exact au rfl (.refl _)
def ia(J:2<=e)(U:e<=11):1<=ch e∧ch e<=1023:=by
 unfold ch;rcases(show e=2∨e=3∨e=4∨e=5∨e=6∨e=7∨e=8∨e=9∨e=10∨e=11 by omega)with h|h|h|h|h|h|h|h|h|h<;>subst h<;>decide
def Nj:bc where
 L:=Int×Int×Int
 args:=fun(e,p,m)=>[je e p m (ch e)]
 pre:=fun(e,p,m)=>b0 e p
 res:=fun(e,p,m)=>.i .i64 (2-ch e-p)
def Nk:a6 aS.ctx 330 Nj.spec:=by
 refine bq [] UE.1 ?_;intro⟨e,p,m⟩ ⟨J,U,af,ax,a0⟩ H aH;obtain⟨cD,db⟩:=ia J U;refine an 5 ?_;refine ag 5 (.i .i64 (2-ch e)) rfl (bo rfl (by omega) (by omega)) (I ?_);exact au rfl (.of (bo rfl (by omega) (by omega)))
def NL:bc where
 L:=Int×Int×Int
 args:=fun(e,p,m)=>[je e p m (ch e)]
 pre:=fun(e,p,m)=>b0 e p
 res:=fun(e,p,m)=>.i .i64 (1-ch e)
def Yy:a6 aS.ctx 274 NL.spec:=by
 refine bq [] Ul.1 ?_;intro⟨e,p,m⟩ ⟨J,U,af,ax,a0⟩ H aH;obtain⟨cD,db⟩:=ia J U;refine I ?_;exact au rfl (.of (bo rfl (by omega) (by omega)))
def uq(J:dI k n.natAbs)(U:dI k d)(aq:d≠0):cK k (mkRat n d):=by
 obtain⟨aw,e2⟩:=sz n d aq;refine⟨sw J ?_,sw U ?_⟩
 ·rw[aw,Int.natAbs_ediv_of_dvd (Int.ofNat_dvd_left.2 (zdl _ _))];exact zau _ _
 ·rw[e2];exact zau _ _
def dO{l:Nat}{x:Rat}(h:cK k x)(hl:k<=l):cK l x:=⟨cH h.1 hl,cH h.2 hl⟩
def anu{c:Int}:bY (.bu [.agg [.b false,.nl,.nl],.i .i64 c]) (.bu [bN 0,.i .i64 c]):=.bu ⟨le_zero,.refl _,trivial⟩
def ur(c:Nat){x:Rat}{k:Int}(h:cK a x)(J: -(32*(c:Int))<k)(U:k<32*(c:Int)):cK (a+c) (b9 x k):=by
 have hp:∀n:Nat,n<32*c->dI c (2^n):=fun n hn=>cH (A4 n) (by omega);unfold b9;split
 ·exact uq (cH h.1 (by omega)) (ld h.2 (hp _ (by omega))) (zaO x.den_nz (by have:=zag (-k).toNat;omega))
 ·refine uq ?_ (cH h.2 (by omega)) x.den_nz;rw[zbq,zdn];exact ld h.1 (hp _ (by omega))
def H0(n:Int)(J: -9223372036854775808<=n)(U:n<9223372036854775808):cK 2 (mkRat n 1):=uq (nN (by omega)) (nN (by decide)) (by decide)
def an0{x y:Rat}(J:cK a x)(U:cK b y):cK (a+b+1) (x+y):=by
 rw[zdm];have er:=ld J.1 U.2;have bb:=ld U.1 J.2;refine uq (sw (Kx er (cH bb (by omega))) ?_) (cH (ld J.2 U.2) (by omega)) (zaO x.den_nz y.den_nz);have:=Int.natAbs_add_le (x.num*y.den) (y.num*x.den);rw[zbq,zbq]at this;simpa using this
def H2{x y:Rat}(J:cK a x)(U:cK b y):cK (a+b+1) (x-y):=by
 rw[zcM];exact an0 J (NG U)
def ib(e p:Int):Rat:=b9 (b9 (mkRat 1 1) p-mkRat 1 1) (ch e-p+1)
def Yr{p:Int}(h:b0 e p):cK 41 (ib e p):=by
 obtain⟨J,U,af,ax,a0⟩:=h;obtain⟨cD,db⟩:=ia J U;have hi:=H0 1 (by decide) (by decide);exact dO (ur 32 (H2 (ur 4 hi (by omega) (by omega)) hi) (by omega) (by omega)) (by decide)
def Nz:bc where
 L:=Int×Int×Int
 args:=fun(e,p,m)=>[je e p m (ch e)]
 pre:=fun(e,p,m)=>b0 e p
 res:=fun(e,p,m)=>bN (ib e p)
def Yd:a6 aS.ctx 180 Nz.spec:=by
 refine bq [(130,Gs.spec),(10,sr.spec),(116,Bn.spec),(177,r8.spec)] Tt.1 ?_;intro⟨e,p,m⟩ ⟨J,U,af,ax,a0⟩ H aH;obtain⟨cD,db⟩:=ia J U;have hi:=H0 1 (by decide) (by decide);refine I ?_;refine aZ LG p ⟨by omega,by omega⟩ (I ?_);refine aZ lM (1:Int) ⟨by decide,by decide⟩ (I ?_);refine aZ EI (b9 (mkRat 1 1) p,mkRat 1 1) ⟨dO (ur 4 hi (by omega) (by omega)) (by decide),dO hi (by decide)⟩ (an 14 ?_);refine cm 14 (.i .i64 (ch e-p)) rfl rfl (bo rfl (by omega) (by omega)) ?_;refine an 15 ?_;refine cm 15 (.i .i64 (ch e-p+1)) rfl rfl (bo rfl (by omega) (by omega)) ?_;refine I ?_;refine aZ p0 (b9 (mkRat 1 1) p-mkRat 1 1,ch e-p+1) ⟨dO (H2 (ur 4 hi (by omega) (by omega)) hi) (by decide),by show _<=ch e-p+1;omega,by show ch e-p+1<=_;omega⟩ (I ?_);exact au rfl (.refl _)
def NC:bc where
 L:=Int×Int×Int×Int
 args:=fun(e,p,k,m)=>[je e p m (ch e),.i .i64 k]
 pre:=fun(e,p,k,m)=>b0 e p∧-1000000000000<=k∧k<=1000000000000
 res:=fun(e,p,k,m)=>.i .i64 (max k (1-ch e)-p+1)
def Ym:a6 aS.ctx 178 NC.spec:=by
 refine bq [(274,NL.spec)] Tr.1 ?_;intro⟨e,p,k,m⟩ ⟨⟨J,U,af,ax,a0⟩,(ck:_<=k),(dx:k<=_)⟩ H aH;obtain⟨cD,db⟩:=ia J U;refine I ?_;refine aZ Yy (e,p,m) ⟨J,U,af,ax,a0⟩ (I ?_);exact au rfl (.of (by
  show ah.i _ (IntKind.i64.wrap (IntKind.i64.wrap (max k (1-ch e)-p)+1))=ah.i .i64 (max k (1-ch e)-p+1);rw[gd (n:=max k (1-ch e)-p) (by omega) (by omega)];exact bo rfl (by omega) (by omega)))
def EP(e p:Int)(x:Rat):Int:=if x.num=0 then 2-ch e-p else max (gf x.num.natAbs x.den) (1-ch e)-p+1
def n7{x y:Rat}:0<ho x y↔y<x:=by
 unfold ho;constructor
 ·intro h;split at h
  ·omega
  split at h
  ·omega
  exact Rat.lt_of_le_of_ne (zbO.1 (by assumption)) (fun e=>by simp_all)
 ·intro h;rw[zaa (zbO.2 (Rat.le_of_lt h)),zaa (fun e=>by subst e;exact absurd h (zbO.2 (Rat.le_refl)))];decide
def HZ{x:Rat}(h:cK k x):cK k (fD x):=by
 unfold fD;split
 ·exact NG h
 ·exact h
def DN(p q:Nat): -(bI q:Int)-1<=gf p q∧gf p q<=bI p:=by unfold gf;split<;>omega
def fO(d:Nat):ac ah:=[.i .i64 d]
def c4(ds:ac Nat):ah:=.c5 1 Nat fO ds
def cS(n:Nat):ah:=c4 (aT 1000000000 n)
def dy(k n:Nat):Prop:=(aT 1000000000 n).length<=k
variable{w l6 oP:Nat}
def wC:bc where
 L:=ac Nat
 args:=fun ds=>[c4 ds]
 pre:=fun ds=>ds.length<=1099511627776
 res:=fun ds=>c4 (eF ds)
def wD:a6 aS.ctx 157 wC.spec:=by
 refine bq [] Tc.1 ?_;intro(ds:ac Nat) (hp:ds.length<=1099511627776) H aH;refine I ?_;refine df (fun es:ac Nat=>eF es=eF ds∧es.length<=ds.length) (fun es=>⟨[],0,[(0,c4 es)]⟩) List.length [] ds ⟨rfl,b5 _⟩ (by show ds.length<bT+1;unfold bT;omega) ew ?_;rintro es ⟨J,U⟩;rcases zcg es with rfl|⟨c2,d,rfl⟩
 ·refine I ?_;exact au rfl (.of (by rw[show wC.res ds=c4 (eF ds)from rfl,<-J];rfl))
 ·rw[zch]at *;have hl:(c2++[d]).length=c2.length+1:=by simp
  refine I ?_;refine ag 6 (.b true) rfl (by simp) (I ?_);refine ag 10 (.i .i64 (c2.length:Nat)) rfl (by rw[hl,gd]<;>simp<;>omega) ?_;refine e7 (MT rfl rfl (show(c2++[d])[c2.length]? =some d by simp)) ?_;refine I ?_;refine yJ rfl (fun aq=> ?_) (fun aq=> ?_)
  ·have aq:d=0:=by simpa using aq
   refine I ?_;refine ag 18 (.i .i64 (c2.length:Nat)) rfl (by rw[hl,gd]<;>simp<;>omega) ?_;refine e7 (Pq (p:=0) rfl rfl ⟨_,rfl⟩ (zaf _) (by simp)) ?_;refine I ?_;refine ba [] c2 ⟨by simp,by rw[<-J,rQ,zab aq],by omega⟩ (iC ⟨?_,trivial⟩);simp[dZ,m7,c4]
  ·have aq:d≠0:=by simpa using aq
   refine I ?_;exact au rfl (.of (by rw[show wC.res ds=c4 (eF ds)from rfl,<-J,rQ,zaa aq]))
def sL:bc where
 L:=Nat×Nat
 args:=fun(a,b)=>[cS a,cS b]
 pre:=fun(a,b)=>dy 1073741824 a∧dy 1073741824 b
 res:=fun(a,b)=>.i .i64 (hJ a b)
def rC:a6 aS.ctx 155 sL.spec:=by
 refine bq [] Ta.1 ?_;intro⟨a,b⟩ ⟨(aY:(aT _ a).length<=_),(hb:(aT _ b).length<=_)⟩ H aH;have J:=fW (b:=1000000000) (by decide) a;have U:=fW (b:=1000000000) (by decide) b;have t1:=tw (b:=1000000000) (by decide) a;have t2:=tw (b:=1000000000) (by decide) b;have iF:=fE (b:=1000000000) (by decide) a;have nZ:=fE (b:=1000000000) (by decide) b;show a1.ok _ ⟨_,_,⟨_,_,[(0,c4 (aT 1000000000 a)),(1,c4 (aT 1000000000 b))]⟩⟩;generalize aT 1000000000 a=xs at *;generalize aT 1000000000 b=av at *;have fin:∀{r:Int},hJ a b=r->bY (.i .i64 r) (sL.res (a,b)):=fun h=>by rw[<-h];exact .refl _
 refine I ?_;refine cf (fun h=> ?_) (fun h=> ?_)
 ·have h:xs.length≠av.length:=by omega
  refine I ?_;refine cf (fun h=> ?_) (fun h=> ?_)
  ·have h:xs.length<av.length:=by omega
   refine I ?_;have:=HN (b:=1000000000) (by decide) J t2 h;exact au rfl (fin (zx (by omega)))
  ·have h:av.length<xs.length:=by have:av.length<=xs.length:=by omega
                                  omega
   refine I ?_;have:=HN (b:=1000000000) (by decide) U t1 h;exact au rfl (fin (FQ (by omega)))
 have h:xs.length=av.length:=by omega
 refine I ?_;refine df (L:=Nat) (fun k=>k<=xs.length∧xs.drop k=av.drop k) (fun(k:Nat)=>⟨[],0,[(0,c4 xs),(1,c4 av),(5,.i .i64 ((k:Int)-1))]⟩) id [] xs.length ⟨b5 _,by rw[zct,h,zct]⟩ (by show xs.length<bT+1;unfold bT;omega) (iC ⟨rfl,rfl,eC,trivial⟩) ?_;rintro(k:Nat) ⟨ab,aq⟩;cases k with
 |zero=>
  refine I ?_;exact au rfl (fin (by simp at aq;rw[aq]at iF;rw[<-iF,<-nZ];exact Rs _))
 |succ m=>
  have aa:m<xs.length:=by omega
  have aF:m<av.length:=by omega
  have e:((m+1:Nat):Int)-1=(m:Nat):=by omega
  refine ag 5 (.i .i64 (m:Nat)) rfl (dY e) (I ?_);refine ag 20 (.b true) rfl (by simp) (I ?_);refine hK xs[m] (bV aa) ?_;refine I ?_;refine hK av[m] (bV aF) ?_;refine I ?_;have gy:=F9 aa;have mJ:=F9 aF;refine cf (fun h=> ?_) (fun h=> ?_)
  ·have a4:xs[m]<av[m]:=by omega
   refine I ?_;refine au rfl (fin (zx ?_));rw[<-iF,<-nZ,gy,mJ,aq];exact JU (fun x aa=>J x (zbL aa)) (by simp;omega) a4
  refine I ?_;refine hK xs[m] (bV aa) ?_;refine I ?_;refine hK av[m] (bV aF) ?_;refine I ?_;refine cf (fun aB=> ?_) (fun aB=> ?_)
  ·have a4:av[m]<xs[m]:=by omega
   refine I ?_;refine au rfl (fin (FQ ?_));rw[<-iF,<-nZ,gy,mJ,aq];exact JU (fun x aa=>U x (zbL aa)) (by simp;omega) a4
  ·have he:xs[m]=av[m]:=by omega
   refine I ?_;refine ba [] m ⟨by simp,by omega,?_⟩ (iC ⟨rfl,rfl,eC,trivial⟩);rw[hk aa,hk aF,he,aq]
def Ei:bc where
 L:=Nat×Nat
 args:=fun(a,b)=>[cS a,cS b]
 pre:=fun(a,b)=>dy 1073741824 a∧dy 1073741824 b
 res:=fun(a,b)=>cS (a+b)
def r3{n:Nat}(h:(aT 1000000000 n).length<=k):n<1000000000^k:=by
 have J:=jW (fW (b:=1000000000) (by decide) n);rw[fE (by decide)]at J;exact fy J (zax (by decide) h)
def BZ(aY:(aT 1000000000 a).length<=k)(hb:(aT 1000000000 b).length<=k):(aT 1000000000 (a+b)).length<=k+1:=hL (by decide) (by
 have:=r3 aY;have:=r3 hb;rw[zak];omega)
def aez{u:Nat}(h:w=u+v+c):w≠0↔(u≠0∨v≠0∨0<c):=by omega
def adA{D:ac Nat}{m:Nat}(h:i<D.length)(hm:i<m)(aq:D[i]=d):(D.take i++List.replicate (m-i) 0).take i++([d]++(D.take i++List.replicate (m-i) 0).drop (i+[d].length))=D.take (i+1)++List.replicate (m-(i+1)) 0:=by
 have hl:(D.take i).length=i:=by rw[zay];omega
 rw[asQ h,aq,show m-i=(m-(i+1))+1 by omega,zep,zbW];congr 1
 ·rw[zda (by omega),zaF (by omega)]
 ·congr 1;rw[List.drop_append,zcf (by simp;omega),hl];simp
def IF:a6 aS.ctx 81 Ei.spec:=by
 refine bq [] VF.1 ?_;intro⟨a,b⟩ ⟨(aY:(aT _ a).length<=_),(hb:(aT _ b).length<=_)⟩ H aH;show a1.ok _ ⟨_,_,⟨_,_,[(0,c4 (aT 1000000000 a)),(1,c4 (aT 1000000000 b))]⟩⟩;obtain⟨m,hm⟩:∃m,m=max (aT 1000000000 a).length (aT 1000000000 b).length:=⟨_,rfl⟩;have g5:=BZ (k:=m) (a:=a) (b:=b) (by omega) (by omega);refine an 13 ?_;refine ag 13 (.i .i64 ((m+1:Nat):Int)) rfl bo ?_;refine pz (n:=0) (c:=m+1) fO 0 ?_ (hn:=zaf _);refine I ?_;refine df (L:=Nat) (fun i=>i<=(aT 1000000000 (a+b)).length)
  (fun(i:Nat)=>⟨[.a 2 false 1 Nat fO ((aT 1000000000 (a+b)).take i++List.replicate (m+1-i) 0)],1,[(0,c4 (aT 1000000000 a)),(1,c4 (aT 1000000000 b)),(5,.bj 0 1 0 i (m+1)),(6,.i .i64 (l8 1000000000 a b i:Nat)),(7,.i .i64 i)]⟩)
  (fun i=>m+1-i) [0] 0 (zaf _) (by show m+1-0<bT+1;unfold bT;omega) (dK ⟨rfl,rfl,rfl,by rw[afe];rfl,rfl,trivial⟩ ⟨_,rfl,rfl,fun _=>rfl⟩) ?_
 rintro(i:Nat) hi;have Rh:=RB (b:=1000000000) (x:=a) (y:=b) (i:=i) (by decide);have fV:=afc (b:=1000000000) (x:=a) (y:=b) (i:=i) (by decide);have MS:= @xo 1000000000 a i (by decide);have Xe:= @xo 1000000000 b i (by decide);have amv:= @xo 1000000000 (a+b) i (by decide);have L6:(i<(aT 1000000000 (a+b)).length)↔(i<(aT 1000000000 a).length∨i<(aT 1000000000 b).length∨0<l8 1000000000 a b i):=by rw[MS,Xe,amv];exact aez Rh
 refine I ?_;refine fK (L:=Bool) (fun t=>t=decide (i<(aT 1000000000 (a+b)).length)) (fun t=>⟨[.a 2 false 1 Nat fO ((aT 1000000000 (a+b)).take i++List.replicate (m+1-i) 0)],1,[(0,c4 (aT 1000000000 a)),(1,c4 (aT 1000000000 b)),(5,.bj 0 1 0 i (m+1)),(6,.i .i64 (l8 1000000000 a b i:Nat)),(7,.i .i64 i),(28,.b t)]⟩) ?_ ?_
 ·by_cases J:i<(aT 1000000000 a).length
  ·refine ag 19 (.b true) rfl (by simp[J]) (I ?_);exact ba [0] true (by simp[L6,J]) du
  refine ag 19 (.b false) rfl (by simp[J]) (an 25 ?_);by_cases U:i<(aT 1000000000 b).length
  ·refine ag 25 (.b true) rfl (by simp[U]) (I ?_);exact ba [0] true (by simp[L6,U]) du
  refine ag 25 (.b false) rfl (by simp[U]) (I ?_);exact ba [0] (decide ((0:Int)<(l8 1000000000 a b i:Nat))) (by simp only[L6];congr 1;simp;omega) du
 intro t aV;by_cases a4:i<(aT 1000000000 (a+b)).length
 ·refine ag 28 (.b true) rfl (by rw[aV,zad a4]) ?_;obtain⟨pT,o8⟩:∃d,d=a/1000000000^i%1000000000:=⟨_,rfl⟩;obtain⟨tu,z4⟩:∃d,d=b/1000000000^i%1000000000:=⟨_,rfl⟩;have ue:pT<1000000000:=by rw[o8];exact zae _ (by decide)
  have HK:tu<1000000000:=by rw[z4];exact zae _ (by decide)
  have cs:=afd (b:=1000000000) (x:=a) (y:=b) (i:=i) (by decide);have K3:=afb (b:=1000000000) (x:=a) (y:=b) (i:=i) (by decide);rw[<-o8,<-z4]at cs K3;obtain⟨c,hc⟩:∃c,c=l8 1000000000 a b i:=⟨_,rfl⟩;rw[<-hc]at cs K3 fV;have afL:=afN (b:=1000000000) (n:=a+b) (i:=i) (by decide) a4;refine ag 6 (.i .i64 (c:Nat)) rfl (by rw[hc]) (I ?_);refine fK (L:=Unit) (fun _=>True) (fun _=>⟨[.a 2 false 1 Nat fO ((aT 1000000000 (a+b)).take i++List.replicate (m+1-i) 0)],1,[(0,c4 (aT 1000000000 a)),(1,c4 (aT 1000000000 b)),(5,.bj 0 1 0 i (m+1)),(6,.i .i64 ((c+pT:Nat):Int)),(7,.i .i64 i)]⟩) ?_ ?_
  ·refine cf (fun h=> ?_) (fun h=> ?_)
   ·have h:i<(aT 1000000000 a).length:=by omega
    refine I ?_;refine ep pT (by rw[o8];exact tv (by decide) h) ?_;refine I ?_;exact ba [0] () trivial (dK ⟨rfl,rfl,rfl,eC,rfl,trivial⟩ ⟨_,rfl,rfl,fun _=>rfl⟩)
   ·have h:¬i<(aT 1000000000 a).length:=by omega
    have h0:pT=0:=by
     have:a/1000000000^i=0:=Decidable.not_not.1 (fun aB=>h (MS.2 aB));rw[o8,this]
    refine I ?_;exact ba [0] () trivial (dK ⟨rfl,rfl,rfl,lN,rfl,trivial⟩ ⟨_,rfl,rfl,fun _=>rfl⟩)
  intro _ _;refine I ?_;refine fK (L:=Unit) (fun _=>True) (fun _=>⟨[.a 2 false 1 Nat fO ((aT 1000000000 (a+b)).take i++List.replicate (m+1-i) 0)],1,[(0,c4 (aT 1000000000 a)),(1,c4 (aT 1000000000 b)),(5,.bj 0 1 0 i (m+1)),(6,.i .i64 ((c+pT+tu:Nat):Int)),(7,.i .i64 i)]⟩) ?_ ?_
  ·refine cf (fun h=> ?_) (fun h=> ?_)
   ·have h:i<(aT 1000000000 b).length:=by omega
    refine I ?_;refine ep tu (by rw[z4];exact tv (by decide) h) ?_;refine I ?_;exact ba [0] () trivial (dK ⟨rfl,rfl,rfl,eC,rfl,trivial⟩ ⟨_,rfl,rfl,fun _=>rfl⟩)
   ·have h:¬i<(aT 1000000000 b).length:=by omega
    have h0:tu=0:=by
     have:b/1000000000^i=0:=Decidable.not_not.1 (fun aB=>h (Xe.2 aB));rw[z4,this]
    refine I ?_;exact ba [0] () trivial (dK ⟨rfl,rfl,rfl,lN,rfl,trivial⟩ ⟨_,rfl,rfl,fun _=>rfl⟩)
  intro _ _;refine an 53 ?_;refine ag 53 (.i .i64 (((c+pT+tu)%1000000000:Nat):Int)) rfl rfl (I ?_);refine aau (R:=fO) [(c+pT+tu)%1000000000] (ll (R:=fO) [(c+pT+tu)%1000000000] rfl) ((aT 1000000000 (a+b)).take (i+1)++List.replicate (m+1-(i+1)) 0) ?_ (hl:= ?_) (hc:= ?_)
  ·refine an 57 ?_;refine ag 57 (.i .i64 (((c+pT+tu)/1000000000:Nat):Int)) rfl (by show ah.i _ (IntKind.i64.wrap (((c+pT+tu)/1000000000:Nat):Int))=_;exact bo rfl (by omega) (by omega)) (I ?_);exact ba [0] (i+1) ⟨by show m+1-(i+1)<m+1-i;omega,a4⟩ (dK ⟨rfl,rfl,rfl,by rw[cs];rfl,eC,trivial⟩ ⟨_,rfl,rfl,fun _=>rfl⟩)
  ·simp;omega
  ·exact adA a4 (by omega) (by rw[afL,K3])
 ·refine ag 28 (.b false) rfl (by rw[aV,zac a4]) (an 58 ?_);have he:i=(aT 1000000000 (a+b)).length:=by omega
  refine Jj 58 (aT 1000000000 (a+b)) ?_ (hl:=by rw[zap,zda (by simp;omega),zdH,Nat.min_self,zaF (by omega)]) (hn:=he.symm);refine I ?_;exact au rfl (.refl _)
def I6:bc where
 L:=Nat×Nat
 args:=fun(a,b)=>[cS a,cS b]
 pre:=fun(a,b)=>dy 1073741824 a∧b<=a
 res:=fun(a,b)=>cS (a-b)
def adB{O:ac Nat}{m:Nat}(h:O.length=i)(hm:i<m):(O++List.replicate (m-i) 0).take i++([d]++(O++List.replicate (m-i) 0).drop (i+[d].length))=(O++[d])++List.replicate (m-(i+1)) 0:=by
 subst h;rw[show m-O.length=(m-(O.length+1))+1 by omega,zep,zbW];congr 1
 ·rw[zda (by omega),zaF (by omega)]
 ·congr 1;rw[List.drop_append,zcf (by simp)];simp
def Et:a6 aS.ctx 158 I6.spec:=by
 refine bq [(157,wC.spec)] Td.1 ?_;intro⟨a,b⟩ ⟨(aY:(aT _ a).length<=_),(iN:b<=a)⟩ H aH;have J:=fW (b:=1000000000) (by decide) a;have U:=fW (b:=1000000000) (by decide) b;have iF:=fE (b:=1000000000) (by decide) a;have nZ:=fE (b:=1000000000) (by decide) b;have hlen:(aT 1000000000 b).length<=(aT 1000000000 a).length:=hL (by decide) (zaG iN (r3 (b5 _)));show a1.ok _ ⟨_,_,⟨_,_,[(0,c4 (aT 1000000000 a)),(1,c4 (aT 1000000000 b))]⟩⟩;generalize aT 1000000000 a=xs at *;generalize aT 1000000000 b=av at *;refine I ?_;refine pz (n:=0) (c:=xs.length) fO 0 ?_ (hn:=zaf _);refine I ?_;refine df (L:=Nat×ac Nat×Nat) (fun(i,outs,c)=>i<=xs.length∧outs.length=i∧cX 1000000000 outs∧c<=1∧val 1000000000 (xs.take i)+1000000000^i*c=val 1000000000 outs+val 1000000000 (av.take i))
  (fun((i:Nat),(outs:ac Nat),(c:Nat))=>⟨[.a 2 false 1 Nat fO (outs++List.replicate (xs.length-i) 0)],1,[(0,c4 xs),(1,c4 av),(5,.bj 0 1 0 i xs.length),(6,.i .i64 c),(7,.i .i64 i)]⟩)
  (fun l=>xs.length-l.1) [0] (0,[],0) ⟨zaf _,rfl,fun x aa=>by simp at aa,by decide,by simp[val]⟩ (by show xs.length-0<bT+1;unfold bT;omega) du ?_
 rintro⟨i,outs,c⟩ ⟨hi,gT,bE,hc,aI⟩;refine I ?_;refine cf (fun h=> ?_) (fun h=> ?_)
 ·have h:i<xs.length:=by omega
  have Dy:xs[i]? =some xs[i]:=bV h;have a4:=J _ (ea h);refine I ?_;refine ep xs[i] Dy ?_;refine I ?_;refine fK (L:=Nat) (fun y=>y<1000000000∧val 1000000000 (av.take (i+1))=val 1000000000 (av.take i)+1000000000^i*y) (fun(y:Nat)=>⟨[.a 2 false 1 Nat fO (outs++List.replicate (xs.length-i) 0)],1,[(0,c4 xs),(1,c4 av),(5,.bj 0 1 0 i xs.length),(7,.i .i64 i),(8,.i .i64 ((xs[i]:Int)-c-y))]⟩) ?_ ?_
  ·refine cf (fun aB=> ?_) (fun aB=> ?_)
   ·have aB:i<av.length:=by simpa using aB
    have DA:av[i]? =some av[i]:=bV aB;have Dc:=U _ (ea aB);refine I ?_;refine ep av[i] DA ?_;refine I ?_;refine ba [0] av[i] ⟨Dc,hF aB⟩ (dK ⟨rfl,rfl,rfl,rfl,?_,trivial⟩ ⟨_,rfl,rfl,fun _=>rfl⟩);exact congrArg (fun n=>some (ah.i .i64 n)) (by rw[gd (n:=(xs[i]:Int)-c) (by omega) (by omega)];exact uX rfl (by omega) (by omega))
   ·have aB:av.length<=i:=by simpa using aB
    refine I ?_;refine ba [0] 0 ⟨by decide,by rw[jv (by omega),jv aB];simp⟩ (dK ⟨rfl,rfl,rfl,rfl,?_,trivial⟩ ⟨_,rfl,rfl,fun _=>rfl⟩);exact congrArg (fun n=>some (ah.i .i64 n)) (uX (by omega) (by omega) (by omega))
  rintro y ⟨aF,fR⟩;refine I ?_;refine fK (L:=Nat×Nat) (fun(d,b6)=>d<1000000000∧b6<=1∧xs[i]+1000000000*b6=d+y+c) (fun((d:Nat),(b6:Nat))=>⟨[.a 2 false 1 Nat fO (outs++List.replicate (xs.length-i) 0)],1,[(0,c4 xs),(1,c4 av),(5,.bj 0 1 0 i xs.length),(6,.i .i64 b6),(7,.i .i64 i),(8,.i .i64 d)]⟩) ?_ ?_
  ·refine cf (fun aB=> ?_) (fun aB=> ?_)
   ·refine I ?_;refine ba [0] (xs[i]+1000000000-c-y,1) ⟨by omega,by omega,by omega⟩ (dK ⟨rfl,rfl,rfl,rfl,rfl,?_,trivial⟩ ⟨_,rfl,rfl,fun _=>rfl⟩);exact congrArg (fun n=>some (ah.i .i64 n)) (uX (by omega) (by omega) (by omega))
   ·refine I ?_;refine ba [0] (xs[i]-c-y,0) ⟨by omega,by omega,by omega⟩ (dK ⟨rfl,rfl,rfl,rfl,rfl,?_,trivial⟩ ⟨_,rfl,rfl,fun _=>rfl⟩);exact congrArg (fun n=>some (ah.i .i64 n)) (by omega)
  rintro⟨d,b6⟩ ⟨aq,mW,he⟩;refine I ?_;refine aau (R:=fO) [d] (ll (R:=fO) [d] rfl) ((outs++[d])++List.replicate (xs.length-(i+1)) 0) ?_ (hl:=adB gT h) (hc:=by simp;omega);refine I ?_;refine ba [0] (i+1,outs++[d],b6) ⟨by show xs.length-(i+1)<xs.length-i;omega,by omega,by simp[gT],?_,mW,?_⟩ (dK ⟨rfl,rfl,rfl,rfl,eC,trivial⟩ ⟨_,rfl,rfl,fun _=>rfl⟩)
  ·intro x aa;rcases zcd.1 aa with h|h
   ·exact bE x h
   ·simp at h;omega
  ·rw[k0,gT,hF h,fR,zak];have:=abT aI he;simp[val];omega
 ·have he:i=xs.length:=by omega
  refine an 42 ?_;refine Jj 42 outs ?_ (hl:=by rw[zap,zda (by omega),zaF (by omega)]) (hn:=gT);refine aC wD outs (by show outs.length<=_;omega) (I ?_);refine au rfl (.of ?_);show c4 (eF outs)=cS (a-b);rw[yV (b:=1000000000) (by decide) bE];have aw:xs.take i=xs:=zaF (by omega);have e2:av.take i=av:=zaF (by omega);rw[aw,e2,iF,nZ]at aI;have amb:=jW bE;have:c=0:=by
   rcases zcH c with h|h
   ·exact h
   ·exfalso;have:c=1:=by omega
    subst this;rw[gT]at amb;omega
  subst this;show c4 _=c4 _;rw[show val 1000000000 outs=a-b by omega]
def wz:bc where
 L:=Nat×Nat
 args:=fun(a,b)=>[cS a,cS b]
 pre:=fun(a,b)=>dy 1073741824 a∧dy 1073741824 b
 res:=fun(a,b)=>cS (a*b)
def apz(hc:c<1000000000)(aa:x<1000000000)(aF:y<1000000000)(ao:o<1000000000):x*y+o+c<1000000000000000000:=by
 have J:x*y<=999999999*999999999:=zdL (by omega) (by omega);omega
def oA:a6 aS.ctx 74 wz.spec:=by
 refine bq [(157,wC.spec)] Vz.1 ?_;intro⟨a,b⟩ ⟨(aY:(aT _ a).length<=_),(hb:(aT _ b).length<=_)⟩ H aH;have J:=fW (b:=1000000000) (by decide) a;have U:=fW (b:=1000000000) (by decide) b;have iF:=fE (b:=1000000000) (by decide) a;have nZ:=fE (b:=1000000000) (by decide) b;show a1.ok _ ⟨_,_,⟨_,_,[(0,c4 (aT 1000000000 a)),(1,c4 (aT 1000000000 b))]⟩⟩;generalize aT 1000000000 a=xs at *;generalize aT 1000000000 b=av at *;refine an 13 ?_;refine ag 13 (.i .i64 ((xs.length+av.length:Nat):Int)) rfl bo ?_;refine pz fO 0 ?_;refine I ?_;refine df (L:=Nat×ac Nat) (fun(i,outs)=>i<=xs.length∧outs.length=xs.length+av.length∧cX 1000000000 outs∧val 1000000000 (outs.take (i+av.length))=val 1000000000 (xs.take i)*val 1000000000 av)
  (fun((i:Nat),(outs:ac Nat))=>⟨[.a 2 false 1 Nat fO outs],1,[(0,c4 xs),(1,c4 av),(5,.bj 0 1 0 (xs.length+av.length) (xs.length+av.length)),(6,.i .i64 i)]⟩)
  (fun l=>xs.length-l.1) [0] (0,List.replicate (xs.length+av.length) 0) ⟨by omega,by simp,sH (by decide) _,by simp[val,val_zero]⟩ (by show xs.length-0<bT+1;unfold bT;omega) du ?_
 rintro⟨i,outs⟩ ⟨hi,gT,bE,aI⟩;refine I ?_;refine cf (fun h=> ?_) (fun h=> ?_)
 ·have h:i<xs.length:=by omega
  have la:=J _ (ea h);refine I ?_;refine df (L:=Nat×ac Nat×Nat) (fun(j,os,c)=>j<=av.length∧os.length=xs.length+av.length∧cX 1000000000 os∧c<1000000000∧(∀k,i+j<=k->os[k]? =outs[k]?)∧val 1000000000 (os.take (i+j))+1000000000^(i+j)*c=val 1000000000 (outs.take (i+j))+1000000000^i*(xs[i]*val 1000000000 (av.take j)))
   (fun((j:Nat),(os:ac Nat),(c:Nat))=>⟨[.a 2 false 1 Nat fO os],1,[(0,c4 xs),(1,c4 av),(5,.bj 0 1 0 (xs.length+av.length) (xs.length+av.length)),(6,.i .i64 i),(7,.i .i64 c),(8,.i .i64 j)]⟩)
   (fun l=>av.length-l.1) [0] (0,outs,0) ⟨by omega,gT,bE,by omega,fun _ _=>rfl,by simp[val]⟩ (by show av.length-0<bT+1;unfold bT;omega) du ?_
  rintro⟨j,os,c⟩ ⟨hj,Dj,tR,hc,ml,lK⟩;refine I ?_;refine cf (fun q5=> ?_) (fun q5=> ?_)
  ·have q5:j<av.length:=by omega
   have Hs:=U _ (ea q5);have jq:i+j<os.length:=by omega
   have My:os[i+j]=outs[i+j]:=by
    have:=ml (i+j) (b5 _);rw[bV jq,bV (by omega)]at this;exact Option.some.inj this
   have Mz:=tR _ (ea jq);have g:=apz hc la Hs Mz;refine I ?_;refine cm 31 (.i .i64 ((i+j:Nat):Int)) rfl rfl bo ?_;refine I ?_;refine lu ?_;refine FX os[i+j] (bV jq) ?_;refine I ?_;refine hK xs[i] (bV h) ?_;refine I ?_;refine hK av[j] (bV q5) ?_;refine an 44 ?_;have af6:IntKind.i64.wrap (IntKind.i64.wrap ((c:Int)+os[i+j])+IntKind.i64.wrap ((xs[i]:Int)*av[j]))=((c+(xs[i]*av[j]+os[i+j]):Nat):Int):=by
    rw[<-zam];rw[gd (n:=(c:Int)+os[i+j]) (by omega) (by omega),gd (n:=((xs[i]*av[j]:Nat):Int)) (by omega) (by omega),gd (by omega) (by omega)];omega
   refine cm 44 (.i .i64 ((c+(xs[i]*av[j]+os[i+j]):Nat):Int)) rfl rfl (congrArg (ah.i .i64) af6) ?_;refine an 48 ?_;refine ag 48 (.i .i64 ((i+j:Nat):Int)) rfl bo ?_;obtain⟨T,fY⟩:∃T,T=c+(xs[i]*av[j]+os[i+j]):=⟨_,rfl⟩;refine ag 7 (.i .i64 (T:Nat)) rfl (by rw[fY]) ?_;have auu:T<1000000000000000000:=by omega
   refine an 50 ?_;refine ag 50 (.i .i64 ((T%1000000000:Nat):Int)) rfl rfl ?_;refine jS ?_;refine kX (T%1000000000) ?_;refine an 53 ?_;refine ag 53 (.i .i64 ((T/1000000000:Nat):Int)) rfl (by show ah.i _ (IntKind.i64.wrap ((T/1000000000:Nat):Int))=_;exact bo rfl (by omega) (by omega)) (I ?_);refine ba [0] (j+1,os.set (i+j) (T%1000000000),T/1000000000) ⟨by show av.length-(j+1)<av.length-j;omega,by omega,by simp[Dj],mv tR _ (zae _ (by decide)),by omega,fun k ab=>by rw[zbv (by omega)];exact ml k (by omega),?_⟩
    (dK ⟨rfl,rfl,rfl,rfl,rfl,eC,trivial⟩ ⟨_,rfl,rfl,fun _=>rfl⟩)
   rw[<-zbS,hF (l:=os.set (i+j) _) (by simp;omega),hF (l:=outs) (by omega),hF q5,zba (b5 _),zaW,zak,<-My,fY];exact Yo (by rw[zal]) lK
  ·have hj:j=av.length:=by omega
   subst hj;refine an 58 ?_;refine ag 58 (.i .i64 ((i+av.length:Nat):Int)) rfl bo (I ?_);refine jS ?_;refine kX c ?_;refine I ?_;refine ba [0] (i+1,os.set (i+av.length) c) ⟨by show xs.length-(i+1)<xs.length-i;omega,by omega,by simp[Dj],mv tR _ hc,?_⟩ (dK ⟨rfl,rfl,rfl,eC,trivial⟩ ⟨_,rfl,rfl,fun _=>rfl⟩);rw[show i+1+av.length=i+av.length+1 by omega,hF (l:=os.set _ _) (by simp;omega),zba (b5 _),zaW,lK,aI,hF h,jv (b5 _),zan,zat]
 ·have hi:i=xs.length:=by omega
  subst hi;refine I ?_;refine jh 61 ?_;refine aC wD outs (by show outs.length<=_;omega) (I ?_);refine au rfl (.of ?_);show c4 (eF outs)=cS (a*b);rw[jv (l:=xs) (b5 _),jv (l:=outs) (by omega)]at aI;rw[yV (b:=1000000000) (by decide) bE,aI,iF,nZ];rfl
def qT:aT 1000000000 1=[1]:=by rw[nv (by decide) (by decide),show 1/1000000000=0 from rfl,ft]
def uC:bc where
 L:=Unit
 args:=fun _=>[]
 pre:=fun _=>True
 res:=fun _=>cS 1
def rF:a6 aS.ctx 77 uC.spec:=by
 refine bq [] VC.1 ?_;intro _ _ H aH;refine an 1 ?_;refine mD 0 fO [1] ?_;refine jh 1 ?_;refine I ?_;exact au rfl (.of (by show c4 [1]=c4 _;rw[qT]))
def bg(x:Rat):ah:=.agg [.i .i64 x.num.sign,cS x.num.natAbs,c4 (if x.num=0 then[]else aT 1000000000 x.den)]
def I4:bc where
 L:=Rat
 args:=fun x=>[bg x]
 pre:=fun _=>True
 res:=fun x=>.i .i64 x.num.sign
def I5:a6 aS.ctx 249 I4.spec:=by
 refine bq [] T0.1 ?_;intro(x:Rat) _ H aH;refine I ?_;exact au rfl (.refl _)
def uB:bc where
 L:=Rat
 args:=fun x=>[bg x]
 pre:=fun _=>True
 res:=fun x=>cS x.den
def oz:a6 aS.ctx 75 uB.spec:=by
 refine bq [(77,uC.spec)] VA.1 ?_;intro(x:Rat) _ H aH;refine I ?_;refine cf (fun h=> ?_) (fun h=> ?_)
 ·have h:x.num=0:=zbF.1 h;have aq:x.den=1:=by have:=x.reduced;rw[h]at this;simpa[Nat.Coprime]using this
  refine I ?_;refine aC rF () trivial (I ?_);exact au rfl (.of (by show cS 1=cS x.den;rw[aq]))
 ·have h:x.num≠0:=fun e=>h (by rw[e];rfl);refine I ?_;exact au rfl (.of (by show c4 (if _ then _ else _)=c4 _;rw[zaa h]))
def A8:bc where
 L:=Rat
 args:=fun x=>[bg x]
 pre:=fun _=>True
 res:=fun x=>bg (-x)
def wA:a6 aS.ctx 242 A8.spec:=by
 refine bq [] TT.1 ?_;intro(x:Rat) _ H aH;refine I ?_;refine au rfl (.of ?_);show ah.agg [.i _ (IntKind.i64.wrap (-x.num.sign)),_,_]=ah.agg [.i _ _,_,_];have dQ:∀n:Int,-1<=n.sign∧n.sign<=1:=fun n=>by
  rcases(show n<0∨n=0∨0<n by omega)with h|h|h
  ·rw[zbx h];decide
  ·rw[h];decide
  ·rw[zby h];decide
 have:=dQ x.num;rw[gd (by omega) (by omega),zbN,zci,Int.sign_neg,zbp];simp[cS,c4]
def ER{own:ac bp}{n:Nat}{e cy:bX}{o:bp}(h:kG [k] cy e)(ao:∃br,own[k]? =some br∧gA [k] o br)(hp:pinned p [k] 0=true:=by rfl):Sub p [k] ⟨own,n,e⟩ ⟨[o],1,cy⟩:=⟨by simp,rfl,⟨ao,trivial⟩,h,hp⟩
def Z4:bc where
 L:=Nat
 args:=fun n=>[.i .u64 n]
 pre:=fun n=>n<18446744073709551616
 res:=fun n=>cS n
def apB(m:Nat):ac Nat->cW
 |[]=>⟨[],0,[(0,.i .u64 m),(3,.nl)]⟩
 |d::ds=>⟨[.a 2 true 1 Nat fO (d::ds)],1,[(0,.i .u64 m),(3,.bj 0 1 0 (d::ds).length (d::ds).length)]⟩
def Z5:a6 aS.ctx 76 Z4.spec:=by
 refine bq [] VB.1 ?_;intro(n:Nat) (hn:n<18446744073709551616) H aH;have hl:(aT 1000000000 n).length<=3:=hL (by decide) (by omega);refine I ?_;refine df (L:=Nat×ac Nat) (fun(m,l)=>m<=n∧aT 1000000000 n=l++aT 1000000000 m) (fun(m,l)=>apB m l) (fun l=>(aT 1000000000 l.1).length) [] (n,[]) ⟨b5 _,rfl⟩ (by show(aT 1000000000 n).length<bT+1;unfold bT;omega) ew ?_;rintro⟨m,l⟩ ⟨hm,aq⟩;have lG:l.length<=3:=by rw[aq]at hl;simp at hl;omega
 have step:m≠0->(aT 1000000000 (m/1000000000)).length<(aT 1000000000 m).length∧m/1000000000<=n∧aT 1000000000 n=(l++[m%1000000000])++aT 1000000000 (m/1000000000):=fun h=>by
  rw[aq,nv (by decide) h];simp;omega
 have hq:((m%1000000000:Nat):Int)<9223372036854775808:=by omega
 have V7:m/1000000000%18446744073709551616=m/1000000000:=by omega
 have g7: -9223372036854775808<=((m%1000000000:Nat):Int):=by omega
 cases l with
 |nil=>
  refine I ?_;refine cf (fun h=> ?_) (fun h=> ?_)
  ·have step:=step (by omega);refine an 9 ?_;refine ag 9 (.i .i64 ((m%1000000000:Nat):Int)) rfl (bo rfl g7 hq) (I ?_);refine yI fO [m%1000000000] (ll (R:=fO) [m%1000000000] rfl) ?_;refine I ?_;exact ba [1] (m/1000000000,[m%1000000000]) step (ER ⟨lN (congrArg Int.ofNat V7),rfl,trivial⟩ ⟨_,rfl,rfl,fun _=>rfl⟩)
  ·have h0:m=0:=by omega
   subst h0;rw[ft]at aq;refine I ?_;exact au rfl (bY.nl.trans (.of (by show c4 []=c4 _;rw[aq];rfl)))
 |cons d ds=>
  refine I ?_;refine cf (fun h=> ?_) (fun h=> ?_)
  ·have step:=step (by omega);refine an 9 ?_;refine ag 9 (.i .i64 ((m%1000000000:Nat):Int)) rfl (bo rfl g7 hq) (I ?_);have ga:ds.length<=2:=by simp at lG;omega
   refine Bh (R:=fO) [m%1000000000] (ll (R:=fO) [m%1000000000] rfl) ?_;refine I ?_;exact ba [2] (m/1000000000,d::(ds++[m%1000000000])) step (ER ⟨lN (congrArg Int.ofNat V7),congrArg (fun k=>some (ah.bj 2 1 0 k k)) (by simp),trivial⟩ ⟨_,rfl,rfl,fun _=>rfl⟩)
  ·have h0:m=0:=by omega
   subst h0;rw[ft,zcN]at aq;refine an 14 ?_;refine jh 14 ?_;refine I ?_;exact au rfl (.of (by show c4 (d::ds)=c4 _;rw[aq]))
def ZU:bc where
 L:=Nat
 args:=fun a=>[cS a]
 pre:=fun a=>dy 1073741824 a
 res:=fun a=>cS (a/2)
def IN:a6 aS.ctx 263 ZU.spec:=by
 refine bq [(157,wC.spec)] Ug.1 ?_;intro(a:Nat) (aY:(aT _ a).length<=_) H aH;have J:=fW (b:=1000000000) (by decide) a;have iF:=fE (b:=1000000000) (by decide) a;show a1.ok _ ⟨_,_,⟨_,_,[(0,c4 (aT 1000000000 a))]⟩⟩;generalize aT 1000000000 a=xs at *;refine I ?_;refine pz fO 0 ?_;refine I ?_;refine df (L:=Nat×ac Nat×Nat) (fun(k,outs,r)=>k<=xs.length∧outs.length=xs.length∧cX 1000000000 outs∧r<2∧val 1000000000 (xs.drop k)=val 1000000000 (outs.drop k)*2+r)
  (fun((k:Nat),(outs:ac Nat),(r:Nat))=>⟨[.a 2 false 1 Nat fO outs],1,[(0,c4 xs),(3,.bj 0 1 0 xs.length xs.length),(4,.i .i64 r),(5,.i .i64 ((k:Int)-1))]⟩)
  (fun l=>l.1) [0] (xs.length,List.replicate xs.length 0,0) ⟨by omega,by simp,sH (by decide) _,by decide,by simp[val]⟩ (by show xs.length<bT+1;unfold bT;omega) (dK ⟨rfl,rfl,rfl,eC,trivial⟩ ⟨_,rfl,rfl,fun _=>rfl⟩) ?_
 rintro⟨k,outs,r⟩ ⟨ab,gT,bE,hr,aI⟩;cases k with
 |zero=>
  refine I ?_;refine jh 30 ?_;refine aC wD outs (by show outs.length<=_;omega) (I ?_);rw[zap,zap]at aI;refine au rfl (.of ?_);show c4 (eF outs)=cS (a/2);rw[yV (b:=1000000000) (by decide) bE,show a/2=val 1000000000 outs by omega];rfl
 |succ m=>
  have aa:m<xs.length:=by omega
  have la:=J _ (ea aa);have o6:=abz hr la;refine ag 5 (.i .i64 (m:Nat)) rfl dY (I ?_);refine ag 13 (.b true) rfl (by simp) (I ?_);refine ep xs[m] (bV aa) ?_;refine an 22 ?_;refine ag 22 (.i .i64 ((r*1000000000+xs[m]:Nat):Int)) rfl (congrArg (ah.i .i64) (by rw[gd (n:=(r:Int)*1000000000) (by omega) (by omega),gd (by omega) (by omega)];omega)) ?_;obtain⟨T,xD⟩:∃T,T=r*1000000000+xs[m]:=⟨_,rfl⟩;have fY:T<2000000000:=by omega
  rw[<-xD]at o6;refine ag 22 (.i .i64 (T:Nat)) rfl (by rw[xD]) (an 26 ?_);refine ag 26 (.i .i64 ((T/2:Nat):Int)) rfl (by show ah.i _ (IntKind.i64.wrap ((T/2:Nat):Int))=_;exact bo rfl (by omega) (by omega)) ?_;refine jS ?_;refine kX (T/2) ?_;refine an 29 ?_;refine ag 29 (.i .i64 ((T%2:Nat):Int)) rfl rfl (I ?_);have ai:xs.drop m=xs[m]::xs.drop (m+1):=hk aa;refine ba [0] (m,outs.set m (T/2),T%2) ⟨by simp,by omega,by simp[gT],mv bE _ o6,zae _ (by decide),?_⟩ (dK ⟨rfl,rfl,rfl,eC,trivial⟩ ⟨_,rfl,rfl,fun _=>rfl⟩);rw[ai,hk (l:=outs.set m _) (by simp;omega),zaW,zcU (by omega),xD];exact abA aI
def Z8:bc where
 L:=Nat
 args:=fun a=>[cS a]
 pre:=fun a=>True
 res:=fun a=>.b (decide (a%2=1))
def IU:a6 aS.ctx 262 Z8.spec:=by
 refine bq [] Uf.1 ?_;intro(a:Nat) _ H aH;show a1.ok _ ⟨_,_,⟨_,_,[(0,c4 (aT 1000000000 a))]⟩⟩;by_cases h0:a=0
 ·subst h0;rw[ft];refine I ?_;exact au rfl (.refl _)
 ·rw[nv (by decide) h0];refine I ?_;refine ag 6 (.b true) rfl (by simp) (I ?_);refine ep (j:=0) (a%1000000000) rfl ?_;refine an 10 ?_;refine ag 10 (.i .i64 ((a%1000000000%2:Nat):Int)) rfl rfl (I ?_);refine au rfl (.of ?_);show ah.b (decide _)=ah.b (decide _);congr 2;apply propext;omega
def ajI{W:Nat}(hA:V=v*P+l6)(zW:l6<P)(gG:W=w*P+oP)(aI:0<V):w/(v+1)<=W/V:=by
 rw[zbM aI];have J:w/(v+1)*(v+1)<=w:=zdj _ _;have U:V<=(v+1)*P:=by rw[zan];omega
 calc w/(v+1)*V<=w/(v+1)*((v+1)*P):=lp _ U
  _=w/(v+1)*(v+1)*P:=(zat _ _ _).symm
  _<=w*P:=fq _ J
  _<=W:=by omega
def ajH{W:Nat}(hA:V=v*P+l6)(tC:oP<P)(gG:W=w*P+oP)(aI:0<v)(fP:0<P):W/V<=(w+1)/v:=by
 have sc:0<V:=by have:=zbe aI fP;omega
 rw[zbM aI];have J:W/V*V<=W:=zdj _ _;have U:W/V*(v*P)<=W/V*V:=lp _ (by omega);have af:W/V*v*P<(w+1)*P:=by rw[zat,zan];omega
 exact zbf (Nat.lt_of_mul_lt_mul_right af)
