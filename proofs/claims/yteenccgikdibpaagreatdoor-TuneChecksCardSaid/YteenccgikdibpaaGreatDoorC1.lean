/- What the functions of the program and of the document compute, for every input (part 1); conditions as in the statements. -/
import Derived.Test.YteenccgikdibpaaGreatDoorS1
import Derived.Test.YteenccgikdibpaaGreatDoorT
import Derived.Test.YteenccgikdibpaaGreatDoorL
set_option linter.all false
namespace Go.an.bh
open Go.an
set_option maxRecDepth 100000
set_option maxHeartbeats 4000000
theorem bR(K:List (Nat×Spec)){f:FuncId}(xf:df){S:bE}(h:∀l,S.pre l->∀H aJ,a2.ok ⟨cC aW (c0 aC.ctx (cc K)) (ba+1),ba+1,f,H,[],aJ,Fin S l xf.res⟩ ⟨[],.c xf.body,⟨[],0,lS 0 (S.args l)⟩⟩)
 (J:aW.get f=some xf:=by kernel_rfl) (hl:∀l,(S.args l).length<=xf.aS:=by exact fun _=>kx rfl):bg aC.ctx f S.spec:=aeQ aC.cv cA (cc K) J hl h
theorem ou(K:List (Nat×Spec)){f:FuncId}(xf:df){S:bE}(h:∀l,S.pre l->∀H aJ,S.hp H->a2.ok ⟨cC aW (c0 aC.ctx (cc K)) (ba+1),ba+1,f,H,[],aJ,Fin S l xf.res⟩ ⟨[],.c xf.body,⟨[],0,lS 0 (S.args l)⟩⟩)
 (J:aW.get f=some xf:=by kernel_rfl) (hl:∀l,(S.args l).length<=xf.aS:=by exact fun _=>kx rfl):bg aC.ctx f S.spec:=Km aC.cv cA (cc K) J hl h
theorem Qa(K:List (Nat×Spec)){f:FuncId}(xf:df){S:GS}(h:∀l,S.pre l->∀H i0 aJ,i0.length=(S.own l).length->a2.ok ⟨cC aW (c0 aC.ctx (cc K)) (ba+1),ba+1,f,H,i0,aJ,EA S l xf.res⟩ ⟨[],.c xf.body,⟨S.own l,(S.own l).length,lS 0 (S.args l)⟩⟩)
 (J:aW.get f=some xf:=by kernel_rfl) (hl:∀l,(S.args l).length<=xf.aS:=by exact fun _=>kx rfl):bg aC.ctx f S.spec:=aeO aC.cv cA (cc K) J hl h
def fv(d:Nat):List af:=[.i .u32 d]
def da(ds:List Nat):af:=.bS 1 Nat fv ds
def dw(n:Nat):af:=da (a1 4294967296 n)
theorem tP{n m:Int}(h:n=m)(h1: -9223372036854775808<=n)(h2:n<9223372036854775808):IntKind.i64.wrap n=m:=by rw[g0 h1 h2,h]
theorem abi(n:Int):IntKind.u64.wrap n=n%18446744073709551616:=by
 rw[<-kO];exact sl _ _ (by decide)
def I9:bE where
 L:=List Nat
 args:=fun ds=>[da ds]
 pre:=fun ds=>ds.length<=1099511627776
 res:=fun ds=>da (eM ds)
theorem asL:bg aC.ctx 218 I9.spec:=by
 refine bR [] SA.1 ?_;intro(ds:List Nat) (hp:ds.length<=1099511627776) H aJ
 repeat refine I ?_
 refine cG (fun es:List Nat=>eM es=eM ds∧es.length<=ds.length) (fun es=>⟨[],0,[(0,da es)]⟩) List.length [] ds ⟨rfl,b5 _⟩ (by show ds.length<ba+1;unfold ba;omega) ei ?_;rintro es ⟨h1,h2⟩;rcases List.eq_nil_or_concat es with rfl|⟨c8,d,rfl⟩
 ·repeat refine I ?_
  exact aw rfl (.of (by rw[show I9.res ds=da (eM ds)from rfl,<-h1];rfl))
 ·rw[List.concat_eq_append]at *;have hl:(c8++[d]).length=c8.length+1:=by simp
  repeat refine I ?_
  refine az 6 (.b true) rfl (by simp) ?_
  repeat refine I ?_
  refine az 10 (.i .i64 (c8.length:Nat)) rfl (by rw[hl,g0]<;>simp<;>omega) ?_;refine g2 (LP rfl rfl (show(c8++[d])[c8.length]? =some d by simp)) ?_
  repeat refine I ?_
  refine x8 rfl (fun av=> ?_) (fun av=> ?_)
  ·have av:d=0:=by simpa using av
   repeat refine I ?_
   refine az 18 (.i .i64 (c8.length:Nat)) rfl (by rw[hl,g0]<;>simp<;>omega) ?_;refine g2 (ZA (p:=0) rfl rfl ⟨_,rfl⟩ (Nat.zero_le _) (by simp)) ?_
   repeat refine I ?_
   refine bc [] c8 ⟨by simp,by rw[<-h1,se,if_pos av],by omega⟩ (jA ⟨?_,trivial⟩);simp[dO,jx,da]
  ·have av:d≠0:=by simpa using av
   repeat refine I ?_
   exact aw rfl (.of (by rw[show I9.res ds=da (eM ds)from rfl,<-h1,se,if_neg av]))
def sD:bE where
 L:=List Nat
 args:=fun ds=>[da ds]
 pre:=fun ds=>c2 4294967296 ds∧ds.length<=1099511627776
 res:=fun ds=>dw (val 4294967296 ds)
theorem sE:bg aC.ctx 125 sD.spec:=by
 refine bR [(218,I9.spec)] RN.1 ?_;intro(ds:List Nat) ⟨(h1:c2 4294967296 ds),(h2:ds.length<=_)⟩ H aJ
 repeat refine I ?_
 refine aX asL ds h2 ?_
 repeat refine I ?_
 exact aw rfl (.of (by show da (eM ds)=da _;rw[yl (by decide) h1]))
def Af:bE where
 L:=Nat
 args:=fun n=>[.i .u64 n]
 pre:=fun n=>n<18446744073709551616
 res:=fun n=>dw n
theorem tp:bg aC.ctx 67 Af.spec:=by
 refine bR [(125,sD.spec)] TR.1 ?_;intro(n:Nat) (hp:n<18446744073709551616) H aJ
 repeat refine I ?_
 refine YI 0 (z:=1) (R:=fv) [n%4294967296,n/4294967296] rfl (by show[af.i _ _,af.i _ _]=[af.i _ _,af.i _ _];rw[show n/2^32%4294967296=n/4294967296 by omega]) (fun _=>rfl) ?_;refine YL 8 [n%4294967296,n/4294967296] rfl rfl rfl rfl (by decide) (fun _=>rfl) ?_;refine aX sE [n%4294967296,n/4294967296] ⟨fun x J=> ?_,by simp⟩ ?_
 ·simp at J;rcases J with rfl|rfl<;>omega
 repeat refine I ?_
 exact aw rfl (.of (by show dw _=dw _;simp[val];congr 1;omega))
def eC(k n:Nat):Prop:=(a1 4294967296 n).length<=k
def Jx:bE where
 L:=Nat×Nat
 args:=fun(a,b)=>[dw a,dw b]
 pre:=fun(a,b)=>eC 1073741824 a∧eC 1073741824 b
 res:=fun(a,b)=>dw (a+b)
theorem OT:bg aC.ctx 124 Jx.spec:=by
 refine bR [(125,sD.spec)] RM.1 ?_;intro⟨a,b⟩ ⟨(ha:(a1 _ a).length<=_),(aa:(a1 _ b).length<=_)⟩ H aJ;show a2.ok _ ⟨_,_,⟨_,_,[(0,da (a1 4294967296 a)),(1,da (a1 4294967296 b))]⟩⟩
 repeat refine I ?_
 refine iS (fun((xs:List Nat),(aq:List Nat))=>aq.length<=xs.length∧xs.length<=1073741824∧c2 4294967296 xs∧c2 4294967296 aq∧val 4294967296 xs+val 4294967296 aq=a+b) (fun(xs,aq)=>⟨[],0,[(0,da xs),(1,da aq)]⟩) ?_ ?_
 ·refine cP (fun h=> ?_) (fun h=> ?_)
  ·have h:(a1 4294967296 a).length<(a1 4294967296 b).length:=by omega
   repeat refine I ?_
   exact bc [] (a1 _ b,a1 _ a) ⟨by omega,aa,gM (by decide) _,gM (by decide) _,by rw[gn (by decide),gn (by decide),Nat.add_comm]⟩ ei
  ·have h:(a1 4294967296 b).length<=(a1 4294967296 a).length:=by omega
   repeat refine I ?_
   exact bc [] (a1 _ a,a1 _ b) ⟨h,ha,gM (by decide) _,gM (by decide) _,by rw[gn (by decide),gn (by decide)]⟩ ei
 rintro⟨xs,aq⟩ ⟨hl,J,h1,h2,ah⟩
 repeat refine I ?_
 refine az 18 (.i .i64 ((xs.length+1:Nat):Int)) rfl cO ?_;refine oW fv 0 ?_
 repeat refine I ?_
 refine cG (L:=Nat×List Nat×Nat) (fun(i,outs,c)=>i<=xs.length∧outs.length=xs.length+1∧c2 4294967296 outs∧c<=1∧val 4294967296 (outs.take i)+4294967296^i*c=val 4294967296 (xs.take i)+val 4294967296 (aq.take i))
  (fun((i:Nat),(outs:List Nat),(c:Nat))=>⟨[.a 208 false 1 Nat fv outs],1,[(0,da xs),(1,da aq),(5,.a6 0 1 0 (xs.length+1) (xs.length+1)),(6,.i .u64 c),(20,da xs),(21,.i .i64 xs.length),(22,.i .i64 i)]⟩)
  (fun l=>xs.length-l.1) [0] (0,List.replicate (xs.length+1) 0,0) ⟨by omega,by simp,r0 (by decide) _,by omega,by simp[val]⟩ (by show xs.length-0<ba+1;unfold ba;omega) dP ?_
 rintro⟨i,outs,c⟩ ⟨ae,gu,bP,hc,aH⟩
 repeat refine I ?_
 refine cP (fun h=> ?_) (fun h=> ?_)
 ·have h:i<xs.length:=by omega
  have C0:xs[i]? =some xs[i]:=a9 h;have aP:=h1 _ (dr h)
  repeat refine I ?_
  refine cV xs[i] C0 ?_
  repeat refine I ?_
  refine iS (fun y=>y<4294967296∧val 4294967296 (aq.take (i+1))=val 4294967296 (aq.take i)+4294967296^i*y) (fun(y:Nat)=>⟨[.a 208 false 1 Nat fv outs],1,[(0,da xs),(1,da aq),(5,.a6 0 1 0 (xs.length+1) (xs.length+1)),(6,.i .u64 ((c+xs[i]+y:Nat):Int)),(7,.i .i64 i),(20,da xs),(21,.i .i64 xs.length),(22,.i .i64 i)]⟩) ?_ ?_
  ·refine cP (fun aB=> ?_) (fun aB=> ?_)
   ·have aB:i<aq.length:=by simpa using aB
    have C2:aq[i]? =some aq[i]:=a9 aB;have CE:=h2 _ (dr aB)
    repeat refine I ?_
    refine cV aq[i] C2 ?_
    repeat refine I ?_
    refine bc [0] aq[i] ⟨CE,hN aB⟩ (e3 ⟨rfl,rfl,rfl,?_,rfl,rfl,rfl,rfl,trivial⟩ ⟨_,rfl,rfl,fun _=>rfl⟩);exact l0
   ·have aB:aq.length<=i:=by simpa using aB
    repeat refine I ?_
    refine bc [0] 0 ⟨by decide,by rw[jW (by omega),jW aB];simp⟩ (e3 ⟨rfl,rfl,rfl,?_,rfl,rfl,rfl,rfl,trivial⟩ ⟨_,rfl,rfl,fun _=>rfl⟩);exact l0
  rintro y ⟨aG,fT⟩
  repeat refine I ?_
  refine hE ?_;refine jk ((c+xs[i]+y)%4294967296) ?_
  repeat refine I ?_
  refine bc [0] (i+1,outs.set i ((c+xs[i]+y)%4294967296),(c+xs[i]+y)/4294967296) ⟨by show xs.length-(i+1)<xs.length-i;omega,by omega,by simp[gu],l7 bP _ (Nat.mod_lt _ (by decide)),by omega,?_⟩ (e3 ⟨rfl,rfl,rfl,rfl,rfl,rfl,?_,trivial⟩ ⟨_,rfl,rfl,fun _=>rfl⟩)
  ·rw[hN (l:=outs.set i _) (by simp;omega),hN h,fT,List.take_set_of_le (b5 _),List.getElem_set_self,Nat.pow_succ];exact OW (by decide) aH
  ·exact fo
 ·have h:i=xs.length:=by have:xs.length<=i:=by omega
                         omega
  subst h
  repeat refine I ?_
  refine hE ?_;refine jk (c%4294967296) ?_
  repeat refine I ?_
  refine hD 56 ?_;refine aX sE (outs.set xs.length (c%4294967296)) ⟨l7 bP _ (Nat.mod_lt _ (by decide)),by simp[gu];omega⟩ ?_
  repeat refine I ?_
  refine aw rfl (.of ?_);show dw _=dw _;congr 1;rw[<-jW (i:=xs.length+1) (by simp[gu]),hN (by simp;omega),List.take_set_of_le (b5 _),List.getElem_set_self,gW (by omega),aH,jW (b5 _),jW hl,ah]
def ZR:bE where
 L:=Nat×Nat
 args:=fun(a,b)=>[dw a,dw b]
 pre:=fun(a,b)=>eC 1073741824 a∧b<=a
 res:=fun(a,b)=>dw (a-b)
theorem Ma{a b:Nat}(h:b<=a):(a1 4294967296 b).length<=(a1 4294967296 a).length:=by
 have h1:=kf (gM (b:=4294967296) (by decide) a);rw[gn (by decide)]at h1;exact lr (by decide) (by omega)
theorem ZU:bg aC.ctx 267 ZR.spec:=by
 refine bR [(125,sD.spec)] SW.1 ?_;intro⟨a,b⟩ ⟨(ha:(a1 _ a).length<=_),(aa:b<=a)⟩ H aJ;have hl:=Ma aa;have h1:=gM (b:=4294967296) (by decide) a;have h2:=gM (b:=4294967296) (by decide) b;have iE:=gn (b:=4294967296) (by decide) a;have kN:=gn (b:=4294967296) (by decide) b;show a2.ok _ ⟨_,_,⟨_,_,[(0,da (a1 4294967296 a)),(1,da (a1 4294967296 b))]⟩⟩;generalize a1 4294967296 a=xs at *;generalize a1 4294967296 b=aq at *
 repeat refine I ?_
 refine oW fv 0 ?_
 repeat refine I ?_
 refine cG (L:=Nat×List Nat×Nat) (fun(i,outs,c)=>i<=xs.length∧outs.length=xs.length∧c2 4294967296 outs∧c<=1∧val 4294967296 (xs.take i)+4294967296^i*c=val 4294967296 (outs.take i)+val 4294967296 (aq.take i))
  (fun((i:Nat),(outs:List Nat),(c:Nat))=>⟨[.a 208 false 1 Nat fv outs],1,[(0,da xs),(1,da aq),(5,.a6 0 1 0 xs.length xs.length),(6,.i .u64 c),(13,da xs),(14,.i .i64 xs.length),(15,.i .i64 i)]⟩)
  (fun l=>xs.length-l.1) [0] (0,List.replicate xs.length 0,0) ⟨by omega,by simp,r0 (by decide) _,by omega,by simp[val]⟩ (by show xs.length-0<ba+1;unfold ba;omega) dP ?_
 rintro⟨i,outs,c⟩ ⟨ae,gu,bP,hc,aH⟩
 repeat refine I ?_
 refine cP (fun h=> ?_) (fun h=> ?_)
 ·have h:i<xs.length:=by omega
  have C0:xs[i]? =some xs[i]:=a9 h;have aP:=h1 _ (dr h)
  repeat refine I ?_
  refine cV xs[i] C0 ?_
  repeat refine I ?_
  refine iS (fun y=>y<4294967296∧val 4294967296 (aq.take (i+1))=val 4294967296 (aq.take i)+4294967296^i*y) (fun(y:Nat)=>⟨[.a 208 false 1 Nat fv outs],1,[(0,da xs),(1,da aq),(5,.a6 0 1 0 xs.length xs.length),(9,.i .u64 (((xs[i]+18446744073709551616-c-y)%18446744073709551616:Nat):Int)),(7,.i .i64 i),(13,da xs),(14,.i .i64 xs.length),(15,.i .i64 i)]⟩) ?_ ?_
  ·refine cP (fun aB=> ?_) (fun aB=> ?_)
   ·have aB:i<aq.length:=by simpa using aB
    have C2:aq[i]? =some aq[i]:=a9 aB;have CE:=h2 _ (dr aB)
    repeat refine I ?_
    refine cV aq[i] C2 ?_
    repeat refine I ?_
    exact bc [0] aq[i] ⟨CE,hN aB⟩ (e3 ⟨rfl,rfl,rfl,l0,rfl,rfl,rfl,rfl,trivial⟩ ⟨_,rfl,rfl,fun _=>rfl⟩)
   ·have aB:aq.length<=i:=by simpa using aB
    repeat refine I ?_
    exact bc [0] 0 ⟨by decide,by rw[jW (by omega),jW aB];simp⟩ (e3 ⟨rfl,rfl,rfl,l0,rfl,rfl,rfl,rfl,trivial⟩ ⟨_,rfl,rfl,fun _=>rfl⟩)
  rintro y ⟨aG,fT⟩;generalize aN:(xs[i]+18446744073709551616-c-y)%18446744073709551616=t
  repeat refine I ?_
  refine hE ?_;refine jk (t%4294967296) ?_
  repeat refine I ?_
  refine bc [0] (i+1,outs.set i (t%4294967296),t/9223372036854775808) ⟨by show xs.length-(i+1)<xs.length-i;omega,by omega,by simp[gu],l7 bP _ (Nat.mod_lt _ (by decide)),by omega,?_⟩ (e3 ⟨rfl,rfl,rfl,rfl,rfl,rfl,fo,trivial⟩ ⟨_,rfl,rfl,fun _=>rfl⟩);rw[hN (l:=outs.set i _) (by simp;omega),hN h,fT,List.take_set_of_le (b5 _),List.getElem_set_self,Nat.pow_succ];exact ZV aH (by omega)
 ·have h:i=xs.length:=by have:xs.length<=i:=by omega
                         omega
  subst h
  repeat refine I ?_
  refine hD 43 ?_;refine aX sE outs ⟨bP,by omega⟩ ?_
  repeat refine I ?_
  refine aw rfl (.of ?_);show dw _=dw _;congr 1;rw[jW (b5 _),jW (l:=outs) (by omega),jW hl]at aH;have h3:=kf bP;rw[gu]at h3;have nX:c=0:=by
   rcases Nat.lt_or_ge 0 c with h|h
   ·have:c=1:=by omega
    rw[this]at aH;omega
   ·omega
  rw[nX]at aH;show _=a-b;omega
def yW:bE where
 L:=Nat×Nat
 args:=fun(a,b)=>[dw a,dw b]
 pre:=fun(a,b)=>eC 1073741824 a∧eC 1073741824 b
 res:=fun(a,b)=>.i .i64 (h4 a b)
theorem yX{a b:Nat}(h:a<b):h4 a b= -1:=by unfold h4;rw[if_pos h]
theorem Fa{a b:Nat}(h:b<a):h4 a b=1:=by unfold h4;rw[if_neg (by omega),if_neg (by omega)]
theorem Qt(a:Nat):h4 a a=0:=by unfold h4;simp
theorem Fu{l:List Nat}{m:Nat}(h:m<l.length):l=l.take m++l[m]::l.drop (m+1):=by
 rw[<-hf h,List.take_append_drop]
theorem E9:bg aC.ctx 108 yW.spec:=by
 refine bR [] Rv.1 ?_;intro⟨a,b⟩ ⟨(ha:(a1 _ a).length<=_),(aa:(a1 _ b).length<=_)⟩ H aJ;have h1:=gM (b:=4294967296) (by decide) a;have h2:=gM (b:=4294967296) (by decide) b;have t1:=wz (b:=4294967296) (by decide) a;have t2:=wz (b:=4294967296) (by decide) b;have iE:=gn (b:=4294967296) (by decide) a;have kN:=gn (b:=4294967296) (by decide) b;show a2.ok _ ⟨_,_,⟨_,_,[(0,da (a1 4294967296 a)),(1,da (a1 4294967296 b))]⟩⟩;generalize a1 4294967296 a=xs at *;generalize a1 4294967296 b=aq at *;have fin:∀{r:Int},h4 a b=r->b3 (.i .i64 r) (yW.res (a,b)):=fun h=>by rw[<-h];exact .refl _
 repeat refine I ?_
 refine cP (fun h=> ?_) (fun h=> ?_)
 ·have h:xs.length≠aq.length:=by omega
  repeat refine I ?_
  refine cP (fun h=> ?_) (fun h=> ?_)
  ·have h:xs.length<aq.length:=by omega
   repeat refine I ?_
   have:=G1 (b:=4294967296) (by decide) h1 t2 h;exact aw rfl (fin (yX (by omega)))
  ·have h:aq.length<xs.length:=by have:aq.length<=xs.length:=by omega
                                  omega
   repeat refine I ?_
   have:=G1 (b:=4294967296) (by decide) h2 t1 h;exact aw rfl (fin (Fa (by omega)))
 have h:xs.length=aq.length:=by omega
 repeat refine I ?_
 refine cG (L:=Nat) (fun k=>k<=xs.length∧xs.drop k=aq.drop k) (fun(k:Nat)=>⟨[],0,[(0,da xs),(1,da aq),(5,.i .i64 ((k:Int)-1))]⟩) id [] xs.length ⟨b5 _,by rw[List.drop_length,h,List.drop_length]⟩ (by show xs.length<ba+1;unfold ba;omega) (jA ⟨rfl,rfl,fo,trivial⟩) ?_;rintro(k:Nat) ⟨U,av⟩;cases k with
 |zero=>
  repeat refine I ?_
  exact aw rfl (fin (by simp at av;rw[av]at iE;rw[<-iE,<-kN];exact Qt _))
 |succ m=>
  have J:m<xs.length:=by omega
  have aG:m<aq.length:=by omega
  have e:((m+1:Nat):Int)-1=(m:Nat):=by omega
  refine az 5 (.i .i64 (m:Nat)) rfl (fI e) ?_
  repeat refine I ?_
  refine az 20 (.b true) rfl (by simp) ?_
  repeat refine I ?_
  refine gm xs[m] (a9 J) ?_
  repeat refine I ?_
  refine gm aq[m] (a9 aG) ?_
  repeat refine I ?_
  have hb:=Fu J;have ml:=Fu aG;refine cP (fun h=> ?_) (fun h=> ?_)
  ·have hne:xs[m]≠aq[m]:=by omega
   repeat refine I ?_
   refine gm xs[m] (a9 J) ?_
   repeat refine I ?_
   refine gm aq[m] (a9 aG) ?_
   repeat refine I ?_
   refine cP (fun h=> ?_) (fun h=> ?_)
   ·have aP:xs[m]<aq[m]:=by omega
    repeat refine I ?_
    refine aw rfl (fin (yX ?_));rw[<-iE,<-kN,hb,ml,av];exact I8 (fun x J=>h1 x (List.mem_of_mem_take J)) (by simp;omega) aP
   ·have aP:aq[m]<xs[m]:=by have:aq[m]<=xs[m]:=by omega
                            omega
    repeat refine I ?_
    refine aw rfl (fin (Fa ?_));rw[<-iE,<-kN,hb,ml,av];exact I8 (fun x J=>h2 x (List.mem_of_mem_take J)) (by simp;omega) aP
  ·have he:xs[m]=aq[m]:=by omega
   repeat refine I ?_
   refine bc [] m ⟨by simp,by omega,?_⟩ (jA ⟨rfl,rfl,fo,trivial⟩);rw[hf J,hf aG,he,av]
theorem Mp{c x y o:Nat}(hc:c<4294967296)(J:x<4294967296)(aG:y<4294967296)(ak:o<4294967296):x*y<18446744073709551616∧x*y+o<18446744073709551616∧c+(x*y+o)<18446744073709551616:=by
 have h1:x*y<=4294967295*4294967295:=Nat.mul_le_mul (by omega) (by omega);omega
theorem Ws{B P Q R o c x y a b d:Nat}(iq:P=Q*R)(h:o+P*c=a+Q*(x*b)):o+P*((c+(x*y+d))%B)+P*B*((c+(x*y+d))/B)=a+P*d+Q*(x*(b+R*y)):=by
 have h1:P*(c+(x*y+d))=P*((c+(x*y+d))%B)+P*B*((c+(x*y+d))/B):=by
  rw[Nat.mul_assoc,<-Nat.mul_add,Nat.mod_add_div]
 have h2:Q*(x*(b+R*y))=Q*(x*b)+P*(x*y):=by
  rw[iq,Nat.mul_add,Nat.mul_add,Nat.mul_assoc Q R,Nat.mul_left_comm x R y]
 rw[Nat.mul_add,Nat.mul_add]at h1;omega
def Hf:bE where
 L:=Nat×Nat
 args:=fun(a,b)=>[dw a,dw b]
 pre:=fun(a,b)=>eC 1073741824 a∧eC 1073741824 b
 res:=fun(a,b)=>dw (a*b)
theorem z4:bg aC.ctx 105 Hf.spec:=by
 refine bR [(125,sD.spec)] Rt.1 ?_;intro⟨a,b⟩ ⟨(ha:(a1 _ a).length<=_),(aa:(a1 _ b).length<=_)⟩ H aJ;have h1:=gM (b:=4294967296) (by decide) a;have h2:=gM (b:=4294967296) (by decide) b;have iE:=gn (b:=4294967296) (by decide) a;have kN:=gn (b:=4294967296) (by decide) b;show a2.ok _ ⟨_,_,⟨_,_,[(0,da (a1 4294967296 a)),(1,da (a1 4294967296 b))]⟩⟩;generalize a1 4294967296 a=xs at *;generalize a1 4294967296 b=aq at *
 repeat refine I ?_
 refine az 15 (.i .i64 ((xs.length+aq.length:Nat):Int)) rfl cO ?_;refine oW fv 0 ?_
 repeat refine I ?_
 refine cG (L:=Nat×List Nat) (fun(i,outs)=>i<=xs.length∧outs.length=xs.length+aq.length∧c2 4294967296 outs∧val 4294967296 (outs.take (i+aq.length))=val 4294967296 (xs.take i)*val 4294967296 aq)
  (fun((i:Nat),(outs:List Nat))=>⟨[.a 208 false 1 Nat fv outs],1,[(1,da aq),(5,.a6 0 1 0 (xs.length+aq.length) (xs.length+aq.length)),(17,da xs),(18,.i .i64 xs.length),(19,.i .i64 i)]⟩)
  (fun l=>xs.length-l.1) [0] (0,List.replicate (xs.length+aq.length) 0) ⟨by omega,by simp,r0 (by decide) _,by simp[val,val_zero]⟩ (by show xs.length-0<ba+1;unfold ba;omega) dP ?_
 rintro⟨i,outs⟩ ⟨ae,gu,bP,aH⟩
 repeat refine I ?_
 refine cP (fun h=> ?_) (fun h=> ?_)
 ·have h:i<xs.length:=by omega
  have k6:=h1 _ (dr h)
  repeat refine I ?_
  refine cV xs[i] (a9 h) ?_
  repeat refine I ?_
  refine cG (L:=Nat×List Nat×Nat) (fun(j,os,c)=>j<=aq.length∧os.length=xs.length+aq.length∧c2 4294967296 os∧c<4294967296∧(∀k,i+j<=k->os[k]? =outs[k]?)∧val 4294967296 (os.take (i+j))+4294967296^(i+j)*c=val 4294967296 (outs.take (i+j))+4294967296^i*(xs[i]*val 4294967296 (aq.take j)))
   (fun((j:Nat),(os:List Nat),(c:Nat))=>⟨[.a 208 false 1 Nat fv os],1,[(1,da aq),(5,.a6 0 1 0 (xs.length+aq.length) (xs.length+aq.length)),(17,da xs),(18,.i .i64 xs.length),(19,.i .i64 i),(6,.i .i64 i),(7,.i .u32 (xs[i]:Nat)),(8,.i .u64 c),(24,da aq),(25,.i .i64 aq.length),(26,.i .i64 j)]⟩)
   (fun l=>aq.length-l.1) [0] (0,outs,0) ⟨by omega,gu,bP,by omega,fun _ _=>rfl,by simp[val]⟩ (by show aq.length-0<ba+1;unfold ba;omega) dP ?_
  rintro⟨j,os,c⟩ ⟨hj,CM,s0,hc,lY,iN⟩
  repeat refine I ?_
  refine cP (fun qy=> ?_) (fun qy=> ?_)
  ·have qy:j<aq.length:=by omega
   have GD:=h2 _ (dr qy);have js:i+j<os.length:=by omega
   have Lw:os[i+j]=outs[i+j]:=by
    have:=lY (i+j) (b5 _);rw[a9 js,a9 (by omega)]at this;exact Option.some.inj this
   have Lx:=s0 _ (dr js);obtain⟨aL,aR,a7⟩:=Mp hc k6 GD Lx
   repeat refine I ?_
   refine cV aq[j] (a9 qy) ?_
   repeat refine I ?_
   refine az 40 (.i .i64 ((i+j:Nat):Int)) rfl cO ?_;refine hE ?_;refine p4 os[i+j] (a9 js) ?_
   iterate 3 refine I ?_
   refine az 45 (.i .u64 ((c+(xs[i]*aq[j]+os[i+j]):Nat):Int)) rfl (fI ?_) ?_
   ·have aA:xs[i]%18446744073709551616=xs[i]:=by omega
    have e2:aq[j]%18446744073709551616=aq[j]:=by omega
    have b0:os[i+j]%18446744073709551616=os[i+j]:=by omega
    rw[aA,e2,b0,gW aL,gW aR,gW a7]
   repeat refine I ?_
   refine az 49 (.i .i64 ((i+j:Nat):Int)) rfl cO ?_;generalize gO:c+(xs[i]*aq[j]+os[i+j])=T at *;refine hE ?_;refine jk (T%4294967296) ?_
   repeat refine I ?_
   refine bc [0] (j+1,os.set (i+j) (T%4294967296),T/4294967296) ⟨by show aq.length-(j+1)<aq.length-j;omega,by omega,by simp[CM],l7 s0 _ (Nat.mod_lt _ (by decide)),by omega,fun k U=>by rw[List.getElem?_set_ne (by omega)];exact lY k (by omega),?_⟩
    (e3 ⟨rfl,rfl,rfl,rfl,rfl,rfl,rfl,rfl,rfl,rfl,fo,trivial⟩ ⟨_,rfl,rfl,fun _=>rfl⟩)
   rw[<-Nat.add_assoc,hN (l:=os.set (i+j) _) (by simp;omega),hN (l:=outs) (by omega),hN qy,List.take_set_of_le (b5 _),List.getElem_set_self,Nat.pow_succ,<-Lw,<-gO];exact Ws (by rw[Nat.pow_add]) iN
  ·have hj:j=aq.length:=by omega
   subst hj
   repeat refine I ?_
   refine az 60 (.i .i64 ((i+aq.length:Nat):Int)) rfl cO ?_
   repeat refine I ?_
   refine hE ?_;refine jk (c%4294967296) ?_
   repeat refine I ?_
   refine bc [0] (i+1,os.set (i+aq.length) (c%4294967296)) ⟨by show xs.length-(i+1)<xs.length-i;omega,by omega,by simp[CM],l7 s0 _ (Nat.mod_lt _ (by decide)),?_⟩ (e3 ⟨rfl,rfl,rfl,rfl,fo,trivial⟩ ⟨_,rfl,rfl,fun _=>rfl⟩);rw[show i+1+aq.length=i+aq.length+1 by omega,hN (l:=os.set _ _) (by simp;omega),List.take_set_of_le (b5 _),List.getElem_set_self,gW hc,iN,aH,hN h,jW (b5 _),Nat.add_mul,Nat.mul_assoc]
 ·have ae:i=xs.length:=by omega
  subst ae
  repeat refine I ?_
  refine hD 65 ?_;refine aX sE outs ⟨bP,by omega⟩ ?_
  repeat refine I ?_
  refine aw rfl (.of ?_);show dw _=dw _;congr 1;rw[jW (l:=xs) (b5 _),jW (l:=outs) (by omega)]at aH;rw[aH,iE,kN]
theorem ZF{B X O r x d:Nat}(h:X=O*d+r):x+B*X=((r*B+x)/d+B*O)*d+(r*B+x)%d:=by
 have h1:=Nat.div_add_mod (r*B+x) d;rw[Nat.add_mul,h,Nat.mul_assoc,Nat.mul_comm (_/d) d,Nat.mul_add,Nat.mul_comm r B]at *;omega
theorem ZE{B r x d:Nat}(aQ:r<d)(J:x<B):(r*B+x)/d<B:=by
 rw[Nat.div_lt_iff_lt_mul (by omega)];have:(r+1)*B<=d*B:=hF _ aQ;rw[Nat.mul_comm B d];rw[Nat.add_mul]at this;omega
theorem Xr{h x k:Nat}(J:x<2^k):h*2^k|||x=h*2^k+x:=by
 rw[Nat.mul_comm,<-Nat.two_pow_add_eq_or_of_lt J]
theorem M0{r x:Nat}(aQ:r<4294967296)(J:x<4294967296):(r*2^32%18446744073709551616%18446744073709551616|||x%18446744073709551616%18446744073709551616)=r*4294967296+x:=by
 have aA:r*2^32%18446744073709551616%18446744073709551616=r*2^32:=by omega
 have e2:x%18446744073709551616%18446744073709551616=x:=by omega
 rw[aA,e2,Xr (k:=32) J]
def ZD:bE where
 L:=Nat×Nat
 args:=fun(a,b)=>[dw a,.i .u32 b]
 pre:=fun(a,b)=>eC 1073741824 a∧0<b∧b<4294967296
 res:=fun(a,b)=>.bB [dw (a/b),.i .u32 ((a%b:Nat):Int)]
theorem arR:bg aC.ctx 192 ZD.spec:=by
 refine bR [(125,sD.spec)] Sg.1 ?_;intro⟨a,d⟩ ⟨(ha:(a1 _ a).length<=_),(wQ:0<d),(av:d<_)⟩ H aJ;have h1:=gM (b:=4294967296) (by decide) a;have iE:=gn (b:=4294967296) (by decide) a;show a2.ok _ ⟨_,_,⟨_,_,[(0,da (a1 4294967296 a)),(1,.i .u32 d)]⟩⟩;generalize a1 4294967296 a=xs at *
 repeat refine I ?_
 refine oW fv 0 ?_
 repeat refine I ?_
 refine cG (L:=Nat×List Nat×Nat) (fun(k,outs,r)=>k<=xs.length∧outs.length=xs.length∧c2 4294967296 outs∧r<d∧val 4294967296 (xs.drop k)=val 4294967296 (outs.drop k)*d+r)
  (fun((k:Nat),(outs:List Nat),(r:Nat))=>⟨[.a 208 false 1 Nat fv outs],1,[(0,da xs),(1,.i .u32 d),(4,.a6 0 1 0 xs.length xs.length),(6,.i .u64 r),(7,.i .i64 ((k:Int)-1))]⟩)
  (fun l=>l.1) [0] (xs.length,List.replicate xs.length 0,0) ⟨by omega,by simp,r0 (by decide) _,wQ,by simp[val]⟩ (by show xs.length<ba+1;unfold ba;omega) (e3 ⟨rfl,rfl,rfl,rfl,fo,trivial⟩ ⟨_,rfl,rfl,fun _=>rfl⟩) ?_
 rintro⟨k,outs,r⟩ ⟨U,gu,bP,aQ,aH⟩;cases k with
 |zero=>
  repeat refine I ?_
  refine hD 38 ?_;refine aX sE outs ⟨bP,by omega⟩ ?_
  repeat refine I ?_
  rw[List.drop_zero,List.drop_zero]at aH;have hq:a/d=val 4294967296 outs:=by rw[<-iE,aH,Nat.mul_comm];rw[Nat.mul_add_div wQ,Nat.div_eq_of_lt aQ];omega
  have hm:a%d=r:=by rw[<-iE,aH,Nat.mul_comm,Nat.mul_add_mod,gW aQ]
  exact aw rfl (.bB ⟨.of (by show dw _=dw (a/d);rw[hq]),.of (fI (by show((r%4294967296:Nat):Int)=((a%d:Nat):Int);omega)),trivial⟩)
 |succ m=>
  have J:m<xs.length:=by omega
  have k6:=h1 _ (dr J);have oE:=ZE aQ k6;have gO:r*4294967296+xs[m]<18446744073709551616:=by
   have:(r+1)*4294967296<=4294967296*4294967296:=hF _ (by omega);omega
  refine az 7 (.i .i64 (m:Nat)) rfl fI ?_
  repeat refine I ?_
  refine az 15 (.b true) rfl (by simp) ?_
  repeat refine I ?_
  refine cV xs[m] (a9 J) ?_
  iterate 3 refine I ?_
  refine az 25 (.i .u64 ((r*4294967296+xs[m]:Nat):Int)) rfl (fI (congrArg _ (M0 (by omega) k6))) ?_;generalize wL:r*4294967296+xs[m]=T at *
  repeat refine I ?_
  refine az 30 (.i .u64 (d:Nat)) rfl fI ?_;refine apV ?_
  repeat refine I ?_
  refine hE ?_;refine jk (T/d%4294967296) ?_
  repeat refine I ?_
  refine az 36 (.i .u64 (d:Nat)) rfl fI ?_;refine apW ?_
  repeat refine I ?_
  have ah:xs.drop m=xs[m]::xs.drop (m+1):=hf J;refine bc [0] (m,outs.set m (T/d%4294967296),T%d) ⟨by simp,by omega,by simp[gu],l7 bP _ (Nat.mod_lt _ (by decide)),Nat.mod_lt _ wQ,?_⟩ (e3 ⟨rfl,rfl,rfl,rfl,fo,trivial⟩ ⟨_,rfl,rfl,fun _=>rfl⟩);rw[ah,hf (l:=outs.set m _) (by simp;omega),List.getElem_set_self,List.drop_set_of_lt (by omega),gW oE,<-wL];exact ZF aH
theorem Zp{h x s:Nat}(ah:s<32)(hh:h<2^s):h|||(x*2^s)%4294967296=h+(x*2^s)%4294967296:=by
 have e:4294967296=2^s*2^(32-s):=by rw[<-Nat.pow_add,show s+(32-s)=32 by omega]
 have e2:(x*2^s)%4294967296=2^s*(x%2^(32-s)):=by rw[e,Nat.mul_comm x,Nat.mul_mod_mul_left]
 rw[e2,Nat.or_comm,<-Nat.two_pow_add_eq_or_of_lt hh,Nat.add_comm]
theorem HD{s:Nat}(ah:s<32):2^s<=2147483648:=by
 have:2^s<=2^31:=Nat.pow_le_pow_right (by decide) (by omega);exact this
theorem aqK{x s:Nat}(ah:s<32)(J:x<4294967296):x*2^s<9223372036854775808:=by
 have h1:x*2^s<=4294967295*2147483648:=Nat.mul_le_mul (by omega) (HD ah);omega
theorem aqJ{x s:Nat}(J:x<4294967296):x*2^s/4294967296<2^s:=by
 have h0:0<2^s:=Nat.two_pow_pos s;rw[Nat.div_lt_iff_lt_mul (by decide),Nat.mul_comm];exact(Nat.mul_lt_mul_left h0).2 J
theorem aqL{P o h v a:Nat}(aH:o+P*h=a):o+P*(h+v%4294967296)+P*4294967296*(v/4294967296)=a+P*v:=by
 have h1:P*v=P*(v%4294967296)+P*4294967296*(v/4294967296):=by
  rw[Nat.mul_assoc,<-Nat.mul_add];congr 1;omega
 rw[Nat.mul_add];omega
theorem NS(n:Nat):2^n=2^(n%32)*4294967296^(n/32):=by
 rw[show(4294967296:Nat)=2^32 from rfl,<-Nat.pow_mul,<-Nat.pow_add];congr 1;omega
theorem XO{k:Nat}(h:k<9223372036854775808):af.i .i64 (IntKind.i64.wrap ((k:Int).tdiv 32))=af.i .i64 ((k/32:Nat):Int):=cO rfl (by show _<=((k/32:Nat):Int);omega) (by show((k/32:Nat):Int)<_;omega)
def IV:bE where
 L:=Nat×Nat
 args:=fun(a,b)=>[dw a,.i .i64 b]
 pre:=fun(a,b)=>eC 1073741824 a∧b<34359738368
 res:=fun(a,b)=>dw (a*2^b)
theorem AP:bg aC.ctx 213 IV.spec:=by
 refine bR [(125,sD.spec)] Sv.1 ?_;intro⟨a,n⟩ ⟨(ha:(a1 _ a).length<=_),(hn:n<_)⟩ H aJ;have h1:=gM (b:=4294967296) (by decide) a;have iE:=gn (b:=4294967296) (by decide) a;show a2.ok _ ⟨_,_,⟨_,_,[(0,da (a1 4294967296 a)),(1,.i .i64 n)]⟩⟩;generalize a1 4294967296 a=xs at *
 repeat refine I ?_
 refine cP (fun h=> ?_) (fun h=> ?_)
 ·have h0:xs=[]:=List.eq_nil_of_length_eq_zero (by omega);subst h0;have:a=0:=iE.symm;subst this
  repeat refine I ?_
  exact aw rfl (b3.nl.trans (.of (by show da []=dw (0*2^n);rw[Nat.zero_mul];show _=da (a1 _ 0);rw[g6])))
 iterate 2 refine I ?_
 refine I ?_;refine I ?_;refine I ?_;refine I ?_;refine I ?_;refine az 15 _ rfl (XO (by omega)) ?_
 iterate 3 refine I ?_
 refine az 17 (.i .i64 ((n%32:Nat):Int)) rfl (fI rfl) ?_;generalize hq:n/32=q;have ah:n%32<32:=Nat.mod_lt _ (by decide);have kG:=NS n;rw[hq]at kG;generalize n%32=s at *
 repeat refine I ?_
 refine az 23 (.i .i64 ((xs.length+q+1:Nat):Int)) rfl (by rw[g0 (n:=(xs.length:Int)+q) (by omega) (by omega)];exact cO) ?_;refine oW fv 0 ?_
 repeat refine I ?_
 refine cG (L:=Nat×List Nat) (fun(i,outs)=>i<=xs.length∧outs.length=xs.length+q+1∧c2 4294967296 outs∧(∃h,outs[i+q]? =some h∧h<2^s)∧val 4294967296 (outs.take (i+q+1))=val 4294967296 (xs.take i)*(2^s*4294967296^q))
  (fun((i:Nat),(outs:List Nat))=>⟨[.a 208 false 1 Nat fv outs],1,[(5,.i .i64 q),(6,.i .u64 s),(7,.a6 0 1 0 (xs.length+q+1) (xs.length+q+1)),(25,da xs),(26,.i .i64 xs.length),(27,.i .i64 i)]⟩)
  (fun l=>xs.length-l.1) [0] (0,List.replicate (xs.length+q+1) 0) ⟨by omega,by simp,r0 (by decide) _,⟨0,by rw[List.getElem?_replicate,if_pos (by omega)],Nat.two_pow_pos s⟩,by rw[List.take_replicate,val_zero];simp[val]⟩ (by show xs.length-0<ba+1;unfold ba;omega) (e3 ⟨rfl,l0,rfl,rfl,rfl,rfl,trivial⟩ ⟨_,rfl,rfl,fun _=>rfl⟩) ?_
 rintro⟨i,outs⟩ ⟨ae,gu,bP,⟨h,hh,UM⟩,aH⟩
 repeat refine I ?_
 refine cP (fun aP=> ?_) (fun aP=> ?_)
 ·have aP:i<xs.length:=by omega
  have k6:=h1 _ (dr aP);have aL:=aqK ah k6;have aR:=aqJ (s:=s) k6;have a7:=HD ah
  repeat refine I ?_
  refine cV xs[i] (a9 aP) ?_
  iterate 3 refine I ?_
  iterate 3 refine I ?_
  iterate 3 refine I ?_
  iterate 2 refine I ?_
  refine az 35 (.i .u64 ((xs[i]*2^s:Nat):Int)) rfl (fI ?_) ?_
  ·rw[gW (a:=xs[i]) (by omega),gW (by omega)]
  generalize hy:xs[i]*2^s=V at *
  repeat refine I ?_
  refine az 39 (.i .i64 ((i+q:Nat):Int)) rfl cO ?_;refine hE ?_;refine p4 h hh ?_
  iterate 3 refine I ?_
  refine az 44 (.i .u32 ((h+V%4294967296:Nat):Int)) rfl (fI ?_) ?_
  ·rw[gW (a:=h) (by omega),Nat.mod_mod,<-hy,Zp ah UM]
  have hu:h+V%4294967296<4294967296:=by
   rw[<-hy,<-Zp ah UM];exact Nat.or_lt_two_pow (n:=32) (by omega) (Nat.mod_lt _ (by decide))
  generalize akc:h+V%4294967296=Js at *;refine hE ?_;refine jk Js ?_
  repeat refine I ?_
  refine az 50 (.i .i64 ((i+q+1:Nat):Int)) rfl (by rw[g0 (n:=(i:Int)+q) (by omega) (by omega)];exact cO) ?_;refine hE ?_;refine jk (V/2^32%4294967296) ?_
  repeat refine I ?_
  have akd:V/2^32%4294967296=V/4294967296:=by omega
  rw[akd];refine bc [0] (i+1,(outs.set (i+q) Js).set (i+q+1) (V/4294967296)) ⟨by show xs.length-(i+1)<xs.length-i;omega,by omega,by simp[gu],l7 (l7 bP _ hu) _ (by omega),⟨V/4294967296,by rw[show i+1+q=i+q+1 by omega,List.getElem?_set_self (by simp;omega)],aR⟩,?_⟩
   (e3 ⟨rfl,rfl,rfl,rfl,rfl,fo,trivial⟩ ⟨_,rfl,rfl,fun _=>rfl⟩)
  have aU:val 4294967296 (outs.take (i+q))+4294967296^(i+q)*h=val 4294967296 (xs.take i)*(2^s*4294967296^q):=by
   rw[<-aH,hN (by omega)];congr 2;exact(Option.some.inj ((a9 (by omega)).symm.trans hh)).symm
  have aA:=aqL (v:=V) aU;rw[show i+1+q+1=i+q+1+1 by omega,hN (by simp;omega),List.getElem_set_self,List.take_set_of_le (b5 _),hN (by simp;omega),List.getElem_set_self,List.take_set_of_le (b5 _),hN aP,<-akc,Nat.pow_succ,aA,<-hy,Nat.add_mul,Nat.pow_add];congr 1
  ac_rfl
 ·have ae:i=xs.length:=by omega
  subst ae
  repeat refine I ?_
  refine hD 56 ?_;refine aX sE outs ⟨bP,by omega⟩ ?_
  repeat refine I ?_
  refine aw rfl (.of ?_);show dw _=dw _;congr 1;rw[jW (l:=xs) (b5 _),jW (l:=outs) (by omega)]at aH;rw[aH,iE,<-kG]
theorem pW{b:Nat}{l:List Nat}(h:c2 b l)(k:Nat):c2 b (l.take k):=fun x J=>h x (List.mem_of_mem_take J)
theorem vo{b:Nat}{l:List Nat}(h:c2 b l)(k:Nat):c2 b (l.drop k):=fun x J=>h x (List.mem_of_mem_drop J)
theorem Jb{b:Nat}{l:List Nat}{k:Nat}(U:k<=l.length):val b l=val b (l.take k)+b^k*val b (l.drop k):=by
 have:=mo b (l.take k) (l.drop k);rw[List.take_append_drop,List.length_take,Nat.min_eq_left U]at this;exact this
theorem abc{b:Nat}(aa:0<b){l:List Nat}(h:c2 b l){k:Nat}(U:k<=l.length):val b l/b^k=val b (l.drop k):=by
 have h2:=kf (pW h k);rw[List.length_take,Nat.min_eq_left U]at h2;rw[Jb U,Nat.add_mul_div_left _ _ (Nat.pow_pos aa),Nat.div_eq_of_lt h2,Nat.zero_add]
theorem aqQ{W v R s:Nat}(ah:s<32)(gq:W=v+18446744073709551616*R):(W/2^s)%4294967296=(v/2^s)%4294967296:=by
 have e:18446744073709551616*R=2^s*(4294967296*(2^(32-s)*R)):=by
  rw[show(18446744073709551616:Nat)=4294967296*2^32 from rfl,show(2:Nat)^32=2^s*2^(32-s) by rw[<-Nat.pow_add,show s+(32-s)=32 by omega]]
  ac_rfl
 rw[gq,e,Nat.add_mul_div_left _ _ (Nat.two_pow_pos s),Nat.add_mul_mod_self_left]
def Zs:bE where
 L:=Nat×Nat
 args:=fun(a,b)=>[dw a,.i .i64 b]
 pre:=fun(a,b)=>eC 1073741824 a∧b<9223372036854775808
 res:=fun(a,b)=>dw (a/2^b)
theorem aqP:bg aC.ctx 216 Zs.spec:=by
 refine bR [(125,sD.spec)] Sy.1 ?_;intro⟨a,n⟩ ⟨(ha:(a1 _ a).length<=_),(hn:n<_)⟩ H aJ;have h1:=gM (b:=4294967296) (by decide) a;have iE:=gn (b:=4294967296) (by decide) a;show a2.ok _ ⟨_,_,⟨_,_,[(0,da (a1 4294967296 a)),(1,.i .i64 n)]⟩⟩;generalize a1 4294967296 a=xs at *
 iterate 3 refine I ?_
 iterate 3 refine I ?_
 iterate 3 refine I ?_
 refine az 11 _ rfl (XO (by omega)) ?_
 iterate 2 refine I ?_
 refine az 13 (.i .i64 ((n%32:Nat):Int)) rfl (fI rfl) ?_;generalize hq:n/32=q;have ah:n%32<32:=Nat.mod_lt _ (by decide);have kG:=NS n;rw[hq]at kG;generalize n%32=s at *
 repeat refine I ?_
 have hdiv:a/2^n=a/4294967296^q/2^s:=by rw[kG,Nat.mul_comm,Nat.div_div_eq_div_mul]
 refine cP (fun h=> ?_) (fun h=> ?_)
 ·repeat refine I ?_
  have h2:=kf h1;have h3:4294967296^xs.length<=4294967296^q:=Nat.pow_le_pow_right (by decide) (by omega);exact aw rfl (b3.nl.trans (.of (by show da []=dw (a/2^n);rw[hdiv,Nat.div_eq_of_lt (show a<4294967296^q by omega),Nat.zero_div];show _=da (a1 _ 0);rw[g6])))
 have zG:q<xs.length:=by omega
 repeat refine I ?_
 refine az 22 (.i .i64 ((xs.length-q:Nat):Int)) rfl cO ?_;refine oW fv 0 ?_
 repeat refine I ?_
 have akh:a/4294967296^q=val 4294967296 (xs.drop q):=by rw[<-iE,abc (by decide) h1 (by omega)]
 have Uu:=kf (vo h1 q);rw[List.length_drop]at Uu;generalize hS:xs.length-q=N at *;refine cG (L:=Nat×List Nat) (fun(i,outs)=>i<=N∧outs.length=N∧c2 4294967296 outs∧val 4294967296 (outs.take i)=(val 4294967296 (xs.drop q)/2^s)%4294967296^i)
  (fun((i:Nat),(outs:List Nat))=>⟨[.a 208 false 1 Nat fv outs],1,[(0,da xs),(5,.i .i64 q),(6,.i .u64 s),(7,.a6 0 1 0 N N),(25,.i .i64 N),(26,.i .i64 i)]⟩)
  (fun l=>N-l.1) [0] (0,List.replicate N 0) ⟨by omega,by simp,r0 (by decide) _,by simp[val,Nat.mod_one]⟩ (by show N-0<ba+1;unfold ba;omega) (e3 ⟨rfl,rfl,l0,rfl,rfl,rfl,trivial⟩ ⟨_,rfl,rfl,fun _=>rfl⟩) ?_
 rintro⟨i,outs⟩ ⟨ae,gu,bP,aH⟩
 repeat refine I ?_
 refine cP (fun aP=> ?_) (fun aP=> ?_)
 ·have lA:i+q<xs.length:=by omega
  have k6:=h1 _ (dr lA)
  repeat refine I ?_
  refine az 32 (.i .i64 ((i+q:Nat):Int)) rfl cO ?_;refine cV xs[i+q] (a9 lA) ?_
  iterate 2 refine I ?_
  refine az 35 (.i .u64 (xs[i+q]:Nat)) rfl fI ?_
  repeat refine I ?_
  refine iS (fun(v:Nat)=>∃R,val 4294967296 (xs.drop (i+q))=v+18446744073709551616*R) (fun(v:Nat)=>⟨[.a 208 false 1 Nat fv outs],1,[(9,.i .u64 v),(8,.i .i64 i),(0,da xs),(5,.i .i64 q),(6,.i .u64 s),(7,.a6 0 1 0 N N),(25,.i .i64 N),(26,.i .i64 i)]⟩) ?_ ?_
  ·have QW:IntKind.i64.wrap (IntKind.i64.wrap ((i:Int)+q)+1)=((i+q+1:Nat):Int):=by rw[g0 (n:=(i:Int)+q) (by omega) (by omega),g0]<;>omega
   rw[QW];refine cP (fun CA=> ?_) (fun CA=> ?_)
   ·have CA:i+q+1<xs.length:=by omega
    have GD:=h1 _ (dr CA)
    repeat refine I ?_
    refine az 48 (.i .i64 ((i+q+1:Nat):Int)) rfl (fI QW) ?_;refine cV xs[i+q+1] (a9 CA) ?_
    repeat refine I ?_
    refine bc [0] (xs[i+q]+4294967296*xs[i+q+1]) ⟨val 4294967296 (xs.drop (i+q+1+1)),?_⟩ (e3 ⟨l0 (congrArg _ ?_),rfl,rfl,rfl,rfl,rfl,rfl,rfl,trivial⟩ ⟨_,rfl,rfl,fun _=>rfl⟩)
    ·rw[hf lA,hf CA,val,val];omega
    ·have aA:xs[i+q+1]%18446744073709551616*2^32%18446744073709551616%18446744073709551616=xs[i+q+1]*2^32:=by omega
     have e2:xs[i+q]%18446744073709551616=xs[i+q]:=by omega
     rw[aA,e2,Nat.or_comm,Xr (k:=32) k6];omega
   ·repeat refine I ?_
    refine bc [0] xs[i+q] ⟨0,?_⟩ dP;rw[hf lA,List.drop_of_length_le (by omega),val,val]
  rintro(v:Nat) ⟨R,cI⟩
  repeat refine I ?_
  refine apY ?_
  repeat refine I ?_
  refine hE ?_;refine jk (v/2^s%4294967296) ?_
  repeat refine I ?_
  refine bc [0] (i+1,outs.set i (v/2^s%4294967296)) ⟨by show N-(i+1)<N-i;omega,by omega,by simp[gu],l7 bP _ (Nat.mod_lt _ (by decide)),?_⟩ (e3 ⟨rfl,rfl,rfl,rfl,rfl,fo,trivial⟩ ⟨_,rfl,rfl,fun _=>rfl⟩);rw[hN (by simp;omega),List.take_set_of_le (b5 _),List.getElem_set_self,aH,Nat.pow_succ,Nat.mod_mul,<-aqQ ah cI,Nat.div_div_eq_div_mul,Nat.mul_comm (2^s),<-Nat.div_div_eq_div_mul,abc (by decide) (vo h1 q) (by simp;omega),List.drop_drop,Nat.add_comm q i]
 ·have akY:i=N:=by omega
  subst akY
  repeat refine I ?_
  refine hD 62 ?_;refine aX sE outs ⟨bP,by omega⟩ ?_
  repeat refine I ?_
  refine aw rfl (.of ?_);show dw _=dw _;congr 1;rw[jW (l:=outs) (by omega),gW (Nat.lt_of_le_of_lt (Nat.div_le_self _ _) Uu)]at aH;show _=a/2^n;rw[aH,hdiv,akh]
def bU(n:Nat):Nat:=if n=0 then 0 else Nat.log2 n+1
theorem uk{n:Nat}(h:1<=n):bU n=bU (n/2)+1:=by
 unfold bU;rw[if_neg (by omega)];by_cases h2:n/2=0
 ·rw[if_pos h2];have:n=1:=by omega
  subst this;rfl
 ·rw[if_neg h2,Nat.log2_def,if_pos (by omega)]
theorem J5:∀(k n:Nat),2^k<=n->bU n=bU (n/2^k)+k
 |0,n,_=>by simp
 |k+1,n,h=>by
  have h0:2^(k+1)=2*2^k:=by rw[Nat.pow_succ,Nat.mul_comm]
  have hp:0<2^k:=Nat.two_pow_pos k;rw[uk (by omega),J5 k (n/2) (by rw[Nat.le_div_iff_mul_le (by decide)];omega),Nat.div_div_eq_div_mul,h0];omega
theorem ri{n:Nat}(h:n≠0):2^(bU n-1)<=n∧n<2^bU n:=by
 unfold bU;rw[if_neg h];exact⟨Nat.log2_self_le h,Nat.lt_log2_self⟩
theorem acC{n k:Nat}(h1:2^k<=n)(h2:n<2^(k+1)):bU n=k+1:=by
 have h0:n≠0:=by have:=Nat.two_pow_pos k;omega
 obtain⟨a,b⟩:=ri h0;have:=(Nat.pow_lt_pow_iff_right (by decide:1<2)).1 (Nat.lt_of_le_of_lt h1 b);have:=(Nat.pow_lt_pow_iff_right (by decide:1<2)).1 (Nat.lt_of_le_of_lt a h2);omega
def oN:bE where
 L:=Nat
 args:=fun n=>[.i .u32 n]
 pre:=fun n=>n<4294967296
 res:=fun n=>.i .i64 (bU n:Nat)
theorem VR:bg aC.ctx 296 oN.spec:=by
 refine bR [] S5.1 ?_;intro(n:Nat) (hn:n<4294967296) H aJ
 repeat refine I ?_
 refine iS (fun((m:Nat),(k:Nat))=>m<65536∧k<=16∧bU n=bU m+k) (fun(m,k)=>⟨[],0,[(0,.i .u32 m),(2,.i .i64 k)]⟩) ?_ ?_
 ·refine cP (fun h=> ?_) (fun h=> ?_)
  ·repeat refine I ?_
   exact bc [] (n/65536,16) ⟨by omega,by decide,J5 16 n (by omega)⟩ ei
  ·repeat refine I ?_
   exact bc [] (n,0) ⟨by omega,by decide,rfl⟩ ei
 rintro⟨m,k⟩ ⟨hm,U,aa⟩
 repeat refine I ?_
 refine iS (fun((m:Nat),(k:Nat))=>m<256∧k<=24∧bU n=bU m+k) (fun(m,k)=>⟨[],0,[(0,.i .u32 m),(2,.i .i64 k)]⟩) ?_ ?_
 ·refine cP (fun h=> ?_) (fun h=> ?_)
  ·repeat refine I ?_
   exact bc [] (m/256,k+8) ⟨by omega,by omega,by rw[aa,J5 8 m (by omega),show(2:Nat)^8=256 from rfl];omega⟩ (jA ⟨rfl,fo,trivial⟩)
  ·repeat refine I ?_
   exact bc [] (m,k) ⟨by omega,by omega,aa⟩ ei
 rintro⟨m,k⟩ ⟨hm,U,aa⟩
 repeat refine I ?_
 refine az 15 (.i .u8 (m:Nat)) rfl fI ?_;have hv:∀m,m<256->([0,1,2,2,3,3,3,3,4,4,4,4,4,4,4,4,5,5,5,5,5,5,5,5,5,5,5,5,5,5,5,5,6,6,6,6,6,6,6,6,6,6,6,6,6,6,6,6,6,6,6,6,6,6,6,6,6,6,6,6,6,6,6,6,7,7,7,7,7,7,7,7,7,7,7,7,7,7,7,7,7,7,7,7,7,7,7,7,7,7,7,7,7,7,7,7,7,7,7,7,7,7,7,7,7,7,7,7,7,7,7,7,7,7,7,7,7,7,7,7,7,7,7,7,7,7,7,7,8,8,8,8,8,8,8,8,8,8,8,8,8,8,8,8,8,8,8,8,8,8,8,8,8,8,8,8,8,8,8,8,8,8,8,8,8,8,8,8,8,8,8,8,8,8,8,8,8,8,8,8,8,8,8,8,8,8,8,8,8,8,8,8,8,8,8,8,8,8,8,8,8,8,8,8,8,8,8,8,8,8,8,8,8,8,8,8,8,8,8,8,8,8,8,8,8,8,8,8,8,8,8,8,8,8,8,8,8,8,8,8,8,8,8,8,8,8,8,8,8,8,8,8,8,8,8,8]:List UInt8)[m]? =some (UInt8.ofNat (bU m))∧bU m<=8:=by decide +kernel
 obtain⟨t1,t2⟩:=hv m hm;refine nz _ t1 ?_
 repeat refine I ?_
 have e:(UInt8.ofNat (bU m)).toNat=bU m:=by simp;omega
 rw[e];refine aw rfl (.of ?_);show af.i _ _=af.i .i64 (bU n:Nat);rw[aa,g0 (n:=((bU m:Nat):Int)) (by omega) (by omega)];exact cO
def VZ:bE where
 L:=Nat
 args:=fun n=>[.i .u32 n]
 pre:=fun n=>n<4294967296
 res:=fun n=>.i .i64 ((32-bU n:Nat):Int)
theorem J2{n:Nat}(h:n<4294967296):bU n<=32:=by
 by_cases h0:n=0
 ·subst h0;decide
 ·have:=(ri h0).1;have:=(Nat.pow_lt_pow_iff_right (by decide:1<2)).1 (Nat.lt_of_le_of_lt this (show n<2^32 from h));omega
theorem ant:bg aC.ctx 212 VZ.spec:=by
 refine bR [(296,oN.spec)] Su.1 ?_;intro(n:Nat) (hn:n<4294967296) H aJ
 repeat refine I ?_
 refine aX VR n hn ?_
 repeat refine I ?_
 have:=J2 hn;exact aw rfl (.of cO)
def m3(b:Nat):Nat->Nat->List Nat
 |0,_=>[]
 |k+1,n=>n%b::m3 b k (n/b)
theorem BV(b:Nat):∀k n,(m3 b k n).length=k
 |0,_=>rfl
 |k+1,n=>by simp[m3,BV b k]
theorem QR{b:Nat}(aa:0<b):∀k n,c2 b (m3 b k n)
 |0,_=>fun x J=>by simp[m3]at J
 |k+1,n=>fun x J=>by
  rcases List.mem_cons.1 J with rfl|J
  ·exact Nat.mod_lt _ aa
  ·exact QR aa k _ x J
theorem Kt{b:Nat}:∀k n,val b (m3 b k n)=n%b^k
 |0,n=>by simp[m3,val,Nat.mod_one]
 |k+1,n=>by rw[m3,val,Kt k,Nat.pow_succ,Nat.mul_comm (b^k) b,Nat.mod_mul]
theorem Fq{b:Nat}(aa:0<b):∀{l:List Nat} {n k:Nat},c2 b l->l.length=k->val b l=n->l=m3 b k n
 |[],_,_,_,rfl,_=>rfl
 |d::l,_,_,h,rfl,rfl=>by
  have h1:=h d (by simp);rw[List.length_cons,m3,val,Nat.add_mul_mod_self_left,gW h1,Nat.add_mul_div_left _ _ aa,Nat.div_eq_of_lt h1,Nat.zero_add,<-Fq aa (fun x J=>h x (List.mem_cons_of_mem _ J)) rfl rfl]
theorem ZH{us os:List Nat}{j k:Nat}(hl:os.length=us.length)(hj:j+k<=us.length)(ah:∀p,p<j∨j+k<=p->os[p]? =us[p]?):os=us.take j++((os.drop j).take k++us.drop (j+k)):=by
 apply List.ext_getElem?;intro p;by_cases h1:p<j
 ·rw[List.getElem?_append_left (by simp;omega),List.getElem?_take,if_pos h1];exact ah p (.inl h1)
 ·rw[List.getElem?_append_right (by simp;omega),List.length_take,Nat.min_eq_left (by omega)];by_cases h2:p<j+k
  ·rw[List.getElem?_append_left (by simp;omega),List.getElem?_take,if_pos (by omega),List.getElem?_drop];congr 1;omega
  ·rw[List.getElem?_append_right (by simp;omega)];have:((os.drop j).take k).length=k:=by simp;omega
   rw[this,List.getElem?_drop,ah p (.inr (by omega))];congr 1;omega
theorem q3{b:Nat}{l:List Nat}{j i:Nat}(h:j+i<l.length):val b ((l.drop j).take (i+1))=val b ((l.drop j).take i)+b^i*l[j+i]:=by
 rw[hN (by simp;omega),List.getElem_drop]
def iV(us:List Nat)(j k n:Nat):List Nat:=us.take j++(m3 4294967296 k n++us.drop (j+k))
def eE(us:List Nat)(j k:Nat):Nat:=val 4294967296 ((us.drop j).take k)
def ZX:GS where
 L:=List Nat×Nat×List Nat×Nat
 own:=fun(us,_,_,_)=>[.a 208 false 1 Nat fv us]
 args:=fun(us,j,vs,g)=>[.a6 0 1 j (us.length-j) (us.length-j),da vs,.i .u64 g]
 pre:=fun(us,j,vs,g)=>j+vs.length<us.length∧c2 4294967296 us∧c2 4294967296 vs∧g<4294967296∧us.length<=1099511627776
 bu:=fun(us,j,vs,g)=>[.a 208 false 1 Nat fv (iV us j (vs.length+1) (eE us j (vs.length+1)+(if eE us j (vs.length+1)<g*val 4294967296 vs then 4294967296^(vs.length+1)else 0)-g*val 4294967296 vs))]
 res:=fun(us,j,vs,g)=>.b (decide (eE us j (vs.length+1)<g*val 4294967296 vs))
theorem asE:bg aC.ctx 214 ZX.spec:=by
 refine Qa [] Sw.1 ?_;rintro⟨us,j,vs,g⟩ ⟨h0,h1,h2,aO,u4⟩ H i0 aJ ae;obtain⟨iZ,rfl⟩:∃b,i0=[b]:=List.length_eq_one_iff.1 ae;show a2.ok _ ⟨_,_,⟨[.a 208 false 1 Nat fv us],1,[(0,.a6 0 1 j (us.length-j) (us.length-j)),(1,da vs),(2,.i .u64 g)]⟩⟩
 repeat refine I ?_
 refine cG (L:=Nat×List Nat×Nat×Nat) (fun(i,os,c,w)=>i<=vs.length∧os.length=us.length∧c2 4294967296 os∧c<4294967296∧w<=1∧(∀p,p<j∨j+i<=p->os[p]? =us[p]?)∧eE us j i+4294967296^i*(c+w)=eE os j i+g*val 4294967296 (vs.take i))
  (fun((i:Nat),(os:List Nat),(c:Nat),(w:Nat))=>⟨[.a 208 false 1 Nat fv os],1,[(0,.a6 0 1 j (us.length-j) (us.length-j)),(1,da vs),(2,.i .u64 g),(7,.i .u64 c),(8,.i .u64 w),(13,da vs),(14,.i .i64 vs.length),(15,.i .i64 i)]⟩)
  (fun l=>vs.length-l.1) [0] (0,us,0,0) ⟨by omega,rfl,h1,by omega,by omega,fun _ _=>rfl,by simp[eE,val]⟩ (by show vs.length-0<ba+1;unfold ba;omega) dP ?_
 rintro⟨i,os,c,w⟩ ⟨k3,gu,bP,hc,hw,lY,aH⟩
 repeat refine I ?_
 refine cP (fun h=> ?_) (fun h=> ?_)
 ·have h:i<vs.length:=by omega
  have J:=h2 _ (dr h);have kH:j+i<os.length:=by omega
  have w3:os[j+i]=us[j+i]:=by
   have:=lY (j+i) (.inr (b5 _));rw[a9 kH,a9 (by omega)]at this;exact Option.some.inj this
  have ak:=bP _ (dr kH);obtain⟨fK,iQ,xy⟩:=Mp (o:=0) hc aO J (by decide)
  repeat refine I ?_
  refine cV vs[i] (a9 h) ?_
  repeat refine al 25 ?_
  refine az 25 (.i .u64 ((c+g*vs[i]:Nat):Int)) rfl (fI (congrArg _ ?_)) ?_
  ·rw[gW (a:=vs[i]) (by omega),gW fK,gW (by omega)]
  have gO:c+g*vs[i]<18446744073709551616:=by omega
  generalize wL:c+g*vs[i]=T at *
  repeat refine I ?_
  refine tC ?_;refine p4 os[j+i] (a9 kH) ?_
  repeat refine al 36 ?_
  refine az 36 (.i .u64 (((os[j+i]+18446744073709551616-T%4294967296-w)%18446744073709551616:Nat):Int)) rfl fI ?_;generalize aN:(os[j+i]+18446744073709551616-T%4294967296-w)%18446744073709551616=t at *
  repeat refine I ?_
  refine tC ?_;refine jk (t%4294967296) ?_
  repeat refine I ?_
  refine bc [0] (i+1,os.set (j+i) (t%4294967296),T/4294967296,t/9223372036854775808) ⟨by show vs.length-(i+1)<vs.length-i;omega,by omega,by simp[gu],l7 bP _ (Nat.mod_lt _ (by decide)),by omega,by omega,fun p hp=> ?_,?_⟩
   (e3 ⟨rfl,rfl,rfl,rfl,rfl,rfl,rfl,fo,trivial⟩ ⟨_,rfl,rfl,fun _=>rfl⟩)
  ·rw[List.getElem?_set_ne (by omega)];exact lY p (by omega)
  ·unfold eE at aH⊢;rw[q3 (by omega),q3 (l:=os.set _ _) (by simp;omega),List.getElem_set_self,hN h,<-w3,Nat.pow_succ];have aA:((os.set (j+i) (t%4294967296)).drop j).take i=(os.drop j).take i:=by
    rw[List.drop_set];rw[if_neg (by omega),show j+i-j=i by omega,List.take_set_of_le (b5 _)]
   rw[aA];have av:os[j+i]+4294967296*(t/9223372036854775808)=t%4294967296+T%4294967296+w:=by omega
   have akb:T=T%4294967296+4294967296*(T/4294967296):=by omega
   generalize t/9223372036854775808=w' at *;generalize T/4294967296=bJ at *;generalize T%4294967296=gl at *;generalize t%4294967296=lq at *;generalize 4294967296^i=P at *;have bj:P*(os[j+i]+4294967296*w')=P*(lq+gl+w):=by rw[av]
   have bM:P*(c+g*vs[i])=P*(gl+4294967296*bJ):=by rw[wL,akb]
   rw[Nat.mul_add g,Nat.mul_left_comm g P];simp only[Nat.mul_add,Nat.mul_assoc]at bj bM aH⊢;omega
 ·have ae:i=vs.length:=by omega
  subst ae;have kH:j+vs.length<os.length:=by omega
  have w3:os[j+vs.length]=us[j+vs.length]:=by
   have:=lY (j+vs.length) (.inr (b5 _));rw[a9 kH,a9 (by omega)]at this;exact Option.some.inj this
  have ak:=bP _ (dr kH)
  repeat refine I ?_
  refine tC ?_;refine p4 os[j+vs.length] (a9 kH) ?_
  repeat refine al 56 ?_
  refine az 56 (.i .u64 (((os[j+vs.length]+18446744073709551616-c-w)%18446744073709551616:Nat):Int)) rfl fI ?_;generalize aN:(os[j+vs.length]+18446744073709551616-c-w)%18446744073709551616=t at *
  repeat refine I ?_
  refine tC ?_;refine jk (t%4294967296) ?_
  repeat refine I ?_
  have CN:c2 4294967296 (os.set (j+vs.length) (t%4294967296)):=l7 bP _ (Nat.mod_lt _ (by decide));have oJ:(((os.set (j+vs.length) (t%4294967296)).drop j).take (vs.length+1)).length=vs.length+1:=by simp;omega
  have F2:=kf (pW (vo CN j) (vs.length+1));rw[oJ]at F2;have u2:=ZH (us:=us) (os:=os.set (j+vs.length) (t%4294967296)) (j:=j) (k:=vs.length+1) (by simp[gu]) (by omega) (fun p hp=>by rw[List.getElem?_set_ne (by omega)];exact lY p (by omega));have Lb:=Fq (b:=4294967296) (by decide) (pW (vo CN j) (vs.length+1)) oJ rfl;generalize aj9:val 4294967296 (((os.set (j+vs.length) (t%4294967296)).drop j).take (vs.length+1))=O at *;have key:eE us j (vs.length+1)+4294967296^(vs.length+1)*(t/9223372036854775808)=O+g*val 4294967296 vs:=by
   rw[<-aj9];unfold eE at aH⊢;rw[q3 (by omega),q3 (l:=os.set _ _) (by simp;omega),List.getElem_set_self,<-w3,Nat.pow_succ];have aA:((os.set (j+vs.length) (t%4294967296)).drop j).take vs.length=(os.drop j).take vs.length:=by
    rw[List.drop_set];rw[if_neg (by omega),show j+vs.length-j=vs.length by omega,List.take_set_of_le (b5 _)]
   rw[aA];rw[jW (b5 _)]at aH;have av:os[j+vs.length]+4294967296*(t/9223372036854775808)=t%4294967296+c+w:=by omega
   generalize t/9223372036854775808=w' at *;generalize t%4294967296=lq at *;generalize 4294967296^vs.length=P at *;have bj:P*(os[j+vs.length]+4294967296*w')=P*(lq+c+w):=by rw[av]
   simp only[Nat.mul_add,Nat.mul_assoc]at bj aH⊢;omega
  have K1:eE us j (vs.length+1)+(if eE us j (vs.length+1)<g*val 4294967296 vs then 4294967296^(vs.length+1)else 0)-g*val 4294967296 vs=O∧(t/2^63=1↔eE us j (vs.length+1)<g*val 4294967296 vs):=by
   rcases(show t/9223372036854775808=0∨t/9223372036854775808=1 by omega)with aa|aa
   ·rw[aa]at key;rw[if_neg (by omega)];exact⟨by omega,by omega⟩
   ·rw[aa]at key;rw[if_pos (by omega)];exact⟨by omega,by omega⟩
  refine mi ⟨.inr rfl,⟨_,rfl,rfl,.of ?_⟩,[0],rfl,e3 trivial ⟨_,rfl,?_,fun _=>rfl⟩⟩
  ·show af.b (decide (((t/2^63:Nat):Int)=1))=af.b (decide (eE us j (vs.length+1)<g*val 4294967296 vs));congr 1;rw[decide_eq_decide,<-K1.2];exact⟨fun h=>by omega,fun h=>by omega⟩
  ·show a3.a _ _ _ _ _ _=a3.a _ _ _ _ _ _;congr 1;rw[K1.1];unfold iV;rw[<-Lb];exact u2
def Uf:GS where
 L:=List Nat×Nat×List Nat
 own:=fun(us,_,_)=>[.a 208 false 1 Nat fv us]
 args:=fun(us,j,vs)=>[.a6 0 1 j (us.length-j) (us.length-j),da vs]
 pre:=fun(us,j,vs)=>j+vs.length<us.length∧c2 4294967296 us∧c2 4294967296 vs∧us.length<=1099511627776
 bu:=fun(us,j,vs)=>[.a 208 false 1 Nat fv (iV us j (vs.length+1) (eE us j (vs.length+1)+val 4294967296 vs))]
 res:=fun _=>.bB []
theorem Ks{b:Nat}:∀k n,m3 b k (n%b^k)=m3 b k n
 |0,n=>rfl
 |k+1,n=>by
  rw[m3,m3,Nat.pow_succ,Nat.mul_comm (b^k) b,Nat.mod_mul_right_mod,Nat.mod_mul_right_div_self,Ks]
theorem ajt:bg aC.ctx 215 Uf.spec:=by
 refine Qa [] Sx.1 ?_;rintro⟨us,j,vs⟩ ⟨h0,h1,h2,u4⟩ H i0 aJ ae;obtain⟨iZ,rfl⟩:∃b,i0=[b]:=List.length_eq_one_iff.1 ae;show a2.ok _ ⟨_,_,⟨[.a 208 false 1 Nat fv us],1,[(0,.a6 0 1 j (us.length-j) (us.length-j)),(1,da vs)]⟩⟩
 repeat refine I ?_
 refine cG (L:=Nat×List Nat×Nat) (fun(i,os,c)=>i<=vs.length∧os.length=us.length∧c2 4294967296 os∧c<=1∧(∀p,p<j∨j+i<=p->os[p]? =us[p]?)∧eE os j i+4294967296^i*c=eE us j i+val 4294967296 (vs.take i))
  (fun((i:Nat),(os:List Nat),(c:Nat))=>⟨[.a 208 false 1 Nat fv os],1,[(0,.a6 0 1 j (us.length-j) (us.length-j)),(1,da vs),(4,.i .u64 c),(7,da vs),(8,.i .i64 vs.length),(9,.i .i64 i)]⟩)
  (fun l=>vs.length-l.1) [0] (0,us,0) ⟨by omega,rfl,h1,by omega,fun _ _=>rfl,by simp[eE,val]⟩ (by show vs.length-0<ba+1;unfold ba;omega) dP ?_
 rintro⟨i,os,c⟩ ⟨k3,gu,bP,hc,lY,aH⟩
 repeat refine I ?_
 refine cP (fun h=> ?_) (fun h=> ?_)
 ·have h:i<vs.length:=by omega
  have J:=h2 _ (dr h);have kH:j+i<os.length:=by omega
  have w3:os[j+i]=us[j+i]:=by
   have:=lY (j+i) (.inr (b5 _));rw[a9 kH,a9 (by omega)]at this;exact Option.some.inj this
  have ak:=bP _ (dr kH)
  repeat refine I ?_
  refine cV vs[i] (a9 h) ?_
  repeat refine I ?_
  refine tC ?_;refine p4 os[j+i] (a9 kH) ?_
  repeat refine al 23 ?_
  refine az 23 (.i .u64 ((c+os[j+i]+vs[i]:Nat):Int)) rfl fI ?_
  repeat refine I ?_
  refine tC ?_;refine jk ((c+os[j+i]+vs[i])%4294967296) ?_
  repeat refine I ?_
  refine bc [0] (i+1,os.set (j+i) ((c+os[j+i]+vs[i])%4294967296),(c+os[j+i]+vs[i])/4294967296) ⟨by show vs.length-(i+1)<vs.length-i;omega,by omega,by simp[gu],l7 bP _ (Nat.mod_lt _ (by decide)),by omega,fun p hp=> ?_,?_⟩
   (e3 ⟨rfl,rfl,rfl,rfl,rfl,fo,trivial⟩ ⟨_,rfl,rfl,fun _=>rfl⟩)
  ·rw[List.getElem?_set_ne (by omega)];exact lY p (by omega)
  ·unfold eE at aH⊢;rw[q3 (l:=us) (by omega),q3 (l:=os.set _ _) (by simp;omega),List.getElem_set_self,hN h,<-w3,Nat.pow_succ];have aA:((os.set (j+i) ((c+os[j+i]+vs[i])%4294967296)).drop j).take i=(os.drop j).take i:=by
    rw[List.drop_set];rw[if_neg (by omega),show j+i-j=i by omega,List.take_set_of_le (b5 _)]
   rw[aA];exact OW (by decide) aH
 ·have ae:i=vs.length:=by omega
  subst ae;have kH:j+vs.length<os.length:=by omega
  have w3:os[j+vs.length]=us[j+vs.length]:=by
   have:=lY (j+vs.length) (.inr (b5 _));rw[a9 kH,a9 (by omega)]at this;exact Option.some.inj this
  have ak:=bP _ (dr kH)
  repeat refine I ?_
  refine tC ?_;refine p4 os[j+vs.length] (a9 kH) ?_
  repeat refine al 39 ?_
  refine az 39 (.i .u32 (((os[j+vs.length]+c)%4294967296:Nat):Int)) rfl fI ?_;generalize aN:(os[j+vs.length]+c)%4294967296=t at *;refine tC ?_;refine jk t ?_
  repeat refine I ?_
  have CN:c2 4294967296 (os.set (j+vs.length) t):=l7 bP _ (by omega);have oJ:(((os.set (j+vs.length) t).drop j).take (vs.length+1)).length=vs.length+1:=by simp;omega
  have F2:=kf (pW (vo CN j) (vs.length+1));rw[oJ]at F2;have u2:=ZH (us:=us) (os:=os.set (j+vs.length) t) (j:=j) (k:=vs.length+1) (by simp[gu]) (by omega) (fun p hp=>by rw[List.getElem?_set_ne (by omega)];exact lY p (by omega));have Lb:=Fq (b:=4294967296) (by decide) (pW (vo CN j) (vs.length+1)) oJ rfl;have key:(eE us j (vs.length+1)+val 4294967296 vs)%4294967296^(vs.length+1)=val 4294967296 (((os.set (j+vs.length) t).drop j).take (vs.length+1)):=by
   rw[<-gW F2];have:eE us j (vs.length+1)+val 4294967296 vs=val 4294967296 (((os.set (j+vs.length) t).drop j).take (vs.length+1))+4294967296^(vs.length+1)*((os[j+vs.length]+c)/4294967296):=by
    unfold eE at aH⊢;rw[q3 (l:=us) (by omega),q3 (l:=os.set _ _) (by simp;omega),List.getElem_set_self,<-w3,Nat.pow_succ];have aA:((os.set (j+vs.length) t).drop j).take vs.length=(os.drop j).take vs.length:=by
     rw[List.drop_set];rw[if_neg (by omega),show j+vs.length-j=vs.length by omega,List.take_set_of_le (b5 _)]
    rw[aA];rw[jW (l:=vs) (b5 _)]at aH;have av:os[j+vs.length]+c=t+4294967296*((os[j+vs.length]+c)/4294967296):=by omega
    generalize(os[j+vs.length]+c)/4294967296=bJ at *;generalize 4294967296^vs.length=P at *;have bj:P*(os[j+vs.length]+c)=P*(t+4294967296*bJ):=by rw[av]
    simp only[Nat.mul_add,Nat.mul_assoc]at bj aH⊢;omega
   rw[this,Nat.add_mul_mod_self_left]
  refine mi ⟨.inl rfl,⟨_,rfl,rfl,.refl _⟩,[0],rfl,e3 trivial ⟨_,rfl,?_,fun _=>rfl⟩⟩;show a3.a _ _ _ _ _ _=a3.a _ _ _ _ _ _;congr 1;unfold iV;rw[<-Ks,key,<-Lb];exact u2
theorem Jg{us:List Nat}{j k X:Nat}(h:j+k<=us.length):(iV us j k X).length=us.length:=by
 unfold iV;simp[BV];omega
theorem abg{us:List Nat}{j k X:Nat}(h:c2 4294967296 us):c2 4294967296 (iV us j k X):=fun x J=>by
 unfold iV at J;simp only[List.mem_append]at J;rcases J with J|J|J
 ·exact h x (List.mem_of_mem_take J)
 ·exact QR (by decide) _ _ x J
 ·exact h x (List.mem_of_mem_drop J)
theorem atE{us:List Nat}{j k X:Nat}(h:j+k<=us.length):val 4294967296 (iV us j k X)=val 4294967296 (us.take j)+4294967296^j*(X%4294967296^k+4294967296^k*val 4294967296 (us.drop (j+k))):=by
 unfold iV;rw[mo,mo,Kt,BV,List.length_take,Nat.min_eq_left (by omega)]
theorem atF{us:List Nat}{j k X Y:Nat}(h:j+k<=us.length):iV (iV us j k X) j k Y=iV us j k Y:=by
 unfold iV;rw[List.take_left' (by simp;omega)];congr 2;rw[<-List.drop_drop,List.drop_left' (by simp;omega),List.drop_left' (BV _ _ _)]
theorem atJ{us:List Nat}{j k X:Nat}(h:j+k<=us.length):eE (iV us j k X) j k=X%4294967296^k:=by
 unfold eE iV;rw[List.drop_left' (by simp;omega),List.take_left' (BV _ _ _),Kt]
theorem atC{us:List Nat}{j k X:Nat}:iV us j k (X%4294967296^k)=iV us j k X:=by
 unfold iV;rw[Ks]
theorem atD{us:List Nat}{j k:Nat}(h:j+k<=us.length)(bP:c2 4294967296 us):iV us j k (eE us j k)=us:=by
 unfold iV eE;rw[<-Fq (by decide) (pW (vo bP j) k) (by simp;omega) rfl];rw[<-List.drop_drop,List.take_append_drop,List.take_append_drop]
theorem abh{us:List Nat}{j n V:Nat}(bP:c2 4294967296 us)(h:j+(n+1)<=us.length)(hy:V<4294967296^n)(hu:val 4294967296 us<V*4294967296^(j+1)):
 val 4294967296 us=val 4294967296 (us.take j)+4294967296^j*eE us j (n+1)∧val 4294967296 (us.drop (j+(n+1)))=0∧eE us j (n+1)<V*4294967296:=by
 have aA:=Jb (b:=4294967296) (l:=us) (k:=j) (by omega);have e2:=Jb (b:=4294967296) (l:=us.drop j) (k:=n+1) (by simp;omega);rw[List.drop_drop]at e2;have ax:val 4294967296 (us.drop (j+(n+1)))=0:=by
  rcases Nat.eq_zero_or_pos (val 4294967296 (us.drop (j+(n+1))))with h0|h0
  ·exact h0
  ·exfalso;have h1:4294967296^(j+(n+1))*1<=4294967296^(j+(n+1))*val 4294967296 (us.drop (j+(n+1))):=mu _ h0;have h2:V*4294967296^(j+1)<=4294967296^n*4294967296^(j+1):=hF _ (by omega);rw[<-Nat.pow_add,show n+(j+1)=j+(n+1) by omega]at h2;rw[e2,Nat.mul_add,<-Nat.mul_assoc,<-Nat.pow_add]at aA;omega
 rw[ax,Nat.mul_zero,Nat.add_zero]at e2;refine⟨by rw[aA,e2];rfl,ax,?_⟩;have h3:4294967296^j*eE us j (n+1)<4294967296^j*(V*4294967296):=by
  have:V*4294967296^(j+1)=4294967296^j*(V*4294967296):=by rw[Nat.pow_succ];ac_rfl
  have b0:val 4294967296 (us.drop j)=eE us j (n+1):=e2;rw[b0]at aA;omega
 exact Nat.lt_of_mul_lt_mul_left h3
theorem afp{us dj:List Nat}{j n V A:Nat}(bP:c2 4294967296 us)(h:j+(n+1)<=us.length)(hj:j<dj.length)(ry:0<V)(hy:V<4294967296^n)(hu:val 4294967296 us<V*4294967296^(j+1))(eF:A=val 4294967296 (dj.drop (j+1))*4294967296^(j+1)*V+val 4294967296 us):
 val 4294967296 (iV us j (n+1) (eE us j (n+1)%V))<V*4294967296^j∧A=val 4294967296 ((dj.set j (eE us j (n+1)/V)).drop j)*4294967296^j*V+val 4294967296 (iV us j (n+1) (eE us j (n+1)%V)):=by
 obtain⟨h1,h2,h3⟩:=abh bP h hy hu;have hm:=Nat.mod_lt (eE us j (n+1)) ry;have av:=Nat.div_add_mod (eE us j (n+1)) V;have auc:4294967296^n<=4294967296^(n+1):=Nat.pow_le_pow_right (by decide) (by omega);rw[atE h,h2,Nat.mul_zero,Nat.add_zero,gW (a:=eE us j (n+1)%V) (by omega)];have aP:=kf (pW bP j);rw[List.length_take,Nat.min_eq_left (by omega)]at aP;constructor
 ·have:4294967296^j*(eE us j (n+1)%V+1)<=4294967296^j*V:=mu _ hm;rw[Nat.mul_add,Nat.mul_one]at this;rw[Nat.mul_comm V];omega
 ·have aA:val 4294967296 ((dj.set j (eE us j (n+1)/V)).drop j)=eE us j (n+1)/V+4294967296*val 4294967296 (dj.drop (j+1)):=by
   rw[hf (by simp;omega),List.getElem_set_self,List.drop_set_of_lt (by omega)];rfl
  have e2:4294967296^j*eE us j (n+1)=4294967296^j*(V*(eE us j (n+1)/V))+4294967296^j*(eE us j (n+1)%V):=by rw[<-Nat.mul_add,av]
  rw[eF,h1,aA,e2,Nat.add_mul,Nat.add_mul,Nat.pow_succ];have b0:eE us j (n+1)/V*4294967296^j*V=4294967296^j*(V*(eE us j (n+1)/V)):=by ac_rfl
  have eS:4294967296*val 4294967296 (dj.drop (j+1))*4294967296^j*V=val 4294967296 (dj.drop (j+1))*(4294967296^j*4294967296)*V:=by ac_rfl
  rw[b0,eS];omega
theorem aoa{aq:List Nat}{b m:Nat}(hl:aq.length=m+2)(bP:c2 4294967296 aq)(aN:eM aq=aq)(aH:val 4294967296 aq=b):
 bU aq[m+1]<=32∧0<bU aq[m+1]∧b*2^(32-bU aq[m+1])<4294967296^(m+2)∧2147483648*4294967296^(m+1)<=b*2^(32-bU aq[m+1]):=by
 have av:aq[m+1]≠0:=by
  have e:aq=aq.take (m+1)++[aq[m+1]]:=by
   have:=List.take_append_drop (m+1) aq;rw[hf (by omega),List.drop_of_length_le (by omega)]at this;exact this.symm
  have:=aN;rw[e]at this;exact(Ho (b:=4294967296) this).2
 have aP:=bP _ (dr (show m+1<aq.length by omega));have ajY:=J2 aP;obtain⟨aL,aR⟩:=ri av;have k2:0<bU aq[m+1]:=by unfold bU;rw[if_neg av];omega
 have aA:b=val 4294967296 (aq.take (m+1))+4294967296^(m+1)*aq[m+1]:=by
  rw[<-aH,<-hN (by omega),List.take_of_length_le (by omega)]
 have h1:=kf (pW bP (m+1));rw[List.length_take,Nat.min_eq_left (by omega)]at h1;generalize aq[m+1]=d at *;have hp:0<2^(32-bU d):=Nat.two_pow_pos _;have e2:2^bU d*2^(32-bU d)=4294967296:=by rw[<-Nat.pow_add,show bU d+(32-bU d)=32 by omega]
 have b0:2^(bU d-1)*2^(32-bU d)=2147483648:=by rw[<-Nat.pow_add,show bU d-1+(32-bU d)=31 by omega]
 refine⟨ajY,k2,?_,?_⟩
 ·have h2:b<4294967296^(m+1)*2^bU d:=by
   have:4294967296^(m+1)*(d+1)<=4294967296^(m+1)*2^bU d:=mu _ aR;rw[Nat.mul_add,Nat.mul_one]at this;omega
  have h3:=Nat.mul_lt_mul_of_pos_right h2 hp;rw[Nat.mul_assoc,e2]at h3;rw[Nat.pow_succ _ (m+1)];exact h3
 ·have h2:4294967296^(m+1)*2^(bU d-1)<=b:=by
   have:4294967296^(m+1)*2^(bU d-1)<=4294967296^(m+1)*d:=mu _ aL;omega
  have h3:=hF (2^(32-bU d)) h2;rw[Nat.mul_assoc,b0]at h3;rw[Nat.mul_comm];exact h3
theorem aoK{r x:Nat}(aQ:r<4294967296)(J:x<4294967296):(r%18446744073709551616*2^32%18446744073709551616%18446744073709551616|||x%18446744073709551616%18446744073709551616)=r*4294967296+x:=by
 rw[gW (a:=r) (by omega)];exact M0 aQ J
theorem afm(P A p9 iU hd:Nat):A+P*hd+P*4294967296*p9+P*4294967296*4294967296*iU=((iU*4294967296+p9)*4294967296+hd)*P+A:=by
 rw[Nat.add_mul,Nat.add_mul,Nat.add_mul];have aA:P*4294967296*4294967296*iU=iU*4294967296*4294967296*P:=by ac_rfl
 have e2:P*4294967296*p9=p9*4294967296*P:=by ac_rfl
 have b0:P*hd=hd*P:=by ac_rfl
 omega
theorem afl(P A p9 iU:Nat):A+P*p9+P*4294967296*iU=(iU*4294967296+p9)*P+A:=by
 rw[Nat.add_mul];have aA:P*4294967296*iU=iU*4294967296*P:=by ac_rfl
 have e2:P*p9=p9*P:=by ac_rfl
 omega
theorem N4{g:Nat}(h:0<g)(h2:g<18446744073709551616):(g+(18446744073709551616*1-1))%18446744073709551616=g-1:=by omega
theorem Cd{l:List Nat}{i:Nat}(h:i<l.length):l[i]? =some l[i]:=a9 h
def Ku:bE where
 L:=Nat×Nat
 args:=fun(a,b)=>[dw a,dw b]
 pre:=fun(a,b)=>eC 1073741823 a∧eC 1073741823 b∧b≠0
 res:=fun(a,b)=>.bB [dw (a/b),dw (a%b)]
theorem Kv:bg aC.ctx 122 Ku.spec:=by
 refine bR [(108,yW.spec),(192,ZD.spec),(67,Af.spec),(212,VZ.spec),(213,IV.spec),(216,Zs.spec),(214,ZX.spec),(215,Uf.spec),(125,sD.spec)] RK.1 ?_;intro⟨a,b⟩ ⟨(ha:(a1 _ a).length<=_),(aa:(a1 _ b).length<=_),(k2:b≠0)⟩ H aJ;show a2.ok _ ⟨_,_,⟨_,_,[(0,da (a1 4294967296 a)),(1,da (a1 4294967296 b))]⟩⟩;have nW:0<(a1 4294967296 b).length:=List.length_pos_iff.2 (fun h=>k2 ((rq (by decide)).1 h))
 repeat refine I ?_
 refine aX E9 (a,b) ⟨by show(a1 _ a).length<=_;omega,by show(a1 _ b).length<=_;omega⟩ ?_
 repeat refine I ?_
 refine cP (fun h=> ?_) (fun h=> ?_)
 ·have aP:a<b:=by
   rcases Nat.lt_or_ge a b with aB|aB
   ·exact aB
   ·have h:h4 a b<0:=h;unfold h4 at h;rw[if_neg (by omega)]at h;split at h<;>omega
  repeat refine I ?_
  exact aw rfl (.bB ⟨b3.nl.trans (.of (by show da []=da (a1 _ (a/b));rw[Nat.div_eq_of_lt aP,g6])),.of (by show da _=da (a1 _ (a%b));rw[gW aP]),trivial⟩)
 have lz:b<=a:=by
  rcases Nat.lt_or_ge a b with aB|aB
  ·exact absurd (show h4 a b<0 by rw[yX aB];decide) h
  ·exact aB
 repeat refine I ?_
 refine cP (fun h1=> ?_) (fun h1=> ?_)
 ·have h1:(a1 4294967296 b).length=1:=by omega
  obtain⟨d,av⟩:=List.length_eq_one_iff.1 h1;have aH:=gn (b:=4294967296) (by decide) b;have UE:=gM (b:=4294967296) (by decide) b;rw[av]at aH UE;have zo:b=d:=by simp[val]at aH;exact aH.symm
  have aky:=UE d (by simp);rw[av];subst zo
  repeat refine I ?_
  refine cV (j:=0) b rfl ?_
  repeat refine I ?_
  refine aX arR (a,b) ⟨by show(a1 _ a).length<=_;omega,by show 0<b;omega,aky⟩ ?_
  repeat refine I ?_
  refine az 37 (.i .u64 ((a%b:Nat):Int)) rfl (fI (by have:=Nat.mod_lt a (show 0<b by omega);omega)) ?_;refine aX tp (a%b) (by have:=Nat.mod_lt a (show 0<b by omega);show a%b<_;omega) ?_
  repeat refine I ?_
  exact aw rfl (.bB ⟨.refl _,.refl _,trivial⟩)
 have al4:=gM (b:=4294967296) (by decide) a;have Vg:=gM (b:=4294967296) (by decide) b;have cy:=gn (b:=4294967296) (by decide) a;have fT:=gn (b:=4294967296) (by decide) b;have al7:=wz (b:=4294967296) (by decide) b;have pG:=Ma lz;generalize xj:a1 4294967296 a=xs at *;generalize u6:a1 4294967296 b=aq at *;obtain⟨m,hm⟩:∃m,aq.length=m+2:=⟨aq.length-2,by omega⟩;obtain⟨nq,fb,xF,xG⟩:=aoa hm Vg al7 fT;have av:=Vg _ (dr (show m+1<aq.length by omega))
 repeat refine I ?_
 refine az 41 (.i .i64 ((m+1:Nat):Int)) rfl cO ?_;refine cV aq[m+1] (a9 (by omega)) ?_
 repeat refine I ?_
 refine aX ant aq[m+1] av ?_;generalize auk:aq[m+1]=lq at *;refine az 44 (.i .i64 ((32-bU lq:Nat):Int)) rfl rfl ?_;generalize he:32-bU lq=e at *;have aul:e<=31:=by omega
 repeat refine I ?_
 refine aX AP (b,e) ⟨by show(a1 _ b).length<=_;rw[u6];omega,by show e<_;omega⟩ ?_ (he:=by exact⟨.of (congrArg da u6.symm),.refl _,trivial⟩);refine az 47 (da (a1 4294967296 (b*2^e))) rfl rfl ?_
 repeat refine I ?_
 refine az 50 (.i .i64 ((xs.length+1:Nat):Int)) rfl cO ?_;refine oW fv 0 ?_
 repeat refine I ?_
 refine aX AP (a,e) ⟨by show(a1 _ a).length<=_;rw[xj];omega,by show e<_;omega⟩ ?_ (he:=by exact⟨.of (congrArg da xj.symm),.refl _,trivial⟩);have at4:a*2^e<2147483648*4294967296^xs.length:=by
  have h1:=kf al4;rw[cy]at h1;have h2:(a+1)*2^e<=4294967296^xs.length*2147483648:=Nat.mul_le_mul (by omega) (HD (by omega));have h3:0<2^e:=Nat.two_pow_pos e;rw[Nat.add_mul]at h2;omega
 have aj0:a*2^e<4294967296^(xs.length+1):=by
  rw[Nat.pow_succ];have:0<4294967296^xs.length:=Nat.pow_pos (by decide);omega
 have u4:(a1 4294967296 (a*2^e)).length<=xs.length+1:=lr (by decide) aj0
 repeat refine I ?_
 refine apO (a1 4294967296 (a*2^e)) (lL rfl (fun _=>rfl) (fun _=>rfl)) ?_
 repeat refine I ?_
 refine az 61 (.i .i64 ((xs.length-aq.length+1:Nat):Int)) rfl (by rw[g0 (n:=(xs.length:Int)-aq.length) (by omega) (by omega)];exact cO) ?_;refine oW fv 0 ?_
 repeat refine I ?_
 have hy:=gn (b:=4294967296) (by decide) (b*2^e);have Co:=gM (b:=4294967296) (by decide) (b*2^e);have zl:(a1 4294967296 (b*2^e)).length=m+2:=by
  have h1:=lr (b:=4294967296) (by decide) xF;have h2:=QP (b:=4294967296) (n:=b*2^e) (k:=m+1) (by decide) (by
   have:0<4294967296^(m+1):=Nat.pow_pos (by decide);omega)
  omega
 generalize Vd:a1 4294967296 (b*2^e)=vs at *;have pN:(a1 4294967296 (a*2^e)++(List.replicate (xs.length+1) 0).drop (a1 4294967296 (a*2^e)).length).length=xs.length+1:=by simp;omega
 have kp:val 4294967296 (a1 4294967296 (a*2^e)++(List.replicate (xs.length+1) 0).drop (a1 4294967296 (a*2^e)).length)=a*2^e:=by
  rw[List.drop_replicate,mo,val_zero,gn (by decide)];omega
 have iN:c2 4294967296 (a1 4294967296 (a*2^e)++(List.replicate (xs.length+1) 0).drop (a1 4294967296 (a*2^e)).length):=fun x J=>by
  rcases List.mem_append.1 J with J|J
  ·exact gM (by decide) _ x J
  ·exact r0 (by decide) _ x (List.mem_of_mem_drop J)
 generalize a1 4294967296 (a*2^e)++(List.replicate (xs.length+1) 0).drop (a1 4294967296 (a*2^e)).length=asY at *;refine cG (L:=Nat×List Nat×List Nat) (fun(k,us,dj)=>k<=xs.length-aq.length+1∧us.length=xs.length+1∧c2 4294967296 us∧dj.length=xs.length-aq.length+1∧c2 4294967296 dj∧(∀p,p<k->dj[p]? =some 0)∧val 4294967296 us<b*2^e*4294967296^k∧a*2^e=val 4294967296 (dj.drop k)*4294967296^k*(b*2^e)+val 4294967296 us)
  (fun((k:Nat),(us:List Nat),(dj:List Nat))=>⟨[.a 208 false 1 Nat fv us,.a 208 false 1 Nat fv dj],2,[(4,.a6 1 1 0 (xs.length-aq.length+1) (xs.length-aq.length+1)),(6,.i .i64 ((m+2:Nat):Int)),(9,.i .i64 e),(10,da vs),(11,.a6 0 1 0 (xs.length+1) (xs.length+1)),(12,.i .i64 ((k:Int)-1))]⟩)
  (fun l=>l.1) [0,1] (xs.length-aq.length+1,asY,List.replicate (xs.length-aq.length+1) 0) ⟨by omega,pN,iN,by simp,r0 (by decide) _,fun p hp=>by rw[List.getElem?_replicate,if_pos hp],?_,by rw[kp,List.drop_of_length_le (by simp)];simp[val]⟩ (by show xs.length-aq.length+1<ba+1;unfold ba;omega) (nG ⟨rfl,l0,rfl,rfl,rfl,fo,trivial⟩ ⟨_,rfl,rfl,fun _=>rfl⟩ ⟨_,rfl,rfl,fun _=>rfl⟩) ?_
 ·rw[kp];have h1:=hF (4294967296^(xs.length-aq.length+1)) xG;rw[Nat.mul_assoc,<-Nat.pow_add,show m+1+(xs.length-aq.length+1)=xs.length by omega]at h1;omega
 rintro⟨k,us,dj⟩ ⟨U,u4,oI,zG,LC,oH,hu,eF⟩;cases k with
 |zero=>
  rw[Nat.pow_zero,Nat.mul_one]at hu;rw[Nat.pow_zero,Nat.mul_one,List.drop_zero]at eF
  repeat refine al 67 ?_
  iterate 9 refine I ?_
  refine IE 4 ?_;refine IE 11 ?_
  repeat refine I ?_
  refine ck sE dj ⟨LC,by omega⟩ ?_
  repeat refine I ?_
  refine ae5 (us.take (m+2)) ?_
  repeat refine I ?_
  refine ck sE (us.take (m+2)) ⟨pW oI _,by simp;omega⟩ ?_
  repeat refine I ?_
  refine ck aqP (val 4294967296 (us.take (m+2)),e) ⟨?_,by show e<_;omega⟩ ?_
  ·show(a1 _ _).length<=_;have:=lr (b:=4294967296) (by decide) (kf (pW oI (m+2)));rw[List.length_take]at this;omega
  repeat refine I ?_
  have KX:0<2^e:=Nat.two_pow_pos e;have mE:0<b*2^e:=Nat.mul_pos (by omega) KX;have xd:val 4294967296 (us.take (m+2))=val 4294967296 us:=by
   have aA:=Jb (b:=4294967296) (l:=us) (k:=m+2) (by omega);rcases Nat.eq_zero_or_pos (val 4294967296 (us.drop (m+2)))with h0|h0
   ·rw[h0]at aA;omega
   ·have:4294967296^(m+2)*1<=4294967296^(m+2)*val 4294967296 (us.drop (m+2)):=mu _ h0;omega
  have aly:val 4294967296 dj=a/b:=by
   have h1:a*2^e/(b*2^e)=a/b:=Nat.mul_div_mul_right _ _ KX;rw[<-h1,eF,Nat.add_comm,Nat.add_mul_div_right _ _ mE,Nat.div_eq_of_lt hu,Nat.zero_add]
  have qC:val 4294967296 us/2^e=a%b:=by
   have h1:a*2^e%(b*2^e)=a%b*2^e:=Nat.mul_mod_mul_right _ _ _;rw[eF,Nat.add_comm,Nat.add_mul_mod_self_right,gW hu]at h1;rw[h1,Nat.mul_div_cancel _ KX]
  exact aw rfl (.bB ⟨.of (congrArg dw aly),.of (congrArg dw (by rw[xd];exact qC)),trivial⟩)
 |succ j=>
  refine az 12 (.i .i64 (j:Nat)) rfl fI ?_
  repeat refine I ?_
  refine az 67 (.b true) rfl (by simp) ?_
  repeat refine I ?_
  refine eh 73 (.i .i64 ((j+(m+2):Nat):Int)) rfl rfl cO ?_;refine y2 ?_;refine Fk us[j+(m+2)] (Cd (by omega)) ?_
  repeat refine al 82 ?_
  refine eh 82 (.i .i64 ((j+(m+1):Nat):Int)) rfl rfl (by rw[g0 (n:=(j:Int)+(m+2:Nat)) (by omega) (by omega)];exact cO) ?_;refine y2 ?_;refine Fk us[j+(m+1)] (Cd (by omega)) ?_
  repeat refine al 86 ?_
  have alW:=oI _ (dr (show j+(m+2)<us.length by omega));have alV:=oI _ (dr (show j+(m+1)<us.length by omega));have LI:=oI _ (dr (show j+m<us.length by omega));have auN:=Co _ (dr (show m+1<vs.length by omega));have zL:=Co _ (dr (show m<vs.length by omega));obtain⟨top,xg⟩:∃top,top=us[j+(m+2)]*4294967296+us[j+(m+1)]:=⟨_,rfl⟩;refine eh 86 (.i .u64 (top:Nat)) rfl rfl (fI (congrArg _ ((aoK alW alV).trans xg.symm))) ?_;obtain⟨fM,A1,A2⟩:=abh (n:=m+2) oI (by omega) xF hu;have zm:eE us j (m+2+1)=(top*4294967296+us[j+m])*4294967296^m+eE us j m:=by
   unfold eE;rw[xg];rw[q3 (by omega),q3 (by omega),q3 (by omega),Nat.pow_succ,Nat.pow_succ];exact afm _ _ _ _ _
  have uP:b*2^e=(vs[m+1]*4294967296+vs[m])*4294967296^m+val 4294967296 (vs.take m):=by
   rw[<-hy];have:val 4294967296 vs=val 4294967296 (vs.take (m+1+1)):=by rw[List.take_of_length_le (by omega)]
   rw[this,hN (by omega),hN (by omega),Nat.pow_succ];exact afl _ _ _ _
  have sO:eE us j m<4294967296^m:=by
   have:=kf (pW (vo oI j) m);unfold eE;rw[List.length_take,Nat.min_eq_left (by simp;omega)]at this;exact this
  have Cp:val 4294967296 (vs.take m)<4294967296^m:=by
   have:=kf (pW Co m);rw[List.length_take,Nat.min_eq_left (by omega)]at this;exact this
  have CV:0<vs[m+1]:=by
   rcases Nat.eq_zero_or_pos vs[m+1]with h0|h0
   ·rw[h0,Nat.zero_mul,Nat.zero_add]at uP;have h1:vs[m]*4294967296^m+4294967296^m<=4294967296^(m+1):=by
     have:(vs[m]+1)*4294967296^m<=4294967296*4294967296^m:=hF _ zL;rw[Nat.add_mul,Nat.one_mul]at this;rw[Nat.pow_succ,Nat.mul_comm _ 4294967296];exact this
    have h2:1*4294967296^(m+1)<=2147483648*4294967296^(m+1):=hF _ (by decide);omega
   ·exact h0
  have ry:0<b*2^e:=Nat.mul_pos (by omega) (Nat.two_pow_pos e);have U3:eE us j (m+2+1)/(b*2^e)<4294967296:=(Nat.div_lt_iff_lt_mul ry).2 (by rw[Nat.mul_comm];exact A2);have U4:eE us j (m+2+1)/(b*2^e)*(b*2^e)<=eE us j (m+2+1):=Nat.div_mul_le_self _ _;have ix:=afp (dj:=dj) (n:=m+2) oI (by omega) (by omega) ry xF hu eF;generalize gq:eE us j (m+2+1)=W at *;generalize hq:W/(b*2^e)=q at *;generalize aua:b*2^e=V at *;generalize Va:us[j+(m+2)]=iU at *;generalize U9:us[j+(m+1)]=p9 at *;generalize alQ:us[j+m]=hd at *;generalize lX:vs[m+1]=v1 at *;generalize mK:vs[m]=v2 at *;have FZ:vs[m+1]? =some v1:=by rw[Cd (by omega),lX]
  have ajS:vs[m]? =some v2:=by rw[Cd (by omega),mK]
  have ajL:us[j+m]? =some hd:=by rw[Cd (by omega),alQ]
  have auK:top<18446744073709551616:=by omega
  have auM:2147483648<=v1:=am1 uP Cp zL (by decide) (by rw[Nat.pow_succ]at xG;exact xG);have auL:iU<=v1:=am0 uP Cp zL (by decide) zm xg A2
  repeat refine I ?_
  refine eh 90 (.i .i64 ((m+1:Nat):Int)) rfl rfl cO ?_;refine gm v1 FZ ?_
  repeat refine al 93 ?_
  refine eh 93 (.i .u64 (v1:Nat)) rfl rfl fI ?_;refine ae1 ?_
  repeat refine I ?_
  refine eh 98 (.i .i64 ((m+1:Nat):Int)) rfl rfl cO ?_;refine gm v1 FZ ?_
  repeat refine al 101 ?_
  refine eh 101 (.i .u64 (v1:Nat)) rfl rfl fI ?_;refine ae4 ?_
  repeat refine al 15 ?_
  iterate 3 refine I ?_
  refine iS (fun(g:Nat)=>q<=g∧g<4294967296∧g*V<=W+V) (fun(g:Nat)=>⟨[.a 208 false 1 Nat fv us,.a 208 false 1 Nat fv dj],2,[(4,.a6 1 1 0 (xs.length-aq.length+1) (xs.length-aq.length+1)),(6,.i .i64 ((m+2:Nat):Int)),(9,.i .i64 e),(10,da vs),(11,.a6 0 1 0 (xs.length+1) (xs.length+1)),(12,.i .i64 j),(14,.i .u64 g)]⟩) ?_ ?_
  ·repeat refine I ?_
   refine cG (L:=Nat×Nat) (fun(g,o)=>top=g*v1+o∧q<=g∧g<=4294967297∧o<4294967296)
    (fun((g:Nat),(o:Nat))=>⟨[.a 208 false 1 Nat fv us,.a 208 false 1 Nat fv dj],2,[(4,.a6 1 1 0 (xs.length-aq.length+1) (xs.length-aq.length+1)),(6,.i .i64 ((m+2:Nat):Int)),(9,.i .i64 e),(10,da vs),(11,.a6 0 1 0 (xs.length+1) (xs.length+1)),(12,.i .i64 j),(14,.i .u64 g),(15,.i .u64 o)]⟩)
    (fun l=>l.1) [0,1] (top/v1,top%v1) ⟨by rw[Nat.mul_comm];exact(Nat.div_add_mod top v1).symm,?_,?_,?_⟩ ?_ ej ?_
   ·exact(Nat.le_div_iff_mul_le CV).2 (amZ uP zm sO LI U4)
   ·have:top/v1<4294967298:=(Nat.div_lt_iff_lt_mul CV).2 (by omega);omega
   ·have:=Nat.mod_lt top CV;omega
   ·have:top/v1<=top:=Nat.div_le_self _ _;have h2:top/v1<4294967298:=(Nat.div_lt_iff_lt_mul CV).2 (by omega);show top/v1<ba+1;unfold ba;omega
   rintro⟨g,o⟩ ⟨aN,LB,UI,alg⟩
   repeat refine al 106 ?_
   rcases Nat.lt_or_ge g 4294967296 with aO|aO
   ·refine eh 106 (.b false) rfl rfl (by show af.b (decide _)=_;congr 1;simp;omega) ?_
    repeat refine al 110 ?_
    refine eh 110 (.i .i64 (m:Nat)) rfl rfl cO ?_
    repeat refine I ?_
    refine gm v2 ajS ?_;obtain⟨bj,bM,dK⟩:=Mp (c:=0) (o:=0) (by decide) aO zL (by decide)
    repeat refine al 114 ?_
    refine eh 114 (.i .u64 ((g*v2:Nat):Int)) rfl rfl (fI (congrArg _ (by rw[gW (a:=v2) (by omega),gW bj]))) ?_
    repeat refine al 121 ?_
    refine eh 121 (.i .i64 ((j+m:Nat):Int)) rfl rfl (by rw[g0 (n:=(j:Int)+(m+2:Nat)) (by omega) (by omega)];exact cO) ?_
    repeat refine I ?_
    refine y2 ?_
    repeat refine I ?_
    refine Fk hd ajL ?_
    repeat refine al 125 ?_
    refine eh 125 (.i .u64 ((o*4294967296+hd:Nat):Int)) rfl rfl (fI (congrArg _ (M0 alg LI))) ?_
    repeat refine I ?_
    refine cP (fun hc=> ?_) (fun hc=> ?_)
    ·have aP:=amY uP zm sO U4 LB aN (by omega)
     repeat refine I ?_
     have akW:(g-1)*v1+v1=g*v1:=by
      rw[<-Nat.succ_mul,show(g-1).succ=g by omega]
     have mL:top=(g-1)*v1+(o+v1):=by omega
     refine az 14 (.i .u64 ((g-1:Nat):Int)) rfl (fI (congrArg _ (N4 (by omega) (by omega)))) ?_;refine az 133 (.i .i64 ((m+1:Nat):Int)) rfl cO ?_;refine cV v1 FZ ?_
     repeat refine al 137 ?_
     refine az 137 (.i .u64 ((o+v1:Nat):Int)) rfl fI ?_
     repeat refine I ?_
     refine cP (fun hc=> ?_) (fun hc=> ?_)
     ·have hc:(((o+v1)/4294967296:Nat):Int)≠0:=hc
      repeat refine I ?_
      have wP:=VH uP Cp zL zm mL (by omega) (by omega);have hle:=(Nat.le_div_iff_mul_le ry).2 wP;rw[hq]at hle;exact bc [0,1] (g-1) ⟨by omega,by omega,by omega⟩ ej
     ·have hc:¬(((o+v1)/4294967296:Nat):Int)≠0:=hc
      repeat refine I ?_
      exact bc [0,1] (g-1,o+v1) ⟨by show g-1<g;omega,mL,by omega,by omega,by omega⟩ ej
    ·repeat refine I ?_
     exact bc [0,1] g ⟨LB,aO,amX uP Cp CV zm aN (by omega) (by omega)⟩ ej
   ·refine eh 106 (.b true) rfl rfl (by show af.b (decide _)=_;congr 1;simp;omega) ?_
    repeat refine I ?_
    have akW:(g-1)*v1+v1=g*v1:=by
     rw[<-Nat.succ_mul,show(g-1).succ=g by omega]
    have mL:top=(g-1)*v1+(o+v1):=by omega
    refine az 14 (.i .u64 ((g-1:Nat):Int)) rfl (fI (congrArg _ (N4 (by omega) (by omega)))) ?_;refine az 133 (.i .i64 ((m+1:Nat):Int)) rfl cO ?_;refine cV v1 FZ ?_
    repeat refine al 137 ?_
    refine az 137 (.i .u64 ((o+v1:Nat):Int)) rfl fI ?_
    repeat refine I ?_
    refine cP (fun hc=> ?_) (fun hc=> ?_)
    ·have hc:(((o+v1)/4294967296:Nat):Int)≠0:=hc
     repeat refine I ?_
     have wP:=VH uP Cp zL zm mL (by omega) (by omega);have hle:=(Nat.le_div_iff_mul_le ry).2 wP;rw[hq]at hle;exact bc [0,1] (g-1) ⟨by omega,by omega,by omega⟩ ej
    ·have hc:¬(((o+v1)/4294967296:Nat):Int)≠0:=hc
     repeat refine I ?_
     exact bc [0,1] (g-1,o+v1) ⟨by show g-1<g;omega,mL,by omega,by omega,by omega⟩ ej
  rintro(g:Nat) ⟨akS,rA,akT⟩;obtain⟨f1,f2⟩:=amW (W:=W) (V:=V) (g:=g) ry (by rw[hq];exact akS) akT
  repeat refine I ?_
  refine cP (fun h0=> ?_) (fun h0=> ?_)
  ·have U2:q=0:=by omega
   have akf:W<V:=by
    have:=Nat.div_add_mod W V;rw[hq,U2,Nat.mul_zero,Nat.zero_add]at this;have:=Nat.mod_lt W ry;omega
   repeat refine I ?_
   rw[gW akf,<-gq,atD (by omega) oI,U2]at ix;have qE:dj.set j 0=dj:=by
    apply List.ext_getElem?;intro p;rw[List.getElem?_set];split
    ·rename_i hp;subst hp;rw[if_pos (by omega),oH _ (by omega)]
    ·rfl
   rw[qE]at ix;exact bc [0,1] (j,us,dj) ⟨by show j<j+1;omega,by omega,u4,oI,zG,LC,fun p hp=>oH p (by omega),ix.1,ix.2⟩ (nG ⟨rfl,rfl,rfl,rfl,rfl,fo,trivial⟩ ⟨_,rfl,rfl,fun _=>rfl⟩ ⟨_,rfl,rfl,fun _=>rfl⟩)
  repeat refine I ?_
  refine YP ?_
  repeat refine I ?_
  refine YJ asE 0 (us,j,vs,g) ⟨by omega,oI,Co,rA,by omega⟩ ?_ (he:=by show[af.a6 0 1 j _ _,da vs,af.i .u64 (g:Nat)]=[af.a6 0 1 j _ _,da vs,af.i .u64 (g:Nat)];rw[u4]);have aU:vs.length=m+2:=zl;have aud:∀X,X<V->X%4294967296^(m+2+1)=X:=fun X K1=>gW (by
   have:4294967296^(m+2)<=4294967296^(m+2+1):=Nat.pow_le_pow_right (by decide) (by omega);omega)
  have akz:=Nat.div_add_mod W V;rw[hq]at akz;have UY:=Nat.mod_lt W ry;rw[show eE us j (vs.length+1)=W by rw[aU];exact gq,hy,aU];refine az 148 (.b (decide (W<g*V))) rfl (by show af.b (decide (eE us j (vs.length+1)<g*val 4294967296 vs))=_;rw[aU,gq,hy]) ?_;refine I ?_;refine I ?_;refine iS (fun(g:Nat)=>g=q) (fun(g:Nat)=>⟨[.a 208 false 1 Nat fv (iV us j (m+2+1) (W%V)),.a 208 false 1 Nat fv dj],2,[(4,.a6 1 1 0 (xs.length-aq.length+1) (xs.length-aq.length+1)),(6,.i .i64 ((m+2:Nat):Int)),(9,.i .i64 e),(10,da vs),(11,.a6 0 1 0 (xs.length+1) (xs.length+1)),(12,.i .i64 j),(14,.i .u64 g)]⟩) ?_ ?_
  ·refine cP (fun hc=> ?_) (fun hc=> ?_)
   ·obtain⟨dh,dC⟩:=f1 hc;rw[if_pos hc]
    repeat refine al 14 ?_
    refine az 14 (.i .u64 ((g-1:Nat):Int)) rfl (fI (congrArg _ (N4 (by omega) (by omega)))) ?_
    repeat refine I ?_
    refine YP ?_
    repeat refine I ?_
    refine YJ ajt 0 (iV us j (m+2+1) (W+4294967296^(m+2+1)-g*V),j,vs) ⟨by rw[Jg (by omega)];omega,abg oI,Co,by rw[Jg (by omega)];omega⟩ ?_ (he:=by show[af.a6 0 1 j _ _,da vs]=[af.a6 0 1 j _ _,da vs];rw[Jg (by omega),u4])
    repeat refine I ?_
    refine bc [0,1] (g-1) (dh.trans hq) (nG ⟨rfl,rfl,rfl,rfl,rfl,rfl,rfl,trivial⟩ ⟨_,rfl,?_,fun _=>rfl⟩ ⟨_,rfl,rfl,fun _=>rfl⟩);show a3.a _ _ _ _ _ _=a3.a _ _ _ _ _ _;congr 1;rw[aU,atF (by omega),atJ (by omega),hy];have aun:(g-1)*V+V=g*V:=by rw[<-Nat.succ_mul,show(g-1).succ=g by omega]
    have Gg:(g-1)*V=V*q:=by rw[dh,hq,Nat.mul_comm]
    have js:0<4294967296^(m+2+1):=Nat.pow_pos (by decide);have aub:V<4294967296^(m+2+1):=by
     have:4294967296^(m+2)<=4294967296^(m+2+1):=Nat.pow_le_pow_right (by decide) (by omega);omega
    have key:((W+4294967296^(m+2+1)-g*V)%4294967296^(m+2+1)+V)%4294967296^(m+2+1)=W%V:=by
     generalize 4294967296^(m+2+1)=PP at *;rw[gW (show W+PP-g*V<PP by omega),show W+PP-g*V+V=W%V+PP by omega,Nat.add_mod_right,gW (by omega)]
    rw[<-atC,key]
   ·have dh:=f2 hc;rw[if_neg hc]
    repeat refine I ?_
    refine bc [0,1] g (by omega) (nG ⟨rfl,rfl,rfl,rfl,rfl,rfl,rfl,trivial⟩ ⟨_,rfl,?_,fun _=>rfl⟩ ⟨_,rfl,rfl,fun _=>rfl⟩);show a3.a _ _ _ _ _ _=a3.a _ _ _ _ _ _;congr 2;rw[Nat.add_zero];have:g*V=V*q:=by rw[dh,hq,Nat.mul_comm]
    omega
  intro jb Le;rw[show jb=q from Le]
  repeat refine I ?_
  refine hE ?_;refine jk (q%4294967296) ?_
  repeat refine I ?_
  rw[gW U3];refine bc [0,1] (j,iV us j (m+2+1) (W%V),dj.set j q) ⟨by show j<j+1;omega,by omega,by rw[Jg (by omega)];exact u4,abg oI,by simp[zG],l7 LC _ U3,fun p hp=>by rw[List.getElem?_set_ne (by omega)];exact oH p (by omega),ix.1,ix.2⟩ (nG ⟨rfl,rfl,rfl,rfl,rfl,fo,trivial⟩ ⟨_,rfl,rfl,fun _=>rfl⟩ ⟨_,rfl,rfl,fun _=>rfl⟩)
theorem xu{k a b:Nat}(h:eC k a)(aa:b<=a):eC k b:=Nat.le_trans (Ma aa) h
theorem xt{k a:Nat}(h:eC k a):a<4294967296^k:=by
 have h1:=kf (gM (b:=4294967296) (by decide) a);rw[gn (by decide)]at h1;exact e4 h1 (Nat.pow_le_pow_right (by decide) h)
theorem zT{k a:Nat}(h:a<4294967296^k):eC k a:=lr (by decide) h
theorem J4{m n:Nat}(h:m<=n):bU m<=bU n:=by
 by_cases h0:m=0
 ·subst h0;exact Nat.zero_le _
 ·have h1:=(ri h0).1;have h2:=(ri (show n≠0 by omega)).2;have:=(Nat.pow_lt_pow_iff_right (by decide:1<2)).1 (Nat.lt_of_le_of_lt (Nat.le_trans h1 h) h2);omega
theorem acz{m n:Nat}(h:m<=n/2)(hn:1<=n):bU m<bU n:=by
 have:=J4 h;rw[uk hn];omega
theorem EY{n k:Nat}(h:n<2^k):bU n<=k:=by
 by_cases h0:n=0
 ·subst h0;exact Nat.zero_le _
 ·have:=(Nat.pow_lt_pow_iff_right (by decide:1<2)).1 (Nat.lt_of_le_of_lt (ri h0).1 h);omega
theorem zS{k a:Nat}(h:eC k a):bU a<=32*k:=EY (by rw[Nat.pow_mul];exact xt h)
theorem acA{k a b:Nat}(ha:eC k a)(aa:eC k b):bU (a*b)<=64*k:=EY (by
 rw[show 64*k=32*k+32*k by omega,Nat.pow_add,Nat.pow_mul];exact Nat.mul_lt_mul'' (xt ha) (xt aa))
theorem af6{x y:Nat}(aG:0<y)(h:y<=x):y*(x%y)<=x*y/2:=by
 have h1:x%y<y:=Nat.mod_lt x aG;have h2:2*(x%y)<=x:=by
  have:=Nat.div_add_mod x y;have h3:y*1<=y*(x/y):=mu y (Nat.div_pos h aG);omega
 rw[Nat.le_div_iff_mul_le (by decide)];have:=mu y h2;rw[Nat.mul_comm x y];have e:y*(x%y)*2=y*(2*(x%y)):=by ac_rfl
 omega
def KU:bE where
 L:=Nat×Nat
 args:=fun(a,b)=>[dw a,dw b]
 pre:=fun(a,b)=>eC 1073741823 a∧eC 1073741823 b
 res:=fun(a,b)=>dw (Nat.gcd a b)
theorem Ua:bg aC.ctx 69 KU.spec:=by
 refine bR [(122,Ku.spec)] TT.1 ?_;intro⟨a,b⟩ ⟨(ha:eC _ a),(aa:eC _ b)⟩ H aJ
 repeat refine I ?_
 refine cG (L:=Nat×Nat) (fun(x,y)=>eC 1073741823 x∧eC 1073741823 y∧Nat.gcd x y=Nat.gcd a b) (fun((x:Nat),(y:Nat))=>⟨[],0,[(0,dw x),(1,dw y)]⟩) (fun l=>2*bU (l.1*l.2)+if l.1<l.2 then 1 else 0) [] (a,b) ⟨ha,aa,rfl⟩ ?_ ei ?_
 ·show 2*bU (a*b)+(if a<b then 1 else 0)<ba+1;have:=acA ha aa;unfold ba;split<;>omega
 rintro⟨x,y⟩ ⟨J,aG,aO⟩
 repeat refine I ?_
 refine cP (fun h=> ?_) (fun h=> ?_)
 ·have C1:y≠0:=fun h0=>by subst h0;rw[g6]at h;simp at h
  repeat refine I ?_
  refine aX Kv (x,y) ⟨J,aG,C1⟩ ?_
  repeat refine I ?_
  refine bc [] (y,x%y) ⟨?_,aG,xu aG (Nat.le_of_lt (Nat.mod_lt x (by omega))),?_⟩ ei
  ·show 2*bU (y*(x%y))+(if y<x%y then 1 else 0)<2*bU (x*y)+(if x<y then 1 else 0);have hm:=Nat.mod_lt x (show 0<y by omega);rw[if_neg (by omega)];by_cases GB:x<y
   ·rw[if_pos GB,gW GB,Nat.mul_comm y x];omega
   ·rw[if_neg GB];have hp:0<x*y:=Nat.mul_pos (by omega) (by omega);have:=acz (af6 (by omega) (by omega)) hp;omega
  ·rw[<-aO,Nat.gcd_comm x y,Nat.gcd_rec y x,Nat.gcd_comm]
 ·have C1:y=0:=(rq (b:=4294967296) (by decide)).1 (List.eq_nil_of_length_eq_zero (by omega));subst C1
  repeat refine I ?_
  refine aw rfl (.of ?_);show dw x=dw (Nat.gcd a b);rw[<-aO,Nat.gcd_zero_right]
def LY:bE where
 L:=Nat
 args:=fun n=>[dw n]
 pre:=fun _=>True
 res:=fun n=>.b (decide (n=1))
theorem afk:a1 4294967296 1=[1]:=by rw[pj (by decide) (by decide),show 1/4294967296=0 from rfl,g6]
theorem GK:bg aC.ctx 68 LY.spec:=by
 refine bR [] TS.1 ?_;intro(n:Nat) _ H aJ;show a2.ok _ ⟨_,_,⟨_,_,[(0,da (a1 4294967296 n))]⟩⟩;have aH:=gn (b:=4294967296) (by decide) n;generalize iu:a1 4294967296 n=ds at *
 repeat refine al 6 ?_
 match ds,aH,iu with
 |[],aH,iu=>
  repeat refine I ?_
  have:n=0:=by simp[val]at aH;exact aH.symm
  subst this;exact aw rfl (.refl _)
 |[d],aH,iu=>
  have:n=d:=by simp[val]at aH;exact aH.symm
  subst this
  repeat refine I ?_
  refine cV (j:=0) n rfl ?_
  repeat refine I ?_
  refine aw rfl (.of ?_);show af.b _=af.b _;congr 1;rw[decide_eq_decide];exact⟨fun h=>by omega,fun h=>by omega⟩
 |d::h5::ds,aH,iu=>
  repeat refine I ?_
  refine aw rfl (.of ?_);show af.b false=af.b _;congr 1
  symm
  rw[decide_eq_false_iff_not];intro h1;subst h1;rw[afk]at iu;cases iu
def sG(d:Nat):af:=.iP 1 Nat fv (if d=1 then[]else a1 4294967296 d)
def A9(x:Rat):List af:=[.b (decide (x.num<0)),dw x.num.natAbs,sG x.den]
def dG(x:Rat):af:=.agg (A9 x)
theorem Fo{d:Nat}(h:d≠1):sG d= .iP 1 Nat fv (a1 4294967296 d):=by unfold sG;rw[if_neg h]
theorem VP{d:Nat}(h:d≠1)(h0:d≠0):b3 (dw d) (sG d):=by
 rw[Fo h];exact b3.iP (fun e=>h0 ((rq (by decide)).1 e))
theorem afe{d:Nat}(h:d≠1):b3 (sG d) (dw d):=by
 rw[Fo h];exact b3.atT
theorem xD(n:Int)(d:Nat)(h:d≠0):(mkRat n d).num=n/((n.natAbs.gcd d:Nat):Int)∧(mkRat n d).den=d/n.natAbs.gcd d:=by
 rw[<-Rat.normalize_eq_mkRat h,Rat.normalize_eq h];exact⟨rfl,rfl⟩
theorem WL{neg:Bool}{p q:Nat}(hp:p≠0)(hq:q≠0):(mkRat (if neg then -(p:Int)else p) q).num=(if neg then -((p/p.gcd q:Nat):Int)else((p/p.gcd q:Nat):Int))∧(mkRat (if neg then -(p:Int)else p) q).den=q/p.gcd q:=by
 have aO:0<p.gcd q:=Nat.gcd_pos_of_pos_left _ (by omega);have ha:(if neg then -(p:Int)else(p:Int)).natAbs=p:=by cases neg<;>simp
 obtain⟨h1,h2⟩:=xD (if neg then -(p:Int)else p) q hq;rw[ha]at h1 h2;refine⟨?_,h2⟩;rw[h1];cases neg
 ·simp
 ·simp only[if_true];obtain⟨k,U⟩:=Nat.gcd_dvd_left p q;generalize p.gcd q=g at *;subst U;rw[Nat.mul_div_cancel_left _ aO,Int.natCast_mul,<-Int.mul_neg,Int.mul_ediv_cancel_left _ (by omega)]
theorem L9{x:Rat}{neg:Bool}{p q:Nat}{c:af}(h1:x.num=if neg then -(p:Int)else(p:Int))(h2:x.den=q)(hp:p≠0)(hc:b3 c (sG q)):b3 (.agg [.b neg,dw p,c]) (dG x):=by
 refine b3.agg ⟨.of ?_,.of ?_,?_,trivial⟩
 ·congr 1;rw[h1];cases neg
  ·simp
  ·simp;omega
 ·congr 1;rw[h1];cases neg<;>simp
 ·rw[h2];exact hc
theorem le_zero:b3 (.agg [.b false,.nl,.nl]) (dG 0):=b3.agg ⟨.refl _,b3.nl.trans (.of (by show da []=da (a1 _ 0);rw[g6])),b3.WN,trivial⟩
def Di:bE where
 L:=Bool×Nat×Nat
 args:=fun(n,p,q)=>[.b n,dw p,dw q]
 pre:=fun(_,p,q)=>eC 1073741823 p∧eC 1073741823 q∧q≠0
 res:=fun(n,p,q)=>dG (mkRat (if n then -(p:Int)else p) q)
theorem De{n:Nat}:(a1 4294967296 n).length=0↔n=0:=by rw[List.length_eq_zero_iff];exact rq (by decide)
theorem vg:bg aC.ctx 65 Di.spec:=by
 refine bR [(68,LY.spec),(69,KU.spec),(122,Ku.spec)] TP.1 ?_;intro⟨n,p,q⟩ ⟨(hp:eC _ p),(hq:eC _ q),(oH:q≠0)⟩ H aJ
 repeat refine I ?_
 refine cP (fun h=> ?_) (fun h=> ?_)
 ·have rI:p=0:=De.1 (by omega);subst rI
  repeat refine I ?_
  refine aw rfl (le_zero.trans (.of ?_));show dG 0=dG (mkRat _ q);congr 1;cases n<;>simp
 have rI:p≠0:=fun h0=>h (by rw[h0,g6];rfl);have aO:0<p.gcd q:=Nat.gcd_pos_of_pos_left _ (by omega)
 repeat refine I ?_
 refine aX GK q trivial ?_
 repeat refine I ?_
 refine iS (fun((gh:Nat),(fg:Nat))=>gh=p/p.gcd q∧fg=q/p.gcd q) (fun(gh,fg)=>⟨[.c 66 [.b false,.nl,.nl]],1,[(0,.b n),(1,dw gh),(2,dw fg),(6,.p 0 0)]⟩) ?_ ?_
 ·refine AG (fun h1=> ?_) (fun h1=> ?_)
  ·repeat refine I ?_
   refine aX Ua (p,q) ⟨hp,hq⟩ ?_
   repeat refine I ?_
   refine aX GK (p.gcd q) trivial ?_
   repeat refine I ?_
   refine AG (fun h2=> ?_) (fun h2=> ?_)
   ·have qK:eC 1073741823 (p.gcd q):=xu hp (Nat.gcd_le_left _ (by omega))
    repeat refine I ?_
    refine aX Kv (p,p.gcd q) ⟨hp,qK,by show p.gcd q≠0;omega⟩ ?_
    repeat refine I ?_
    refine aX Kv (q,p.gcd q) ⟨hq,qK,by show p.gcd q≠0;omega⟩ ?_
    repeat refine I ?_
    exact bc [0] (p/p.gcd q,q/p.gcd q) ⟨rfl,rfl⟩ dP
   ·repeat refine I ?_
    exact bc [0] (p,q) ⟨by rw[h2,Nat.div_one],by rw[h2,Nat.div_one]⟩ dP
  ·repeat refine I ?_
   exact bc [0] (p,q) ⟨by rw[h1,Nat.gcd_one_right,Nat.div_one],by rw[h1,Nat.gcd_one_right,Nat.div_one]⟩ dP
 rintro⟨gh,fg⟩ ⟨aA,e2⟩;obtain⟨nq,fb⟩:=WL (neg:=n) rI oH;rw[<-aA]at nq;rw[<-e2]at fb;have k5:gh≠0:=by
  have:=Nat.div_pos (Nat.gcd_le_left q (show 0<p by omega)) aO;omega
 have w7:fg≠0:=by
  have:=Nat.div_pos (Nat.gcd_le_right p (show 0<q by omega)) aO;omega
 repeat refine I ?_
 refine aX GK fg trivial ?_
 repeat refine I ?_
 refine cP (fun h3=> ?_) (fun h3=> ?_)
 ·repeat refine I ?_
  exact aw rfl (L9 nq fb k5 (by rw[h3];exact b3.WN))
 ·repeat refine I ?_
  exact aw rfl (L9 nq fb k5 (VP h3 w7))
def fk(k:Nat)(x:Rat):Prop:=eC k x.num.natAbs∧eC k x.den
def BB:bE where
 L:=Rat
 args:=fun x=>[dG x]
 pre:=fun _=>True
 res:=fun x=>dw x.den
theorem sy:bg aC.ctx 104 BB.spec:=by
 refine bR [(67,Af.spec)] Rs.1 ?_;intro(x:Rat) _ H aJ
 repeat refine al 4 ?_
 by_cases av:x.den=1
 ·refine az 4 (.iP 1 Nat fv []) rfl (by show sG x.den=_;rw[av];rfl) ?_
  repeat refine I ?_
  refine aX tp (1:Nat) (by show 1<_;decide) ?_
  repeat refine I ?_
  exact aw rfl (.of (by show dw 1=dw x.den;rw[av]))
 ·refine az 4 (.iP 1 Nat fv (a1 4294967296 x.den)) rfl (Fo av) ?_;have hne:(a1 4294967296 x.den).isEmpty=false:=List.isEmpty_eq_false_iff.2 (fun e=>x.den_nz ((rq (by decide)).1 e))
  repeat refine I ?_
  refine apP rfl (by show kW false _=false;rw[hne];rfl) ?_
  repeat refine I ?_
  exact aw rfl (afe av)
def Ee:bE where
 L:=Rat
 args:=fun x=>[dG x]
 pre:=fun _=>True
 res:=fun x=>.i .i64 x.num.sign
theorem Ef:bg aC.ctx 23 Ee.spec:=by
 refine bR [] SN.1 ?_;intro(x:Rat) _ H aJ
 repeat refine I ?_
 refine cP (fun h=> ?_) (fun h=> ?_)
 ·have h0:x.num.natAbs=0:=De.1 (by omega)
  repeat refine I ?_
  exact aw rfl (.of (by show af.i .i64 0=af.i .i64 x.num.sign;rw[Int.natAbs_eq_zero.1 h0];rfl))
 have h0:x.num≠0:=fun e=>h (by rw[e];show((a1 _ 0).length:Int)=0;rw[g6];rfl)
 repeat refine I ?_
 refine cP (fun h=> ?_) (fun h=> ?_)
 ·repeat refine I ?_
  exact aw rfl (.of (by show af.i .i64 (-1)=af.i .i64 x.num.sign;rw[Int.sign_eq_neg_one_of_neg h]))
 ·repeat refine I ?_
  exact aw rfl (.of (by show af.i .i64 1=af.i .i64 x.num.sign;rw[Int.sign_eq_one_of_pos (by omega)]))
def Wx:bE where
 L:=Rat
 args:=fun x=>[dG x]
 pre:=fun _=>True
 res:=fun x=>dG (-x)
theorem anT:bg aC.ctx 102 Wx.spec:=by
 refine bR [] Rr.1 ?_;intro(x:Rat) _ H aJ;have hle:∀{t:Bool},t=decide (-x.num<0)->b3 (.agg [.b t,dw x.num.natAbs,sG x.den]) (dG (-x)):=fun h=>by
  refine b3.agg ⟨.of (by rw[h,Rat.neg_num]),.of (by rw[Rat.neg_num,Int.natAbs_neg]),.of (by rw[Rat.neg_den]),trivial⟩
 repeat refine al 6 ?_
 by_cases hn:x.num<0
 ·refine az 6 (.b false) rfl (by show af.b (!decide _)=_;rw[decide_eq_true hn];rfl) ?_
  repeat refine I ?_
  exact aw rfl (hle (by symm;simp;omega))
 ·refine az 6 (.b true) rfl (by show af.b (!decide _)=_;rw[decide_eq_false hn];rfl) ?_
  repeat refine I ?_
  refine aw rfl (hle ?_);rw[decide_eq_decide];rcases(show 0<x.num∨x.num<=0 by omega)with h0|h0
  ·have:x.num.natAbs≠0:=by omega
   have:(a1 4294967296 x.num.natAbs).length≠0:=fun e=>this (De.1 e);exact⟨fun _=>by omega,fun _=>by omega⟩
  ·have h1:x.num=0:=by omega
   have h2:(a1 4294967296 x.num.natAbs).length=0:=De.2 (by omega);exact⟨fun h=>by omega,fun h=>by omega⟩
def ih(x:Rat):Rat:=if x.num<0 then -x else x
theorem qi(x:Rat):(ih x).num=(x.num.natAbs:Int)∧(ih x).den=x.den:=by
 unfold ih;split
 ·rw[Rat.neg_num,Rat.neg_den];exact⟨by omega,rfl⟩
 ·exact⟨by omega,rfl⟩
def OR:bE where
 L:=Rat
 args:=fun x=>[dG x]
 pre:=fun _=>True
 res:=fun x=>dG (ih x)
theorem abI:bg aC.ctx 96 OR.spec:=by
 refine bR [] T8.1 ?_;intro(x:Rat) _ H aJ
 repeat refine I ?_
 refine aw rfl (b3.agg ⟨.of ?_,.of ?_,.of ?_,trivial⟩)
 ·rw[(qi x).1];congr 1
 ·rw[(qi x).1];rfl
 ·rw[(qi x).2]
def jo(x y:Rat):Int:=if x<y then -1 else if x=y then 0 else 1
def NC:bE where
 L:=Rat×Rat
 args:=fun(x,y)=>[dG x,dG y]
 pre:=fun(x,y)=>fk 268435456 x∧fk 268435456 y
 res:=fun(x,y)=>.i .i64 (jo x y)
theorem np{a b k l:Nat}(ha:eC k a)(aa:eC l b):eC (k+l) (a*b):=zT (by rw[Nat.pow_add];exact Nat.mul_lt_mul'' (xt ha) (xt aa))
def cj(n:Bool)(p:Nat):Int:=if n then -(p:Int)else p
theorem My(x:Rat):x.num=cj (decide (x.num<0)) x.num.natAbs:=by
 unfold cj;by_cases h:x.num<0
 ·rw[decide_eq_true h,if_pos rfl];omega
 ·rw[decide_eq_false h,if_neg (by decide)];omega
theorem Qs(x y:Rat):(x.num.sign<y.num.sign->jo x y= -1)∧(y.num.sign<x.num.sign->jo x y=1)∧(x.num.sign=y.num.sign->jo x y=x.num.sign*h4 (x.num.natAbs*y.den) (y.num.natAbs*x.den)):=by
 have J:=x.den_nz;have aG:=y.den_nz;have lt:x<y↔x.num*y.den<y.num*x.den:=Rat.lt_iff x y;have eq:x=y↔x.num*y.den=y.num*x.den:=by
  constructor
  ·rintro rfl;rfl
  ·intro h;have h1:=(Rat.mkRat_eq_iff (n₁:=x.num) (n₂:=y.num) J aG).2 h;rw[Rat.mkRat_self,Rat.mkRat_self]at h1;exact h1
 have auY:(0:Int)<x.den:=by omega
 have auZ:(0:Int)<y.den:=by omega
 have dQ:∀n:Int,(n<0∧n.sign= -1)∨(n=0∧n.sign=0)∨(0<n∧n.sign=1):=fun n=>by
  rcases(show n<0∨n=0∨0<n by omega)with h|h|h
  ·exact .inl ⟨h,Int.sign_eq_neg_one_of_neg h⟩
  ·exact .inr (.inl ⟨h,by rw[h];rfl⟩)
  ·exact .inr (.inr ⟨h,Int.sign_eq_one_of_pos h⟩)
 have BZ:x.num*(y.den:Int)=x.num.sign*((x.num.natAbs*y.den:Nat):Int):=by
  rw[Int.natCast_mul,<-Int.mul_assoc,Int.sign_mul_natAbs]
 have afE:y.num*(x.den:Int)=y.num.sign*((y.num.natAbs*x.den:Nat):Int):=by
  rw[Int.natCast_mul,<-Int.mul_assoc,Int.sign_mul_natAbs]
 have Xu:x.num≠0->0<x.num.natAbs*y.den:=fun h=>Nat.mul_pos (by omega) (by omega);have XB:y.num≠0->0<y.num.natAbs*x.den:=fun h=>Nat.mul_pos (by omega) (by omega);rw[BZ,afE]at lt eq;unfold jo h4;generalize x.num.natAbs*y.den=A at *;generalize y.num.natAbs*x.den=C at *;simp only[lt,eq];rcases dQ x.num with⟨fY,hi⟩|⟨fY,hi⟩|⟨fY,hi⟩<;>rcases dQ y.num with⟨cZ,dz⟩|⟨cZ,dz⟩|⟨cZ,dz⟩<;>rw[hi,dz]<;>refine⟨fun h=> ?_,fun h=> ?_,fun h=> ?_⟩<;>first
  |(exfalso;omega)
  |(have h1:=Xu (by omega);have h2:=XB (by omega);split<;>first|omega|(split<;>first|omega|(split<;>omega)))
  |(have h1:=Xu (by omega);split<;>first|omega|(split<;>omega))
  |(have h2:=XB (by omega);split<;>first|omega|(split<;>omega))
  |(split<;>first|omega|(split<;>first|omega|(split<;>omega)))
theorem dY{k l a:Nat}(h:eC k a)(hl:k<=l):eC l a:=Nat.le_trans h hl
theorem YR:bg aC.ctx 111 NC.spec:=by
 refine bR [(23,Ee.spec),(104,BB.spec),(105,Hf.spec),(108,yW.spec)] Ry.1 ?_;intro⟨x,y⟩ ⟨(J:fk _ x),(aG:fk _ y)⟩ H aJ;obtain⟨dh,dC,jH⟩:=Qs x y
 repeat refine I ?_
 refine ck Ef x trivial ?_
 repeat refine I ?_
 refine ck Ef y trivial ?_
 repeat refine I ?_
 have dQ:∀n:Int,-1<=n.sign∧n.sign<=1:=fun n=>by
  rcases(show n<0∨n=0∨0<n by omega)with h|h|h
  ·rw[Int.sign_eq_neg_one_of_neg h];decide
  ·rw[h];decide
  ·rw[Int.sign_eq_one_of_pos h];decide
 refine cP (fun h=> ?_) (fun h=> ?_)
 ·repeat refine I ?_
  refine cP (fun h1=> ?_) (fun h1=> ?_)
  ·repeat refine I ?_
   exact aw rfl (.of (by show af.i .i64 (-1)=af.i .i64 (jo x y);rw[dh h1]))
  ·repeat refine I ?_
   exact aw rfl (.of (by show af.i .i64 1=af.i .i64 (jo x y);rw[dC (by omega)]))
 have he:x.num.sign=y.num.sign:=by omega
 repeat refine I ?_
 refine ck sy y trivial ?_
 repeat refine I ?_
 refine ck z4 (x.num.natAbs,y.den) ⟨dY J.1 (by decide),dY aG.2 (by decide)⟩ ?_
 repeat refine I ?_
 refine ck sy x trivial ?_
 repeat refine I ?_
 refine ck z4 (y.num.natAbs,x.den) ⟨dY aG.1 (by decide),dY J.2 (by decide)⟩ ?_
 repeat refine I ?_
 refine ck E9 (x.num.natAbs*y.den,y.num.natAbs*x.den) ⟨?_,?_⟩ ?_
 ·exact dY (np J.1 aG.2) (by decide)
 ·exact dY (np aG.1 J.2) (by decide)
 repeat refine I ?_
 refine aw rfl (.of ?_);show af.i .i64 (IntKind.i64.wrap (x.num.sign*h4 _ _))=af.i .i64 (jo x y);rw[<-jH he];have: -1<=jo x y∧jo x y<=1:=by
  unfold jo;split
  ·decide
  ·split<;>decide
 exact cO rfl (by omega) (by omega)
theorem yY{a b:Nat}(h:h4 a b<0):a<b:=by
 unfold h4 at h;split at h
 ·assumption
 ·split at h<;>omega
theorem yZ{a b:Nat}(h:¬h4 a b<0):b<=a:=by
 rcases Nat.lt_or_ge a b with aB|aB
 ·exact absurd (show h4 a b<0 by rw[yX aB];decide) h
 ·exact aB
theorem OV{a b k:Nat}(ha:eC k a)(aa:eC k b):eC (k+1) (a+b):=zT (by
 have h1:=xt ha;have h2:=xt aa;rw[Nat.pow_succ];omega)
theorem add_same{x y:Rat}{n:Bool}(J:x.num=cj n x.num.natAbs)(aG:y.num=cj n y.num.natAbs):mkRat (cj n (x.num.natAbs*y.den+y.num.natAbs*x.den)) (x.den*y.den)=x+y:=by
 rw[Rat.add_def'];congr 1;have e:∀a b:Nat,cj n (a+b)=cj n a+cj n b:=fun a b=>by unfold cj;cases n<;>simp<;>omega
 have e2:∀a b:Nat,cj n (a*b)=cj n a*b:=fun a b=>by unfold cj;cases n<;>simp[Int.neg_mul]
 rw[e,e2,e2,<-J,<-aG]
theorem OU{x y:Rat}{n m:Bool}(Gq:n≠m)(J:x.num=cj n x.num.natAbs)(aG:y.num=cj m y.num.natAbs)(h:y.num.natAbs*x.den<=x.num.natAbs*y.den):mkRat (cj n (x.num.natAbs*y.den-y.num.natAbs*x.den)) (x.den*y.den)=x+y:=by
 rw[Rat.add_def'];congr 1;have e2:∀(k:Bool) (a b:Nat),cj k (a*b)=cj k a*b:=fun k a b=>by unfold cj;cases k<;>simp[Int.neg_mul]
 have e:∀a b:Nat,b<=a->cj n (a-b)=cj n a+cj m b:=fun a b iK=>by unfold cj;cases n<;>cases m<;>simp at Gq⊢<;>omega
 rw[e _ _ h,e2,e2,<-J,<-aG]
def YQ:bE where
 L:=Rat×Rat
 args:=fun(x,y)=>[dG x,dG y]
 pre:=fun(x,y)=>fk 268435456 x∧fk 268435456 y
 res:=fun(x,y)=>dG (x+y)
theorem ap2:bg aC.ctx 174 YQ.spec:=by
 refine bR [(104,BB.spec),(105,Hf.spec),(124,Jx.spec),(267,ZR.spec),(108,yW.spec),(65,Di.spec)] Sc.1 ?_;intro⟨x,y⟩ ⟨(J:fk _ x),(aG:fk _ y)⟩ H aJ;have hb:=My x;have ml:=My y;have fp:eC 536870912 (x.num.natAbs*y.den):=np J.1 aG.2;have fJ:eC 536870912 (y.num.natAbs*x.den):=np aG.1 J.2;have l1:eC 536870912 (x.den*y.den):=np J.2 aG.2;have h3:x.den*y.den≠0:=Nat.mul_ne_zero x.den_nz y.den_nz
 repeat refine I ?_
 refine ck sy y trivial ?_
 repeat refine I ?_
 refine ck z4 (x.num.natAbs,y.den) ⟨dY J.1 (by decide),dY aG.2 (by decide)⟩ ?_
 repeat refine I ?_
 refine ck sy x trivial ?_
 repeat refine I ?_
 refine ck z4 (y.num.natAbs,x.den) ⟨dY aG.1 (by decide),dY J.2 (by decide)⟩ ?_
 repeat refine I ?_
 refine ck sy x trivial ?_
 repeat refine I ?_
 refine ck sy y trivial ?_
 repeat refine I ?_
 refine ck z4 (x.den,y.den) ⟨dY J.2 (by decide),dY aG.2 (by decide)⟩ ?_
 repeat refine I ?_
 refine x8 rfl (fun h=> ?_) (fun h=> ?_)
 ·have ah:decide (x.num<0)=decide (y.num<0):=eq_of_beq h
  repeat refine I ?_
  refine ck OT (x.num.natAbs*y.den,y.num.natAbs*x.den) ⟨dY fp (by decide),dY fJ (by decide)⟩ ?_
  repeat refine I ?_
  refine ck vg (decide (x.num<0),x.num.natAbs*y.den+y.num.natAbs*x.den,x.den*y.den) ⟨dY (OV fp fJ) (by decide),dY l1 (by decide),h3⟩ ?_
  repeat refine I ?_
  exact aw rfl (.of (congrArg dG (add_same hb (ah▸ml))))
 have ah:decide (x.num<0)≠decide (y.num<0):=ne_of_beq_false h
 repeat refine I ?_
 refine aX E9 (x.num.natAbs*y.den,y.num.natAbs*x.den) ⟨dY fp (by decide),dY fJ (by decide)⟩ ?_
 repeat refine I ?_
 refine cP (fun h=> ?_) (fun h=> ?_)
 ·have aP:x.num.natAbs*y.den<y.num.natAbs*x.den:=yY h
  repeat refine I ?_
  refine ck ZU (y.num.natAbs*x.den,x.num.natAbs*y.den) ⟨dY fJ (by decide),Nat.le_of_lt aP⟩ ?_
  repeat refine I ?_
  refine ck vg (decide (y.num<0),y.num.natAbs*x.den-x.num.natAbs*y.den,x.den*y.den) ⟨dY (xu fJ (Nat.sub_le _ _)) (by decide),dY l1 (by decide),h3⟩ ?_
  repeat refine I ?_
  refine aw rfl (.of (congrArg dG ?_));have:=OU ah.symm ml hb (Nat.le_of_lt aP);rw[Rat.add_comm,<-this,Nat.mul_comm y.den x.den];rfl
 ·have lz:y.num.natAbs*x.den<=x.num.natAbs*y.den:=yZ h
  repeat refine I ?_
  refine ck ZU (x.num.natAbs*y.den,y.num.natAbs*x.den) ⟨dY fp (by decide),lz⟩ ?_
  repeat refine I ?_
  refine ck vg (decide (x.num<0),x.num.natAbs*y.den-y.num.natAbs*x.den,x.den*y.den) ⟨dY (xu fp (Nat.sub_le _ _)) (by decide),dY l1 (by decide),h3⟩ ?_
  repeat refine I ?_
  exact aw rfl (.of (congrArg dG (OU ah hb ml lz)))
def Y9:bE where
 L:=Rat×Rat
 args:=fun(x,y)=>[dG x,dG y]
 pre:=fun(x,y)=>fk 268435456 x∧fk 268435456 y
 res:=fun(x,y)=>dG (x-y)
theorem Mq{k:Nat}{x:Rat}(h:fk k x):fk k (-x):=by
 unfold fk;rw[Rat.neg_num,Rat.neg_den,Int.natAbs_neg];exact h
theorem aqm:bg aC.ctx 95 Y9.spec:=by
 refine bR [(102,Wx.spec),(174,YQ.spec)] T7.1 ?_;intro⟨x,y⟩ ⟨(J:fk _ x),(aG:fk _ y)⟩ H aJ
 repeat refine I ?_
 refine ck anT y trivial ?_
 repeat refine I ?_
 refine ck ap2 (x,-y) ⟨J,Mq aG⟩ ?_
 repeat refine I ?_
 exact aw rfl (.of (congrArg dG (Rat.sub_eq_add_neg x y).symm))
def LX:bE where
 L:=Int
 args:=fun n=>[.i .i64 n]
 pre:=fun n=> -9223372036854775808<=n∧n<9223372036854775808
 res:=fun n=>dG (mkRat n 1)
theorem rR{n:Nat}(h:n<18446744073709551616):eC 2 n:=zT h
theorem Vx:bg aC.ctx 49 LX.spec:=by
 refine bR [(67,Af.spec),(65,Di.spec)] TC.1 ?_;intro(n:Int) ⟨(h1:_<=n),(h2:n<_)⟩ H aJ;cases n with
 |ofNat k=>
  have h2:(k:Int)<9223372036854775808:=h2;clear h1
  repeat refine I ?_
  refine az 12 (.i .u64 (k:Nat)) rfl fI ?_;refine aX tp k (by show k<_;omega) ?_;refine aX tp (1:Nat) (by show 1<_;decide) ?_;refine aX vg (false,k,1) ⟨dY (rR (by omega)) (by decide),dY (rR (by decide)) (by decide),by show 1≠0;decide⟩ ?_
  repeat refine I ?_
  exact aw rfl (.refl _)
 |negSucc k=>
  repeat refine I ?_
  refine ap0 rfl (by simp) ?_
  repeat refine al 7 ?_
  have afC:IntKind.u64.wrap (-(IntKind.u64.wrap (Int.negSucc k)))=((k+1:Nat):Int):=by
   rw[abi,abi];rw[Int.negSucc_eq]at *;omega
  refine az 7 (.i .u64 ((k+1:Nat):Int)) rfl (fI afC) ?_;rw[Int.negSucc_eq]at h1;refine aX tp (k+1) (by show k+1<_;omega) ?_;refine aX tp (1:Nat) (by show 1<_;decide) ?_;refine aX vg (true,k+1,1) ⟨dY (rR (by omega)) (by decide),dY (rR (by decide)) (by decide),by show 1≠0;decide⟩ ?_
  repeat refine I ?_
  exact aw rfl (.refl _)
def dV(x:Rat)(k:Int):Rat:=if k<0 then mkRat x.num (x.den*2^(-k).toNat)else mkRat (x.num*2^k.toNat) x.den
theorem DH(k:Nat):eC (k/32+1) (2^k):=zT (by
 rw[NS k,Nat.pow_succ,Nat.mul_comm];exact Nat.mul_lt_mul_of_pos_left (by have:=HD (Nat.mod_lt k (show 0<32 by decide));omega) (Nat.pow_pos (by decide)))
def Zn:bE where
 L:=Rat×Int
 args:=fun(x,k)=>[dG x,.i .i64 k]
 pre:=fun(x,k)=>fk 268435456 x∧-17179869184<k∧k<17179869184
 res:=fun(x,k)=>dG (dV x k)
theorem aqH:bg aC.ctx 185 Zn.spec:=by
 refine bR [(104,BB.spec),(213,IV.spec),(65,Di.spec)] Se.1 ?_;intro⟨x,k⟩ ⟨(J:fk _ x),(h1:_<k),(h2:k<_)⟩ H aJ;have hb:=My x
 repeat refine I ?_
 refine cP (fun h=> ?_) (fun h=> ?_)
 ·obtain⟨n,rfl⟩:∃n:Nat,k= -(n:Int):=⟨(-k).toNat,by omega⟩
  repeat refine I ?_
  refine ck sy x trivial ?_
  repeat refine al 14 ?_
  refine eh 14 (.i .i64 (n:Nat)) rfl rfl cO ?_
  repeat refine I ?_
  refine ck AP (x.den,n) ⟨dY J.2 (by decide),by show n<_;omega⟩ ?_
  repeat refine I ?_
  refine ck vg (decide (x.num<0),x.num.natAbs,x.den*2^n) ⟨dY J.1 (by decide),dY (np J.2 (dY (DH n) (show _<=536870913 by omega))) (by decide),Nat.mul_ne_zero x.den_nz (by have:=Nat.two_pow_pos n;omega)⟩ ?_
  repeat refine I ?_
  refine aw rfl (.of (congrArg dG ?_));show mkRat (cj _ _) _=dV x (-(n:Int));unfold dV;rw[if_pos h,<-hb];congr 3;omega
 ·obtain⟨n,rfl⟩:∃n:Nat,k=(n:Int):=⟨k.toNat,by omega⟩
  repeat refine I ?_
  refine ck AP (x.num.natAbs,n) ⟨dY J.1 (by decide),by show n<_;omega⟩ ?_
  repeat refine I ?_
  refine ck sy x trivial ?_
  repeat refine I ?_
  refine ck vg (decide (x.num<0),x.num.natAbs*2^n,x.den) ⟨dY (np J.1 (dY (DH n) (show _<=536870913 by omega))) (by decide),dY J.2 (by decide),x.den_nz⟩ ?_
  repeat refine I ?_
  refine aw rfl (.of (congrArg dG ?_));show mkRat (cj _ _) _=dV x (n:Int);unfold dV;have e2:∀(t:Bool) (a b:Nat),cj t (a*b)=cj t a*b:=fun t a b=>by unfold cj;cases t<;>simp[Int.neg_mul]
  rw[if_neg h,e2,<-hb];congr 1
def IU:bE where
 L:=Rat×Int
 args:=fun(x,k)=>[dG x,.i .i64 k]
 pre:=fun(x,k)=>fk 268435456 x
 res:=fun(x,k)=>if -20000<=k∧k<=20000 then .bB [dG (dV x k),.i .i64 0]else .bB [dG 0,.i .i64 7]
theorem Zm:bg aC.ctx 97 IU.spec:=by
 refine bR [(185,Zn.spec)] T9.1 ?_;intro⟨x,k⟩ (J:fk _ x) H aJ;have w9:∀{r:af},(-20000<=k∧k<=20000->b3 r (.bB [dG (dV x k),.i .i64 0]))->(¬(-20000<=k∧k<=20000)->b3 r (.bB [dG 0,.i .i64 7]))->b3 r (IU.res (x,k)):=fun h1 h2=>by
  show b3 _ (if _ then _ else _);split
  ·exact h1 (by assumption)
  ·exact h2 (by assumption)
 repeat refine al 8 ?_
 by_cases h1:k< -20000
 ·refine dx 8 h1 ?_
  repeat refine I ?_
  exact aw rfl (w9 (fun h=>by omega) (fun _=>.bB ⟨le_zero,.refl _,trivial⟩))
 ·refine dL 8 h1 ?_
  repeat refine I ?_
  refine cP (fun h2=> ?_) (fun h2=> ?_)
  ·repeat refine I ?_
   exact aw rfl (w9 (fun h=>by omega) (fun _=>.bB ⟨le_zero,.refl _,trivial⟩))
  ·repeat refine I ?_
   refine aX aqH (x,k) ⟨J,by show _<k;omega,by show k<_;omega⟩ ?_
   repeat refine I ?_
   exact aw rfl (w9 (fun _=>.refl _) (fun h=>by omega))
def aa2:bE where
 L:=Int
 args:=fun k=>[.i .i64 k]
 pre:=fun k=>True
 res:=fun k=>if -20000<=k∧k<=20000 then .bB [dG (dV (mkRat 1 1) k),.i .i64 0]else .bB [dG 0,.i .i64 7]
theorem asR:bg aC.ctx 268 aa2.spec:=by
 refine bR [(49,LX.spec),(97,IU.spec)] SX.1 ?_;intro(k:Int) _ H aJ
 repeat refine I ?_
 refine aX Vx (1:Int) ⟨by decide,by decide⟩ ?_
 repeat refine I ?_
 refine aX Zm (mkRat 1 1,k) ⟨dY (rR (by decide)) (by decide),dY (rR (by decide)) (by decide)⟩ ?_;by_cases h: -20000<=k∧k<=20000
 ·refine az 6 (.bB [dG (dV (mkRat 1 1) k),.i .i64 0]) rfl (if_pos h) ?_
  repeat refine I ?_
  exact aw rfl (.of (if_pos h).symm)
 ·refine az 6 (.bB [dG 0,.i .i64 7]) rfl (if_neg h) ?_
  repeat refine I ?_
  exact aw rfl (.of (if_neg h).symm)
theorem acB{n V A t:Nat}(hy:A=V+4294967296^n*t)(hl:V<4294967296^n)(aN:t≠0):bU A=32*n+bU t:=by
 obtain⟨a,b⟩:=ri aN;have hp:bU t≠0:=fun e=>by rw[e]at b;omega
 have aA:4294967296^n=2^(32*n):=(Nat.pow_mul 2 32 n).symm;rw[aA]at hy hl;have:= @acC A (32*n+(bU t-1)) (by
  rw[Nat.pow_add];have:=mu (2^(32*n)) a;omega) (by
  rw[show 32*n+(bU t-1)+1=32*n+bU t by omega,Nat.pow_add];have:=mu (2^(32*n)) (show t+1<=2^bU t from b);rw[Nat.mul_add]at this;omega)
 omega
def P3:bE where
 L:=Nat
 args:=fun n=>[dw n]
 pre:=fun n=>eC 1073741824 n
 res:=fun n=>.i .i64 (bU n:Nat)
theorem P4:bg aC.ctx 385 P3.spec:=by
 refine bR [(296,oN.spec)] Tq.1 ?_;intro(n:Nat) (hn:eC _ n) H aJ;have hn:(a1 4294967296 n).length<=1073741824:=hn
 repeat refine I ?_
 refine cP (fun h=> ?_) (fun h=> ?_)
 ·have h0:n=0:=De.1 (by omega)
  repeat refine I ?_
  exact aw rfl (.of (by show af.i .i64 0=af.i .i64 (bU n:Nat);rw[h0];rfl))
 have h0:(a1 4294967296 n).length≠0:=fun e=>h (by rw[e];rfl);have bP:=gM (b:=4294967296) (by decide) n;have aH:=gn (b:=4294967296) (by decide) n;have aN:=wz (b:=4294967296) (by decide) n;rcases List.eq_nil_or_concat (a1 4294967296 n)with CI|⟨c8,t,hc⟩
 ·exact absurd (by rw[CI];rfl) h0
 rw[List.concat_eq_append]at hc;rw[hc]at bP aH aN hn;have U9:=(Ho (b:=4294967296) aN).2;have Gx:=bP t (by simp);have hlen:(a1 4294967296 n).length=c8.length+1:=by rw[hc];simp
 rw[mo]at aH;have nW:=acB (A:=n) (n:=c8.length) (V:=val 4294967296 c8) (t:=t) (by rw[<-aH];simp[val]) (kf (fun d av=>bP d (by simp[av]))) U9;have ae:c8.length<=1073741823:=by simp at hn;omega
 have Va:(a1 4294967296 n)[c8.length]? =some t:=by rw[hc];simp
 repeat refine al 9 ?_
 rw[hlen];refine az 9 (.i .i64 (c8.length:Nat)) rfl cO ?_
 repeat refine al 10 ?_
 refine az 10 (.i .i64 ((32*c8.length:Nat):Int)) rfl cO ?_
 repeat refine al 13 ?_
 refine az 13 (.i .i64 (c8.length:Nat)) rfl cO ?_;refine cV t Va ?_
 repeat refine I ?_
 refine aX VR t Gx ?_
 repeat refine I ?_
 have:=J2 Gx;exact aw rfl (.of cO)
def jg(p q:Nat):Int:=if p*2^((bU q:Int)-bU p).toNat<q*2^((bU p:Int)-bU q).toNat then(bU p:Int)-bU q-1 else(bU p:Int)-bU q
def Wz:bE where
 L:=Rat
 args:=fun x=>[dG x]
 pre:=fun x=>fk 268435456 x
 res:=fun x=>.i .i64 (jg x.num.natAbs x.den)
theorem an0:bg aC.ctx 346 Wz.spec:=by
 refine bR [(104,BB.spec),(385,P3.spec),(213,IV.spec),(108,yW.spec)] Te.1 ?_;intro(x:Rat) (J:fk _ x) H aJ;have cZ:=zS J.1;have dz:=zS J.2
 repeat refine I ?_
 refine aX sy x trivial ?_
 repeat refine I ?_
 refine aX P4 x.num.natAbs (dY J.1 (by decide)) ?_
 repeat refine I ?_
 refine aX P4 x.den (dY J.2 (by decide)) ?_
 repeat refine al 12 ?_
 refine az 12 (.i .i64 ((bU x.num.natAbs:Int)-bU x.den)) rfl cO ?_
 repeat refine al 17 ?_
 refine az 17 (.i .i64 ((((bU x.den:Int)-bU x.num.natAbs).toNat:Nat):Int)) rfl (congrArg (af.i .i64) (by rw[g0 (n:= -((bU x.num.natAbs:Int)-bU x.den)) (by omega) (by omega)];omega)) ?_;have fp:((bU x.den:Int)-bU x.num.natAbs).toNat<8589934593:=by omega
 have fJ:((bU x.num.natAbs:Int)-bU x.den).toNat<8589934593:=by omega
 refine aX AP (x.num.natAbs,((bU x.den:Int)-bU x.num.natAbs).toNat) ⟨dY J.1 (by decide),by show _<34359738368;omega⟩ ?_
 repeat refine al 21 ?_
 refine az 21 (.i .i64 ((((bU x.num.natAbs:Int)-bU x.den).toNat:Nat):Int)) rfl (congrArg (af.i .i64) (by omega)) ?_;refine aX AP (x.den,((bU x.num.natAbs:Int)-bU x.den).toNat) ⟨dY J.2 (by decide),by show _<34359738368;omega⟩ ?_;refine aX E9 (x.num.natAbs*2^((bU x.den:Int)-bU x.num.natAbs).toNat,x.den*2^((bU x.num.natAbs:Int)-bU x.den).toNat) ⟨dY (np J.1 (dY (DH _) (show _<=268435457 by omega))) (by decide),dY (np J.2 (dY (DH _) (show _<=268435457 by omega))) (by decide)⟩ ?_
 repeat refine I ?_
 refine cP (fun h=> ?_) (fun h=> ?_)
 ·repeat refine I ?_
  exact aw rfl (.of (by
   show af.i _ _=af.i .i64 (jg _ _);unfold jg;rw[if_pos (yY h)];exact cO))
 ·repeat refine I ?_
  exact aw rfl (.of (by
   show af.i _ _=af.i .i64 (jg _ _);unfold jg;rw[if_neg (Nat.not_lt.2 (yZ h))]))
def YY:bE where
 L:=Rat
 args:=fun x=>[dG x]
 pre:=fun x=>fk 268435456 x
 res:=fun x=>if x.num=0 then .bB [.i .i64 0,.i .i64 8]else .bB [.i .i64 (jg x.num.natAbs x.den),.i .i64 0]
theorem aqe:bg aC.ctx 287 YY.spec:=by
 refine bR [(23,Ee.spec),(346,Wz.spec)] S1.1 ?_;intro(x:Rat) (J:fk _ x) H aJ
 repeat refine I ?_
 refine aX Ef x trivial ?_
 repeat refine I ?_
 refine cP (fun h=> ?_) (fun h=> ?_)
 ·have h:x.num=0:=Int.sign_eq_zero_iff_zero.1 h
  repeat refine I ?_
  exact aw rfl (.of (if_pos h).symm)
 ·have h:x.num≠0:=fun e=>h (by rw[e];rfl)
  repeat refine I ?_
  refine aX an0 x J ?_
  repeat refine I ?_
  exact aw rfl (.of (if_neg h).symm)
def fD(e p:Int):Prop:=2<=e∧e<=11∧2<=p∧p<=113∧5<=e+p
instance(e p:Int):Decidable (fD e p):=by unfold fD;infer_instance
def pq(e p:Int):af:=.agg [.i .i64 e,.i .i64 p]
def FE:bE where
 L:=Int×Int
 args:=fun(e,p)=>[pq e p]
 pre:=fun(e,p)=>True
 res:=fun(e,p)=>.i .i64 (if fD e p then 0 else 2)
theorem Q9:bg aC.ctx 109 FE.spec:=by
 refine bR [] Rw.1 ?_;intro⟨e,p⟩ _ H aJ;have bad:¬fD e p->b3 (.i .i64 2) (FE.res (e,p)):=fun h=>.of (by show _=af.i .i64 (if _ then _ else _);rw[if_neg h])
 repeat refine al 5 ?_
 by_cases h1:e<2
 ·refine dx 5 h1 ?_
  repeat refine I ?_
  exact aw rfl (bad (by unfold fD;omega))
 refine dL 5 h1 ?_
 repeat refine al 9 ?_
 by_cases h2:11<e
 ·refine dx 9 h2 ?_
  repeat refine I ?_
  exact aw rfl (bad (by unfold fD;omega))
 refine dL 9 h2 ?_
 repeat refine al 14 ?_
 by_cases h3:p<2
 ·refine dx 14 h3 ?_
  repeat refine I ?_
  exact aw rfl (bad (by unfold fD;omega))
 refine dL 14 h3 ?_
 repeat refine al 19 ?_
 by_cases ay:113<p
 ·refine dx 19 ay ?_
  repeat refine I ?_
  exact aw rfl (bad (by unfold fD;omega))
 refine dL 19 ay ?_
 repeat refine al 26 ?_
 refine az 26 (.i .i64 (e+p)) rfl (cO rfl (by omega) (by omega)) ?_
 repeat refine al 27 ?_
 by_cases aY:e+p<5
 ·refine dx 27 aY ?_
  repeat refine I ?_
  exact aw rfl (bad (by unfold fD;omega))
 refine dL 27 aY ?_
 repeat refine I ?_
 exact aw rfl (.of (by show _=af.i .i64 (if _ then _ else _);rw[if_pos (by unfold fD;omega)]))
def tg(e p m b:Int):af:=.agg [.i .i64 e,.i .i64 p,.i .i64 m,.i .i64 b]
def eV(e:Int):Int:=2^(e-1).toNat-1
def Jh:bE where
 L:=Int×Int
 args:=fun(e,p)=>[pq e p,.i .i64 0,.nl]
 pre:=fun(e,p)=>True
 res:=fun(e,p)=>if fD e p then .bB [tg e p 0 (eV e),.i .i64 0]else .bB [tg 0 0 0 0,.i .i64 2]
theorem atG:bg aC.ctx 172 Jh.spec:=by
 refine bR [(109,FE.spec)] Sb.1 ?_;intro⟨e,p⟩ _ H aJ
 repeat refine I ?_
 refine aX Q9 (e,p) trivial ?_;by_cases h:fD e p
 ·refine az 20 (.i .i64 0) rfl (by show af.i .i64 (if _ then _ else _)=_;rw[if_pos h]) ?_;have cI:Jh.res (e,p)= .bB [tg e p 0 (eV e),.i .i64 0]:=if_pos h;obtain⟨r,aQ⟩:∃r,r=Jh.res (e,p):=⟨_,rfl⟩;obtain⟨h1,h2,_⟩:=h
  repeat refine I ?_
  rcases(show e=2∨e=3∨e=4∨e=5∨e=6∨e=7∨e=8∨e=9∨e=10∨e=11 by omega)with h|h|h|h|h|h|h|h|h|h<;>subst h
  all_goals first|refine eh 28 (.i .i64 1) rfl rfl rfl ?_|refine eh 28 (.i .i64 2) rfl rfl rfl ?_|refine eh 28 (.i .i64 3) rfl rfl rfl ?_|refine eh 28 (.i .i64 4) rfl rfl rfl ?_|refine eh 28 (.i .i64 5) rfl rfl rfl ?_|refine eh 28 (.i .i64 6) rfl rfl rfl ?_|refine eh 28 (.i .i64 7) rfl rfl rfl ?_|refine eh 28 (.i .i64 8) rfl rfl rfl ?_|refine eh 28 (.i .i64 9) rfl rfl rfl ?_|refine eh 28 (.i .i64 10) rfl rfl rfl ?_
  all_goals (repeat refine I ?_)
  all_goals (
   refine cG (L:=Int×Int) (fun(E,b)=>r= .bB [tg E p 0 b,.i .i64 0]) (fun(E,b)=>⟨[.c 257 [.i .i64 0,.i .i64 0,.i .i64 0,.i .i64 0],.c 257 [.i .i64 E,.i .i64 p,.i .i64 0,.i .i64 b]],2,[(34,.i .i64 0),(33,.i .i64 0),(8,.p 1 0),(6,.p 0 0),(7,.i .i64 0)]⟩) (fun _=>0) [1,2] (_,_) ?_ (by show 0<ba+1;omega) ⟨by decide,rfl,⟨⟨_,rfl,rfl⟩,⟨_,rfl,rfl⟩,trivial⟩,⟨rfl,rfl,rfl,rfl,rfl,trivial⟩,rfl⟩ ?_
   ·rw[aQ];exact cI
   rintro⟨E,b⟩ iq
   repeat refine I ?_
   exact aw rfl (.of (iq.symm.trans aQ)))
 ·refine az 20 (.i .i64 2) rfl (by show af.i .i64 (if _ then _ else _)=_;rw[if_neg h]) ?_
  repeat refine I ?_
  exact aw rfl (.of (if_neg h).symm)
def Rp:bE where
 L:=Int
 args:=fun k=>[.i .i64 k]
 pre:=fun k=> -20000<=k∧k<=20000
 res:=fun k=>dG (dV (mkRat 1 1) k)
theorem agI:bg aC.ctx 175 Rp.spec:=by
 refine bR [(268,aa2.spec)] Sd.1 ?_;intro(k:Int) (h:_<=k∧k<=_) H aJ
 repeat refine I ?_
 refine aX asR k trivial ?_;refine az 7 (.bB [dG (dV (mkRat 1 1) k),.i .i64 0]) rfl (if_pos h) ?_
 repeat refine I ?_
 exact aw rfl (.refl _)
def KQ:bE where
 L:=Rat×Int
 args:=fun(x,k)=>[dG x,.i .i64 k]
 pre:=fun(x,k)=>fk 268435456 x∧-20000<=k∧k<=20000
 res:=fun(x,k)=>dG (dV x k)
theorem Ro:bg aC.ctx 197 KQ.spec:=by
 refine bR [(97,IU.spec)] Sh.1 ?_;intro⟨x,k⟩ ⟨J,(h:_<=k∧k<=_)⟩ H aJ
 repeat refine I ?_
 refine aX Zm (x,k) J ?_;refine az 10 (.bB [dG (dV x k),.i .i64 0]) rfl (if_pos h) ?_
 repeat refine I ?_
 exact aw rfl (.refl _)
def Rg:bE where
 L:=Rat
 args:=fun x=>[dG x]
 pre:=fun x=>fk 268435456 x∧x.num≠0
 res:=fun x=>.i .i64 (jg x.num.natAbs x.den)
theorem agw:bg aC.ctx 199 Rg.spec:=by
 refine bR [(287,YY.spec)] Sj.1 ?_;intro(x:Rat) ⟨J,(h:_≠_)⟩ H aJ
 repeat refine I ?_
 refine aX aqe x J ?_;refine az 7 (.bB [.i .i64 (jg x.num.natAbs x.den),.i .i64 0]) rfl (if_neg h) ?_
 repeat refine I ?_
 exact aw rfl (.refl _)
theorem o9{e:Int}(h1:2<=e)(h2:e<=11):1<=eV e∧eV e<=1023:=by
 unfold eV;rcases(show e=2∨e=3∨e=4∨e=5∨e=6∨e=7∨e=8∨e=9∨e=10∨e=11 by omega)with h|h|h|h|h|h|h|h|h|h<;>subst h<;>decide
def WD:bE where
 L:=Int×Int
 args:=fun(e,p)=>[tg e p 0 (eV e)]
 pre:=fun(e,p)=>fD e p
 res:=fun(e,p)=>.i .i64 (1-eV e)
theorem aob:bg aC.ctx 286 WD.spec:=by
 refine bR [] S0.1 ?_;intro⟨e,p⟩ ⟨h1,h2,h3,ay,aY⟩ H aJ;obtain⟨cZ,dz⟩:=o9 h1 h2
 repeat refine I ?_
 exact aw rfl (.of (cO rfl (by omega) (by omega)))
theorem z6{k:Nat}{n:Int}{d:Nat}(h1:eC k n.natAbs)(h2:eC k d)(av:d≠0):fk k (mkRat n d):=by
 obtain⟨aA,e2⟩:=xD n d av;refine⟨xu h1 ?_,xu h2 ?_⟩
 ·rw[aA,Int.natAbs_ediv_of_dvd (Int.ofNat_dvd_left.2 (Nat.gcd_dvd_left _ _))];exact Nat.div_le_self _ _
 ·rw[e2];exact Nat.div_le_self _ _
theorem rU{k l:Nat}{x:Rat}(h:fk k x)(hl:k<=l):fk l x:=⟨dY h.1 hl,dY h.2 hl⟩
theorem ang{c:Int}:b3 (.bB [.agg [.b false,.nl,.nl],.i .i64 c]) (.bB [dG 0,.i .i64 c]):=.bB ⟨le_zero,.refl _,trivial⟩
theorem Hg{a:Nat}(c:Nat){x:Rat}{k:Int}(h:fk a x)(h1: -(32*(c:Int))<k)(h2:k<32*(c:Int)):fk (a+c) (dV x k):=by
 have hp:∀n:Nat,n<32*c->eC c (2^n):=fun n hn=>dY (DH n) (by omega);unfold dV;split
 ·exact z6 (dY h.1 (by omega)) (np h.2 (hp _ (by omega))) (Nat.mul_ne_zero x.den_nz (by have:=Nat.two_pow_pos (-k).toNat;omega))
 ·refine z6 ?_ (dY h.2 (by omega)) x.den_nz;rw[Int.natAbs_mul,Int.natAbs_pow];exact np h.1 (hp _ (by omega))
theorem Wu(n:Int)(h1: -9223372036854775808<=n)(h2:n<9223372036854775808):fk 2 (mkRat n 1):=z6 (rR (by omega)) (rR (by decide)) (by decide)
theorem anL{a b:Nat}{x y:Rat}(h1:fk a x)(h2:fk b y):fk (a+b+1) (x+y):=by
 rw[Rat.add_def'];have eF:=np h1.1 h2.2;have a5:=np h2.1 h1.2;refine z6 (xu (OV eF (dY a5 (by omega))) ?_) (dY (np h1.2 h2.2) (by omega)) (Nat.mul_ne_zero x.den_nz y.den_nz);have:=Int.natAbs_add_le (x.num*y.den) (y.num*x.den);rw[Int.natAbs_mul,Int.natAbs_mul]at this;simpa using this
theorem Wv{a b:Nat}{x y:Rat}(h1:fk a x)(h2:fk b y):fk (a+b+1) (x-y):=by
 rw[Rat.sub_eq_add_neg];exact anL h1 (Mq h2)
def m9(e p:Int):Rat:=dV (dV (mkRat 1 1) p-mkRat 1 1) (eV e-p+1)
theorem anM{e p:Int}(h:fD e p):fk 41 (m9 e p):=by
 obtain⟨h1,h2,h3,ay,aY⟩:=h;obtain⟨cZ,dz⟩:=o9 h1 h2;have ae:=Wu 1 (by decide) (by decide);exact rU (Hg 32 (Wv (Hg 4 ae (by omega) (by omega)) ae) (by omega) (by omega)) (by decide)
def Wg:bE where
 L:=Int×Int
 args:=fun(e,p)=>[tg e p 0 (eV e)]
 pre:=fun(e,p)=>fD e p
 res:=fun(e,p)=>dG (m9 e p)
theorem anD:bg aC.ctx 200 Wg.spec:=by
 refine bR [(175,Rp.spec),(49,LX.spec),(95,Y9.spec),(197,KQ.spec)] Sl.1 ?_;intro⟨e,p⟩ ⟨h1,h2,h3,ay,aY⟩ H aJ;obtain⟨cZ,dz⟩:=o9 h1 h2;have ae:=Wu 1 (by decide) (by decide)
 repeat refine I ?_
 refine ck agI p ⟨by omega,by omega⟩ ?_
 repeat refine I ?_
 refine ck Vx (1:Int) ⟨by decide,by decide⟩ ?_
 repeat refine I ?_
 refine ck aqm (dV (mkRat 1 1) p,mkRat 1 1) ⟨rU (Hg 4 ae (by omega) (by omega)) (by decide),rU ae (by decide)⟩ ?_
 repeat refine al 14 ?_
 refine eh 14 (.i .i64 (eV e-p)) rfl rfl (cO rfl (by omega) (by omega)) ?_
 repeat refine al 15 ?_
 refine eh 15 (.i .i64 (eV e-p+1)) rfl rfl (cO rfl (by omega) (by omega)) ?_
 repeat refine I ?_
 refine ck Ro (dV (mkRat 1 1) p-mkRat 1 1,eV e-p+1) ⟨rU (Wv (Hg 4 ae (by omega) (by omega)) ae) (by decide),by show _<=eV e-p+1;omega,by show eV e-p+1<=_;omega⟩ ?_
 repeat refine I ?_
 exact aw rfl (.refl _)
def Wq:bE where
 L:=Int×Int×Int
 args:=fun(e,p,k)=>[tg e p 0 (eV e),.i .i64 k]
 pre:=fun(e,p,k)=>fD e p∧-1000000000000<=k∧k<=1000000000000
 res:=fun(e,p,k)=>.i .i64 (max k (1-eV e)-p+1)
theorem anH:bg aC.ctx 198 Wq.spec:=by
 refine bR [(286,WD.spec)] Si.1 ?_;intro⟨e,p,k⟩ ⟨⟨h1,h2,h3,ay,aY⟩,(b7:_<=k),(dn:k<=_)⟩ H aJ;obtain⟨cZ,dz⟩:=o9 h1 h2
 repeat refine I ?_
 refine ck aob (e,p) ⟨h1,h2,h3,ay,aY⟩ ?_
 repeat refine I ?_
 exact aw rfl (.of (by
  show af.i _ (IntKind.i64.wrap (IntKind.i64.wrap (max k (1-eV e)-p)+1))=af.i .i64 (max k (1-eV e)-p+1);rw[g0 (n:=max k (1-eV e)-p) (by omega) (by omega)];exact cO rfl (by omega) (by omega)))
def IX(e p:Int)(x:Rat):Int:=if x.num=0 then 2-eV e-p else max (jg x.num.natAbs x.den) (1-eV e)-p+1
theorem wk{x y:Rat}:0<jo x y↔y<x:=by
 unfold jo;constructor
 ·intro h;split at h
  ·omega
  split at h
  ·omega
  exact Rat.lt_of_le_of_ne (Rat.not_lt.1 (by assumption)) (fun e=>by simp_all)
 ·intro h;rw[if_neg (Rat.not_lt.2 (Rat.le_of_lt h)),if_neg (fun e=>by subst e;exact absurd h (Rat.not_lt.2 (Rat.le_refl)))];decide
theorem anK{k:Nat}{x:Rat}(h:fk k x):fk k (ih x):=by
 unfold ih;split
 ·exact Mq h
 ·exact h
theorem G2(p q:Nat): -(bU q:Int)-1<=jg p q∧jg p q<=bU p:=by unfold jg;split<;>omega
def fO(d:Nat):List af:=[.i .i64 d]
def de(ds:List Nat):af:=.bS 1 Nat fO ds
def cX(n:Nat):af:=de (a1 1000000000 n)
def dS(k n:Nat):Prop:=(a1 1000000000 n).length<=k
def vB:bE where
 L:=List Nat
 args:=fun ds=>[de ds]
 pre:=fun ds=>ds.length<=1099511627776
 res:=fun ds=>de (eM ds)
theorem vC:bg aC.ctx 137 vB.spec:=by
 refine bR [] R0.1 ?_;intro(ds:List Nat) (hp:ds.length<=1099511627776) H aJ
 repeat refine I ?_
 refine cG (fun es:List Nat=>eM es=eM ds∧es.length<=ds.length) (fun es=>⟨[],0,[(0,de es)]⟩) List.length [] ds ⟨rfl,b5 _⟩ (by show ds.length<ba+1;unfold ba;omega) ei ?_;rintro es ⟨h1,h2⟩;rcases List.eq_nil_or_concat es with rfl|⟨c8,d,rfl⟩
 ·repeat refine I ?_
  exact aw rfl (.of (by rw[show vB.res ds=de (eM ds)from rfl,<-h1];rfl))
 ·rw[List.concat_eq_append]at *;have hl:(c8++[d]).length=c8.length+1:=by simp
  repeat refine I ?_
  refine az 6 (.b true) rfl (by simp) ?_
  repeat refine I ?_
  refine az 10 (.i .i64 (c8.length:Nat)) rfl (by rw[hl,g0]<;>simp<;>omega) ?_;refine g2 (LP rfl rfl (show(c8++[d])[c8.length]? =some d by simp)) ?_
  repeat refine I ?_
  refine x8 rfl (fun av=> ?_) (fun av=> ?_)
  ·have av:d=0:=by simpa using av
   repeat refine I ?_
   refine az 18 (.i .i64 (c8.length:Nat)) rfl (by rw[hl,g0]<;>simp<;>omega) ?_;refine g2 (ZA (p:=0) rfl rfl ⟨_,rfl⟩ (Nat.zero_le _) (by simp)) ?_
   repeat refine I ?_
   refine bc [] c8 ⟨by simp,by rw[<-h1,se,if_pos av],by omega⟩ (jA ⟨?_,trivial⟩);simp[dO,jx,de]
  ·have av:d≠0:=by simpa using av
   repeat refine I ?_
   exact aw rfl (.of (by rw[show vB.res ds=de (eM ds)from rfl,<-h1,se,if_neg av]))
def r6:bE where
 L:=Nat×Nat
 args:=fun(a,b)=>[cX a,cX b]
 pre:=fun(a,b)=>dS 1073741824 a∧dS 1073741824 b
 res:=fun(a,b)=>.i .i64 (h4 a b)
theorem qT:bg aC.ctx 133 r6.spec:=by
 refine bR [] RW.1 ?_;intro⟨a,b⟩ ⟨(ha:(a1 _ a).length<=_),(aa:(a1 _ b).length<=_)⟩ H aJ;have h1:=gM (b:=1000000000) (by decide) a;have h2:=gM (b:=1000000000) (by decide) b;have t1:=wz (b:=1000000000) (by decide) a;have t2:=wz (b:=1000000000) (by decide) b;have iE:=gn (b:=1000000000) (by decide) a;have kN:=gn (b:=1000000000) (by decide) b;show a2.ok _ ⟨_,_,⟨_,_,[(0,de (a1 1000000000 a)),(1,de (a1 1000000000 b))]⟩⟩;generalize a1 1000000000 a=xs at *;generalize a1 1000000000 b=aq at *;have fin:∀{r:Int},h4 a b=r->b3 (.i .i64 r) (r6.res (a,b)):=fun h=>by rw[<-h];exact .refl _
 repeat refine I ?_
 refine cP (fun h=> ?_) (fun h=> ?_)
 ·have h:xs.length≠aq.length:=by omega
  repeat refine I ?_
  refine cP (fun h=> ?_) (fun h=> ?_)
  ·have h:xs.length<aq.length:=by omega
   repeat refine I ?_
   have:=G1 (b:=1000000000) (by decide) h1 t2 h;exact aw rfl (fin (yX (by omega)))
  ·have h:aq.length<xs.length:=by have:aq.length<=xs.length:=by omega
                                  omega
   repeat refine I ?_
   have:=G1 (b:=1000000000) (by decide) h2 t1 h;exact aw rfl (fin (Fa (by omega)))
 have h:xs.length=aq.length:=by omega
 repeat refine I ?_
 refine cG (L:=Nat) (fun k=>k<=xs.length∧xs.drop k=aq.drop k) (fun(k:Nat)=>⟨[],0,[(0,de xs),(1,de aq),(5,.i .i64 ((k:Int)-1))]⟩) id [] xs.length ⟨b5 _,by rw[List.drop_length,h,List.drop_length]⟩ (by show xs.length<ba+1;unfold ba;omega) (jA ⟨rfl,rfl,fo,trivial⟩) ?_;rintro(k:Nat) ⟨U,av⟩;cases k with
 |zero=>
  repeat refine I ?_
  exact aw rfl (fin (by simp at av;rw[av]at iE;rw[<-iE,<-kN];exact Qt _))
 |succ m=>
  have J:m<xs.length:=by omega
  have aG:m<aq.length:=by omega
  have e:((m+1:Nat):Int)-1=(m:Nat):=by omega
  refine az 5 (.i .i64 (m:Nat)) rfl (fI e) ?_
  repeat refine I ?_
  refine az 20 (.b true) rfl (by simp) ?_
  repeat refine I ?_
  refine gm xs[m] (a9 J) ?_
  repeat refine I ?_
  refine gm aq[m] (a9 aG) ?_
  repeat refine I ?_
  have hb:=Fu J;have ml:=Fu aG;refine cP (fun h=> ?_) (fun h=> ?_)
  ·have aP:xs[m]<aq[m]:=by omega
   repeat refine I ?_
   refine aw rfl (fin (yX ?_));rw[<-iE,<-kN,hb,ml,av];exact I8 (fun x J=>h1 x (List.mem_of_mem_take J)) (by simp;omega) aP
  repeat refine I ?_
  refine gm xs[m] (a9 J) ?_
  repeat refine I ?_
  refine gm aq[m] (a9 aG) ?_
  repeat refine I ?_
  refine cP (fun aB=> ?_) (fun aB=> ?_)
  ·have aP:aq[m]<xs[m]:=by omega
   repeat refine I ?_
   refine aw rfl (fin (Fa ?_));rw[<-iE,<-kN,hb,ml,av];exact I8 (fun x J=>h2 x (List.mem_of_mem_take J)) (by simp;omega) aP
  ·have he:xs[m]=aq[m]:=by omega
   repeat refine I ?_
   refine bc [] m ⟨by simp,by omega,?_⟩ (jA ⟨rfl,rfl,fo,trivial⟩);rw[hf J,hf aG,he,av]
def HL:bE where
 L:=Nat×Nat
 args:=fun(a,b)=>[cX a,cX b]
 pre:=fun(a,b)=>dS 1073741824 a∧dS 1073741824 b
 res:=fun(a,b)=>cX (a+b)
theorem rp{n k:Nat}(h:(a1 1000000000 n).length<=k):n<1000000000^k:=by
 have h1:=kf (gM (b:=1000000000) (by decide) n);rw[gn (by decide)]at h1;exact e4 h1 (Nat.pow_le_pow_right (by decide) h)
theorem Jy{a b k:Nat}(ha:(a1 1000000000 a).length<=k)(aa:(a1 1000000000 b).length<=k):(a1 1000000000 (a+b)).length<=k+1:=lr (by decide) (by
 have:=rp ha;have:=rp aa;rw[Nat.pow_succ];omega)
theorem ac4{u v c w:Nat}(h:w=u+v+c):w≠0↔(u≠0∨v≠0∨0<c):=by omega
theorem ab2{D:List Nat}{i m d:Nat}(h:i<D.length)(hm:i<m)(av:D[i]=d):(D.take i++List.replicate (m-i) 0).take i++([d]++(D.take i++List.replicate (m-i) 0).drop (i+[d].length))=D.take (i+1)++List.replicate (m-(i+1)) 0:=by
 have hl:(D.take i).length=i:=by rw[List.length_take];omega
 rw[asF h,av,show m-i=(m-(i+1))+1 by omega,List.replicate_succ,List.append_assoc];congr 1
 ·rw[List.take_append_of_le_length (by omega),List.take_of_length_le (by omega)]
 ·congr 1;rw[List.drop_append,List.drop_of_length_le (by simp;omega),hl];simp
theorem Ng:bg aC.ctx 228 HL.spec:=by
 refine bR [] SL.1 ?_;intro⟨a,b⟩ ⟨(ha:(a1 _ a).length<=_),(aa:(a1 _ b).length<=_)⟩ H aJ;show a2.ok _ ⟨_,_,⟨_,_,[(0,de (a1 1000000000 a)),(1,de (a1 1000000000 b))]⟩⟩;obtain⟨m,hm⟩:∃m,m=max (a1 1000000000 a).length (a1 1000000000 b).length:=⟨_,rfl⟩;have at5:=Jy (k:=m) (a:=a) (b:=b) (by omega) (by omega)
 repeat refine al 13 ?_
 refine az 13 (.i .i64 ((m+1:Nat):Int)) rfl cO ?_;refine oW (n:=0) (c:=m+1) fO 0 ?_ (hn:=Nat.zero_le _)
 repeat refine I ?_
 refine cG (L:=Nat) (fun i=>i<=(a1 1000000000 (a+b)).length)
  (fun(i:Nat)=>⟨[.a 2 false 1 Nat fO ((a1 1000000000 (a+b)).take i++List.replicate (m+1-i) 0)],1,[(0,de (a1 1000000000 a)),(1,de (a1 1000000000 b)),(5,.a6 0 1 0 i (m+1)),(6,.i .i64 (lR 1000000000 a b i:Nat)),(7,.i .i64 i)]⟩)
  (fun i=>m+1-i) [0] 0 (Nat.zero_le _) (by show m+1-0<ba+1;unfold ba;omega) (e3 ⟨rfl,rfl,rfl,by rw[aeK];rfl,rfl,trivial⟩ ⟨_,rfl,rfl,fun _=>rfl⟩) ?_
 rintro(i:Nat) ae;have Qe:=QF (b:=1000000000) (x:=a) (y:=b) (i:=i) (by decide);have gl:=aeI (b:=1000000000) (x:=a) (y:=b) (i:=i) (by decide);have LO:= @y5 1000000000 a i (by decide);have Vk:= @y5 1000000000 b i (by decide);have amh:= @y5 1000000000 (a+b) i (by decide);have K9:(i<(a1 1000000000 (a+b)).length)↔(i<(a1 1000000000 a).length∨i<(a1 1000000000 b).length∨0<lR 1000000000 a b i):=by rw[LO,Vk,amh];exact ac4 Qe
 repeat refine I ?_
 refine iS (L:=Bool) (fun t=>t=decide (i<(a1 1000000000 (a+b)).length)) (fun t=>⟨[.a 2 false 1 Nat fO ((a1 1000000000 (a+b)).take i++List.replicate (m+1-i) 0)],1,[(0,de (a1 1000000000 a)),(1,de (a1 1000000000 b)),(5,.a6 0 1 0 i (m+1)),(6,.i .i64 (lR 1000000000 a b i:Nat)),(7,.i .i64 i),(28,.b t)]⟩) ?_ ?_
 ·by_cases h1:i<(a1 1000000000 a).length
  ·refine az 19 (.b true) rfl (by simp[h1]) ?_
   repeat refine I ?_
   exact bc [0] true (by simp[K9,h1]) dP
  refine az 19 (.b false) rfl (by simp[h1]) ?_
  repeat refine al 25 ?_
  by_cases h2:i<(a1 1000000000 b).length
  ·refine az 25 (.b true) rfl (by simp[h2]) ?_
   repeat refine I ?_
   exact bc [0] true (by simp[K9,h2]) dP
  refine az 25 (.b false) rfl (by simp[h2]) ?_
  repeat refine I ?_
  exact bc [0] (decide ((0:Int)<(lR 1000000000 a b i:Nat))) (by simp only[K9];congr 1;simp;omega) dP
 intro t aN;by_cases aP:i<(a1 1000000000 (a+b)).length
 ·refine az 28 (.b true) rfl (by rw[aN,decide_eq_true aP]) ?_;obtain⟨pf,oF⟩:∃d,d=a/1000000000^i%1000000000:=⟨_,rfl⟩;obtain⟨sF,F9⟩:∃d,d=b/1000000000^i%1000000000:=⟨_,rfl⟩;have td:pf<1000000000:=by rw[oF];exact Nat.mod_lt _ (by decide)
  have GV:sF<1000000000:=by rw[F9];exact Nat.mod_lt _ (by decide)
  have cs:=aeJ (b:=1000000000) (x:=a) (y:=b) (i:=i) (by decide);have Ke:=aeH (b:=1000000000) (x:=a) (y:=b) (i:=i) (by decide);rw[<-oF,<-F9]at cs Ke;obtain⟨c,hc⟩:∃c,c=lR 1000000000 a b i:=⟨_,rfl⟩;rw[<-hc]at cs Ke gl;have afh:=afj (b:=1000000000) (n:=a+b) (i:=i) (by decide) aP;refine az 6 (.i .i64 (c:Nat)) rfl (by rw[hc]) ?_
  repeat refine I ?_
  refine iS (L:=Unit) (fun _=>True) (fun _=>⟨[.a 2 false 1 Nat fO ((a1 1000000000 (a+b)).take i++List.replicate (m+1-i) 0)],1,[(0,de (a1 1000000000 a)),(1,de (a1 1000000000 b)),(5,.a6 0 1 0 i (m+1)),(6,.i .i64 ((c+pf:Nat):Int)),(7,.i .i64 i)]⟩) ?_ ?_
  ·refine cP (fun h=> ?_) (fun h=> ?_)
   ·have h:i<(a1 1000000000 a).length:=by omega
    repeat refine I ?_
    refine cV pf (by rw[oF];exact wx (by decide) h) ?_
    repeat refine I ?_
    exact bc [0] () trivial (e3 ⟨rfl,rfl,rfl,fo,rfl,trivial⟩ ⟨_,rfl,rfl,fun _=>rfl⟩)
   ·have h:¬i<(a1 1000000000 a).length:=by omega
    have h0:pf=0:=by
     have:a/1000000000^i=0:=Decidable.not_not.1 (fun aB=>h (LO.2 aB));rw[oF,this]
    repeat refine I ?_
    exact bc [0] () trivial (e3 ⟨rfl,rfl,rfl,l0,rfl,trivial⟩ ⟨_,rfl,rfl,fun _=>rfl⟩)
  intro _ _
  repeat refine I ?_
  refine iS (L:=Unit) (fun _=>True) (fun _=>⟨[.a 2 false 1 Nat fO ((a1 1000000000 (a+b)).take i++List.replicate (m+1-i) 0)],1,[(0,de (a1 1000000000 a)),(1,de (a1 1000000000 b)),(5,.a6 0 1 0 i (m+1)),(6,.i .i64 ((c+pf+sF:Nat):Int)),(7,.i .i64 i)]⟩) ?_ ?_
  ·refine cP (fun h=> ?_) (fun h=> ?_)
   ·have h:i<(a1 1000000000 b).length:=by omega
    repeat refine I ?_
    refine cV sF (by rw[F9];exact wx (by decide) h) ?_
    repeat refine I ?_
    exact bc [0] () trivial (e3 ⟨rfl,rfl,rfl,fo,rfl,trivial⟩ ⟨_,rfl,rfl,fun _=>rfl⟩)
   ·have h:¬i<(a1 1000000000 b).length:=by omega
    have h0:sF=0:=by
     have:b/1000000000^i=0:=Decidable.not_not.1 (fun aB=>h (Vk.2 aB));rw[F9,this]
    repeat refine I ?_
    exact bc [0] () trivial (e3 ⟨rfl,rfl,rfl,l0,rfl,trivial⟩ ⟨_,rfl,rfl,fun _=>rfl⟩)
  intro _ _
  repeat refine al 53 ?_
  refine az 53 (.i .i64 (((c+pf+sF)%1000000000:Nat):Int)) rfl rfl ?_
  repeat refine I ?_
  refine YH (R:=fO) [(c+pf+sF)%1000000000] (gG (R:=fO) [(c+pf+sF)%1000000000] rfl) ((a1 1000000000 (a+b)).take (i+1)++List.replicate (m+1-(i+1)) 0) ?_ (hl:= ?_) (hc:= ?_)
  ·repeat refine al 57 ?_
   refine az 57 (.i .i64 (((c+pf+sF)/1000000000:Nat):Int)) rfl (by show af.i _ (IntKind.i64.wrap (((c+pf+sF)/1000000000:Nat):Int))=_;exact cO rfl (by omega) (by omega)) ?_
   repeat refine I ?_
   exact bc [0] (i+1) ⟨by show m+1-(i+1)<m+1-i;omega,aP⟩ (e3 ⟨rfl,rfl,rfl,by rw[cs];rfl,fo,trivial⟩ ⟨_,rfl,rfl,fun _=>rfl⟩)
  ·simp;omega
  ·exact ab2 aP (by omega) (by rw[afh,Ke])
 ·refine az 28 (.b false) rfl (by rw[aN,decide_eq_false aP]) ?_
  repeat refine al 58 ?_
  have he:i=(a1 1000000000 (a+b)).length:=by omega
  refine ID 58 (a1 1000000000 (a+b)) ?_ (hl:=by rw[List.drop_zero,List.take_append_of_le_length (by simp;omega),List.take_take,Nat.min_self,List.take_of_length_le (by omega)]) (hn:=he.symm)
  repeat refine I ?_
  exact aw rfl (.refl _)
def HZ:bE where
 L:=Nat×Nat
 args:=fun(a,b)=>[cX a,cX b]
 pre:=fun(a,b)=>dS 1073741824 a∧b<=a
 res:=fun(a,b)=>cX (a-b)
theorem ab3{O:List Nat}{i m d:Nat}(h:O.length=i)(hm:i<m):(O++List.replicate (m-i) 0).take i++([d]++(O++List.replicate (m-i) 0).drop (i+[d].length))=(O++[d])++List.replicate (m-(i+1)) 0:=by
 subst h;rw[show m-O.length=(m-(O.length+1))+1 by omega,List.replicate_succ,List.append_assoc];congr 1
 ·rw[List.take_append_of_le_length (by omega),List.take_of_length_le (by omega)]
 ·congr 1;rw[List.drop_append,List.drop_of_length_le (by simp)];simp
theorem DO:bg aC.ctx 227 HZ.spec:=by
 refine bR [(137,vB.spec)] SK.1 ?_;intro⟨a,b⟩ ⟨(ha:(a1 _ a).length<=_),(iK:b<=a)⟩ H aJ;have h1:=gM (b:=1000000000) (by decide) a;have h2:=gM (b:=1000000000) (by decide) b;have iE:=gn (b:=1000000000) (by decide) a;have kN:=gn (b:=1000000000) (by decide) b;have hlen:(a1 1000000000 b).length<=(a1 1000000000 a).length:=lr (by decide) (Nat.lt_of_le_of_lt iK (rp (b5 _)));show a2.ok _ ⟨_,_,⟨_,_,[(0,de (a1 1000000000 a)),(1,de (a1 1000000000 b))]⟩⟩;generalize a1 1000000000 a=xs at *;generalize a1 1000000000 b=aq at *
 repeat refine I ?_
 refine oW (n:=0) (c:=xs.length) fO 0 ?_ (hn:=Nat.zero_le _)
 repeat refine I ?_
 refine cG (L:=Nat×List Nat×Nat) (fun(i,outs,c)=>i<=xs.length∧outs.length=i∧c2 1000000000 outs∧c<=1∧val 1000000000 (xs.take i)+1000000000^i*c=val 1000000000 outs+val 1000000000 (aq.take i))
  (fun((i:Nat),(outs:List Nat),(c:Nat))=>⟨[.a 2 false 1 Nat fO (outs++List.replicate (xs.length-i) 0)],1,[(0,de xs),(1,de aq),(5,.a6 0 1 0 i xs.length),(6,.i .i64 c),(7,.i .i64 i)]⟩)
  (fun l=>xs.length-l.1) [0] (0,[],0) ⟨Nat.zero_le _,rfl,fun x J=>by simp at J,by decide,by simp[val]⟩ (by show xs.length-0<ba+1;unfold ba;omega) dP ?_
 rintro⟨i,outs,c⟩ ⟨ae,gu,bP,hc,aH⟩
 repeat refine I ?_
 refine cP (fun h=> ?_) (fun h=> ?_)
 ·have h:i<xs.length:=by omega
  have C0:xs[i]? =some xs[i]:=a9 h;have aP:=h1 _ (dr h)
  repeat refine I ?_
  refine cV xs[i] C0 ?_
  repeat refine I ?_
  refine iS (L:=Nat) (fun y=>y<1000000000∧val 1000000000 (aq.take (i+1))=val 1000000000 (aq.take i)+1000000000^i*y) (fun(y:Nat)=>⟨[.a 2 false 1 Nat fO (outs++List.replicate (xs.length-i) 0)],1,[(0,de xs),(1,de aq),(5,.a6 0 1 0 i xs.length),(7,.i .i64 i),(8,.i .i64 ((xs[i]:Int)-c-y))]⟩) ?_ ?_
  ·refine cP (fun aB=> ?_) (fun aB=> ?_)
   ·have aB:i<aq.length:=by simpa using aB
    have C2:aq[i]? =some aq[i]:=a9 aB;have CE:=h2 _ (dr aB)
    repeat refine I ?_
    refine cV aq[i] C2 ?_
    repeat refine I ?_
    refine bc [0] aq[i] ⟨CE,hN aB⟩ (e3 ⟨rfl,rfl,rfl,rfl,?_,trivial⟩ ⟨_,rfl,rfl,fun _=>rfl⟩);exact congrArg (fun n=>some (af.i .i64 n)) (by rw[g0 (n:=(xs[i]:Int)-c) (by omega) (by omega)];exact tP rfl (by omega) (by omega))
   ·have aB:aq.length<=i:=by simpa using aB
    repeat refine I ?_
    refine bc [0] 0 ⟨by decide,by rw[jW (by omega),jW aB];simp⟩ (e3 ⟨rfl,rfl,rfl,rfl,?_,trivial⟩ ⟨_,rfl,rfl,fun _=>rfl⟩);exact congrArg (fun n=>some (af.i .i64 n)) (tP (by omega) (by omega) (by omega))
  rintro y ⟨aG,fT⟩
  repeat refine I ?_
  refine iS (L:=Nat×Nat) (fun(d,bJ)=>d<1000000000∧bJ<=1∧xs[i]+1000000000*bJ=d+y+c) (fun((d:Nat),(bJ:Nat))=>⟨[.a 2 false 1 Nat fO (outs++List.replicate (xs.length-i) 0)],1,[(0,de xs),(1,de aq),(5,.a6 0 1 0 i xs.length),(6,.i .i64 bJ),(7,.i .i64 i),(8,.i .i64 d)]⟩) ?_ ?_
  ·refine cP (fun aB=> ?_) (fun aB=> ?_)
   ·repeat refine I ?_
    refine bc [0] (xs[i]+1000000000-c-y,1) ⟨by omega,by omega,by omega⟩ (e3 ⟨rfl,rfl,rfl,rfl,rfl,?_,trivial⟩ ⟨_,rfl,rfl,fun _=>rfl⟩);exact congrArg (fun n=>some (af.i .i64 n)) (tP (by omega) (by omega) (by omega))
   ·repeat refine I ?_
    refine bc [0] (xs[i]-c-y,0) ⟨by omega,by omega,by omega⟩ (e3 ⟨rfl,rfl,rfl,rfl,rfl,?_,trivial⟩ ⟨_,rfl,rfl,fun _=>rfl⟩);exact congrArg (fun n=>some (af.i .i64 n)) (by omega)
  rintro⟨d,bJ⟩ ⟨av,mF,he⟩
  repeat refine I ?_
  refine YH (R:=fO) [d] (gG (R:=fO) [d] rfl) ((outs++[d])++List.replicate (xs.length-(i+1)) 0) ?_ (hl:=ab3 gu h) (hc:=by simp;omega)
  repeat refine I ?_
  refine bc [0] (i+1,outs++[d],bJ) ⟨by show xs.length-(i+1)<xs.length-i;omega,by omega,by simp[gu],?_,mF,?_⟩ (e3 ⟨rfl,rfl,rfl,rfl,fo,trivial⟩ ⟨_,rfl,rfl,fun _=>rfl⟩)
  ·intro x J;rcases List.mem_append.1 J with h|h
   ·exact bP x h
   ·simp at h;omega
  ·rw[mo,gu,hN h,fT,Nat.pow_succ];have:=ZV aH he;simp[val];omega
 ·have he:i=xs.length:=by omega
  repeat refine al 42 ?_
  refine ID 42 outs ?_ (hl:=by rw[List.drop_zero,List.take_append_of_le_length (by omega),List.take_of_length_le (by omega)]) (hn:=gu);refine aX vC outs (by show outs.length<=_;omega) ?_
  repeat refine I ?_
  refine aw rfl (.of ?_);show de (eM outs)=cX (a-b);rw[yl (b:=1000000000) (by decide) bP];have aA:xs.take i=xs:=List.take_of_length_le (by omega);have e2:aq.take i=aq:=List.take_of_length_le (by omega);rw[aA,e2,iE,kN]at aH;have alY:=kf bP;have:c=0:=by
   rcases Nat.eq_zero_or_pos c with h|h
   ·exact h
   ·exfalso;have:c=1:=by omega
    subst this;rw[gu]at alY;omega
  subst this;show de _=de _;rw[show val 1000000000 outs=a-b by omega]
def xW:bE where
 L:=Nat×Nat
 args:=fun(a,b)=>[cX a,cX b]
 pre:=fun(a,b)=>dS 1073741824 a∧dS 1073741824 b
 res:=fun(a,b)=>cX (a*b)
theorem apn{c x y o:Nat}(hc:c<1000000000)(J:x<1000000000)(aG:y<1000000000)(ak:o<1000000000):x*y+o+c<1000000000000000000:=by
 have h1:x*y<=999999999*999999999:=Nat.mul_le_mul (by omega) (by omega);omega
theorem p2:bg aC.ctx 229 xW.spec:=by
 refine bR [(137,vB.spec)] SM.1 ?_;intro⟨a,b⟩ ⟨(ha:(a1 _ a).length<=_),(aa:(a1 _ b).length<=_)⟩ H aJ;have h1:=gM (b:=1000000000) (by decide) a;have h2:=gM (b:=1000000000) (by decide) b;have iE:=gn (b:=1000000000) (by decide) a;have kN:=gn (b:=1000000000) (by decide) b;show a2.ok _ ⟨_,_,⟨_,_,[(0,de (a1 1000000000 a)),(1,de (a1 1000000000 b))]⟩⟩;generalize a1 1000000000 a=xs at *;generalize a1 1000000000 b=aq at *
 repeat refine al 13 ?_
 refine az 13 (.i .i64 ((xs.length+aq.length:Nat):Int)) rfl cO ?_;refine oW fO 0 ?_
 repeat refine I ?_
 refine cG (L:=Nat×List Nat) (fun(i,outs)=>i<=xs.length∧outs.length=xs.length+aq.length∧c2 1000000000 outs∧val 1000000000 (outs.take (i+aq.length))=val 1000000000 (xs.take i)*val 1000000000 aq)
  (fun((i:Nat),(outs:List Nat))=>⟨[.a 2 false 1 Nat fO outs],1,[(0,de xs),(1,de aq),(5,.a6 0 1 0 (xs.length+aq.length) (xs.length+aq.length)),(6,.i .i64 i)]⟩)
  (fun l=>xs.length-l.1) [0] (0,List.replicate (xs.length+aq.length) 0) ⟨by omega,by simp,r0 (by decide) _,by simp[val,val_zero]⟩ (by show xs.length-0<ba+1;unfold ba;omega) dP ?_
 rintro⟨i,outs⟩ ⟨ae,gu,bP,aH⟩
 repeat refine I ?_
 refine cP (fun h=> ?_) (fun h=> ?_)
 ·have h:i<xs.length:=by omega
  have k6:=h1 _ (dr h)
  repeat refine I ?_
  refine cG (L:=Nat×List Nat×Nat) (fun(j,os,c)=>j<=aq.length∧os.length=xs.length+aq.length∧c2 1000000000 os∧c<1000000000∧(∀k,i+j<=k->os[k]? =outs[k]?)∧val 1000000000 (os.take (i+j))+1000000000^(i+j)*c=val 1000000000 (outs.take (i+j))+1000000000^i*(xs[i]*val 1000000000 (aq.take j)))
   (fun((j:Nat),(os:List Nat),(c:Nat))=>⟨[.a 2 false 1 Nat fO os],1,[(0,de xs),(1,de aq),(5,.a6 0 1 0 (xs.length+aq.length) (xs.length+aq.length)),(6,.i .i64 i),(7,.i .i64 c),(8,.i .i64 j)]⟩)
   (fun l=>aq.length-l.1) [0] (0,outs,0) ⟨by omega,gu,bP,by omega,fun _ _=>rfl,by simp[val]⟩ (by show aq.length-0<ba+1;unfold ba;omega) dP ?_
  rintro⟨j,os,c⟩ ⟨hj,CM,s0,hc,lY,iN⟩
  repeat refine I ?_
  refine cP (fun qy=> ?_) (fun qy=> ?_)
  ·have qy:j<aq.length:=by omega
   have GD:=h2 _ (dr qy);have js:i+j<os.length:=by omega
   have Lw:os[i+j]=outs[i+j]:=by
    have:=lY (i+j) (b5 _);rw[a9 js,a9 (by omega)]at this;exact Option.some.inj this
   have Lx:=s0 _ (dr js);have g:=apn hc k6 GD Lx
   repeat refine I ?_
   refine eh 31 (.i .i64 ((i+j:Nat):Int)) rfl rfl cO ?_
   repeat refine I ?_
   refine y2 ?_;refine Fk os[i+j] (a9 js) ?_
   repeat refine I ?_
   refine gm xs[i] (a9 h) ?_
   repeat refine I ?_
   refine gm aq[j] (a9 qy) ?_
   repeat refine al 44 ?_
   have afB:IntKind.i64.wrap (IntKind.i64.wrap ((c:Int)+os[i+j])+IntKind.i64.wrap ((xs[i]:Int)*aq[j]))=((c+(xs[i]*aq[j]+os[i+j]):Nat):Int):=by
    rw[<-Int.natCast_mul];rw[g0 (n:=(c:Int)+os[i+j]) (by omega) (by omega),g0 (n:=((xs[i]*aq[j]:Nat):Int)) (by omega) (by omega),g0 (by omega) (by omega)];omega
   refine eh 44 (.i .i64 ((c+(xs[i]*aq[j]+os[i+j]):Nat):Int)) rfl rfl (congrArg (af.i .i64) afB) ?_
   repeat refine al 48 ?_
   refine az 48 (.i .i64 ((i+j:Nat):Int)) rfl cO ?_;obtain⟨T,gO⟩:∃T,T=c+(xs[i]*aq[j]+os[i+j]):=⟨_,rfl⟩;refine az 7 (.i .i64 (T:Nat)) rfl (by rw[gO]) ?_;have at7:T<1000000000000000000:=by omega
   repeat refine al 50 ?_
   refine az 50 (.i .i64 ((T%1000000000:Nat):Int)) rfl rfl ?_;refine hE ?_;refine jk (T%1000000000) ?_
   repeat refine al 53 ?_
   refine az 53 (.i .i64 ((T/1000000000:Nat):Int)) rfl (by show af.i _ (IntKind.i64.wrap ((T/1000000000:Nat):Int))=_;exact cO rfl (by omega) (by omega)) ?_
   repeat refine I ?_
   refine bc [0] (j+1,os.set (i+j) (T%1000000000),T/1000000000) ⟨by show aq.length-(j+1)<aq.length-j;omega,by omega,by simp[CM],l7 s0 _ (Nat.mod_lt _ (by decide)),by omega,fun k U=>by rw[List.getElem?_set_ne (by omega)];exact lY k (by omega),?_⟩
    (e3 ⟨rfl,rfl,rfl,rfl,rfl,fo,trivial⟩ ⟨_,rfl,rfl,fun _=>rfl⟩)
   rw[<-Nat.add_assoc,hN (l:=os.set (i+j) _) (by simp;omega),hN (l:=outs) (by omega),hN qy,List.take_set_of_le (b5 _),List.getElem_set_self,Nat.pow_succ,<-Lw,gO];exact Ws (by rw[Nat.pow_add]) iN
  ·have hj:j=aq.length:=by omega
   subst hj
   repeat refine al 58 ?_
   refine az 58 (.i .i64 ((i+aq.length:Nat):Int)) rfl cO ?_
   repeat refine I ?_
   refine hE ?_;refine jk c ?_
   repeat refine I ?_
   refine bc [0] (i+1,os.set (i+aq.length) c) ⟨by show xs.length-(i+1)<xs.length-i;omega,by omega,by simp[CM],l7 s0 _ hc,?_⟩ (e3 ⟨rfl,rfl,rfl,fo,trivial⟩ ⟨_,rfl,rfl,fun _=>rfl⟩);rw[show i+1+aq.length=i+aq.length+1 by omega,hN (l:=os.set _ _) (by simp;omega),List.take_set_of_le (b5 _),List.getElem_set_self,iN,aH,hN h,jW (b5 _),Nat.add_mul,Nat.mul_assoc]
 ·have ae:i=xs.length:=by omega
  subst ae
  repeat refine I ?_
  refine hD 61 ?_;refine aX vC outs (by show outs.length<=_;omega) ?_
  repeat refine I ?_
  refine aw rfl (.of ?_);show de (eM outs)=cX (a*b);rw[jW (l:=xs) (b5 _),jW (l:=outs) (by omega)]at aH;rw[yl (b:=1000000000) (by decide) bP,aH,iE,kN];rfl
theorem uC:a1 1000000000 1=[1]:=by rw[pj (by decide) (by decide),show 1/1000000000=0 from rfl,g6]
def vA:bE where
 L:=Unit
 args:=fun _=>[]
 pre:=fun _=>True
 res:=fun _=>cX 1
theorem tx:bg aC.ctx 134 vA.spec:=by
 refine bR [] RX.1 ?_;intro _ _ H aJ
 repeat refine al 1 ?_
 refine mh 0 fO [1] ?_;refine hD 1 ?_
 repeat refine I ?_
 exact aw rfl (.of (by show de [1]=de _;rw[uC]))
def dm(x:Rat):af:=.agg [.i .i64 x.num.sign,cX x.num.natAbs,de (if x.num=0 then[]else a1 1000000000 x.den)]
def Yx:bE where
 L:=Rat
 args:=fun x=>[dm x]
 pre:=fun _=>True
 res:=fun x=>.i .i64 x.num.sign
theorem apD:bg aC.ctx 27 Yx.spec:=by
 refine bR [] SY.1 ?_;intro(x:Rat) _ H aJ
 repeat refine I ?_
 exact aw rfl (.refl _)
def xT:bE where
 L:=Rat
 args:=fun x=>[dm x]
 pre:=fun _=>True
 res:=fun x=>cX x.den
theorem qS:bg aC.ctx 231 xT.spec:=by
 refine bR [(134,vA.spec)] SP.1 ?_;intro(x:Rat) _ H aJ
 repeat refine I ?_
 refine cP (fun h=> ?_) (fun h=> ?_)
 ·have h:x.num=0:=Int.sign_eq_zero_iff_zero.1 h;have av:x.den=1:=by have:=x.reduced;rw[h]at this;simpa[Nat.Coprime]using this
  repeat refine I ?_
  refine aX tx () trivial ?_
  repeat refine I ?_
  exact aw rfl (.of (by show cX 1=cX x.den;rw[av]))
 ·have h:x.num≠0:=fun e=>h (by rw[e];rfl)
  repeat refine I ?_
  exact aw rfl (.of (by show de (if _ then _ else _)=de _;rw[if_neg h]))
def Ym:bE where
 L:=Rat
 args:=fun x=>[dm x]
 pre:=fun _=>True
 res:=fun x=>dm (-x)
theorem aps:bg aC.ctx 406 Ym.spec:=by
 refine bR [] TA.1 ?_;intro(x:Rat) _ H aJ
 repeat refine I ?_
 refine aw rfl (.of ?_);show af.agg [.i _ (IntKind.i64.wrap (-x.num.sign)),_,_]=af.agg [.i _ _,_,_];have dQ:∀n:Int,-1<=n.sign∧n.sign<=1:=fun n=>by
  rcases(show n<0∨n=0∨0<n by omega)with h|h|h
  ·rw[Int.sign_eq_neg_one_of_neg h];decide
  ·rw[h];decide
  ·rw[Int.sign_eq_one_of_pos h];decide
 have:=dQ x.num;rw[g0 (by omega) (by omega),Rat.neg_num,Rat.neg_den,Int.sign_neg,Int.natAbs_neg];simp[cX,de]
theorem AS{own:List a3}{n p k:Nat}{e cK:bT}{o:a3}(h:lk [k] cK e)(ak:∃bd,own[k]? =some bd∧ft [k] o bd)(hp:pinned p [k] 0=true:=by rfl):Sub p [k] ⟨own,n,e⟩ ⟨[o],1,cK⟩:=⟨by simp,rfl,⟨ak,trivial⟩,h,hp⟩
def Yi:bE where
 L:=Nat
 args:=fun n=>[.i .u64 n]
 pre:=fun n=>n<18446744073709551616
 res:=fun n=>cX n
def apo(m:Nat):List Nat->cS
 |[]=>⟨[],0,[(0,.i .u64 m),(3,.nl)]⟩
 |d::ds=>⟨[.a 2 true 1 Nat fO (d::ds)],1,[(0,.i .u64 m),(3,.a6 0 1 0 (d::ds).length (d::ds).length)]⟩
theorem Yj:bg aC.ctx 407 Yi.spec:=by
 refine bR [] TB.1 ?_;intro(n:Nat) (hn:n<18446744073709551616) H aJ;have hl:(a1 1000000000 n).length<=3:=lr (by decide) (by omega)
 repeat refine I ?_
 refine cG (L:=Nat×List Nat) (fun(m,l)=>m<=n∧a1 1000000000 n=l++a1 1000000000 m) (fun(m,l)=>apo m l) (fun l=>(a1 1000000000 l.1).length) [] (n,[]) ⟨b5 _,rfl⟩ (by show(a1 1000000000 n).length<ba+1;unfold ba;omega) ei ?_;rintro⟨m,l⟩ ⟨hm,av⟩;have pG:l.length<=3:=by rw[av]at hl;simp at hl;omega
 have step:m≠0->(a1 1000000000 (m/1000000000)).length<(a1 1000000000 m).length∧m/1000000000<=n∧a1 1000000000 n=(l++[m%1000000000])++a1 1000000000 (m/1000000000):=fun h=>by
  rw[av,pj (by decide) h];simp;omega
 have hq:((m%1000000000:Nat):Int)<9223372036854775808:=by omega
 have Uk:m/1000000000%18446744073709551616=m/1000000000:=by omega
 have oH: -9223372036854775808<=((m%1000000000:Nat):Int):=by omega
 cases l with
 |nil=>
  repeat refine I ?_
  refine cP (fun h=> ?_) (fun h=> ?_)
  ·have step:=step (by omega)
   repeat refine al 9 ?_
   refine az 9 (.i .i64 ((m%1000000000:Nat):Int)) rfl (cO rfl oH hq) ?_
   repeat refine I ?_
   refine x6 fO [m%1000000000] (gG (R:=fO) [m%1000000000] rfl) ?_
   repeat refine I ?_
   exact bc [1] (m/1000000000,[m%1000000000]) step (AS ⟨l0 (congrArg Int.ofNat Uk),rfl,trivial⟩ ⟨_,rfl,rfl,fun _=>rfl⟩)
  ·have h0:m=0:=by omega
   subst h0;rw[g6]at av
   repeat refine I ?_
   exact aw rfl (b3.nl.trans (.of (by show de []=de _;rw[av];rfl)))
 |cons d ds=>
  repeat refine I ?_
  refine cP (fun h=> ?_) (fun h=> ?_)
  ·have step:=step (by omega)
   repeat refine al 9 ?_
   refine az 9 (.i .i64 ((m%1000000000:Nat):Int)) rfl (cO rfl oH hq) ?_
   repeat refine I ?_
   have iu:ds.length<=2:=by simp at pG;omega
   refine x5 (R:=fO) [m%1000000000] (gG (R:=fO) [m%1000000000] rfl) ?_
   repeat refine I ?_
   exact bc [2] (m/1000000000,d::(ds++[m%1000000000])) step (AS ⟨l0 (congrArg Int.ofNat Uk),congrArg (fun k=>some (af.a6 2 1 0 k k)) (by simp),trivial⟩ ⟨_,rfl,rfl,fun _=>rfl⟩)
  ·have h0:m=0:=by omega
   subst h0;rw[g6,List.append_nil]at av
   repeat refine al 14 ?_
   refine hD 14 ?_
   repeat refine I ?_
   exact aw rfl (.of (by show de (d::ds)=de _;rw[av]))
def X6:bE where
 L:=Nat
 args:=fun a=>[cX a]
 pre:=fun a=>dS 1073741824 a
 res:=fun a=>cX (a/2)
theorem HQ:bg aC.ctx 226 X6.spec:=by
 refine bR [(137,vB.spec)] SJ.1 ?_;intro(a:Nat) (ha:(a1 _ a).length<=_) H aJ;have h1:=gM (b:=1000000000) (by decide) a;have iE:=gn (b:=1000000000) (by decide) a;show a2.ok _ ⟨_,_,⟨_,_,[(0,de (a1 1000000000 a))]⟩⟩;generalize a1 1000000000 a=xs at *
 repeat refine I ?_
 refine oW fO 0 ?_
 repeat refine I ?_
 refine cG (L:=Nat×List Nat×Nat) (fun(k,outs,r)=>k<=xs.length∧outs.length=xs.length∧c2 1000000000 outs∧r<2∧val 1000000000 (xs.drop k)=val 1000000000 (outs.drop k)*2+r)
  (fun((k:Nat),(outs:List Nat),(r:Nat))=>⟨[.a 2 false 1 Nat fO outs],1,[(0,de xs),(3,.a6 0 1 0 xs.length xs.length),(4,.i .i64 r),(5,.i .i64 ((k:Int)-1))]⟩)
  (fun l=>l.1) [0] (xs.length,List.replicate xs.length 0,0) ⟨by omega,by simp,r0 (by decide) _,by decide,by simp[val]⟩ (by show xs.length<ba+1;unfold ba;omega) (e3 ⟨rfl,rfl,rfl,fo,trivial⟩ ⟨_,rfl,rfl,fun _=>rfl⟩) ?_
 rintro⟨k,outs,r⟩ ⟨U,gu,bP,aQ,aH⟩;cases k with
 |zero=>
  repeat refine I ?_
  refine hD 30 ?_;refine aX vC outs (by show outs.length<=_;omega) ?_
  repeat refine I ?_
  rw[List.drop_zero,List.drop_zero]at aH;refine aw rfl (.of ?_);show de (eM outs)=cX (a/2);rw[yl (b:=1000000000) (by decide) bP,show a/2=val 1000000000 outs by omega];rfl
 |succ m=>
  have J:m<xs.length:=by omega
  have k6:=h1 _ (dr J);have oE:=ZE aQ k6;refine az 5 (.i .i64 (m:Nat)) rfl fI ?_
  repeat refine I ?_
  refine az 13 (.b true) rfl (by simp) ?_
  repeat refine I ?_
  refine cV xs[m] (a9 J) ?_
  repeat refine al 22 ?_
  refine az 22 (.i .i64 ((r*1000000000+xs[m]:Nat):Int)) rfl (congrArg (af.i .i64) (by rw[g0 (n:=(r:Int)*1000000000) (by omega) (by omega),g0 (by omega) (by omega)];omega)) ?_;obtain⟨T,wL⟩:∃T,T=r*1000000000+xs[m]:=⟨_,rfl⟩;have gO:T<2000000000:=by omega
  rw[<-wL]at oE;refine az 22 (.i .i64 (T:Nat)) rfl (by rw[wL]) ?_
  repeat refine al 26 ?_
  refine az 26 (.i .i64 ((T/2:Nat):Int)) rfl (by show af.i _ (IntKind.i64.wrap ((T/2:Nat):Int))=_;exact cO rfl (by omega) (by omega)) ?_;refine hE ?_;refine jk (T/2) ?_
  repeat refine al 29 ?_
  refine az 29 (.i .i64 ((T%2:Nat):Int)) rfl rfl ?_
  repeat refine I ?_
  have ah:xs.drop m=xs[m]::xs.drop (m+1):=hf J;refine bc [0] (m,outs.set m (T/2),T%2) ⟨by simp,by omega,by simp[gu],l7 bP _ oE,Nat.mod_lt _ (by decide),?_⟩ (e3 ⟨rfl,rfl,rfl,fo,trivial⟩ ⟨_,rfl,rfl,fun _=>rfl⟩);rw[ah,hf (l:=outs.set m _) (by simp;omega),List.getElem_set_self,List.drop_set_of_lt (by omega),wL];exact ZF aH
def Yo:bE where
 L:=Nat
 args:=fun a=>[cX a]
 pre:=fun a=>True
 res:=fun a=>.b (decide (a%2=1))
theorem HS:bg aC.ctx 225 Yo.spec:=by
 refine bR [] SI.1 ?_;intro(a:Nat) _ H aJ;show a2.ok _ ⟨_,_,⟨_,_,[(0,de (a1 1000000000 a))]⟩⟩;by_cases h0:a=0
 ·subst h0;rw[g6]
  repeat refine I ?_
  exact aw rfl (.refl _)
 ·rw[pj (by decide) h0]
  repeat refine I ?_
  refine az 6 (.b true) rfl (by simp) ?_
  repeat refine I ?_
  refine cV (j:=0) (a%1000000000) rfl ?_
  repeat refine al 10 ?_
  refine az 10 (.i .i64 ((a%1000000000%2:Nat):Int)) rfl rfl ?_
  repeat refine I ?_
  refine aw rfl (.of ?_);show af.b (decide _)=af.b (decide _);congr 2;apply propext;omega
theorem ajI{B V W v w P lO oe:Nat}(hy:V=v*P+lO)(zl:lO<P)(gq:W=w*P+oe)(aH:0<V):w/(v+1)<=W/V:=by
 rw[Nat.le_div_iff_mul_le aH];have h1:w/(v+1)*(v+1)<=w:=Nat.div_mul_le_self _ _;have h2:V<=(v+1)*P:=by rw[Nat.add_mul];omega
 calc w/(v+1)*V<=w/(v+1)*((v+1)*P):=mu _ h2
  _=w/(v+1)*(v+1)*P:=(Nat.mul_assoc _ _ _).symm
  _<=w*P:=hF _ h1
  _<=W:=by omega
theorem ajH{V W v w P lO oe:Nat}(hy:V=v*P+lO)(sO:oe<P)(gq:W=w*P+oe)(aH:0<v)(iq:0<P):W/V<=(w+1)/v:=by
 have ry:0<V:=by have:=Nat.mul_pos aH iq;omega
 rw[Nat.le_div_iff_mul_le aH];have h1:W/V*V<=W:=Nat.div_mul_le_self _ _;have h2:W/V*(v*P)<=W/V*V:=mu _ (by omega);have h3:W/V*v*P<(w+1)*P:=by rw[Nat.mul_assoc,Nat.add_mul];omega
 exact Nat.le_of_lt (Nat.lt_of_mul_lt_mul_right h3)
