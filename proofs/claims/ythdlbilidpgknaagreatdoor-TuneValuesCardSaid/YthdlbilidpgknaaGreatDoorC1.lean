/- What the functions of the program and of the document compute, for every input (part 1); conditions as in the statements. -/
import Derived.Test.YthdlbilidpgknaaGreatDoorS1
import Derived.Test.YthdlbilidpgknaaGreatDoorT
import Derived.Test.YthdlbilidpgknaaGreatDoorL
set_option linter.all false
namespace Go.aj.a3
open Go.aj
set_option maxRecDepth 100000
set_option maxHeartbeats 4000000
variable{f:ci}{S:bh}{n m:Int}
def bH(K:ac (Nat×gu))(xf:dh)(h:∀l,S.pre l->∀H aH,aU.ok ⟨cX bl (dc aT.ctx (cf K)) (bQ+1),bQ+1,f,H,[],aH,Fin S l xf.res⟩ ⟨[],.c xf.body,⟨[],0,nI 0 (S.args l)⟩⟩)
 (J:bl.get f=some xf:=by kernel_rfl) (hl:∀l,(S.args l).length<=xf.aO:=by exact fun _=>jN rfl):a9 aT.ctx f S.spec:=aeI aT.fA gF (cf K) J hl h
def jy(K:ac (Nat×gu))(xf:dh)(h:∀l,S.pre l->∀H aH,S.hp H->aU.ok ⟨cX bl (dc aT.ctx (cf K)) (bQ+1),bQ+1,f,H,[],aH,Fin S l xf.res⟩ ⟨[],.c xf.body,⟨[],0,nI 0 (S.args l)⟩⟩)
 (J:bl.get f=some xf:=by kernel_rfl) (hl:∀l,(S.args l).length<=xf.aO:=by exact fun _=>jN rfl):a9 aT.ctx f S.spec:=KR aT.fA gF (cf K) J hl h
def QN(K:ac (Nat×gu))(xf:dh){S:ht}(h:∀l,S.pre l->∀H i0 aH,i0.length=(S.own l).length->aU.ok ⟨cX bl (dc aT.ctx (cf K)) (bQ+1),bQ+1,f,H,i0,aH,E4 S l xf.res⟩ ⟨[],.c xf.body,⟨S.own l,(S.own l).length,nI 0 (S.args l)⟩⟩)
 (J:bl.get f=some xf:=by kernel_rfl) (hl:∀l,(S.args l).length<=xf.aO:=by exact fun _=>jN rfl):a9 aT.ctx f S.spec:=aeH aT.fA gF (cf K) J hl h
def eY(d:Nat):ac ab:=[.i .u32 d]
def cQ(ds:ac Nat):ab:=.cc 1 Nat eY ds
def c0(n:Nat):ab:=cQ (aR 4294967296 n)
def uK(h:n=m)(h1: -9223372036854775808<=n)(h2:n<9223372036854775808):IntKind.i64.wrap n=m:=by rw[gL h1 h2,h]
def aup(h:n%4294967296=m):IntKind.u32.wrap n=m:=by
 rw[<-kt];show yS 4294967296 n=m;rw[rP _ _ (by decide)];exact h
def JF(n:Int):IntKind.u64.wrap n=n%18446744073709551616:=by
 rw[<-kt];exact rP _ _ (by decide)
def Jy:bh where
 L:=ac Nat
 args:=fun ds=>[cQ ds]
 pre:=fun ds=>ds.length<=1099511627776
 res:=fun ds=>cQ (eG ds)
def ate:a9 aT.ctx 165 Jy.spec:=by
 refine bH [] SK.1 ?_;intro(ds:ac Nat) (hp:ds.length<=1099511627776) H aH;refine I ?_;refine c6 (fun es:ac Nat=>eG es=eG ds∧es.length<=ds.length) (fun es=>⟨[],0,[(0,cQ es)]⟩) List.length [] ds ⟨rfl,bY _⟩ (by show ds.length<bQ+1;unfold bQ;omega) eP ?_;rintro es ⟨h1,h2⟩;rcases zbU es with rfl|⟨cM,d,rfl⟩
 ·refine I ?_;exact ar rfl (.of (by rw[show Jy.res ds=cQ (eG ds)from rfl,<-h1];rfl))
 ·rw[zbV]at *;have hl:(cM++[d]).length=cM.length+1:=by simp
  refine I ?_;refine ah 6 (.b true) rfl (by simp) (I ?_);refine ah 10 (.i .i64 (cM.length:Nat)) rfl (by rw[hl,gL]<;>simp<;>omega) ?_;refine er (MJ rfl rfl (show(cM++[d])[cM.length]? =some d by simp)) ?_;refine I ?_;refine yB rfl (fun al=> ?_) (fun al=> ?_)
  ·have al:d=0:=by simpa using al
   refine I ?_;refine ah 18 (.i .i64 (cM.length:Nat)) rfl (by rw[hl,gL]<;>simp<;>omega) ?_;refine er (OY (p:=0) rfl rfl ⟨_,rfl⟩ (zag _) (by simp)) ?_;refine I ?_;refine a1 [] cM ⟨by simp,by rw[<-h1,rN,zab al],by omega⟩ (iO ⟨?_,trivial⟩);simp[dZ,lA,cQ]
  ·have al:d≠0:=by simpa using al
   refine I ?_;exact ar rfl (.of (by rw[show Jy.res ds=cQ (eG ds)from rfl,<-h1,rN,zaa al]))
def te:bh where
 L:=ac Nat
 args:=fun ds=>[cQ ds]
 pre:=fun ds=>cT 4294967296 ds∧ds.length<=1099511627776
 res:=fun ds=>c0 (val 4294967296 ds)
def tf:a9 aT.ctx 83 te.spec:=by
 refine bH [(165,Jy.spec)] UP.1 ?_;intro(ds:ac Nat) ⟨(h1:cT 4294967296 ds),(h2:ds.length<=_)⟩ H aH;refine I ?_;refine aL ate ds h2 (I ?_);exact ar rfl (.of (by show cQ (eG ds)=cQ _;rw[yM (by decide) h1]))
def v9:bh where
 L:=Nat
 args:=fun n=>[.i .u64 n]
 pre:=fun n=>n<18446744073709551616
 res:=fun n=>c0 n
def oG:a9 aT.ctx 32 v9.spec:=by
 refine bH [(83,te.spec)] TH.1 ?_;intro(n:Nat) (hp:n<18446744073709551616) H aH;refine I ?_;refine ZH 0 (z:=1) (R:=eY) [n%4294967296,n/4294967296] rfl (by show[ab.i _ _,ab.i _ _]=[ab.i _ _,ab.i _ _];rw[show n/2^32%4294967296=n/4294967296 by omega]) (fun _=>rfl) ?_;refine ZJ 8 [n%4294967296,n/4294967296] rfl rfl rfl rfl (by decide) (fun _=>rfl) ?_;refine aL tf [n%4294967296,n/4294967296] ⟨fun x J=> ?_,by simp⟩ ?_
 ·simp at J;rcases J with rfl|rfl<;>omega
 refine I ?_;exact ar rfl (.of (by show c0 _=c0 _;simp[val];congr 1;omega))
def dF(k n:Nat):Prop:=(aR 4294967296 n).length<=k
variable{k b x j a:Nat}{us l:ac Nat}{X d s r y o B h c P R v i V:Nat}{neg:Bool}{p q:Nat}
def Fb:bh where
 L:=Nat×Nat
 args:=fun(a,b)=>[c0 a,c0 b]
 pre:=fun(a,b)=>dF 1073741824 a∧dF 1073741824 b
 res:=fun(a,b)=>c0 (a+b)
def J6:a9 aT.ctx 88 Fb.spec:=by
 refine bH [(83,te.spec)] UU.1 ?_;intro⟨a,b⟩ ⟨(ha:(aR _ a).length<=_),(hb:(aR _ b).length<=_)⟩ H aH;show aU.ok _ ⟨_,_,⟨_,_,[(0,cQ (aR 4294967296 a)),(1,cQ (aR 4294967296 b))]⟩⟩;refine I ?_;refine fJ (fun((xs:ac Nat),(ao:ac Nat))=>ao.length<=xs.length∧xs.length<=1073741824∧cT 4294967296 xs∧cT 4294967296 ao∧val 4294967296 xs+val 4294967296 ao=a+b) (fun(xs,ao)=>⟨[],0,[(0,cQ xs),(1,cQ ao)]⟩) ?_ ?_
 ·refine b9 (fun h=> ?_) (fun h=> ?_)
  ·have h:(aR 4294967296 a).length<(aR 4294967296 b).length:=by omega
   refine I ?_;exact a1 [] (aR _ b,aR _ a) ⟨by omega,hb,gb (by decide) _,gb (by decide) _,by rw[fP (by decide),fP (by decide),zbS]⟩ eP
  ·have h:(aR 4294967296 b).length<=(aR 4294967296 a).length:=by omega
   refine I ?_;exact a1 [] (aR _ a,aR _ b) ⟨h,ha,gb (by decide) _,gb (by decide) _,by rw[fP (by decide),fP (by decide)]⟩ eP
 rintro⟨xs,ao⟩ ⟨hl,J,h1,h2,ae⟩;refine I ?_;refine ah 18 (.i .i64 ((xs.length+1:Nat):Int)) rfl bx ?_;refine pB eY 0 ?_;refine I ?_;refine c6 (L:=Nat×ac Nat×Nat) (fun(i,outs,c)=>i<=xs.length∧outs.length=xs.length+1∧cT 4294967296 outs∧c<=1∧val 4294967296 (outs.take i)+4294967296^i*c=val 4294967296 (xs.take i)+val 4294967296 (ao.take i))
  (fun((i:Nat),(outs:ac Nat),(c:Nat))=>⟨[.a 165 false 1 Nat eY outs],1,[(0,cQ xs),(1,cQ ao),(5,.aY 0 1 0 (xs.length+1) (xs.length+1)),(6,.i .u64 c),(20,cQ xs),(21,.i .i64 xs.length),(22,.i .i64 i)]⟩)
  (fun l=>xs.length-l.1) [0] (0,List.replicate (xs.length+1) 0,0) ⟨by omega,by simp,sA (by decide) _,by omega,by simp[val]⟩ (by show xs.length-0<bQ+1;unfold bQ;omega) dD ?_
 rintro⟨i,outs,c⟩ ⟨hi,gS,bI,hc,aF⟩;refine I ?_;refine b9 (fun h=> ?_) (fun h=> ?_)
 ·have h:i<xs.length:=by omega
  have De:xs[i]? =some xs[i]:=bF h;have aV:=h1 _ (dV h);refine I ?_;refine dP xs[i] De ?_;refine I ?_;refine fJ (fun y=>y<4294967296∧val 4294967296 (ao.take (i+1))=val 4294967296 (ao.take i)+4294967296^i*y) (fun(y:Nat)=>⟨[.a 165 false 1 Nat eY outs],1,[(0,cQ xs),(1,cQ ao),(5,.aY 0 1 0 (xs.length+1) (xs.length+1)),(6,.i .u64 ((c+xs[i]+y:Nat):Int)),(7,.i .i64 i),(20,cQ xs),(21,.i .i64 xs.length),(22,.i .i64 i)]⟩) ?_ ?_
  ·refine b9 (fun az=> ?_) (fun az=> ?_)
   ·have az:i<ao.length:=by simpa using az
    have Dg:ao[i]? =some ao[i]:=bF az;have CO:=h2 _ (dV az);refine I ?_;refine dP ao[i] Dg ?_;refine I ?_;refine a1 [0] ao[i] ⟨CO,hN az⟩ (dH ⟨rfl,rfl,rfl,?_,rfl,rfl,rfl,rfl,trivial⟩ ⟨_,rfl,rfl,fun _=>rfl⟩);exact lX
   ·have az:ao.length<=i:=by simpa using az
    refine I ?_;refine a1 [0] 0 ⟨by decide,by rw[jM (by omega),jM az];simp⟩ (dH ⟨rfl,rfl,rfl,?_,rfl,rfl,rfl,rfl,trivial⟩ ⟨_,rfl,rfl,fun _=>rfl⟩);exact lX
  rintro y ⟨aA,fV⟩;refine I ?_;refine ix ?_;refine kp ((c+xs[i]+y)%4294967296) ?_;refine I ?_;refine a1 [0] (i+1,outs.set i ((c+xs[i]+y)%4294967296),(c+xs[i]+y)/4294967296) ⟨by show xs.length-(i+1)<xs.length-i;omega,by omega,by simp[gS],mH bI _ (zaf _ (by decide)),by omega,?_⟩ (dH ⟨rfl,rfl,rfl,rfl,rfl,rfl,?_,trivial⟩ ⟨_,rfl,rfl,fun _=>rfl⟩)
  ·rw[hN (l:=outs.set i _) (by simp;omega),hN h,fV,zaU (bY _),zaR,zak];exact PV (by decide) aF
  ·exact eS
 ·have h:i=xs.length:=by have:xs.length<=i:=by omega
                         omega
  subst h;refine I ?_;refine ix ?_;refine kp (c%4294967296) ?_;refine I ?_;refine ko 56 ?_;refine aL tf (outs.set xs.length (c%4294967296)) ⟨mH bI _ (zaf _ (by decide)),by simp[gS];omega⟩ (I ?_);refine ar rfl (.of ?_);show c0 _=c0 _;congr 1;rw[<-jM (i:=xs.length+1) (by simp[gS]),hN (by simp;omega),zaU (bY _),zaR,dJ (by omega),aF,jM (bY _),jM hl,ae]
def aa0:bh where
 L:=Nat×Nat
 args:=fun(a,b)=>[c0 a,c0 b]
 pre:=fun(a,b)=>dF 1073741824 a∧b<=a
 res:=fun(a,b)=>c0 (a-b)
def M9(h:b<=a):(aR 4294967296 b).length<=(aR 4294967296 a).length:=by
 have h1:=j7 (gb (b:=4294967296) (by decide) a);rw[fP (by decide)]at h1;exact iW (by decide) (by omega)
def aa3:a9 aT.ctx 230 aa0.spec:=by
 refine bH [(83,te.spec)] S8.1 ?_;intro⟨a,b⟩ ⟨(ha:(aR _ a).length<=_),(hb:b<=a)⟩ H aH;have hl:=M9 hb;have h1:=gb (b:=4294967296) (by decide) a;have h2:=gb (b:=4294967296) (by decide) b;have iR:=fP (b:=4294967296) (by decide) a;have og:=fP (b:=4294967296) (by decide) b;show aU.ok _ ⟨_,_,⟨_,_,[(0,cQ (aR 4294967296 a)),(1,cQ (aR 4294967296 b))]⟩⟩;generalize aR 4294967296 a=xs at *;generalize aR 4294967296 b=ao at *;refine I ?_;refine pB eY 0 ?_;refine I ?_;refine c6 (L:=Nat×ac Nat×Nat) (fun(i,outs,c)=>i<=xs.length∧outs.length=xs.length∧cT 4294967296 outs∧c<=1∧val 4294967296 (xs.take i)+4294967296^i*c=val 4294967296 (outs.take i)+val 4294967296 (ao.take i))
  (fun((i:Nat),(outs:ac Nat),(c:Nat))=>⟨[.a 165 false 1 Nat eY outs],1,[(0,cQ xs),(1,cQ ao),(5,.aY 0 1 0 xs.length xs.length),(6,.i .u64 c),(13,cQ xs),(14,.i .i64 xs.length),(15,.i .i64 i)]⟩)
  (fun l=>xs.length-l.1) [0] (0,List.replicate xs.length 0,0) ⟨by omega,by simp,sA (by decide) _,by omega,by simp[val]⟩ (by show xs.length-0<bQ+1;unfold bQ;omega) dD ?_
 rintro⟨i,outs,c⟩ ⟨hi,gS,bI,hc,aF⟩;refine I ?_;refine b9 (fun h=> ?_) (fun h=> ?_)
 ·have h:i<xs.length:=by omega
  have De:xs[i]? =some xs[i]:=bF h;have aV:=h1 _ (dV h);refine I ?_;refine dP xs[i] De ?_;refine I ?_;refine fJ (fun y=>y<4294967296∧val 4294967296 (ao.take (i+1))=val 4294967296 (ao.take i)+4294967296^i*y) (fun(y:Nat)=>⟨[.a 165 false 1 Nat eY outs],1,[(0,cQ xs),(1,cQ ao),(5,.aY 0 1 0 xs.length xs.length),(9,.i .u64 (((xs[i]+18446744073709551616-c-y)%18446744073709551616:Nat):Int)),(7,.i .i64 i),(13,cQ xs),(14,.i .i64 xs.length),(15,.i .i64 i)]⟩) ?_ ?_
  ·refine b9 (fun az=> ?_) (fun az=> ?_)
   ·have az:i<ao.length:=by simpa using az
    have Dg:ao[i]? =some ao[i]:=bF az;have CO:=h2 _ (dV az);refine I ?_;refine dP ao[i] Dg ?_;refine I ?_;exact a1 [0] ao[i] ⟨CO,hN az⟩ (dH ⟨rfl,rfl,rfl,lX,rfl,rfl,rfl,rfl,trivial⟩ ⟨_,rfl,rfl,fun _=>rfl⟩)
   ·have az:ao.length<=i:=by simpa using az
    refine I ?_;exact a1 [0] 0 ⟨by decide,by rw[jM (by omega),jM az];simp⟩ (dH ⟨rfl,rfl,rfl,lX,rfl,rfl,rfl,rfl,trivial⟩ ⟨_,rfl,rfl,fun _=>rfl⟩)
  rintro y ⟨aA,fV⟩;generalize aN:(xs[i]+18446744073709551616-c-y)%18446744073709551616=t;refine I ?_;refine ix ?_;refine kp (t%4294967296) ?_;refine I ?_;refine a1 [0] (i+1,outs.set i (t%4294967296),t/9223372036854775808) ⟨by show xs.length-(i+1)<xs.length-i;omega,by omega,by simp[gS],mH bI _ (zaf _ (by decide)),by omega,?_⟩ (dH ⟨rfl,rfl,rfl,rfl,rfl,rfl,eS,trivial⟩ ⟨_,rfl,rfl,fun _=>rfl⟩);rw[hN (l:=outs.set i _) (by simp;omega),hN h,fV,zaU (bY _),zaR,zak];exact aa4 aF (by omega)
 ·have h:i=xs.length:=by have:xs.length<=i:=by omega
                         omega
  subst h;refine I ?_;refine ko 43 ?_;refine aL tf outs ⟨bI,by omega⟩ (I ?_);refine ar rfl (.of ?_);show c0 _=c0 _;congr 1;rw[jM (bY _),jM (l:=outs) (by omega),jM hl]at aF;have h3:=j7 bI;rw[gS]at h3;have oA:c=0:=by
   rcases zan 0 c with h|h
   ·have:c=1:=by omega
    rw[this]at aF;omega
   ·omega
  rw[oA]at aF;show _=a-b;omega
def w9:bh where
 L:=Nat×Nat
 args:=fun(a,b)=>[c0 a,c0 b]
 pre:=fun(a,b)=>dF 1073741824 a∧dF 1073741824 b
 res:=fun(a,b)=>.i .i64 (hR a b)
def zr(h:a<b):hR a b= -1:=by unfold hR;rw[zab h]
def FC(h:b<a):hR a b=1:=by unfold hR;rw[zaa (by omega),zaa (by omega)]
def Q1(a:Nat):hR a a=0:=by unfold hR;simp
def FV{m:Nat}(h:m<l.length):l=l.take m++l[m]::l.drop (m+1):=by
 rw[<-hB h,zbn]
def BU:a9 aT.ctx 42 w9.spec:=by
 refine bH [] Uk.1 ?_;intro⟨a,b⟩ ⟨(ha:(aR _ a).length<=_),(hb:(aR _ b).length<=_)⟩ H aH;have h1:=gb (b:=4294967296) (by decide) a;have h2:=gb (b:=4294967296) (by decide) b;have t1:=r1 (b:=4294967296) (by decide) a;have t2:=r1 (b:=4294967296) (by decide) b;have iR:=fP (b:=4294967296) (by decide) a;have og:=fP (b:=4294967296) (by decide) b;show aU.ok _ ⟨_,_,⟨_,_,[(0,cQ (aR 4294967296 a)),(1,cQ (aR 4294967296 b))]⟩⟩;generalize aR 4294967296 a=xs at *;generalize aR 4294967296 b=ao at *;have fin:∀{r:Int},hR a b=r->bZ (.i .i64 r) (w9.res (a,b)):=fun h=>by rw[<-h];exact .refl _
 refine I ?_;refine b9 (fun h=> ?_) (fun h=> ?_)
 ·have h:xs.length≠ao.length:=by omega
  refine I ?_;refine b9 (fun h=> ?_) (fun h=> ?_)
  ·have h:xs.length<ao.length:=by omega
   refine I ?_;have:=HB (b:=4294967296) (by decide) h1 t2 h;exact ar rfl (fin (zr (by omega)))
  ·have h:ao.length<xs.length:=by have:ao.length<=xs.length:=by omega
                                  omega
   refine I ?_;have:=HB (b:=4294967296) (by decide) h2 t1 h;exact ar rfl (fin (FC (by omega)))
 have h:xs.length=ao.length:=by omega
 refine I ?_;refine c6 (L:=Nat) (fun k=>k<=xs.length∧xs.drop k=ao.drop k) (fun(k:Nat)=>⟨[],0,[(0,cQ xs),(1,cQ ao),(5,.i .i64 ((k:Int)-1))]⟩) id [] xs.length ⟨bY _,by rw[zcD,h,zcD]⟩ (by show xs.length<bQ+1;unfold bQ;omega) (iO ⟨rfl,rfl,eS,trivial⟩) ?_;rintro(k:Nat) ⟨U,al⟩;cases k with
 |zero=>
  refine I ?_;exact ar rfl (fin (by simp at al;rw[al]at iR;rw[<-iR,<-og];exact Q1 _))
 |succ m=>
  have J:m<xs.length:=by omega
  have aA:m<ao.length:=by omega
  have e:((m+1:Nat):Int)-1=(m:Nat):=by omega
  refine ah 5 (.i .i64 (m:Nat)) rfl (ev e) (I ?_);refine ah 20 (.b true) rfl (by simp) (I ?_);refine hS xs[m] (bF J) ?_;refine I ?_;refine hS ao[m] (bF aA) ?_;refine I ?_;have hg:=FV J;have mR:=FV aA;refine b9 (fun h=> ?_) (fun h=> ?_)
  ·have cl:xs[m]≠ao[m]:=by omega
   refine I ?_;refine hS xs[m] (bF J) ?_;refine I ?_;refine hS ao[m] (bF aA) ?_;refine I ?_;refine b9 (fun h=> ?_) (fun h=> ?_)
   ·have aV:xs[m]<ao[m]:=by omega
    refine I ?_;refine ar rfl (fin (zr ?_));rw[<-iR,<-og,hg,mR,al];exact Jx (fun x J=>h1 x (zbH J)) (by simp;omega) aV
   ·have aV:ao[m]<xs[m]:=by have:ao[m]<=xs[m]:=by omega
                            omega
    refine I ?_;refine ar rfl (fin (FC ?_));rw[<-iR,<-og,hg,mR,al];exact Jx (fun x J=>h2 x (zbH J)) (by simp;omega) aV
  ·have he:xs[m]=ao[m]:=by omega
   refine I ?_;refine a1 [] m ⟨by simp,by omega,?_⟩ (iO ⟨rfl,rfl,eS,trivial⟩);rw[hB J,hB aA,he,al]
def Ns(hc:c<4294967296)(J:x<4294967296)(aA:y<4294967296)(ai:o<4294967296):x*y<18446744073709551616∧x*y+o<18446744073709551616∧c+(x*y+o)<18446744073709551616:=by
 have h1:x*y<=4294967295*4294967295:=zdH (by omega) (by omega);omega
def XI{Q:Nat}(hH:P=Q*R)(h:o+P*c=a+Q*(x*b)):o+P*((c+(x*y+d))%B)+P*B*((c+(x*y+d))/B)=a+P*d+Q*(x*(b+R*y)):=by
 have h1:P*(c+(x*y+d))=P*((c+(x*y+d))%B)+P*B*((c+(x*y+d))/B):=by
  rw[zar,<-zaB,zes]
 have h2:Q*(x*(b+R*y))=Q*(x*b)+P*(x*y):=by
  rw[hH,zaB,zaB,zar Q R,Nat.mul_left_comm x R y]
 rw[zaB,zaB]at h1;omega
def As:bh where
 L:=Nat×Nat
 args:=fun(a,b)=>[c0 a,c0 b]
 pre:=fun(a,b)=>dF 1073741824 a∧dF 1073741824 b
 res:=fun(a,b)=>c0 (a*b)
def su:a9 aT.ctx 40 As.spec:=by
 refine bH [(83,te.spec)] Uf.1 ?_;intro⟨a,b⟩ ⟨(ha:(aR _ a).length<=_),(hb:(aR _ b).length<=_)⟩ H aH;have h1:=gb (b:=4294967296) (by decide) a;have h2:=gb (b:=4294967296) (by decide) b;have iR:=fP (b:=4294967296) (by decide) a;have og:=fP (b:=4294967296) (by decide) b;show aU.ok _ ⟨_,_,⟨_,_,[(0,cQ (aR 4294967296 a)),(1,cQ (aR 4294967296 b))]⟩⟩;generalize aR 4294967296 a=xs at *;generalize aR 4294967296 b=ao at *;refine I ?_;refine ah 15 (.i .i64 ((xs.length+ao.length:Nat):Int)) rfl bx ?_;refine pB eY 0 ?_;refine I ?_;refine c6 (L:=Nat×ac Nat) (fun(i,outs)=>i<=xs.length∧outs.length=xs.length+ao.length∧cT 4294967296 outs∧val 4294967296 (outs.take (i+ao.length))=val 4294967296 (xs.take i)*val 4294967296 ao)
  (fun((i:Nat),(outs:ac Nat))=>⟨[.a 165 false 1 Nat eY outs],1,[(1,cQ ao),(5,.aY 0 1 0 (xs.length+ao.length) (xs.length+ao.length)),(17,cQ xs),(18,.i .i64 xs.length),(19,.i .i64 i)]⟩)
  (fun l=>xs.length-l.1) [0] (0,List.replicate (xs.length+ao.length) 0) ⟨by omega,by simp,sA (by decide) _,by simp[val,val_zero]⟩ (by show xs.length-0<bQ+1;unfold bQ;omega) dD ?_
 rintro⟨i,outs⟩ ⟨hi,gS,bI,aF⟩;refine I ?_;refine b9 (fun h=> ?_) (fun h=> ?_)
 ·have h:i<xs.length:=by omega
  have lo:=h1 _ (dV h);refine I ?_;refine dP xs[i] (bF h) ?_;refine I ?_;refine c6 (L:=Nat×ac Nat×Nat) (fun(j,os,c)=>j<=ao.length∧os.length=xs.length+ao.length∧cT 4294967296 os∧c<4294967296∧(∀k,i+j<=k->os[k]? =outs[k]?)∧val 4294967296 (os.take (i+j))+4294967296^(i+j)*c=val 4294967296 (outs.take (i+j))+4294967296^i*(xs[i]*val 4294967296 (ao.take j)))
   (fun((j:Nat),(os:ac Nat),(c:Nat))=>⟨[.a 165 false 1 Nat eY os],1,[(1,cQ ao),(5,.aY 0 1 0 (xs.length+ao.length) (xs.length+ao.length)),(17,cQ xs),(18,.i .i64 xs.length),(19,.i .i64 i),(6,.i .i64 i),(7,.i .u32 (xs[i]:Nat)),(8,.i .u64 c),(24,cQ ao),(25,.i .i64 ao.length),(26,.i .i64 j)]⟩)
   (fun l=>ao.length-l.1) [0] (0,outs,0) ⟨by omega,gS,bI,by omega,fun _ _=>rfl,by simp[val]⟩ (by show ao.length-0<bQ+1;unfold bQ;omega) dD ?_
  rintro⟨j,os,c⟩ ⟨hj,CX,tK,hc,my,k3⟩;refine I ?_;refine b9 (fun q4=> ?_) (fun q4=> ?_)
  ·have q4:j<ao.length:=by omega
   have He:=h2 _ (dV q4);have jD:i+j<os.length:=by omega
   have Mo:os[i+j]=outs[i+j]:=by
    have:=my (i+j) (bY _);rw[bF jD,bF (by omega)]at this;exact Option.some.inj this
   have Mp:=tK _ (dV jD);obtain⟨aG,aI,a4⟩:=Ns hc lo He Mp;refine I ?_;refine dP ao[j] (bF q4) ?_;refine I ?_;refine ah 40 (.i .i64 ((i+j:Nat):Int)) rfl bx ?_;refine ix ?_;refine pA os[i+j] (bF jD) ?_
   iterate 3 refine gW ?_
   refine ah 45 (.i .u64 ((c+(xs[i]*ao[j]+os[i+j]):Nat):Int)) rfl (ev ?_) ?_
   ·have aq:xs[i]%18446744073709551616=xs[i]:=by omega
    have e2:ao[j]%18446744073709551616=ao[j]:=by omega
    have bV:os[i+j]%18446744073709551616=os[i+j]:=by omega
    rw[aq,e2,bV,dJ aG,dJ aI,dJ a4]
   refine I ?_;refine ah 49 (.i .i64 ((i+j:Nat):Int)) rfl bx ?_;generalize gg:c+(xs[i]*ao[j]+os[i+j])=T at *;refine ix ?_;refine kp (T%4294967296) ?_;refine I ?_;refine a1 [0] (j+1,os.set (i+j) (T%4294967296),T/4294967296) ⟨by show ao.length-(j+1)<ao.length-j;omega,by omega,by simp[CX],mH tK _ (zaf _ (by decide)),by omega,fun k U=>by rw[zbo (by omega)];exact my k (by omega),?_⟩
    (dH ⟨rfl,rfl,rfl,rfl,rfl,rfl,rfl,rfl,rfl,rfl,eS,trivial⟩ ⟨_,rfl,rfl,fun _=>rfl⟩)
   rw[<-zbT,hN (l:=os.set (i+j) _) (by simp;omega),hN (l:=outs) (by omega),hN q4,zaU (bY _),zaR,zak,<-Mo,<-gg];exact XI (by rw[zal]) k3
  ·have hj:j=ao.length:=by omega
   subst hj;refine I ?_;refine ah 60 (.i .i64 ((i+ao.length:Nat):Int)) rfl bx (I ?_);refine ix ?_;refine kp (c%4294967296) ?_;refine I ?_;refine a1 [0] (i+1,os.set (i+ao.length) (c%4294967296)) ⟨by show xs.length-(i+1)<xs.length-i;omega,by omega,by simp[CX],mH tK _ (zaf _ (by decide)),?_⟩ (dH ⟨rfl,rfl,rfl,rfl,eS,trivial⟩ ⟨_,rfl,rfl,fun _=>rfl⟩);rw[show i+1+ao.length=i+ao.length+1 by omega,hN (l:=os.set _ _) (by simp;omega),zaU (bY _),zaR,dJ hc,k3,aF,hN h,jM (bY _),zam,zar]
 ·have hi:i=xs.length:=by omega
  subst hi;refine I ?_;refine ko 65 ?_;refine aL tf outs ⟨bI,by omega⟩ (I ?_);refine ar rfl (.of ?_);show c0 _=c0 _;congr 1;rw[jM (l:=xs) (bY _),jM (l:=outs) (by omega)]at aF;rw[aF,iR,og]
def aaJ{O:Nat}(h:X=O*d+r):x+B*X=((r*B+x)/d+B*O)*d+(r*B+x)%d:=by
 have h1:=zaS (r*B+x) d;rw[zam,h,zar,zaj (_/d) d,zaB,zaj r B]at *;omega
def aaI(hr:r<d)(J:x<B):(r*B+x)/d<B:=by
 rw[zbi (by omega)];have:(r+1)*B<=d*B:=fK _ hr;rw[zaj B d];rw[zam]at this;omega
def YF(J:x<2^k):h*2^k|||x=h*2^k+x:=by
 rw[zaj,<-zet J]
def NZ(hr:r<4294967296)(J:x<4294967296):(r*2^32%18446744073709551616%18446744073709551616|||x%18446744073709551616%18446744073709551616)=r*4294967296+x:=by
 have aq:r*2^32%18446744073709551616%18446744073709551616=r*2^32:=by omega
 have e2:x%18446744073709551616%18446744073709551616=x:=by omega
 rw[aq,e2,YF (k:=32) J]
def OZ:bh where
 L:=Nat×Nat
 args:=fun(a,b)=>[c0 a,.i .u32 b]
 pre:=fun(a,b)=>dF 1073741824 a∧0<b∧b<4294967296
 res:=fun(a,b)=>.bu [c0 (a/b),.i .u32 ((a%b:Nat):Int)]
def O0:a9 aT.ctx 159 OZ.spec:=by
 refine bH [(83,te.spec)] SE.1 ?_;intro⟨a,d⟩ ⟨(ha:(aR _ a).length<=_),(tA:0<d),(al:d<_)⟩ H aH;have h1:=gb (b:=4294967296) (by decide) a;have iR:=fP (b:=4294967296) (by decide) a;show aU.ok _ ⟨_,_,⟨_,_,[(0,cQ (aR 4294967296 a)),(1,.i .u32 d)]⟩⟩;generalize aR 4294967296 a=xs at *;refine I ?_;refine pB eY 0 ?_;refine I ?_;refine c6 (L:=Nat×ac Nat×Nat) (fun(k,outs,r)=>k<=xs.length∧outs.length=xs.length∧cT 4294967296 outs∧r<d∧val 4294967296 (xs.drop k)=val 4294967296 (outs.drop k)*d+r)
  (fun((k:Nat),(outs:ac Nat),(r:Nat))=>⟨[.a 165 false 1 Nat eY outs],1,[(0,cQ xs),(1,.i .u32 d),(4,.aY 0 1 0 xs.length xs.length),(6,.i .u64 r),(7,.i .i64 ((k:Int)-1))]⟩)
  (fun l=>l.1) [0] (xs.length,List.replicate xs.length 0,0) ⟨by omega,by simp,sA (by decide) _,tA,by simp[val]⟩ (by show xs.length<bQ+1;unfold bQ;omega) (dH ⟨rfl,rfl,rfl,rfl,eS,trivial⟩ ⟨_,rfl,rfl,fun _=>rfl⟩) ?_
 rintro⟨k,outs,r⟩ ⟨U,gS,bI,hr,aF⟩;cases k with
 |zero=>
  refine I ?_;refine ko 38 ?_;refine aL tf outs ⟨bI,by omega⟩ (I ?_);rw[zaq,zaq]at aF;have hq:a/d=val 4294967296 outs:=by rw[<-iR,aF,zaj];rw[zdI tA,zaW hr];omega
  have hm:a%d=r:=by rw[<-iR,aF,zaj,Nat.mul_add_mod,dJ hr]
  exact ar rfl (.bu ⟨.of (by show c0 _=c0 (a/d);rw[hq]),.of (ev (by show((r%4294967296:Nat):Int)=((a%d:Nat):Int);omega)),trivial⟩)
 |succ m=>
  have J:m<xs.length:=by omega
  have lo:=h1 _ (dV J);have pa:=aaI hr lo;have gg:r*4294967296+xs[m]<18446744073709551616:=by
   have:(r+1)*4294967296<=4294967296*4294967296:=fK _ (by omega);omega
  refine ah 7 (.i .i64 (m:Nat)) rfl ev (I ?_);refine ah 15 (.b true) rfl (by simp) (I ?_);refine dP xs[m] (bF J) ?_
  iterate 3 refine gW ?_
  refine ah 25 (.i .u64 ((r*4294967296+xs[m]:Nat):Int)) rfl (ev (congrArg _ (NZ (by omega) lo))) ?_;generalize xx:r*4294967296+xs[m]=T at *;refine I ?_;refine ah 30 (.i .u64 (d:Nat)) rfl ev ?_;refine aqi ?_;refine I ?_;refine ix ?_;refine kp (T/d%4294967296) ?_;refine I ?_;refine ah 36 (.i .u64 (d:Nat)) rfl ev ?_;refine ZK ?_;refine I ?_;have ae:xs.drop m=xs[m]::xs.drop (m+1):=hB J;refine a1 [0] (m,outs.set m (T/d%4294967296),T%d) ⟨by simp,by omega,by simp[gS],mH bI _ (zaf _ (by decide)),zaf _ tA,?_⟩ (dH ⟨rfl,rfl,rfl,rfl,eS,trivial⟩ ⟨_,rfl,rfl,fun _=>rfl⟩);rw[ae,hB (l:=outs.set m _) (by simp;omega),zaR,zcT (by omega),dJ pa,<-xx];exact aaJ aF
def aax(ae:s<32)(hh:h<2^s):h|||(x*2^s)%4294967296=h+(x*2^s)%4294967296:=by
 have e:4294967296=2^s*2^(32-s):=by rw[<-zal,show s+(32-s)=32 by omega]
 have e2:(x*2^s)%4294967296=2^s*(x%2^(32-s)):=by rw[e,zaj x,Nat.mul_mod_mul_left]
 rw[e2,zcE,<-zet hh,zbS]
def Im(ae:s<32):2^s<=2147483648:=by
 have:2^s<=2^31:=zat (by decide) (by omega);exact this
def ara(ae:s<32)(J:x<4294967296):x*2^s<9223372036854775808:=by
 have h1:x*2^s<=4294967295*2147483648:=zdH (by omega) (Im ae);omega
def aq9(J:x<4294967296):x*2^s/4294967296<2^s:=by
 have h0:0<2^s:=zah s;rw[zbi (by decide),zaj];exact(Nat.mul_lt_mul_left h0).2 J
def arc(aF:o+P*h=a):o+P*(h+v%4294967296)+P*4294967296*(v/4294967296)=a+P*v:=by
 have h1:P*v=P*(v%4294967296)+P*4294967296*(v/4294967296):=by
  rw[zar,<-zaB];congr 1;omega
 rw[zaB];omega
def OT(n:Nat):2^n=2^(n%32)*4294967296^(n/32):=by
 rw[show(4294967296:Nat)=2^32 from rfl,<-zbw,<-zal];congr 1;omega
def YX(h:k<9223372036854775808):ab.i .i64 (IntKind.i64.wrap ((k:Int).tdiv 32))=ab.i .i64 ((k/32:Nat):Int):=bx rfl (by show _<=((k/32:Nat):Int);omega) (by show((k/32:Nat):Int)<_;omega)
def Jf:bh where
 L:=Nat×Nat
 args:=fun(a,b)=>[c0 a,.i .i64 b]
 pre:=fun(a,b)=>dF 1073741824 a∧b<34359738368
 res:=fun(a,b)=>c0 (a*2^b)
def A6:a9 aT.ctx 161 Jf.spec:=by
 refine bH [(83,te.spec)] SG.1 ?_;intro⟨a,n⟩ ⟨(ha:(aR _ a).length<=_),(hn:n<_)⟩ H aH;have h1:=gb (b:=4294967296) (by decide) a;have iR:=fP (b:=4294967296) (by decide) a;show aU.ok _ ⟨_,_,⟨_,_,[(0,cQ (aR 4294967296 a)),(1,.i .i64 n)]⟩⟩;generalize aR 4294967296 a=xs at *;refine I ?_;refine b9 (fun h=> ?_) (fun h=> ?_)
 ·have h0:xs=[]:=zbB (by omega);subst h0;have:a=0:=iR.symm;subst this;refine I ?_;exact ar rfl (bZ.nl.trans (.of (by show cQ []=c0 (0*2^n);rw[zav];show _=cQ (aR _ 0);rw[fG])))
 iterate 2 refine gW ?_
 refine gW ?_;refine gW ?_;refine gW ?_;refine gW ?_;refine gW ?_;refine ah 15 _ rfl (YX (by omega)) ?_
 iterate 3 refine gW ?_
 refine ah 17 (.i .i64 ((n%32:Nat):Int)) rfl (ev rfl) ?_;generalize hq:n/32=q;have ae:n%32<32:=zaf _ (by decide);have kZ:=OT n;rw[hq]at kZ;generalize n%32=s at *;refine I ?_;refine ah 23 (.i .i64 ((xs.length+q+1:Nat):Int)) rfl (by rw[gL (n:=(xs.length:Int)+q) (by omega) (by omega)];exact bx) ?_;refine pB eY 0 ?_;refine I ?_;refine c6 (L:=Nat×ac Nat) (fun(i,outs)=>i<=xs.length∧outs.length=xs.length+q+1∧cT 4294967296 outs∧(∃h,outs[i+q]? =some h∧h<2^s)∧val 4294967296 (outs.take (i+q+1))=val 4294967296 (xs.take i)*(2^s*4294967296^q))
  (fun((i:Nat),(outs:ac Nat))=>⟨[.a 165 false 1 Nat eY outs],1,[(5,.i .i64 q),(6,.i .u64 s),(7,.aY 0 1 0 (xs.length+q+1) (xs.length+q+1)),(25,cQ xs),(26,.i .i64 xs.length),(27,.i .i64 i)]⟩)
  (fun l=>xs.length-l.1) [0] (0,List.replicate (xs.length+q+1) 0) ⟨by omega,by simp,sA (by decide) _,⟨0,by rw[zeu,zab (by omega)],zah s⟩,by rw[List.take_replicate,val_zero];simp[val]⟩ (by show xs.length-0<bQ+1;unfold bQ;omega) (dH ⟨rfl,lX,rfl,rfl,rfl,rfl,trivial⟩ ⟨_,rfl,rfl,fun _=>rfl⟩) ?_
 rintro⟨i,outs⟩ ⟨hi,gS,bI,⟨h,hh,VP⟩,aF⟩;refine I ?_;refine b9 (fun aV=> ?_) (fun aV=> ?_)
 ·have aV:i<xs.length:=by omega
  have lo:=h1 _ (dV aV);have aG:=ara ae lo;have aI:=aq9 (s:=s) lo;have a4:=Im ae;refine I ?_;refine dP xs[i] (bF aV) ?_
  iterate 3 refine gW ?_
  iterate 3 refine gW ?_
  iterate 3 refine gW ?_
  iterate 2 refine gW ?_
  refine ah 35 (.i .u64 ((xs[i]*2^s:Nat):Int)) rfl (ev ?_) ?_
  ·rw[dJ (a:=xs[i]) (by omega),dJ (by omega)]
  generalize hI:xs[i]*2^s=V at *;refine I ?_;refine ah 39 (.i .i64 ((i+q:Nat):Int)) rfl bx ?_;refine ix ?_;refine pA h hh ?_
  iterate 3 refine gW ?_
  refine ah 44 (.i .u32 ((h+V%4294967296:Nat):Int)) rfl (ev ?_) ?_
  ·rw[dJ (a:=h) (by omega),zdJ,<-hI,aax ae VP]
  have hu:h+V%4294967296<4294967296:=by
   rw[<-hI,<-aax ae VP];exact Nat.or_lt_two_pow (n:=32) (by omega) (zaf _ (by decide))
  generalize Gv:h+V%4294967296=JY at *;refine ix ?_;refine kp JY ?_;refine I ?_;refine ah 50 (.i .i64 ((i+q+1:Nat):Int)) rfl (by rw[gL (n:=(i:Int)+q) (by omega) (by omega)];exact bx) ?_;refine ix ?_;refine kp (V/2^32%4294967296) ?_;refine I ?_;have akk:V/2^32%4294967296=V/4294967296:=by omega
  rw[akk];refine a1 [0] (i+1,(outs.set (i+q) JY).set (i+q+1) (V/4294967296)) ⟨by show xs.length-(i+1)<xs.length-i;omega,by omega,by simp[gS],mH (mH bI _ hu) _ (by omega),⟨V/4294967296,by rw[show i+1+q=i+q+1 by omega,zdc (by simp;omega)],aI⟩,?_⟩
   (dH ⟨rfl,rfl,rfl,rfl,rfl,eS,trivial⟩ ⟨_,rfl,rfl,fun _=>rfl⟩)
  have a0:val 4294967296 (outs.take (i+q))+4294967296^(i+q)*h=val 4294967296 (xs.take i)*(2^s*4294967296^q):=by
   rw[<-aF,hN (by omega)];congr 2;exact(Option.some.inj ((bF (by omega)).symm.trans hh)).symm
  have aq:=arc (v:=V) a0;rw[show i+1+q+1=i+q+1+1 by omega,hN (by simp;omega),zaR,zaU (bY _),hN (by simp;omega),zaR,zaU (bY _),hN aV,<-Gv,zak,aq,<-hI,zam,zal];congr 1
  ac_rfl
 ·have hi:i=xs.length:=by omega
  subst hi;refine I ?_;refine ko 56 ?_;refine aL tf outs ⟨bI,by omega⟩ (I ?_);refine ar rfl (.of ?_);show c0 _=c0 _;congr 1;rw[jM (l:=xs) (bY _),jM (l:=outs) (by omega)]at aF;rw[aF,iR,<-kZ]
def qp(h:cT b l)(k:Nat):cT b (l.take k):=fun x J=>h x (zbH J)
def wb(h:cT b l)(k:Nat):cT b (l.drop k):=fun x J=>h x (zcF J)
def JA(U:k<=l.length):val b l=val b (l.take k)+b^k*val b (l.drop k):=by
 have:=lD b (l.take k) (l.drop k);rw[zbn,zas,zaA U]at this;exact this
def abM(hb:0<b)(h:cT b l)(U:k<=l.length):val b l/b^k=val b (l.drop k):=by
 have h2:=j7 (qp h k);rw[zas,zaA U]at h2;rw[JA U,zcG _ _ (zcH hb),zaW h2,zaw]
def ari{W:Nat}(ae:s<32)(gx:W=v+18446744073709551616*R):(W/2^s)%4294967296=(v/2^s)%4294967296:=by
 have e:18446744073709551616*R=2^s*(4294967296*(2^(32-s)*R)):=by
  rw[show(18446744073709551616:Nat)=4294967296*2^32 from rfl,show(2:Nat)^32=2^s*2^(32-s) by rw[<-zal,show s+(32-s)=32 by omega]]
  ac_rfl
 rw[gx,e,zcG _ _ (zah s),zdd]
def aaz:bh where
 L:=Nat×Nat
 args:=fun(a,b)=>[c0 a,.i .i64 b]
 pre:=fun(a,b)=>dF 1073741824 a∧b<9223372036854775808
 res:=fun(a,b)=>c0 (a/2^b)
def arh:a9 aT.ctx 164 aaz.spec:=by
 refine bH [(83,te.spec)] SJ.1 ?_;intro⟨a,n⟩ ⟨(ha:(aR _ a).length<=_),(hn:n<_)⟩ H aH;have h1:=gb (b:=4294967296) (by decide) a;have iR:=fP (b:=4294967296) (by decide) a;show aU.ok _ ⟨_,_,⟨_,_,[(0,cQ (aR 4294967296 a)),(1,.i .i64 n)]⟩⟩;generalize aR 4294967296 a=xs at *
 iterate 3 refine gW ?_
 iterate 3 refine gW ?_
 iterate 3 refine gW ?_
 refine ah 11 _ rfl (YX (by omega)) ?_
 iterate 2 refine gW ?_
 refine ah 13 (.i .i64 ((n%32:Nat):Int)) rfl (ev rfl) ?_;generalize hq:n/32=q;have ae:n%32<32:=zaf _ (by decide);have kZ:=OT n;rw[hq]at kZ;generalize n%32=s at *;refine I ?_;have hdiv:a/2^n=a/4294967296^q/2^s:=by rw[kZ,zaj,zaT]
 refine b9 (fun h=> ?_) (fun h=> ?_)
 ·refine I ?_;have h2:=j7 h1;have h3:4294967296^xs.length<=4294967296^q:=zat (by decide) (by omega);exact ar rfl (bZ.nl.trans (.of (by show cQ []=c0 (a/2^n);rw[hdiv,zaW (show a<4294967296^q by omega),Nat.zero_div];show _=cQ (aR _ 0);rw[fG])))
 have z5:q<xs.length:=by omega
 refine I ?_;refine ah 22 (.i .i64 ((xs.length-q:Nat):Int)) rfl bx ?_;refine pB eY 0 ?_;refine I ?_;have ako:a/4294967296^q=val 4294967296 (xs.drop q):=by rw[<-iR,abM (by decide) h1 (by omega)]
 have Vy:=j7 (wb h1 q);rw[zaE]at Vy;generalize iq:xs.length-q=N at *;refine c6 (L:=Nat×ac Nat) (fun(i,outs)=>i<=N∧outs.length=N∧cT 4294967296 outs∧val 4294967296 (outs.take i)=(val 4294967296 (xs.drop q)/2^s)%4294967296^i)
  (fun((i:Nat),(outs:ac Nat))=>⟨[.a 165 false 1 Nat eY outs],1,[(0,cQ xs),(5,.i .i64 q),(6,.i .u64 s),(7,.aY 0 1 0 N N),(25,.i .i64 N),(26,.i .i64 i)]⟩)
  (fun l=>N-l.1) [0] (0,List.replicate N 0) ⟨by omega,by simp,sA (by decide) _,by simp[val,Nat.mod_one]⟩ (by show N-0<bQ+1;unfold bQ;omega) (dH ⟨rfl,rfl,lX,rfl,rfl,rfl,trivial⟩ ⟨_,rfl,rfl,fun _=>rfl⟩) ?_
 rintro⟨i,outs⟩ ⟨hi,gS,bI,aF⟩;refine I ?_;refine b9 (fun aV=> ?_) (fun aV=> ?_)
 ·have kC:i+q<xs.length:=by omega
  have lo:=h1 _ (dV kC);refine I ?_;refine ah 32 (.i .i64 ((i+q:Nat):Int)) rfl bx ?_;refine dP xs[i+q] (bF kC) ?_
  iterate 2 refine gW ?_
  refine ah 35 (.i .u64 (xs[i+q]:Nat)) rfl ev (I ?_);refine fJ (fun(v:Nat)=>∃R,val 4294967296 (xs.drop (i+q))=v+18446744073709551616*R) (fun(v:Nat)=>⟨[.a 165 false 1 Nat eY outs],1,[(9,.i .u64 v),(8,.i .i64 i),(0,cQ xs),(5,.i .i64 q),(6,.i .u64 s),(7,.aY 0 1 0 N N),(25,.i .i64 N),(26,.i .i64 i)]⟩) ?_ ?_
  ·have Rz:IntKind.i64.wrap (IntKind.i64.wrap ((i:Int)+q)+1)=((i+q+1:Nat):Int):=by rw[gL (n:=(i:Int)+q) (by omega) (by omega),gL]<;>omega
   rw[Rz];refine b9 (fun CH=> ?_) (fun CH=> ?_)
   ·have CH:i+q+1<xs.length:=by omega
    have He:=h1 _ (dV CH);refine I ?_;refine ah 48 (.i .i64 ((i+q+1:Nat):Int)) rfl (ev Rz) ?_;refine dP xs[i+q+1] (bF CH) ?_;refine I ?_;refine a1 [0] (xs[i+q]+4294967296*xs[i+q+1]) ⟨val 4294967296 (xs.drop (i+q+1+1)),?_⟩ (dH ⟨lX (congrArg _ ?_),rfl,rfl,rfl,rfl,rfl,rfl,rfl,trivial⟩ ⟨_,rfl,rfl,fun _=>rfl⟩)
    ·rw[hB kC,hB CH,val,val];omega
    ·have aq:xs[i+q+1]%18446744073709551616*2^32%18446744073709551616%18446744073709551616=xs[i+q+1]*2^32:=by omega
     have e2:xs[i+q]%18446744073709551616=xs[i+q]:=by omega
     rw[aq,e2,zcE,YF (k:=32) lo];omega
   ·refine I ?_;refine a1 [0] xs[i+q] ⟨0,?_⟩ dD;rw[hB kC,zca (by omega),val,val]
  rintro(v:Nat) ⟨R,cL⟩;refine I ?_;refine ZN ?_;refine I ?_;refine ix ?_;refine kp (v/2^s%4294967296) ?_;refine I ?_;refine a1 [0] (i+1,outs.set i (v/2^s%4294967296)) ⟨by show N-(i+1)<N-i;omega,by omega,by simp[gS],mH bI _ (zaf _ (by decide)),?_⟩ (dH ⟨rfl,rfl,rfl,rfl,rfl,eS,trivial⟩ ⟨_,rfl,rfl,fun _=>rfl⟩);rw[hN (by simp;omega),zaU (bY _),zaR,aF,zak,Nat.mod_mul,<-ari ae cL,zaT,zaj (2^s),<-zaT,abM (by decide) (wb h1 q) (by simp;omega),zbu,zbS q i]
 ·have ald:i=N:=by omega
  subst ald;refine I ?_;refine ko 62 ?_;refine aL tf outs ⟨bI,by omega⟩ (I ?_);refine ar rfl (.of ?_);show c0 _=c0 _;congr 1;rw[jM (l:=outs) (by omega),dJ (zaX (zax _ _) Vy)]at aF;show _=a/2^n;rw[aF,hdiv,ako]
def bs(n:Nat):Nat:=if n=0 then 0 else Nat.log2 n+1
def u4{n:Nat}(h:1<=n):bs n=bs (n/2)+1:=by
 unfold bs;rw[zaa (by omega)];by_cases h2:n/2=0
 ·rw[zab h2];have:n=1:=by omega
  subst this;rfl
 ·rw[zaa h2,Nat.log2_def,zab (by omega)]
theorem BK:∀(k n:Nat),2^k<=n->bs n=bs (n/2^k)+k
 |0,n,_=>by simp
 |k+1,n,h=>by
  have h0:2^(k+1)=2*2^k:=by rw[zak,zaj]
  have hp:0<2^k:=zah k;rw[u4 (by omega),BK k (n/2) (by rw[zbI (by decide)];omega),zaT,h0];omega
def qP{n:Nat}(h:n≠0):2^(bs n-1)<=n∧n<2^bs n:=by
 unfold bs;rw[zaa h];exact⟨Nat.log2_self_le h,Nat.lt_log2_self⟩
def adu{n k:Nat}(h1:2^k<=n)(h2:n<2^(k+1)):bs n=k+1:=by
 have h0:n≠0:=by have:=zah k;omega
 obtain⟨a,b⟩:=qP h0;have:=(zde (by decide:1<2)).1 (zaX h1 b);have:=(zde (by decide:1<2)).1 (zaX a h2);omega
def oE:bh where
 L:=Nat
 args:=fun n=>[.i .u32 n]
 pre:=fun n=>n<4294967296
 res:=fun n=>.i .i64 (bs n:Nat)
def W5:a9 aT.ctx 264 oE.spec:=by
 refine bH [] Tv.1 ?_;intro(n:Nat) (hn:n<4294967296) H aH;refine I ?_;refine fJ (fun((m:Nat),(k:Nat))=>m<65536∧k<=16∧bs n=bs m+k) (fun(m,k)=>⟨[],0,[(0,.i .u32 m),(2,.i .i64 k)]⟩) ?_ ?_
 ·refine b9 (fun h=> ?_) (fun h=> ?_)
  ·refine I ?_;exact a1 [] (n/65536,16) ⟨by omega,by decide,BK 16 n (by omega)⟩ eP
  ·refine I ?_;exact a1 [] (n,0) ⟨by omega,by decide,rfl⟩ eP
 rintro⟨m,k⟩ ⟨hm,U,hb⟩;refine I ?_;refine fJ (fun((m:Nat),(k:Nat))=>m<256∧k<=24∧bs n=bs m+k) (fun(m,k)=>⟨[],0,[(0,.i .u32 m),(2,.i .i64 k)]⟩) ?_ ?_
 ·refine b9 (fun h=> ?_) (fun h=> ?_)
  ·refine I ?_;exact a1 [] (m/256,k+8) ⟨by omega,by omega,by rw[hb,BK 8 m (by omega),show(2:Nat)^8=256 from rfl];omega⟩ (iO ⟨rfl,eS,trivial⟩)
  ·refine I ?_;exact a1 [] (m,k) ⟨by omega,by omega,hb⟩ eP
 rintro⟨m,k⟩ ⟨hm,U,hb⟩;refine I ?_;refine ah 15 (.i .u8 (m:Nat)) rfl ev ?_;have hz:∀m,m<256->([0,1,2,2,3,3,3,3,4,4,4,4,4,4,4,4,5,5,5,5,5,5,5,5,5,5,5,5,5,5,5,5,6,6,6,6,6,6,6,6,6,6,6,6,6,6,6,6,6,6,6,6,6,6,6,6,6,6,6,6,6,6,6,6,7,7,7,7,7,7,7,7,7,7,7,7,7,7,7,7,7,7,7,7,7,7,7,7,7,7,7,7,7,7,7,7,7,7,7,7,7,7,7,7,7,7,7,7,7,7,7,7,7,7,7,7,7,7,7,7,7,7,7,7,7,7,7,7,8,8,8,8,8,8,8,8,8,8,8,8,8,8,8,8,8,8,8,8,8,8,8,8,8,8,8,8,8,8,8,8,8,8,8,8,8,8,8,8,8,8,8,8,8,8,8,8,8,8,8,8,8,8,8,8,8,8,8,8,8,8,8,8,8,8,8,8,8,8,8,8,8,8,8,8,8,8,8,8,8,8,8,8,8,8,8,8,8,8,8,8,8,8,8,8,8,8,8,8,8,8,8,8,8,8,8,8,8,8,8,8,8,8,8,8,8,8,8,8,8,8,8,8,8,8,8,8]:ac bv)[m]? =some (UInt8.ofNat (bs m))∧bs m<=8:=by decide +kernel
 obtain⟨t1,t2⟩:=hz m hm;refine mN _ t1 ?_;refine I ?_;have e:(UInt8.ofNat (bs m)).toNat=bs m:=by simp;omega
 rw[e];refine ar rfl (.of ?_);show ab.i _ _=ab.i .i64 (bs n:Nat);rw[hb,gL (n:=((bs m:Nat):Int)) (by omega) (by omega)];exact bx
def Xh:bh where
 L:=Nat
 args:=fun n=>[.i .u32 n]
 pre:=fun n=>n<4294967296
 res:=fun n=>.i .i64 ((32-bs n:Nat):Int)
def Ku{n:Nat}(h:n<4294967296):bs n<=32:=by
 by_cases h0:n=0
 ·subst h0;decide
 ·have:=(qP h0).1;have:=(zde (by decide:1<2)).1 (zaX this (show n<2^32 from h));omega
def anO:a9 aT.ctx 160 Xh.spec:=by
 refine bH [(264,oE.spec)] SF.1 ?_;intro(n:Nat) (hn:n<4294967296) H aH;refine I ?_;refine aL W5 n hn (I ?_);have:=Ku hn;exact ar rfl (.of bx)
def m2(b:Nat):Nat->Nat->ac Nat
 |0,_=>[]
 |k+1,n=>n%b::m2 b k (n/b)
theorem B6(b:Nat):∀k n,(m2 b k n).length=k
 |0,_=>rfl
 |k+1,n=>by simp[m2,B6 b k]
theorem Rt{b:Nat}(hb:0<b):∀k n,cT b (m2 b k n)
 |0,_=>fun x J=>by simp[m2]at J
 |k+1,n=>fun x J=>by
  rcases zao.1 J with rfl|J
  ·exact zaf _ hb
  ·exact Rt hb k _ x J
theorem K1{b:Nat}:∀k n,val b (m2 b k n)=n%b^k
 |0,n=>by simp[m2,val,Nat.mod_one]
 |k+1,n=>by rw[m2,val,K1 k,zak,zaj (b^k) b,Nat.mod_mul]
theorem FO{b:Nat}(hb:0<b):∀{l:ac Nat} {n k:Nat},cT b l->l.length=k->val b l=n->l=m2 b k n
 |[],_,_,_,rfl,_=>rfl
 |d::l,_,_,h,rfl,rfl=>by
  have h1:=h d (by simp);rw[zau,m2,val,zdd,dJ h1,zcG _ _ hb,zaW h1,zaw,<-FO hb (fun x J=>h x (zaK _ J)) rfl rfl]
def aaL{os:ac Nat}(hl:os.length=us.length)(hj:j+k<=us.length)(ae:∀p,p<j∨j+k<=p->os[p]? =us[p]?):os=us.take j++((os.drop j).take k++us.drop (j+k)):=by
 apply zbD;intro p;by_cases h1:p<j
 ·rw[zaV (by simp;omega),zaJ,zab h1];exact ae p (.inl h1)
 ·rw[zaM (by simp;omega),zas,zaA (by omega)];by_cases h2:p<j+k
  ·rw[zaV (by simp;omega),zaJ,zab (by omega),zaF];congr 1;omega
  ·rw[zaM (by simp;omega)];have:((os.drop j).take k).length=k:=by simp;omega
   rw[this,zaF,ae p (.inr (by omega))];congr 1;omega
def rQ(h:j+i<l.length):val b ((l.drop j).take (i+1))=val b ((l.drop j).take i)+b^i*l[j+i]:=by
 rw[hN (by simp;omega),zdV]
def jj(us:ac Nat)(j k n:Nat):ac Nat:=us.take j++(m2 4294967296 k n++us.drop (j+k))
def eB(us:ac Nat)(j k:Nat):Nat:=val 4294967296 ((us.drop j).take k)
def aa6:ht where
 L:=ac Nat×Nat×ac Nat×Nat
 own:=fun(us,_,_,_)=>[.a 165 false 1 Nat eY us]
 args:=fun(us,j,vs,g)=>[.aY 0 1 j (us.length-j) (us.length-j),cQ vs,.i .u64 g]
 pre:=fun(us,j,vs,g)=>j+vs.length<us.length∧cT 4294967296 us∧cT 4294967296 vs∧g<4294967296∧us.length<=1099511627776
 bC:=fun(us,j,vs,g)=>[.a 165 false 1 Nat eY (jj us j (vs.length+1) (eB us j (vs.length+1)+(if eB us j (vs.length+1)<g*val 4294967296 vs then 4294967296^(vs.length+1)else 0)-g*val 4294967296 vs))]
 res:=fun(us,j,vs,g)=>.b (decide (eB us j (vs.length+1)<g*val 4294967296 vs))
def as8:a9 aT.ctx 162 aa6.spec:=by
 refine QN [] SH.1 ?_;rintro⟨us,j,vs,g⟩ ⟨h0,h1,h2,aJ,tO⟩ H i0 aH hi;obtain⟨iz,rfl⟩:∃b,i0=[b]:=zev.1 hi;show aU.ok _ ⟨_,_,⟨[.a 165 false 1 Nat eY us],1,[(0,.aY 0 1 j (us.length-j) (us.length-j)),(1,cQ vs),(2,.i .u64 g)]⟩⟩;refine I ?_;refine c6 (L:=Nat×ac Nat×Nat×Nat) (fun(i,os,c,w)=>i<=vs.length∧os.length=us.length∧cT 4294967296 os∧c<4294967296∧w<=1∧(∀p,p<j∨j+i<=p->os[p]? =us[p]?)∧eB us j i+4294967296^i*(c+w)=eB os j i+g*val 4294967296 (vs.take i))
  (fun((i:Nat),(os:ac Nat),(c:Nat),(w:Nat))=>⟨[.a 165 false 1 Nat eY os],1,[(0,.aY 0 1 j (us.length-j) (us.length-j)),(1,cQ vs),(2,.i .u64 g),(7,.i .u64 c),(8,.i .u64 w),(13,cQ vs),(14,.i .i64 vs.length),(15,.i .i64 i)]⟩)
  (fun l=>vs.length-l.1) [0] (0,us,0,0) ⟨by omega,rfl,h1,by omega,by omega,fun _ _=>rfl,by simp[eB,val]⟩ (by show vs.length-0<bQ+1;unfold bQ;omega) dD ?_
 rintro⟨i,os,c,w⟩ ⟨jq,gS,bI,hc,hw,my,aF⟩;refine I ?_;refine b9 (fun h=> ?_) (fun h=> ?_)
 ·have h:i<vs.length:=by omega
  have J:=h2 _ (dV h);have m8:j+i<os.length:=by omega
  have xM:os[j+i]=us[j+i]:=by
   have:=my (j+i) (.inr (bY _));rw[bF m8,bF (by omega)]at this;exact Option.some.inj this
  have ai:=bI _ (dV m8);obtain⟨eW,g1,x5⟩:=Ns (o:=0) hc aJ J (by decide);refine I ?_;refine dP vs[i] (bF h) ?_;refine ak 25 ?_;refine ah 25 (.i .u64 ((c+g*vs[i]:Nat):Int)) rfl (ev (congrArg _ ?_)) ?_
  ·rw[dJ (a:=vs[i]) (by omega),dJ eW,dJ (by omega)]
  have gg:c+g*vs[i]<18446744073709551616:=by omega
  generalize xx:c+g*vs[i]=T at *;refine I ?_;refine uu ?_;refine pA os[j+i] (bF m8) ?_;refine ak 36 ?_;refine ah 36 (.i .u64 (((os[j+i]+18446744073709551616-T%4294967296-w)%18446744073709551616:Nat):Int)) rfl ev ?_;generalize aN:(os[j+i]+18446744073709551616-T%4294967296-w)%18446744073709551616=t at *;refine I ?_;refine uu ?_;refine kp (t%4294967296) ?_;refine I ?_;refine a1 [0] (i+1,os.set (j+i) (t%4294967296),T/4294967296,t/9223372036854775808) ⟨by show vs.length-(i+1)<vs.length-i;omega,by omega,by simp[gS],mH bI _ (zaf _ (by decide)),by omega,by omega,fun p hp=> ?_,?_⟩
   (dH ⟨rfl,rfl,rfl,rfl,rfl,rfl,rfl,eS,trivial⟩ ⟨_,rfl,rfl,fun _=>rfl⟩)
  ·rw[zbo (by omega)];exact my p (by omega)
  ·unfold eB at aF⊢;rw[rQ (by omega),rQ (l:=os.set _ _) (by simp;omega),zaR,hN h,<-xM,zak];have aq:((os.set (j+i) (t%4294967296)).drop j).take i=(os.drop j).take i:=by
    rw[zdK];rw[zaa (by omega),show j+i-j=i by omega,zaU (bY _)]
   rw[aq];have al:os[j+i]+4294967296*(t/9223372036854775808)=t%4294967296+T%4294967296+w:=by omega
   have akj:T=T%4294967296+4294967296*(T/4294967296):=by omega
   generalize t/9223372036854775808=w' at *;generalize T/4294967296=bT at *;generalize T%4294967296=ga at *;generalize t%4294967296=lK at *;generalize 4294967296^i=P at *;have a2:P*(os[j+i]+4294967296*w')=P*(lK+ga+w):=by rw[al]
   have bw:P*(c+g*vs[i])=P*(ga+4294967296*bT):=by rw[xx,akj]
   rw[zaB g,Nat.mul_left_comm g P];simp only[zaB,zar]at a2 bw aF⊢;omega
 ·have hi:i=vs.length:=by omega
  subst hi;have m8:j+vs.length<os.length:=by omega
  have xM:os[j+vs.length]=us[j+vs.length]:=by
   have:=my (j+vs.length) (.inr (bY _));rw[bF m8,bF (by omega)]at this;exact Option.some.inj this
  have ai:=bI _ (dV m8);refine I ?_;refine uu ?_;refine pA os[j+vs.length] (bF m8) ?_;refine ak 56 ?_;refine ah 56 (.i .u64 (((os[j+vs.length]+18446744073709551616-c-w)%18446744073709551616:Nat):Int)) rfl ev ?_;generalize aN:(os[j+vs.length]+18446744073709551616-c-w)%18446744073709551616=t at *;refine I ?_;refine uu ?_;refine kp (t%4294967296) ?_;refine I ?_;have CY:cT 4294967296 (os.set (j+vs.length) (t%4294967296)):=mH bI _ (zaf _ (by decide));have pg:(((os.set (j+vs.length) (t%4294967296)).drop j).take (vs.length+1)).length=vs.length+1:=by simp;omega
  have Gu:=j7 (qp (wb CY j) (vs.length+1));rw[pg]at Gu;have vH:=aaL (us:=us) (os:=os.set (j+vs.length) (t%4294967296)) (j:=j) (k:=vs.length+1) (by simp[gS]) (by omega) (fun p hp=>by rw[zbo (by omega)];exact my p (by omega));have L0:=FO (b:=4294967296) (by decide) (qp (wb CY j) (vs.length+1)) pg rfl;generalize akh:val 4294967296 (((os.set (j+vs.length) (t%4294967296)).drop j).take (vs.length+1))=O at *;have key:eB us j (vs.length+1)+4294967296^(vs.length+1)*(t/9223372036854775808)=O+g*val 4294967296 vs:=by
   rw[<-akh];unfold eB at aF⊢;rw[rQ (by omega),rQ (l:=os.set _ _) (by simp;omega),zaR,<-xM,zak];have aq:((os.set (j+vs.length) (t%4294967296)).drop j).take vs.length=(os.drop j).take vs.length:=by
    rw[zdK];rw[zaa (by omega),show j+vs.length-j=vs.length by omega,zaU (bY _)]
   rw[aq];rw[jM (bY _)]at aF;have al:os[j+vs.length]+4294967296*(t/9223372036854775808)=t%4294967296+c+w:=by omega
   generalize t/9223372036854775808=w' at *;generalize t%4294967296=lK at *;generalize 4294967296^vs.length=P at *;have a2:P*(os[j+vs.length]+4294967296*w')=P*(lK+c+w):=by rw[al]
   simp only[zaB,zar]at a2 aF⊢;omega
  have LL:eB us j (vs.length+1)+(if eB us j (vs.length+1)<g*val 4294967296 vs then 4294967296^(vs.length+1)else 0)-g*val 4294967296 vs=O∧(t/2^63=1↔eB us j (vs.length+1)<g*val 4294967296 vs):=by
   rcases(show t/9223372036854775808=0∨t/9223372036854775808=1 by omega)with hb|hb
   ·rw[hb]at key;rw[zaa (by omega)];exact⟨by omega,by omega⟩
   ·rw[hb]at key;rw[zab (by omega)];exact⟨by omega,by omega⟩
  refine j3 ⟨.inr rfl,⟨_,rfl,rfl,.of ?_⟩,[0],rfl,dH trivial ⟨_,rfl,?_,fun _=>rfl⟩⟩
  ·show ab.b (decide (((t/2^63:Nat):Int)=1))=ab.b (decide (eB us j (vs.length+1)<g*val 4294967296 vs));congr 1;rw[decide_eq_decide,<-LL.2];exact⟨fun h=>by omega,fun h=>by omega⟩
  ·show ay.a _ _ _ _ _ _=ay.a _ _ _ _ _ _;congr 1;rw[LL.1];unfold jj;rw[<-L0];exact vH
def Vf:ht where
 L:=ac Nat×Nat×ac Nat
 own:=fun(us,_,_)=>[.a 165 false 1 Nat eY us]
 args:=fun(us,j,vs)=>[.aY 0 1 j (us.length-j) (us.length-j),cQ vs]
 pre:=fun(us,j,vs)=>j+vs.length<us.length∧cT 4294967296 us∧cT 4294967296 vs∧us.length<=1099511627776
 bC:=fun(us,j,vs)=>[.a 165 false 1 Nat eY (jj us j (vs.length+1) (eB us j (vs.length+1)+val 4294967296 vs))]
 res:=fun _=>.bu []
theorem K0{b:Nat}:∀k n,m2 b k (n%b^k)=m2 b k n
 |0,n=>rfl
 |k+1,n=>by
  rw[m2,m2,zak,zaj (b^k) b,zew,zex,K0]
def ajv:a9 aT.ctx 163 Vf.spec:=by
 refine QN [] SI.1 ?_;rintro⟨us,j,vs⟩ ⟨h0,h1,h2,tO⟩ H i0 aH hi;obtain⟨iz,rfl⟩:∃b,i0=[b]:=zev.1 hi;show aU.ok _ ⟨_,_,⟨[.a 165 false 1 Nat eY us],1,[(0,.aY 0 1 j (us.length-j) (us.length-j)),(1,cQ vs)]⟩⟩;refine I ?_;refine c6 (L:=Nat×ac Nat×Nat) (fun(i,os,c)=>i<=vs.length∧os.length=us.length∧cT 4294967296 os∧c<=1∧(∀p,p<j∨j+i<=p->os[p]? =us[p]?)∧eB os j i+4294967296^i*c=eB us j i+val 4294967296 (vs.take i))
  (fun((i:Nat),(os:ac Nat),(c:Nat))=>⟨[.a 165 false 1 Nat eY os],1,[(0,.aY 0 1 j (us.length-j) (us.length-j)),(1,cQ vs),(4,.i .u64 c),(7,cQ vs),(8,.i .i64 vs.length),(9,.i .i64 i)]⟩)
  (fun l=>vs.length-l.1) [0] (0,us,0) ⟨by omega,rfl,h1,by omega,fun _ _=>rfl,by simp[eB,val]⟩ (by show vs.length-0<bQ+1;unfold bQ;omega) dD ?_
 rintro⟨i,os,c⟩ ⟨jq,gS,bI,hc,my,aF⟩;refine I ?_;refine b9 (fun h=> ?_) (fun h=> ?_)
 ·have h:i<vs.length:=by omega
  have J:=h2 _ (dV h);have m8:j+i<os.length:=by omega
  have xM:os[j+i]=us[j+i]:=by
   have:=my (j+i) (.inr (bY _));rw[bF m8,bF (by omega)]at this;exact Option.some.inj this
  have ai:=bI _ (dV m8);refine I ?_;refine dP vs[i] (bF h) ?_;refine I ?_;refine uu ?_;refine pA os[j+i] (bF m8) ?_;refine ak 23 ?_;refine ah 23 (.i .u64 ((c+os[j+i]+vs[i]:Nat):Int)) rfl ev (I ?_);refine uu ?_;refine kp ((c+os[j+i]+vs[i])%4294967296) ?_;refine I ?_;refine a1 [0] (i+1,os.set (j+i) ((c+os[j+i]+vs[i])%4294967296),(c+os[j+i]+vs[i])/4294967296) ⟨by show vs.length-(i+1)<vs.length-i;omega,by omega,by simp[gS],mH bI _ (zaf _ (by decide)),by omega,fun p hp=> ?_,?_⟩
   (dH ⟨rfl,rfl,rfl,rfl,rfl,eS,trivial⟩ ⟨_,rfl,rfl,fun _=>rfl⟩)
  ·rw[zbo (by omega)];exact my p (by omega)
  ·unfold eB at aF⊢;rw[rQ (l:=us) (by omega),rQ (l:=os.set _ _) (by simp;omega),zaR,hN h,<-xM,zak];have aq:((os.set (j+i) ((c+os[j+i]+vs[i])%4294967296)).drop j).take i=(os.drop j).take i:=by
    rw[zdK];rw[zaa (by omega),show j+i-j=i by omega,zaU (bY _)]
   rw[aq];exact PV (by decide) aF
 ·have hi:i=vs.length:=by omega
  subst hi;have m8:j+vs.length<os.length:=by omega
  have xM:os[j+vs.length]=us[j+vs.length]:=by
   have:=my (j+vs.length) (.inr (bY _));rw[bF m8,bF (by omega)]at this;exact Option.some.inj this
  have ai:=bI _ (dV m8);refine I ?_;refine uu ?_;refine pA os[j+vs.length] (bF m8) ?_;refine ak 39 ?_;refine ah 39 (.i .u32 (((os[j+vs.length]+c)%4294967296:Nat):Int)) rfl ev ?_;generalize aN:(os[j+vs.length]+c)%4294967296=t at *;refine uu ?_;refine kp t ?_;refine I ?_;have CY:cT 4294967296 (os.set (j+vs.length) t):=mH bI _ (by omega);have pg:(((os.set (j+vs.length) t).drop j).take (vs.length+1)).length=vs.length+1:=by simp;omega
  have Gu:=j7 (qp (wb CY j) (vs.length+1));rw[pg]at Gu;have vH:=aaL (us:=us) (os:=os.set (j+vs.length) t) (j:=j) (k:=vs.length+1) (by simp[gS]) (by omega) (fun p hp=>by rw[zbo (by omega)];exact my p (by omega));have L0:=FO (b:=4294967296) (by decide) (qp (wb CY j) (vs.length+1)) pg rfl;have key:(eB us j (vs.length+1)+val 4294967296 vs)%4294967296^(vs.length+1)=val 4294967296 (((os.set (j+vs.length) t).drop j).take (vs.length+1)):=by
   rw[<-dJ Gu];have:eB us j (vs.length+1)+val 4294967296 vs=val 4294967296 (((os.set (j+vs.length) t).drop j).take (vs.length+1))+4294967296^(vs.length+1)*((os[j+vs.length]+c)/4294967296):=by
    unfold eB at aF⊢;rw[rQ (l:=us) (by omega),rQ (l:=os.set _ _) (by simp;omega),zaR,<-xM,zak];have aq:((os.set (j+vs.length) t).drop j).take vs.length=(os.drop j).take vs.length:=by
     rw[zdK];rw[zaa (by omega),show j+vs.length-j=vs.length by omega,zaU (bY _)]
    rw[aq];rw[jM (l:=vs) (bY _)]at aF;have al:os[j+vs.length]+c=t+4294967296*((os[j+vs.length]+c)/4294967296):=by omega
    generalize(os[j+vs.length]+c)/4294967296=bT at *;generalize 4294967296^vs.length=P at *;have a2:P*(os[j+vs.length]+c)=P*(t+4294967296*bT):=by rw[al]
    simp only[zaB,zar]at a2 aF⊢;omega
   rw[this,zdd]
  refine j3 ⟨.inl rfl,⟨_,rfl,rfl,.refl _⟩,[0],rfl,dH trivial ⟨_,rfl,?_,fun _=>rfl⟩⟩;show ay.a _ _ _ _ _ _=ay.a _ _ _ _ _ _;congr 1;unfold jj;rw[<-K0,key,<-L0];exact vH
def JE(h:j+k<=us.length):(jj us j k X).length=us.length:=by
 unfold jj;simp[B6];omega
def abW(h:cT 4294967296 us):cT 4294967296 (jj us j k X):=fun x J=>by
 unfold jj at J;simp only[zbE]at J;rcases J with J|J|J
 ·exact h x (zbH J)
 ·exact Rt (by decide) _ _ x J
 ·exact h x (zcF J)
def auj(h:j+k<=us.length):val 4294967296 (jj us j k X)=val 4294967296 (us.take j)+4294967296^j*(X%4294967296^k+4294967296^k*val 4294967296 (us.drop (j+k))):=by
 unfold jj;rw[lD,lD,K1,B6,zas,zaA (by omega)]
def auk{Y:Nat}(h:j+k<=us.length):jj (jj us j k X) j k Y=jj us j k Y:=by
 unfold jj;rw[zen (by simp;omega)];congr 2;rw[<-zbu,zdG (by simp;omega),zdG (B6 _ _ _)]
def auq(h:j+k<=us.length):eB (jj us j k X) j k=X%4294967296^k:=by
 unfold eB jj;rw[zdG (by simp;omega),zen (B6 _ _ _),K1]
def auh:jj us j k (X%4294967296^k)=jj us j k X:=by
 unfold jj;rw[K0]
def aui(h:j+k<=us.length)(bI:cT 4294967296 us):jj us j k (eB us j k)=us:=by
 unfold jj eB;rw[<-FO (by decide) (qp (wb bI j) k) (by simp;omega) rfl];rw[<-zbu,zbn,zbn]
def abX{n:Nat}(bI:cT 4294967296 us)(h:j+(n+1)<=us.length)(hI:V<4294967296^n)(hu:val 4294967296 us<V*4294967296^(j+1)):
 val 4294967296 us=val 4294967296 (us.take j)+4294967296^j*eB us j (n+1)∧val 4294967296 (us.drop (j+(n+1)))=0∧eB us j (n+1)<V*4294967296:=by
 have aq:=JA (b:=4294967296) (l:=us) (k:=j) (by omega);have e2:=JA (b:=4294967296) (l:=us.drop j) (k:=n+1) (by simp;omega);rw[zbu]at e2;have aE:val 4294967296 (us.drop (j+(n+1)))=0:=by
  rcases zcC (val 4294967296 (us.drop (j+(n+1))))with h0|h0
  ·exact h0
  ·exfalso;have h1:4294967296^(j+(n+1))*1<=4294967296^(j+(n+1))*val 4294967296 (us.drop (j+(n+1))):=lF _ h0;have h2:V*4294967296^(j+1)<=4294967296^n*4294967296^(j+1):=fK _ (by omega);rw[<-zal,show n+(j+1)=j+(n+1) by omega]at h2;rw[e2,zaB,<-zar,<-zal]at aq;omega
 rw[aE,zbx,zaQ]at e2;refine⟨by rw[aq,e2];rfl,aE,?_⟩;have h3:4294967296^j*eB us j (n+1)<4294967296^j*(V*4294967296):=by
  have:V*4294967296^(j+1)=4294967296^j*(V*4294967296):=by rw[zak];ac_rfl
  have bV:val 4294967296 (us.drop j)=eB us j (n+1):=e2;rw[bV]at aq;omega
 exact Nat.lt_of_mul_lt_mul_left h3
def afi{da:ac Nat}{n A:Nat}(bI:cT 4294967296 us)(h:j+(n+1)<=us.length)(hj:j<da.length)(r6:0<V)(hI:V<4294967296^n)(hu:val 4294967296 us<V*4294967296^(j+1))(e4:A=val 4294967296 (da.drop (j+1))*4294967296^(j+1)*V+val 4294967296 us):
 val 4294967296 (jj us j (n+1) (eB us j (n+1)%V))<V*4294967296^j∧A=val 4294967296 ((da.set j (eB us j (n+1)/V)).drop j)*4294967296^j*V+val 4294967296 (jj us j (n+1) (eB us j (n+1)%V)):=by
 obtain⟨h1,h2,h3⟩:=abX bI h hI hu;have hm:=zaf (eB us j (n+1)) r6;have al:=zaS (eB us j (n+1)) V;have auY:4294967296^n<=4294967296^(n+1):=zat (by decide) (by omega);rw[auj h,h2,zbx,zaQ,dJ (a:=eB us j (n+1)%V) (by omega)];have aV:=j7 (qp bI j);rw[zas,zaA (by omega)]at aV;constructor
 ·have:4294967296^j*(eB us j (n+1)%V+1)<=4294967296^j*V:=lF _ hm;rw[zaB,zaI]at this;rw[zaj V];omega
 ·have aq:val 4294967296 ((da.set j (eB us j (n+1)/V)).drop j)=eB us j (n+1)/V+4294967296*val 4294967296 (da.drop (j+1)):=by
   rw[hB (by simp;omega),zaR,zcT (by omega)];rfl
  have e2:4294967296^j*eB us j (n+1)=4294967296^j*(V*(eB us j (n+1)/V))+4294967296^j*(eB us j (n+1)%V):=by rw[<-zaB,al]
  rw[e4,h1,aq,e2,zam,zam,zak];have bV:eB us j (n+1)/V*4294967296^j*V=4294967296^j*(V*(eB us j (n+1)/V)):=by ac_rfl
  have eQ:4294967296*val 4294967296 (da.drop (j+1))*4294967296^j*V=val 4294967296 (da.drop (j+1))*(4294967296^j*4294967296)*V:=by ac_rfl
  rw[bV,eQ];omega
def aoq{ao:ac Nat}{m:Nat}(hl:ao.length=m+2)(bI:cT 4294967296 ao)(aN:eG ao=ao)(aF:val 4294967296 ao=b):
 bs ao[m+1]<=32∧0<bs ao[m+1]∧b*2^(32-bs ao[m+1])<4294967296^(m+2)∧2147483648*4294967296^(m+1)<=b*2^(32-bs ao[m+1]):=by
 have al:ao[m+1]≠0:=by
  have e:ao=ao.take (m+1)++[ao[m+1]]:=by
   have:=zbn (m+1) ao;rw[hB (by omega),zca (by omega)]at this;exact this.symm
  have:=aN;rw[e]at this;exact(yi (b:=4294967296) this).2
 have aV:=bI _ (dV (show m+1<ao.length by omega));have aj7:=Ku aV;obtain⟨aG,aI⟩:=qP al;have lj:0<bs ao[m+1]:=by unfold bs;rw[zaa al];omega
 have aq:b=val 4294967296 (ao.take (m+1))+4294967296^(m+1)*ao[m+1]:=by
  rw[<-aF,<-hN (by omega),zay (by omega)]
 have h1:=j7 (qp bI (m+1));rw[zas,zaA (by omega)]at h1;generalize ao[m+1]=d at *;have hp:0<2^(32-bs d):=zah _;have e2:2^bs d*2^(32-bs d)=4294967296:=by rw[<-zal,show bs d+(32-bs d)=32 by omega]
 have bV:2^(bs d-1)*2^(32-bs d)=2147483648:=by rw[<-zal,show bs d-1+(32-bs d)=31 by omega]
 refine⟨aj7,lj,?_,?_⟩
 ·have h2:b<4294967296^(m+1)*2^bs d:=by
   have:4294967296^(m+1)*(d+1)<=4294967296^(m+1)*2^bs d:=lF _ aI;rw[zaB,zaI]at this;omega
  have h3:=zcq h2 hp;rw[zar,e2]at h3;rw[zak _ (m+1)];exact h3
 ·have h2:4294967296^(m+1)*2^(bs d-1)<=b:=by
   have:4294967296^(m+1)*2^(bs d-1)<=4294967296^(m+1)*d:=lF _ aG;omega
  have h3:=fK (2^(32-bs d)) h2;rw[zar,bV]at h3;rw[zaj];exact h3
def ao2(hr:r<4294967296)(J:x<4294967296):(r%18446744073709551616*2^32%18446744073709551616%18446744073709551616|||x%18446744073709551616%18446744073709551616)=r*4294967296+x:=by
 rw[dJ (a:=r) (by omega)];exact NZ hr J
def aff(P A qD jh ho:Nat):A+P*ho+P*4294967296*qD+P*4294967296*4294967296*jh=((jh*4294967296+qD)*4294967296+ho)*P+A:=by
 rw[zam,zam,zam];have aq:P*4294967296*4294967296*jh=jh*4294967296*4294967296*P:=by ac_rfl
 have e2:P*4294967296*qD=qD*4294967296*P:=by ac_rfl
 have bV:P*ho=ho*P:=by ac_rfl
 omega
def afe(P A qD jh:Nat):A+P*qD+P*4294967296*jh=(jh*4294967296+qD)*P+A:=by
 rw[zam];have aq:P*4294967296*jh=jh*4294967296*P:=by ac_rfl
 have e2:P*qD=qD*P:=by ac_rfl
 omega
def Js{g:Nat}(h:0<g)(h2:g<18446744073709551616):(g+(18446744073709551616*1-1))%18446744073709551616=g-1:=by omega
def Cr(h:i<l.length):l[i]? =some l[i]:=bF h
def FP:bh where
 L:=Nat×Nat
 args:=fun(a,b)=>[c0 a,c0 b]
 pre:=fun(a,b)=>dF 1073741823 a∧dF 1073741823 b∧b≠0
 res:=fun(a,b)=>.bu [c0 (a/b),c0 (a%b)]
def FQ:a9 aT.ctx 82 FP.spec:=by
 refine bH [(42,w9.spec),(159,OZ.spec),(32,v9.spec),(160,Xh.spec),(161,Jf.spec),(164,aaz.spec),(162,aa6.spec),(163,Vf.spec),(83,te.spec)] UO.1 ?_;intro⟨a,b⟩ ⟨(ha:(aR _ a).length<=_),(hb:(aR _ b).length<=_),(lj:b≠0)⟩ H aH;show aU.ok _ ⟨_,_,⟨_,_,[(0,cQ (aR 4294967296 a)),(1,cQ (aR 4294967296 b))]⟩⟩;have kA:0<(aR 4294967296 b).length:=zbf.2 (fun h=>lj ((nD (by decide)).1 h));refine I ?_;refine aL BU (a,b) ⟨by show(aR _ a).length<=_;omega,by show(aR _ b).length<=_;omega⟩ (I ?_);refine b9 (fun h=> ?_) (fun h=> ?_)
 ·have aV:a<b:=by
   rcases zan a b with az|az
   ·exact az
   ·have h:hR a b<0:=h;unfold hR at h;rw[zaa (by omega)]at h;split at h<;>omega
  refine I ?_;exact ar rfl (.bu ⟨bZ.nl.trans (.of (by show cQ []=cQ (aR _ (a/b));rw[zaW aV,fG])),.of (by show cQ _=cQ (aR _ (a%b));rw[dJ aV]),trivial⟩)
 have lR:b<=a:=by
  rcases zan a b with az|az
  ·exact absurd (show hR a b<0 by rw[zr az];decide) h
  ·exact az
 refine I ?_;refine b9 (fun h1=> ?_) (fun h1=> ?_)
 ·have h1:(aR 4294967296 b).length=1:=by omega
  obtain⟨d,al⟩:=zev.1 h1;have aF:=fP (b:=4294967296) (by decide) b;have VI:=gb (b:=4294967296) (by decide) b;rw[al]at aF VI;have tx:b=d:=by simp[val]at aF;exact aF.symm
  have vr:=VI d (by simp);rw[al];subst tx;refine I ?_;refine dP (j:=0) b rfl ?_;refine I ?_;refine aL O0 (a,b) ⟨by show(aR _ a).length<=_;omega,by show 0<b;omega,vr⟩ (I ?_);refine ah 37 (.i .u64 ((a%b:Nat):Int)) rfl (ev (by have:=zaf a (show 0<b by omega);omega)) ?_;refine aL oG (a%b) (by have:=zaf a (show 0<b by omega);show a%b<_;omega) (I ?_);exact ar rfl (.bu ⟨.refl _,.refl _,trivial⟩)
 have amn:=gb (b:=4294967296) (by decide) a;have Wn:=gb (b:=4294967296) (by decide) b;have cp:=fP (b:=4294967296) (by decide) a;have fV:=fP (b:=4294967296) (by decide) b;have amr:=r1 (b:=4294967296) (by decide) b;have nN:=M9 lR;generalize xX:aR 4294967296 a=xs at *;generalize vL:aR 4294967296 b=ao at *;obtain⟨m,hm⟩:∃m,ao.length=m+2:=⟨ao.length-2,by omega⟩;obtain⟨mF,jf,yc,DG⟩:=aoq hm Wn amr fV;have al:=Wn _ (dV (show m+1<ao.length by omega));refine I ?_;refine ah 41 (.i .i64 ((m+1:Nat):Int)) rfl bx ?_;refine dP ao[m+1] (bF (by omega)) ?_;refine I ?_;refine aL anO ao[m+1] al ?_;generalize LZ:ao[m+1]=lK at *;refine ah 44 (.i .i64 ((32-bs lK:Nat):Int)) rfl rfl ?_;generalize he:32-bs lK=e at *;have au4:e<=31:=by omega
 refine I ?_;refine aL A6 (b,e) ⟨by show(aR _ b).length<=_;rw[vL];omega,by show e<_;omega⟩ ?_ (he:=by exact⟨.of (congrArg cQ vL.symm),.refl _,trivial⟩);refine ah 47 (cQ (aR 4294967296 (b*2^e))) rfl rfl (I ?_);refine ah 50 (.i .i64 ((xs.length+1:Nat):Int)) rfl bx ?_;refine pB eY 0 ?_;refine I ?_;refine aL A6 (a,e) ⟨by show(aR _ a).length<=_;rw[xX];omega,by show e<_;omega⟩ ?_ (he:=by exact⟨.of (congrArg cQ xX.symm),.refl _,trivial⟩);have auS:a*2^e<2147483648*4294967296^xs.length:=by
  have h1:=j7 amn;rw[cp]at h1;have h2:(a+1)*2^e<=4294967296^xs.length*2147483648:=zdH (by omega) (Im (by omega));have h3:0<2^e:=zah e;rw[zam]at h2;omega
 have aj9:a*2^e<4294967296^(xs.length+1):=by
  rw[zak];have:0<4294967296^xs.length:=zcH (by decide);omega
 have tO:(aR 4294967296 (a*2^e)).length<=xs.length+1:=iW (by decide) aj9;refine I ?_;refine ap9 (aR 4294967296 (a*2^e)) (Jk rfl (fun _=>rfl) (fun _=>rfl)) ?_;refine I ?_;refine ah 61 (.i .i64 ((xs.length-ao.length+1:Nat):Int)) rfl (by rw[gL (n:=(xs.length:Int)-ao.length) (by omega) (by omega)];exact bx) ?_;refine pB eY 0 ?_;refine I ?_;have hI:=fP (b:=4294967296) (by decide) (b*2^e);have Cz:=gb (b:=4294967296) (by decide) (b*2^e);have zP:(aR 4294967296 (b*2^e)).length=m+2:=by
  have h1:=iW (b:=4294967296) (by decide) yc;have h2:=B4 (b:=4294967296) (n:=b*2^e) (k:=m+1) (by decide) (by
   have:0<4294967296^(m+1):=zcH (by decide);omega)
  omega
 generalize Wh:aR 4294967296 (b*2^e)=vs at *;have qe:(aR 4294967296 (a*2^e)++(List.replicate (xs.length+1) 0).drop (aR 4294967296 (a*2^e)).length).length=xs.length+1:=by simp;omega
 have nR:val 4294967296 (aR 4294967296 (a*2^e)++(List.replicate (xs.length+1) 0).drop (aR 4294967296 (a*2^e)).length)=a*2^e:=by
  rw[List.drop_replicate,lD,val_zero,fP (by decide)];omega
 have k3:cT 4294967296 (aR 4294967296 (a*2^e)++(List.replicate (xs.length+1) 0).drop (aR 4294967296 (a*2^e)).length):=fun x J=>by
  rcases zbE.1 J with J|J
  ·exact gb (by decide) _ x J
  ·exact sA (by decide) _ x (zcF J)
 generalize aR 4294967296 (a*2^e)++(List.replicate (xs.length+1) 0).drop (aR 4294967296 (a*2^e)).length=ats at *;refine c6 (L:=Nat×ac Nat×ac Nat) (fun(k,us,da)=>k<=xs.length-ao.length+1∧us.length=xs.length+1∧cT 4294967296 us∧da.length=xs.length-ao.length+1∧cT 4294967296 da∧(∀p,p<k->da[p]? =some 0)∧val 4294967296 us<b*2^e*4294967296^k∧a*2^e=val 4294967296 (da.drop k)*4294967296^k*(b*2^e)+val 4294967296 us)
  (fun((k:Nat),(us:ac Nat),(da:ac Nat))=>⟨[.a 165 false 1 Nat eY us,.a 165 false 1 Nat eY da],2,[(4,.aY 1 1 0 (xs.length-ao.length+1) (xs.length-ao.length+1)),(6,.i .i64 ((m+2:Nat):Int)),(9,.i .i64 e),(10,cQ vs),(11,.aY 0 1 0 (xs.length+1) (xs.length+1)),(12,.i .i64 ((k:Int)-1))]⟩)
  (fun l=>l.1) [0,1] (xs.length-ao.length+1,ats,List.replicate (xs.length-ao.length+1) 0) ⟨by omega,qe,k3,by simp,sA (by decide) _,fun p hp=>by rw[zeu,zab hp],?_,by rw[nR,zca (by simp)];simp[val]⟩ (by show xs.length-ao.length+1<bQ+1;unfold bQ;omega) (nq ⟨rfl,lX,rfl,rfl,rfl,eS,trivial⟩ ⟨_,rfl,rfl,fun _=>rfl⟩ ⟨_,rfl,rfl,fun _=>rfl⟩) ?_
 ·rw[nR];have h1:=fK (4294967296^(xs.length-ao.length+1)) DG;rw[zar,<-zal,show m+1+(xs.length-ao.length+1)=xs.length by omega]at h1;omega
 rintro⟨k,us,da⟩ ⟨U,tO,pf,z5,My,g7,hu,e4⟩;cases k with
 |zero=>
  rw[zbs,zaI]at hu;rw[zbs,zaI,zaq]at e4;refine ak 67 ?_
  iterate 9 refine gW ?_
  refine Eh 4 ?_;refine Eh 11 ?_;refine I ?_;refine bo tf da ⟨My,by omega⟩ (I ?_);refine aeW (us.take (m+2)) ?_;refine I ?_;refine bo tf (us.take (m+2)) ⟨qp pf _,by simp;omega⟩ (I ?_);refine bo arh (val 4294967296 (us.take (m+2)),e) ⟨?_,by show e<_;omega⟩ ?_
  ·show(aR _ _).length<=_;have:=iW (b:=4294967296) (by decide) (j7 (qp pf (m+2)));rw[zas]at this;omega
  refine I ?_;have LC:0<2^e:=zah e;have pb:0<b*2^e:=zbJ (by omega) LC;have xV:val 4294967296 (us.take (m+2))=val 4294967296 us:=by
   have aq:=JA (b:=4294967296) (l:=us) (k:=m+2) (by omega);rcases zcC (val 4294967296 (us.drop (m+2)))with h0|h0
   ·rw[h0]at aq;omega
   ·have:4294967296^(m+2)*1<=4294967296^(m+2)*val 4294967296 (us.drop (m+2)):=lF _ h0;omega
  have G4:val 4294967296 da=a/b:=by
   have h1:a*2^e/(b*2^e)=a/b:=Nat.mul_div_mul_right _ _ LC;rw[<-h1,e4,zbS,Nat.add_mul_div_right _ _ pb,zaW hu,zaw]
  have oC:val 4294967296 us/2^e=a%b:=by
   have h1:a*2^e%(b*2^e)=a%b*2^e:=Nat.mul_mod_mul_right _ _ _;rw[e4,zbS,zey,dJ hu]at h1;rw[h1,zdf _ LC]
  exact ar rfl (.bu ⟨.of (congrArg c0 G4),.of (congrArg c0 (by rw[xV];exact oC)),trivial⟩)
 |succ j=>
  refine ah 12 (.i .i64 (j:Nat)) rfl ev (I ?_);refine ah 67 (.b true) rfl (by simp) (I ?_);refine cu 73 (.i .i64 ((j+(m+2):Nat):Int)) rfl rfl bx ?_;refine lg ?_;refine FH us[j+(m+2)] (Cr (by omega)) ?_;refine ak 82 ?_;refine cu 82 (.i .i64 ((j+(m+1):Nat):Int)) rfl rfl (by rw[gL (n:=(j:Int)+(m+2:Nat)) (by omega) (by omega)];exact bx) ?_;refine lg ?_;refine FH us[j+(m+1)] (Cr (by omega)) ?_;refine ak 86 ?_;have amf:=pf _ (dV (show j+(m+2)<us.length by omega));have ame:=pf _ (dV (show j+(m+1)<us.length by omega));have MC:=pf _ (dV (show j+m<us.length by omega));have avA:=Cz _ (dV (show m+1<vs.length by omega));have z9:=Cz _ (dV (show m<vs.length by omega));obtain⟨top,C6⟩:∃top,top=us[j+(m+2)]*4294967296+us[j+(m+1)]:=⟨_,rfl⟩;refine cu 86 (.i .u64 (top:Nat)) rfl rfl (ev (congrArg _ ((ao2 amf ame).trans C6.symm))) ?_;obtain⟨gE,EM,EN⟩:=abX (n:=m+2) pf (by omega) yc hu;have zQ:eB us j (m+2+1)=(top*4294967296+us[j+m])*4294967296^m+eB us j m:=by
   unfold eB;rw[C6];rw[rQ (by omega),rQ (by omega),rQ (by omega),zak,zak];exact aff _ _ _ _ _
  have vq:b*2^e=(vs[m+1]*4294967296+vs[m])*4294967296^m+val 4294967296 (vs.take m):=by
   rw[<-hI];have:val 4294967296 vs=val 4294967296 (vs.take (m+1+1)):=by rw[zay (by omega)]
   rw[this,hN (by omega),hN (by omega),zak];exact afe _ _ _ _
  have tu:eB us j m<4294967296^m:=by
   have:=j7 (qp (wb pf j) m);unfold eB;rw[zas,zaA (by simp;omega)]at this;exact this
  have CA:val 4294967296 (vs.take m)<4294967296^m:=by
   have:=j7 (qp Cz m);rw[zas,zaA (by omega)]at this;exact this
  have C8:0<vs[m+1]:=by
   rcases zcC vs[m+1]with h0|h0
   ·rw[h0,zav,zaw]at vq;have h1:vs[m]*4294967296^m+4294967296^m<=4294967296^(m+1):=by
     have:(vs[m]+1)*4294967296^m<=4294967296*4294967296^m:=fK _ z9;rw[zam,zaH]at this;rw[zak,zaj _ 4294967296];exact this
    have h2:1*4294967296^(m+1)<=2147483648*4294967296^(m+1):=fK _ (by decide);omega
   ·exact h0
  have r6:0<b*2^e:=zbJ (by omega) (zah e);have V7:eB us j (m+2+1)/(b*2^e)<4294967296:=(zbi r6).2 (by rw[zaj];exact EN);have V8:eB us j (m+2+1)/(b*2^e)*(b*2^e)<=eB us j (m+2+1):=zez _ _;have iJ:=afi (da:=da) (n:=m+2) pf (by omega) (by omega) r6 yc hu e4;generalize gx:eB us j (m+2+1)=W at *;generalize hq:W/(b*2^e)=q at *;generalize auW:b*2^e=V at *;generalize We:us[j+(m+2)]=jh at *;generalize Wd:us[j+(m+1)]=qD at *;generalize ama:us[j+m]=ho at *;generalize nf:vs[m+1]=v1 at *;generalize ln:vs[m]=v2 at *;have Gr:vs[m+1]? =some v1:=by rw[Cr (by omega),nf]
  have aj1:vs[m]? =some v2:=by rw[Cr (by omega),ln]
  have ajU:us[j+m]? =some ho:=by rw[Cr (by omega),ama]
  have avx:top<18446744073709551616:=by omega
  have avz:2147483648<=v1:=anm vq CA z9 (by decide) (by rw[zak]at DG;exact DG);have avy:jh<=v1:=anl vq CA z9 (by decide) zQ C6 EN;refine I ?_;refine cu 90 (.i .i64 ((m+1:Nat):Int)) rfl rfl bx ?_;refine hS v1 Gr ?_;refine ak 93 ?_;refine cu 93 (.i .u64 (v1:Nat)) rfl rfl ev ?_;refine aeR ?_;refine I ?_;refine cu 98 (.i .i64 ((m+1:Nat):Int)) rfl rfl bx ?_;refine hS v1 Gr ?_;refine ak 101 ?_;refine cu 101 (.i .u64 (v1:Nat)) rfl rfl ev ?_;refine aeU ?_;refine ak 15 ?_
  iterate 3 refine gW ?_
  refine fJ (fun(g:Nat)=>q<=g∧g<4294967296∧g*V<=W+V) (fun(g:Nat)=>⟨[.a 165 false 1 Nat eY us,.a 165 false 1 Nat eY da],2,[(4,.aY 1 1 0 (xs.length-ao.length+1) (xs.length-ao.length+1)),(6,.i .i64 ((m+2:Nat):Int)),(9,.i .i64 e),(10,cQ vs),(11,.aY 0 1 0 (xs.length+1) (xs.length+1)),(12,.i .i64 j),(14,.i .u64 g)]⟩) ?_ ?_
  ·refine I ?_;refine c6 (L:=Nat×Nat) (fun(g,o)=>top=g*v1+o∧q<=g∧g<=4294967297∧o<4294967296)
    (fun((g:Nat),(o:Nat))=>⟨[.a 165 false 1 Nat eY us,.a 165 false 1 Nat eY da],2,[(4,.aY 1 1 0 (xs.length-ao.length+1) (xs.length-ao.length+1)),(6,.i .i64 ((m+2:Nat):Int)),(9,.i .i64 e),(10,cQ vs),(11,.aY 0 1 0 (xs.length+1) (xs.length+1)),(12,.i .i64 j),(14,.i .u64 g),(15,.i .u64 o)]⟩)
    (fun l=>l.1) [0,1] (top/v1,top%v1) ⟨by rw[zaj];exact(zaS top v1).symm,?_,?_,?_⟩ ?_ ij ?_
   ·exact(zbI C8).2 (ank vq zQ tu MC V8)
   ·have:top/v1<4294967298:=(zbi C8).2 (by omega);omega
   ·have:=zaf top C8;omega
   ·have:top/v1<=top:=zax _ _;have h2:top/v1<4294967298:=(zbi C8).2 (by omega);show top/v1<bQ+1;unfold bQ;omega
   rintro⟨g,o⟩ ⟨aN,Mx,VM,alB⟩;refine ak 106 ?_;rcases zan g 4294967296 with aJ|aJ
   ·refine cu 106 (.b false) rfl rfl (by show ab.b (decide _)=_;congr 1;simp;omega) ?_;refine ak 110 ?_;refine cu 110 (.i .i64 (m:Nat)) rfl rfl bx ?_;refine I ?_;refine hS v2 aj1 ?_;obtain⟨a2,bw,dr⟩:=Ns (c:=0) (o:=0) (by decide) aJ z9 (by decide);refine ak 114 ?_;refine cu 114 (.i .u64 ((g*v2:Nat):Int)) rfl rfl (ev (congrArg _ (by rw[dJ (a:=v2) (by omega),dJ a2]))) ?_;refine ak 121 ?_;refine cu 121 (.i .i64 ((j+m:Nat):Int)) rfl rfl (by rw[gL (n:=(j:Int)+(m+2:Nat)) (by omega) (by omega)];exact bx) ?_;refine I ?_;refine lg ?_;refine I ?_;refine FH ho ajU ?_;refine ak 125 ?_;refine cu 125 (.i .u64 ((o*4294967296+ho:Nat):Int)) rfl rfl (ev (congrArg _ (NZ alB MC))) ?_;refine I ?_;refine b9 (fun hc=> ?_) (fun hc=> ?_)
    ·have aV:=anj vq zQ tu V8 Mx aN (by omega);refine I ?_;have ala:(g-1)*v1+v1=g*v1:=by
      rw[<-zcj,show(g-1).succ=g by omega]
     have sh:top=(g-1)*v1+(o+v1):=by omega
     refine ah 14 (.i .u64 ((g-1:Nat):Int)) rfl (ev (congrArg _ (Js (by omega) (by omega)))) ?_;refine ah 133 (.i .i64 ((m+1:Nat):Int)) rfl bx ?_;refine dP v1 Gr ?_;refine ak 137 ?_;refine ah 137 (.i .u64 ((o+v1:Nat):Int)) rfl ev (I ?_);refine b9 (fun hc=> ?_) (fun hc=> ?_)
     ·have hc:(((o+v1)/4294967296:Nat):Int)≠0:=hc;refine I ?_;have xA:=WQ vq CA z9 zQ sh (by omega) (by omega);have hle:=(zbI r6).2 xA;rw[hq]at hle;exact a1 [0,1] (g-1) ⟨by omega,by omega,by omega⟩ ij
     ·have hc:¬(((o+v1)/4294967296:Nat):Int)≠0:=hc;refine I ?_;exact a1 [0,1] (g-1,o+v1) ⟨by show g-1<g;omega,sh,by omega,by omega,by omega⟩ ij
    ·refine I ?_;exact a1 [0,1] g ⟨Mx,aJ,ani vq CA C8 zQ aN (by omega) (by omega)⟩ ij
   ·refine cu 106 (.b true) rfl rfl (by show ab.b (decide _)=_;congr 1;simp;omega) ?_;refine I ?_;have ala:(g-1)*v1+v1=g*v1:=by
     rw[<-zcj,show(g-1).succ=g by omega]
    have sh:top=(g-1)*v1+(o+v1):=by omega
    refine ah 14 (.i .u64 ((g-1:Nat):Int)) rfl (ev (congrArg _ (Js (by omega) (by omega)))) ?_;refine ah 133 (.i .i64 ((m+1:Nat):Int)) rfl bx ?_;refine dP v1 Gr ?_;refine ak 137 ?_;refine ah 137 (.i .u64 ((o+v1:Nat):Int)) rfl ev (I ?_);refine b9 (fun hc=> ?_) (fun hc=> ?_)
    ·have hc:(((o+v1)/4294967296:Nat):Int)≠0:=hc;refine I ?_;have xA:=WQ vq CA z9 zQ sh (by omega) (by omega);have hle:=(zbI r6).2 xA;rw[hq]at hle;exact a1 [0,1] (g-1) ⟨by omega,by omega,by omega⟩ ij
    ·have hc:¬(((o+v1)/4294967296:Nat):Int)≠0:=hc;refine I ?_;exact a1 [0,1] (g-1,o+v1) ⟨by show g-1<g;omega,sh,by omega,by omega,by omega⟩ ij
  rintro(g:Nat) ⟨ak5,r8,ak6⟩;obtain⟨f1,f2⟩:=anh (W:=W) (V:=V) (g:=g) r6 (by rw[hq];exact ak5) ak6;refine I ?_;refine b9 (fun h0=> ?_) (fun h0=> ?_)
  ·have V6:q=0:=by omega
   have akm:W<V:=by
    have:=zaS W V;rw[hq,V6,zbx,zaw]at this;have:=zaf W r6;omega
   refine I ?_;rw[dJ akm,<-gx,aui (by omega) pf,V6]at iJ;have ra:da.set j 0=da:=by
    apply zbD;intro p;rw[zbr];split
    ·rename_i hp;subst hp;rw[zab (by omega),g7 _ (by omega)]
    ·rfl
   rw[ra]at iJ;exact a1 [0,1] (j,us,da) ⟨by show j<j+1;omega,by omega,tO,pf,z5,My,fun p hp=>g7 p (by omega),iJ.1,iJ.2⟩ (nq ⟨rfl,rfl,rfl,rfl,rfl,eS,trivial⟩ ⟨_,rfl,rfl,fun _=>rfl⟩ ⟨_,rfl,rfl,fun _=>rfl⟩)
  refine I ?_;refine ZM ?_;refine I ?_;refine IX as8 0 (us,j,vs,g) ⟨by omega,pf,Cz,r8,by omega⟩ ?_ (he:=by show[ab.aY 0 1 j _ _,cQ vs,ab.i .u64 (g:Nat)]=[ab.aY 0 1 j _ _,cQ vs,ab.i .u64 (g:Nat)];rw[tO]);have a0:vs.length=m+2:=zP;have auZ:∀X,X<V->X%4294967296^(m+2+1)=X:=fun X LL=>dJ (by
   have:4294967296^(m+2)<=4294967296^(m+2+1):=zat (by decide) (by omega);omega)
  have p5:=zaS W V;rw[hq]at p5;have V1:=zaf W r6;rw[show eB us j (vs.length+1)=W by rw[a0];exact gx,hI,a0];refine ah 148 (.b (decide (W<g*V))) rfl (by show ab.b (decide (eB us j (vs.length+1)<g*val 4294967296 vs))=_;rw[a0,gx,hI]) ?_;refine gW ?_;refine gW ?_;refine fJ (fun(g:Nat)=>g=q) (fun(g:Nat)=>⟨[.a 165 false 1 Nat eY (jj us j (m+2+1) (W%V)),.a 165 false 1 Nat eY da],2,[(4,.aY 1 1 0 (xs.length-ao.length+1) (xs.length-ao.length+1)),(6,.i .i64 ((m+2:Nat):Int)),(9,.i .i64 e),(10,cQ vs),(11,.aY 0 1 0 (xs.length+1) (xs.length+1)),(12,.i .i64 j),(14,.i .u64 g)]⟩) ?_ ?_
  ·refine b9 (fun hc=> ?_) (fun hc=> ?_)
   ·obtain⟨eK,fO⟩:=f1 hc;rw[zab hc];refine ak 14 ?_;refine ah 14 (.i .u64 ((g-1:Nat):Int)) rfl (ev (congrArg _ (Js (by omega) (by omega)))) (I ?_);refine ZM ?_;refine I ?_;refine IX ajv 0 (jj us j (m+2+1) (W+4294967296^(m+2+1)-g*V),j,vs) ⟨by rw[JE (by omega)];omega,abW pf,Cz,by rw[JE (by omega)];omega⟩ ?_ (he:=by show[ab.aY 0 1 j _ _,cQ vs]=[ab.aY 0 1 j _ _,cQ vs];rw[JE (by omega),tO]);refine I ?_;refine a1 [0,1] (g-1) (eK.trans hq) (nq ⟨rfl,rfl,rfl,rfl,rfl,rfl,rfl,trivial⟩ ⟨_,rfl,?_,fun _=>rfl⟩ ⟨_,rfl,rfl,fun _=>rfl⟩);show ay.a _ _ _ _ _ _=ay.a _ _ _ _ _ _;congr 1;rw[a0,auk (by omega),auq (by omega),hI];have au7:(g-1)*V+V=g*V:=by rw[<-zcj,show(g-1).succ=g by omega]
    have GN:(g-1)*V=V*q:=by rw[eK,hq,zaj]
    have jD:0<4294967296^(m+2+1):=zcH (by decide);have auX:V<4294967296^(m+2+1):=by
     have:4294967296^(m+2)<=4294967296^(m+2+1):=zat (by decide) (by omega);omega
    have key:((W+4294967296^(m+2+1)-g*V)%4294967296^(m+2+1)+V)%4294967296^(m+2+1)=W%V:=by
     generalize 4294967296^(m+2+1)=PP at *;rw[dJ (show W+PP-g*V<PP by omega),show W+PP-g*V+V=W%V+PP by omega,Nat.add_mod_right,dJ (by omega)]
    rw[<-auh,key]
   ·have eK:=f2 hc;rw[zaa hc];refine I ?_;refine a1 [0,1] g (by omega) (nq ⟨rfl,rfl,rfl,rfl,rfl,rfl,rfl,trivial⟩ ⟨_,rfl,?_,fun _=>rfl⟩ ⟨_,rfl,rfl,fun _=>rfl⟩);show ay.a _ _ _ _ _ _=ay.a _ _ _ _ _ _;congr 2;rw[zaQ];have:g*V=V*q:=by rw[eK,hq,zaj]
    omega
  intro gC L3;rw[show gC=q from L3];refine I ?_;refine ix ?_;refine kp (q%4294967296) ?_;refine I ?_;rw[dJ V7];refine a1 [0,1] (j,jj us j (m+2+1) (W%V),da.set j q) ⟨by show j<j+1;omega,by omega,by rw[JE (by omega)];exact tO,abW pf,by simp[z5],mH My _ V7,fun p hp=>by rw[zbo (by omega)];exact g7 p (by omega),iJ.1,iJ.2⟩ (nq ⟨rfl,rfl,rfl,rfl,rfl,eS,trivial⟩ ⟨_,rfl,rfl,fun _=>rfl⟩ ⟨_,rfl,rfl,fun _=>rfl⟩)
def so(h:dF k a)(hb:b<=a):dF k b:=zai (M9 hb) h
def vT(h:dF k a):a<4294967296^k:=by
 have h1:=j7 (gb (b:=4294967296) (by decide) a);rw[fP (by decide)]at h1;exact fC h1 (zat (by decide) h)
def rn(h:a<4294967296^k):dF k a:=iW (by decide) h
def Kv{m n:Nat}(h:m<=n):bs m<=bs n:=by
 by_cases h0:m=0
 ·subst h0;exact zag _
 ·have h1:=(qP h0).1;have h2:=(qP (show n≠0 by omega)).2;have:=(zde (by decide:1<2)).1 (zaX (zai h1 h) h2);omega
def adr{m n:Nat}(h:m<=n/2)(hn:1<=n):bs m<bs n:=by
 have:=Kv h;rw[u4 hn];omega
def Fq{n:Nat}(h:n<2^k):bs n<=k:=by
 by_cases h0:n=0
 ·subst h0;exact zag _
 ·have:=(zde (by decide:1<2)).1 (zaX (qP h0).1 h);omega
def vS(h:dF k a):bs a<=32*k:=Fq (by rw[zbw];exact vT h)
def ads(ha:dF k a)(hb:dF k b):bs (a*b)<=64*k:=Fq (by
 rw[show 64*k=32*k+32*k by omega,zal,zbw];exact zeA (vT ha) (vT hb))
def af2(aA:0<y)(h:y<=x):y*(x%y)<=x*y/2:=by
 have h1:x%y<y:=zaf x aA;have h2:2*(x%y)<=x:=by
  have:=zaS x y;have h3:y*1<=y*(x/y):=lF y (zdg h aA);omega
 rw[zbI (by decide)];have:=lF y h2;rw[zaj x y];have e:y*(x%y)*2=y*(2*(x%y)):=by ac_rfl
 omega
def Lz:bh where
 L:=Nat×Nat
 args:=fun(a,b)=>[c0 a,c0 b]
 pre:=fun(a,b)=>dF 1073741823 a∧dF 1073741823 b
 res:=fun(a,b)=>c0 (Nat.gcd a b)
def Va:a9 aT.ctx 38 Lz.spec:=by
 refine bH [(82,FP.spec)] T5.1 ?_;intro⟨a,b⟩ ⟨(ha:dF _ a),(hb:dF _ b)⟩ H aH;refine I ?_;refine c6 (L:=Nat×Nat) (fun(x,y)=>dF 1073741823 x∧dF 1073741823 y∧Nat.gcd x y=Nat.gcd a b) (fun((x:Nat),(y:Nat))=>⟨[],0,[(0,c0 x),(1,c0 y)]⟩) (fun l=>2*bs (l.1*l.2)+if l.1<l.2 then 1 else 0) [] (a,b) ⟨ha,hb,rfl⟩ ?_ eP ?_
 ·show 2*bs (a*b)+(if a<b then 1 else 0)<bQ+1;have:=ads ha hb;unfold bQ;split<;>omega
 rintro⟨x,y⟩ ⟨J,aA,aJ⟩;refine I ?_;refine b9 (fun h=> ?_) (fun h=> ?_)
 ·have Df:y≠0:=fun h0=>by subst h0;rw[fG]at h;simp at h
  refine I ?_;refine aL FQ (x,y) ⟨J,aA,Df⟩ (I ?_);refine a1 [] (y,x%y) ⟨?_,aA,so aA (zaY (zaf x (by omega))),?_⟩ eP
  ·show 2*bs (y*(x%y))+(if y<x%y then 1 else 0)<2*bs (x*y)+(if x<y then 1 else 0);have hm:=zaf x (show 0<y by omega);rw[zaa (by omega)];by_cases MG:x<y
   ·rw[zab MG,dJ MG,zaj y x];omega
   ·rw[zaa MG];have hp:0<x*y:=zbJ (by omega) (by omega);have:=adr (af2 (by omega) (by omega)) hp;omega
  ·rw[<-aJ,zdL x y,Nat.gcd_rec y x,zdL]
 ·have Df:y=0:=(nD (b:=4294967296) (by decide)).1 (zbB (by omega));subst Df;refine I ?_;refine ar rfl (.of ?_);show c0 x=c0 (Nat.gcd a b);rw[<-aJ,Nat.gcd_zero_right]
def MR:bh where
 L:=Nat
 args:=fun n=>[c0 n]
 pre:=fun _=>True
 res:=fun n=>.b (decide (n=1))
def afc:aR 4294967296 1=[1]:=by rw[nE (by decide) (by decide),show 1/4294967296=0 from rfl,fG]
def Ho:a9 aT.ctx 37 MR.spec:=by
 refine bH [] T0.1 ?_;intro(n:Nat) _ H aH;show aU.ok _ ⟨_,_,⟨_,_,[(0,cQ (aR 4294967296 n))]⟩⟩;have aF:=fP (b:=4294967296) (by decide) n;generalize gJ:aR 4294967296 n=ds at *;refine ak 6 ?_
 match ds,aF,gJ with
 |[],aF,gJ=>
  refine I ?_;have:n=0:=by simp[val]at aF;exact aF.symm
  subst this;exact ar rfl (.refl _)
 |[d],aF,gJ=>
  have:n=d:=by simp[val]at aF;exact aF.symm
  subst this;refine I ?_;refine dP (j:=0) n rfl ?_;refine I ?_;refine ar rfl (.of ?_);show ab.b _=ab.b _;congr 1;rw[decide_eq_decide];exact⟨fun h=>by omega,fun h=>by omega⟩
 |d::kf::ds,aF,gJ=>
  refine I ?_;refine ar rfl (.of ?_);show ab.b false=ab.b _;congr 1
  symm
  rw[decide_eq_false_iff_not];intro h1;subst h1;rw[afc]at gJ;cases gJ
def rZ(d:Nat):ab:=.hK 1 Nat eY (if d=1 then[]else aR 4294967296 d)
def iS(x:Rat):ac ab:=[.b (decide (x.num<0)),c0 x.num.natAbs,rZ x.den]
def bG(x:Rat):ab:=.agg (iS x)
def B2(h:d≠1):rZ d= .hK 1 Nat eY (aR 4294967296 d):=by unfold rZ;rw[zaa h]
def WZ(h:d≠1)(h0:d≠0):bZ (c0 d) (rZ d):=by
 rw[B2 h];exact bZ.hK (fun e=>h0 ((nD (by decide)).1 e))
def Rq(h:d≠1):bZ (rZ d) (c0 d):=by
 rw[B2 h];exact bZ.auE
def ss(n:Int)(d:Nat)(h:d≠0):(mkRat n d).num=n/((n.natAbs.gcd d:Nat):Int)∧(mkRat n d).den=d/n.natAbs.gcd d:=by
 rw[<-Rat.normalize_eq_mkRat h,Rat.normalize_eq h];exact⟨rfl,rfl⟩
def X6(hp:p≠0)(hq:q≠0):(mkRat (if neg then -(p:Int)else p) q).num=(if neg then -((p/p.gcd q:Nat):Int)else((p/p.gcd q:Nat):Int))∧(mkRat (if neg then -(p:Int)else p) q).den=q/p.gcd q:=by
 have aJ:0<p.gcd q:=zeB _ (by omega);have ha:(if neg then -(p:Int)else(p:Int)).natAbs=p:=by cases neg<;>simp
 obtain⟨h1,h2⟩:=ss (if neg then -(p:Int)else p) q hq;rw[ha]at h1 h2;refine⟨?_,h2⟩;rw[h1];cases neg
 ·simp
 ·simp only[if_true];obtain⟨k,U⟩:=zdh p q;generalize p.gcd q=g at *;subst U;rw[zeC _ aJ,zap,<-zcR,Int.mul_ediv_cancel_left _ (by omega)]
def M5{x:Rat}{c:ab}(h1:x.num=if neg then -(p:Int)else(p:Int))(h2:x.den=q)(hp:p≠0)(hc:bZ c (rZ q)):bZ (.agg [.b neg,c0 p,c]) (bG x):=by
 refine bZ.agg ⟨.of ?_,.of ?_,?_,trivial⟩
 ·congr 1;rw[h1];cases neg
  ·simp
  ·simp;omega
 ·congr 1;rw[h1];cases neg<;>simp
 ·rw[h2];exact hc
def le_zero:bZ (.agg [.b false,.nl,.nl]) (bG 0):=bZ.agg ⟨.refl _,bZ.nl.trans (.of (by show cQ []=cQ (aR _ 0);rw[fG])),bZ.NC,trivial⟩
def vY:bh where
 L:=Bool×Nat×Nat
 args:=fun(n,p,q)=>[.b n,c0 p,c0 q]
 pre:=fun(_,p,q)=>dF 1073741823 p∧dF 1073741823 q∧q≠0
 res:=fun(n,p,q)=>bG (mkRat (if n then -(p:Int)else p) q)
def rp{n:Nat}:(aR 4294967296 n).length=0↔n=0:=by rw[zeD];exact nD (by decide)
def pn:a9 aT.ctx 31 vY.spec:=by
 refine bH [(37,MR.spec),(38,Lz.spec),(82,FP.spec)] TE.1 ?_;intro⟨n,p,q⟩ ⟨(hp:dF _ p),(hq:dF _ q),(g7:q≠0)⟩ H aH;refine I ?_;refine b9 (fun h=> ?_) (fun h=> ?_)
 ·have q7:p=0:=rp.1 (by omega);subst q7;refine I ?_;refine ar rfl (le_zero.trans (.of ?_));show bG 0=bG (mkRat _ q);congr 1;cases n<;>simp
 have q7:p≠0:=fun h0=>h (by rw[h0,fG];rfl);have aJ:0<p.gcd q:=zeB _ (by omega);refine I ?_;refine aL Ho q trivial (I ?_);refine fJ (fun((dy:Nat),(e1:Nat))=>dy=p/p.gcd q∧e1=q/p.gcd q) (fun(dy,e1)=>⟨[.c 42 [.b false,.nl,.nl]],1,[(0,.b n),(1,c0 dy),(2,c0 e1),(6,.p 0 0)]⟩) ?_ ?_
 ·refine AW (fun h1=> ?_) (fun h1=> ?_)
  ·refine I ?_;refine aL Va (p,q) ⟨hp,hq⟩ (I ?_);refine aL Ho (p.gcd q) trivial (I ?_);refine AW (fun h2=> ?_) (fun h2=> ?_)
   ·have W6:dF 1073741823 (p.gcd q):=so hp (Nat.gcd_le_left _ (by omega));refine I ?_;refine aL FQ (p,p.gcd q) ⟨hp,W6,by show p.gcd q≠0;omega⟩ (I ?_);refine aL FQ (q,p.gcd q) ⟨hq,W6,by show p.gcd q≠0;omega⟩ (I ?_);exact a1 [0] (p/p.gcd q,q/p.gcd q) ⟨rfl,rfl⟩ dD
   ·refine I ?_;exact a1 [0] (p,q) ⟨by rw[h2,zcb],by rw[h2,zcb]⟩ dD
  ·refine I ?_;exact a1 [0] (p,q) ⟨by rw[h1,zeE,zcb],by rw[h1,zeE,zcb]⟩ dD
 rintro⟨dy,e1⟩ ⟨aq,e2⟩;obtain⟨mF,jf⟩:=X6 (neg:=n) q7 g7;rw[<-aq]at mF;rw[<-e2]at jf;have lk:dy≠0:=by
  have:=zdg (Nat.gcd_le_left q (show 0<p by omega)) aJ;omega
 have Mw:e1≠0:=by
  have:=zdg (zeF p (show 0<q by omega)) aJ;omega
 refine I ?_;refine aL Ho e1 trivial (I ?_);refine b9 (fun h3=> ?_) (fun h3=> ?_)
 ·refine I ?_;exact ar rfl (M5 mF jf lk (by rw[h3];exact bZ.NC))
 ·refine I ?_;exact ar rfl (M5 mF jf lk (WZ h3 Mw))
def cA(k:Nat)(x:Rat):Prop:=dF k x.num.natAbs∧dF k x.den
def s8:bh where
 L:=Rat
 args:=fun x=>[bG x]
 pre:=fun _=>True
 res:=fun x=>c0 x.den
def nz:a9 aT.ctx 41 s8.spec:=by
 refine bH [(32,v9.spec)] Ui.1 ?_;intro(x:Rat) _ H aH;refine ak 4 ?_;by_cases al:x.den=1
 ·refine ah 4 (.hK 1 Nat eY []) rfl (by show rZ x.den=_;rw[al];rfl) (I ?_);refine aL oG (1:Nat) (by show 1<_;decide) (I ?_);exact ar rfl (.of (by show c0 1=c0 x.den;rw[al]))
 ·refine ah 4 (.hK 1 Nat eY (aR 4294967296 x.den)) rfl (B2 al) ?_;have cl:(aR 4294967296 x.den).isEmpty=false:=zdC.2 (fun e=>x.den_nz ((nD (by decide)).1 e));refine I ?_;refine aqa rfl (by show kd false _=false;rw[cl];rfl) ?_;refine I ?_;exact ar rfl (Rq al)
def uE:bh where
 L:=Rat
 args:=fun x=>[bG x]
 pre:=fun _=>True
 res:=fun x=>.i .i64 x.num.sign
def sK:a9 aT.ctx 39 uE.spec:=by
 refine bH [] Ue.1 ?_;intro(x:Rat) _ H aH;refine I ?_;refine b9 (fun h=> ?_) (fun h=> ?_)
 ·have h0:x.num.natAbs=0:=rp.1 (by omega);refine I ?_;exact ar rfl (.of (by show ab.i .i64 0=ab.i .i64 x.num.sign;rw[Int.natAbs_eq_zero.1 h0];rfl))
 have h0:x.num≠0:=fun e=>h (by rw[e];show((aR _ 0).length:Int)=0;rw[fG];rfl);refine I ?_;refine b9 (fun h=> ?_) (fun h=> ?_)
 ·refine I ?_;exact ar rfl (.of (by show ab.i .i64 (-1)=ab.i .i64 x.num.sign;rw[zcc h]))
 ·refine I ?_;exact ar rfl (.of (by show ab.i .i64 1=ab.i .i64 x.num.sign;rw[zby (by omega)]))
def HS:bh where
 L:=Rat
 args:=fun x=>[bG x]
 pre:=fun _=>True
 res:=fun x=>bG (-x)
def HU:a9 aT.ctx 123 HS.spec:=by
 refine bH [] Sa.1 ?_;intro(x:Rat) _ H aH;have hle:∀{t:Bool},t=decide (-x.num<0)->bZ (.agg [.b t,c0 x.num.natAbs,rZ x.den]) (bG (-x)):=fun h=>by
  refine bZ.agg ⟨.of (by rw[h,zbK]),.of (by rw[zbK,zbL]),.of (by rw[zcd]),trivial⟩
 refine ak 6 ?_;by_cases hn:x.num<0
 ·refine ah 6 (.b false) rfl (by show ab.b (!decide _)=_;rw[zad hn];rfl) (I ?_);exact ar rfl (hle (by symm;simp;omega))
 ·refine ah 6 (.b true) rfl (by show ab.b (!decide _)=_;rw[zac hn];rfl) (I ?_);refine ar rfl (hle ?_);rw[decide_eq_decide];rcases(show 0<x.num∨x.num<=0 by omega)with h0|h0
  ·have:x.num.natAbs≠0:=by omega
   have:(aR 4294967296 x.num.natAbs).length≠0:=fun e=>this (rp.1 e);exact⟨fun _=>by omega,fun _=>by omega⟩
  ·have h1:x.num=0:=by omega
   have h2:(aR 4294967296 x.num.natAbs).length=0:=rp.2 (by omega);exact⟨fun h=>by omega,fun h=>by omega⟩
def gv(x:Rat):Rat:=if x.num<0 then -x else x
def mV(x:Rat):(gv x).num=(x.num.natAbs:Int)∧(gv x).den=x.den:=by
 unfold gv;split
 ·rw[zbK,zcd];exact⟨by omega,rfl⟩
 ·exact⟨by omega,rfl⟩
def Fa:bh where
 L:=Rat
 args:=fun x=>[bG x]
 pre:=fun _=>True
 res:=fun x=>bG (gv x)
def J4:a9 aT.ctx 117 Fa.spec:=by
 refine bH [] R7.1 ?_;intro(x:Rat) _ H aH;refine I ?_;refine ar rfl (bZ.agg ⟨.of ?_,.of ?_,.of ?_,trivial⟩)
 ·rw[(mV x).1];congr 1
 ·rw[(mV x).1];rfl
 ·rw[(mV x).2]
def g4(x y:Rat):Int:=if x<y then -1 else if x=y then 0 else 1
def sH:bh where
 L:=Rat×Rat
 args:=fun(x,y)=>[bG x,bG y]
 pre:=fun(x,y)=>cA 268435456 x∧cA 268435456 y
 res:=fun(x,y)=>.i .i64 (g4 x y)
def lr{l:Nat}(ha:dF k a)(hb:dF l b):dF (k+l) (a*b):=rn (by rw[zal];exact zeA (vT ha) (vT hb))
def b5(n:Bool)(p:Nat):Int:=if n then -(p:Int)else p
def yk(x:Rat):x.num=b5 (decide (x.num<0)) x.num.natAbs:=by
 unfold b5;by_cases h:x.num<0
 ·rw[zad h,zab rfl];omega
 ·rw[zac h,zaa (by decide)];omega
def Q0(x y:Rat):(x.num.sign<y.num.sign->g4 x y= -1)∧(y.num.sign<x.num.sign->g4 x y=1)∧(x.num.sign=y.num.sign->g4 x y=x.num.sign*hR (x.num.natAbs*y.den) (y.num.natAbs*x.den)):=by
 have J:=x.den_nz;have aA:=y.den_nz;have lt:x<y↔x.num*y.den<y.num*x.den:=Rat.lt_iff x y;have eq:x=y↔x.num*y.den=y.num*x.den:=by
  constructor
  ·rintro rfl;rfl
  ·intro h;have h1:=(zdi (n₁:=x.num) (n₂:=y.num) J aA).2 h;rw[zcr,zcr]at h1;exact h1
 have avN:(0:Int)<x.den:=by omega
 have Iv:(0:Int)<y.den:=by omega
 have dw:∀n:Int,(n<0∧n.sign= -1)∨(n=0∧n.sign=0)∨(0<n∧n.sign=1):=fun n=>by
  rcases(show n<0∨n=0∨0<n by omega)with h|h|h
  ·exact .inl ⟨h,zcc h⟩
  ·exact .inr (.inl ⟨h,by rw[h];rfl⟩)
  ·exact .inr (.inr ⟨h,zby h⟩)
 have Cb:x.num*(y.den:Int)=x.num.sign*((x.num.natAbs*y.den:Nat):Int):=by
  rw[zap,<-zbz,zcI]
 have afz:y.num*(x.den:Int)=y.num.sign*((y.num.natAbs*x.den:Nat):Int):=by
  rw[zap,<-zbz,zcI]
 have DY:x.num≠0->0<x.num.natAbs*y.den:=fun h=>zbJ (by omega) (by omega);have YM:y.num≠0->0<y.num.natAbs*x.den:=fun h=>zbJ (by omega) (by omega);rw[Cb,afz]at lt eq;unfold g4 hR;generalize x.num.natAbs*y.den=A at *;generalize y.num.natAbs*x.den=C at *;simp only[lt,eq];rcases dw x.num with⟨fN,gY⟩|⟨fN,gY⟩|⟨fN,gY⟩<;>rcases dw y.num with⟨cK,c9⟩|⟨cK,c9⟩|⟨cK,c9⟩<;>rw[gY,c9]<;>refine⟨fun h=> ?_,fun h=> ?_,fun h=> ?_⟩<;>first
  |(exfalso;omega)
  |(have h1:=DY (by omega);have h2:=YM (by omega);split<;>first|omega|(split<;>first|omega|(split<;>omega)))
  |(have h1:=DY (by omega);split<;>first|omega|(split<;>omega))
  |(have h2:=YM (by omega);split<;>first|omega|(split<;>omega))
  |(split<;>first|omega|(split<;>first|omega|(split<;>omega)))
def cD{l:Nat}(h:dF k a)(hl:k<=l):dF l a:=zai h hl
def sI:a9 aT.ctx 12 sH.spec:=by
 refine bH [(39,uE.spec),(41,s8.spec),(40,As.spec),(42,w9.spec)] R9.1 ?_;intro⟨x,y⟩ ⟨(J:cA _ x),(aA:cA _ y)⟩ H aH;obtain⟨eK,fO,mW⟩:=Q0 x y;refine I ?_;refine bo sK x trivial (I ?_);refine bo sK y trivial (I ?_);have dw:∀n:Int,-1<=n.sign∧n.sign<=1:=fun n=>by
  rcases(show n<0∨n=0∨0<n by omega)with h|h|h
  ·rw[zcc h];decide
  ·rw[h];decide
  ·rw[zby h];decide
 refine b9 (fun h=> ?_) (fun h=> ?_)
 ·refine I ?_;refine b9 (fun h1=> ?_) (fun h1=> ?_)
  ·refine I ?_;exact ar rfl (.of (by show ab.i .i64 (-1)=ab.i .i64 (g4 x y);rw[eK h1]))
  ·refine I ?_;exact ar rfl (.of (by show ab.i .i64 1=ab.i .i64 (g4 x y);rw[fO (by omega)]))
 have he:x.num.sign=y.num.sign:=by omega
 refine I ?_;refine bo nz y trivial (I ?_);refine bo su (x.num.natAbs,y.den) ⟨cD J.1 (by decide),cD aA.2 (by decide)⟩ (I ?_);refine bo nz x trivial (I ?_);refine bo su (y.num.natAbs,x.den) ⟨cD aA.1 (by decide),cD J.2 (by decide)⟩ (I ?_);refine bo BU (x.num.natAbs*y.den,y.num.natAbs*x.den) ⟨?_,?_⟩ ?_
 ·exact cD (lr J.1 aA.2) (by decide)
 ·exact cD (lr aA.1 J.2) (by decide)
 refine I ?_;refine ar rfl (.of ?_);show ab.i .i64 (IntKind.i64.wrap (x.num.sign*hR _ _))=ab.i .i64 (g4 x y);rw[<-mW he];have: -1<=g4 x y∧g4 x y<=1:=by
  unfold g4;split
  ·decide
  ·split<;>decide
 exact bx rfl (by omega) (by omega)
def zs(h:hR a b<0):a<b:=by
 unfold hR at h;split at h
 ·assumption
 ·split at h<;>omega
def zt(h:¬hR a b<0):b<=a:=by
 rcases zan a b with az|az
 ·exact absurd (show hR a b<0 by rw[zr az];decide) h
 ·exact az
def J8(ha:dF k a)(hb:dF k b):dF (k+1) (a+b):=rn (by
 have h1:=vT ha;have h2:=vT hb;rw[zak];omega)
def add_same{x y:Rat}{n:Bool}(J:x.num=b5 n x.num.natAbs)(aA:y.num=b5 n y.num.natAbs):mkRat (b5 n (x.num.natAbs*y.den+y.num.natAbs*x.den)) (x.den*y.den)=x+y:=by
 rw[zdj];congr 1;have e:∀a b:Nat,b5 n (a+b)=b5 n a+b5 n b:=fun a b=>by unfold b5;cases n<;>simp<;>omega
 have e2:∀a b:Nat,b5 n (a*b)=b5 n a*b:=fun a b=>by unfold b5;cases n<;>simp[zbe]
 rw[e,e2,e2,<-J,<-aA]
def PU{x y:Rat}{n m:Bool}(GZ:n≠m)(J:x.num=b5 n x.num.natAbs)(aA:y.num=b5 m y.num.natAbs)(h:y.num.natAbs*x.den<=x.num.natAbs*y.den):mkRat (b5 n (x.num.natAbs*y.den-y.num.natAbs*x.den)) (x.den*y.den)=x+y:=by
 rw[zdj];congr 1;have e2:∀(k:Bool) (a b:Nat),b5 k (a*b)=b5 k a*b:=fun k a b=>by unfold b5;cases k<;>simp[zbe]
 have e:∀a b:Nat,b<=a->b5 n (a-b)=b5 n a+b5 m b:=fun a b iu=>by unfold b5;cases n<;>cases m<;>simp at GZ⊢<;>omega
 rw[e _ _ h,e2,e2,<-J,<-aA]
def wz:bh where
 L:=Rat×Rat
 args:=fun(x,y)=>[bG x,bG y]
 pre:=fun(x,y)=>cA 268435456 x∧cA 268435456 y
 res:=fun(x,y)=>bG (x+y)
def wA:a9 aT.ctx 129 wz.spec:=by
 refine bH [(41,s8.spec),(40,As.spec),(88,Fb.spec),(230,aa0.spec),(42,w9.spec),(31,vY.spec)] Sf.1 ?_;intro⟨x,y⟩ ⟨(J:cA _ x),(aA:cA _ y)⟩ H aH;have hg:=yk x;have mR:=yk y;have fa:dF 536870912 (x.num.natAbs*y.den):=lr J.1 aA.2;have g8:dF 536870912 (y.num.natAbs*x.den):=lr aA.1 J.2;have rm:dF 536870912 (x.den*y.den):=lr J.2 aA.2;have h3:x.den*y.den≠0:=zbd x.den_nz y.den_nz;refine I ?_;refine bo nz y trivial (I ?_);refine bo su (x.num.natAbs,y.den) ⟨cD J.1 (by decide),cD aA.2 (by decide)⟩ (I ?_);refine bo nz x trivial (I ?_);refine bo su (y.num.natAbs,x.den) ⟨cD aA.1 (by decide),cD J.2 (by decide)⟩ (I ?_);refine bo nz x trivial (I ?_);refine bo nz y trivial (I ?_);refine bo su (x.den,y.den) ⟨cD J.2 (by decide),cD aA.2 (by decide)⟩ (I ?_);refine yB rfl (fun h=> ?_) (fun h=> ?_)
 ·have ae:decide (x.num<0)=decide (y.num<0):=zcn h;refine I ?_;refine bo J6 (x.num.natAbs*y.den,y.num.natAbs*x.den) ⟨cD fa (by decide),cD g8 (by decide)⟩ (I ?_);refine bo pn (decide (x.num<0),x.num.natAbs*y.den+y.num.natAbs*x.den,x.den*y.den) ⟨cD (J8 fa g8) (by decide),cD rm (by decide),h3⟩ (I ?_);exact ar rfl (.of (congrArg bG (add_same hg (ae▸mR))))
 have ae:decide (x.num<0)≠decide (y.num<0):=ne_of_beq_false h;refine I ?_;refine aL BU (x.num.natAbs*y.den,y.num.natAbs*x.den) ⟨cD fa (by decide),cD g8 (by decide)⟩ (I ?_);refine b9 (fun h=> ?_) (fun h=> ?_)
 ·have aV:x.num.natAbs*y.den<y.num.natAbs*x.den:=zs h;refine I ?_;refine bo aa3 (y.num.natAbs*x.den,x.num.natAbs*y.den) ⟨cD g8 (by decide),zaY aV⟩ (I ?_);refine bo pn (decide (y.num<0),y.num.natAbs*x.den-x.num.natAbs*y.den,x.den*y.den) ⟨cD (so g8 (zce _ _)) (by decide),cD rm (by decide),h3⟩ (I ?_);refine ar rfl (.of (congrArg bG ?_));have:=PU ae.symm mR hg (zaY aV);rw[Rat.add_comm,<-this,zaj y.den x.den];rfl
 ·have lR:y.num.natAbs*x.den<=x.num.natAbs*y.den:=zt h;refine I ?_;refine bo aa3 (x.num.natAbs*y.den,y.num.natAbs*x.den) ⟨cD fa (by decide),lR⟩ (I ?_);refine bo pn (decide (x.num<0),x.num.natAbs*y.den-y.num.natAbs*x.den,x.den*y.den) ⟨cD (so fa (zce _ _)) (by decide),cD rm (by decide),h3⟩ (I ?_);exact ar rfl (.of (congrArg bG (PU ae hg mR lR)))
def A0:bh where
 L:=Rat×Rat
 args:=fun(x,y)=>[bG x,bG y]
 pre:=fun(x,y)=>cA 268435456 x∧cA 268435456 y
 res:=fun(x,y)=>bG (x-y)
def Nt{x:Rat}(h:cA k x):cA k (-x):=by
 unfold cA;rw[zbK,zcd,zbL];exact h
def Ep:a9 aT.ctx 116 A0.spec:=by
 refine bH [(123,HS.spec),(129,wz.spec)] R6.1 ?_;intro⟨x,y⟩ ⟨(J:cA _ x),(aA:cA _ y)⟩ H aH;refine I ?_;refine bo HU y trivial (I ?_);refine bo wA (x,-y) ⟨J,Nt aA⟩ (I ?_);exact ar rfl (.of (congrArg bG (zcJ x y).symm))
def rl:bh where
 L:=Int
 args:=fun n=>[.i .i64 n]
 pre:=fun n=> -9223372036854775808<=n∧n<9223372036854775808
 res:=fun n=>bG (mkRat n 1)
def nV{n:Nat}(h:n<18446744073709551616):dF 2 n:=rn h
def lp:a9 aT.ctx 10 rl.spec:=by
 refine bH [(32,v9.spec),(31,vY.spec)] vl.1 ?_;intro(n:Int) ⟨(h1:_<=n),(h2:n<_)⟩ H aH;cases n with
 |ofNat k=>
  have h2:(k:Int)<9223372036854775808:=h2;clear h1;refine I ?_;refine ah 12 (.i .u64 (k:Nat)) rfl ev ?_;refine aL oG k (by show k<_;omega) ?_;refine aL oG (1:Nat) (by show 1<_;decide) ?_;refine aL pn (false,k,1) ⟨cD (nV (by omega)) (by decide),cD (nV (by decide)) (by decide),by show 1≠0;decide⟩ (I ?_);exact ar rfl (.refl _)
 |negSucc k=>
  refine I ?_;refine ZO rfl (by simp) ?_;refine ak 7 ?_;have afx:IntKind.u64.wrap (-(IntKind.u64.wrap (Int.negSucc k)))=((k+1:Nat):Int):=by
   rw[JF,JF];rw[Int.negSucc_eq]at *;omega
  refine ah 7 (.i .u64 ((k+1:Nat):Int)) rfl (ev afx) ?_;rw[Int.negSucc_eq]at h1;refine aL oG (k+1) (by show k+1<_;omega) ?_;refine aL oG (1:Nat) (by show 1<_;decide) ?_;refine aL pn (true,k+1,1) ⟨cD (nV (by omega)) (by decide),cD (nV (by decide)) (by decide),by show 1≠0;decide⟩ (I ?_);exact ar rfl (.refl _)
def cS(x:Rat)(k:Int):Rat:=if k<0 then mkRat x.num (x.den*2^(-k).toNat)else mkRat (x.num*2^k.toNat) x.den
def AN(k:Nat):dF (k/32+1) (2^k):=rn (by
 rw[OT k,zak,zaj];exact Nat.mul_lt_mul_of_pos_left (by have:=Im (zaf k (show 0<32 by decide));omega) (zcH (by decide)))
def aaw:bh where
 L:=Rat×Int
 args:=fun(x,k)=>[bG x,.i .i64 k]
 pre:=fun(x,k)=>cA 268435456 x∧-17179869184<k∧k<17179869184
 res:=fun(x,k)=>bG (cS x k)
def aq7:a9 aT.ctx 216 aaw.spec:=by
 refine bH [(41,s8.spec),(161,Jf.spec),(31,vY.spec)] SZ.1 ?_;intro⟨x,k⟩ ⟨(J:cA _ x),(h1:_<k),(h2:k<_)⟩ H aH;have hg:=yk x;refine I ?_;refine b9 (fun h=> ?_) (fun h=> ?_)
 ·obtain⟨n,rfl⟩:∃n:Nat,k= -(n:Int):=⟨(-k).toNat,by omega⟩;refine I ?_;refine bo nz x trivial (ak 14 ?_);refine cu 14 (.i .i64 (n:Nat)) rfl rfl bx ?_;refine I ?_;refine bo A6 (x.den,n) ⟨cD J.2 (by decide),by show n<_;omega⟩ (I ?_);refine bo pn (decide (x.num<0),x.num.natAbs,x.den*2^n) ⟨cD J.1 (by decide),cD (lr J.2 (cD (AN n) (show _<=536870913 by omega))) (by decide),zbd x.den_nz (by have:=zah n;omega)⟩ (I ?_);refine ar rfl (.of (congrArg bG ?_));show mkRat (b5 _ _) _=cS x (-(n:Int));unfold cS;rw[zab h,<-hg];congr 3;omega
 ·obtain⟨n,rfl⟩:∃n:Nat,k=(n:Int):=⟨k.toNat,by omega⟩;refine I ?_;refine bo A6 (x.num.natAbs,n) ⟨cD J.1 (by decide),by show n<_;omega⟩ (I ?_);refine bo nz x trivial (I ?_);refine bo pn (decide (x.num<0),x.num.natAbs*2^n,x.den) ⟨cD (lr J.1 (cD (AN n) (show _<=536870913 by omega))) (by decide),cD J.2 (by decide),x.den_nz⟩ (I ?_);refine ar rfl (.of (congrArg bG ?_));show mkRat (b5 _ _) _=cS x (n:Int);unfold cS;have e2:∀(t:Bool) (a b:Nat),b5 t (a*b)=b5 t a*b:=fun t a b=>by unfold b5;cases t<;>simp[zbe]
  rw[zaa h,e2,<-hg];congr 1
def Je:bh where
 L:=Rat×Int
 args:=fun(x,k)=>[bG x,.i .i64 k]
 pre:=fun(x,k)=>cA 268435456 x
 res:=fun(x,k)=>if -20000<=k∧k<=20000 then .bu [bG (cS x k),.i .i64 0]else .bu [bG 0,.i .i64 7]
def aav:a9 aT.ctx 118 Je.spec:=by
 refine bH [(216,aaw.spec)] R8.1 ?_;intro⟨x,k⟩ (J:cA _ x) H aH;have pd:∀{r:ab},(-20000<=k∧k<=20000->bZ r (.bu [bG (cS x k),.i .i64 0]))->(¬(-20000<=k∧k<=20000)->bZ r (.bu [bG 0,.i .i64 7]))->bZ r (Je.res (x,k)):=fun h1 h2=>by
  show bZ _ (if _ then _ else _);split
  ·exact h1 (by assumption)
  ·exact h2 (by assumption)
 refine ak 8 ?_;by_cases h1:k< -20000
 ·refine dx 8 h1 (I ?_);exact ar rfl (pd (fun h=>by omega) (fun _=>.bu ⟨le_zero,.refl _,trivial⟩))
 ·refine ea 8 h1 (I ?_);refine b9 (fun h2=> ?_) (fun h2=> ?_)
  ·refine I ?_;exact ar rfl (pd (fun h=>by omega) (fun _=>.bu ⟨le_zero,.refl _,trivial⟩))
  ·refine I ?_;refine aL aq7 (x,k) ⟨J,by show _<k;omega,by show k<_;omega⟩ (I ?_);exact ar rfl (pd (fun _=>.refl _) (fun h=>by omega))
def abq:bh where
 L:=Int
 args:=fun k=>[.i .i64 k]
 pre:=fun k=>True
 res:=fun k=>if -20000<=k∧k<=20000 then .bu [bG (cS (mkRat 1 1) k),.i .i64 0]else .bu [bG 0,.i .i64 7]
def atk:a9 aT.ctx 231 abq.spec:=by
 refine bH [(10,rl.spec),(118,Je.spec)] S9.1 ?_;intro(k:Int) _ H aH;refine I ?_;refine aL lp (1:Int) ⟨by decide,by decide⟩ (I ?_);refine aL aav (mkRat 1 1,k) ⟨cD (nV (by decide)) (by decide),cD (nV (by decide)) (by decide)⟩ ?_;by_cases h: -20000<=k∧k<=20000
 ·refine ah 6 (.bu [bG (cS (mkRat 1 1) k),.i .i64 0]) rfl (zab h) (I ?_);exact ar rfl (.of (zab h).symm)
 ·refine ah 6 (.bu [bG 0,.i .i64 7]) rfl (zaa h) (I ?_);exact ar rfl (.of (zaa h).symm)
def adt{n A t:Nat}(hI:A=V+4294967296^n*t)(hl:V<4294967296^n)(aN:t≠0):bs A=32*n+bs t:=by
 obtain⟨a,b⟩:=qP aN;have hp:bs t≠0:=fun e=>by rw[e]at b;omega
 have aq:4294967296^n=2^(32*n):=(zbw 2 32 n).symm;rw[aq]at hI hl;have:= @adu A (32*n+(bs t-1)) (by
  rw[zal];have:=lF (2^(32*n)) a;omega) (by
  rw[show 32*n+(bs t-1)+1=32*n+bs t by omega,zal];have:=lF (2^(32*n)) (show t+1<=2^bs t from b);rw[zaB]at this;omega)
 omega
def QF:bh where
 L:=Nat
 args:=fun n=>[c0 n]
 pre:=fun n=>dF 1073741824 n
 res:=fun n=>.i .i64 (bs n:Nat)
def QG:a9 aT.ctx 389 QF.spec:=by
 refine bH [(264,oE.spec)] Ud.1 ?_;intro(n:Nat) (hn:dF _ n) H aH;have hn:(aR 4294967296 n).length<=1073741824:=hn;refine I ?_;refine b9 (fun h=> ?_) (fun h=> ?_)
 ·have h0:n=0:=rp.1 (by omega);refine I ?_;exact ar rfl (.of (by show ab.i .i64 0=ab.i .i64 (bs n:Nat);rw[h0];rfl))
 have h0:(aR 4294967296 n).length≠0:=fun e=>h (by rw[e];rfl);have bI:=gb (b:=4294967296) (by decide) n;have aF:=fP (b:=4294967296) (by decide) n;have aN:=r1 (b:=4294967296) (by decide) n;rcases zbU (aR 4294967296 n)with CV|⟨cM,t,hc⟩
 ·exact absurd (by rw[CV];rfl) h0
 rw[zbV]at hc;rw[hc]at bI aF aN hn;have Wd:=(yi (b:=4294967296) aN).2;have G7:=bI t (by simp);have hlen:(aR 4294967296 n).length=cM.length+1:=by rw[hc];simp
 rw[lD]at aF;have kA:=adt (A:=n) (n:=cM.length) (V:=val 4294967296 cM) (t:=t) (by rw[<-aF];simp[val]) (j7 (fun d al=>bI d (by simp[al]))) Wd;have hi:cM.length<=1073741823:=by simp at hn;omega
 have We:(aR 4294967296 n)[cM.length]? =some t:=by rw[hc];simp
 refine ak 9 ?_;rw[hlen];refine ah 9 (.i .i64 (cM.length:Nat)) rfl bx (ak 10 ?_);refine ah 10 (.i .i64 ((32*cM.length:Nat):Int)) rfl bx (ak 13 ?_);refine ah 13 (.i .i64 (cM.length:Nat)) rfl bx ?_;refine dP t We ?_;refine I ?_;refine aL W5 t G7 (I ?_);have:=Ku G7;exact ar rfl (.of bx)
def gy(p q:Nat):Int:=if p*2^((bs q:Int)-bs p).toNat<q*2^((bs p:Int)-bs q).toNat then(bs p:Int)-bs q-1 else(bs p:Int)-bs q
def XR:bh where
 L:=Rat
 args:=fun x=>[bG x]
 pre:=fun x=>cA 268435456 x
 res:=fun x=>.i .i64 (gy x.num.natAbs x.den)
def aoj:a9 aT.ctx 344 XR.spec:=by
 refine bH [(41,s8.spec),(389,QF.spec),(161,Jf.spec),(42,w9.spec)] TX.1 ?_;intro(x:Rat) (J:cA _ x) H aH;have cK:=vS J.1;have c9:=vS J.2;refine I ?_;refine aL nz x trivial (I ?_);refine aL QG x.num.natAbs (cD J.1 (by decide)) (I ?_);refine aL QG x.den (cD J.2 (by decide)) (ak 12 ?_);refine ah 12 (.i .i64 ((bs x.num.natAbs:Int)-bs x.den)) rfl bx (ak 17 ?_);refine ah 17 (.i .i64 ((((bs x.den:Int)-bs x.num.natAbs).toNat:Nat):Int)) rfl (congrArg (ab.i .i64) (by rw[gL (n:= -((bs x.num.natAbs:Int)-bs x.den)) (by omega) (by omega)];omega)) ?_;have fa:((bs x.den:Int)-bs x.num.natAbs).toNat<8589934593:=by omega
 have g8:((bs x.num.natAbs:Int)-bs x.den).toNat<8589934593:=by omega
 refine aL A6 (x.num.natAbs,((bs x.den:Int)-bs x.num.natAbs).toNat) ⟨cD J.1 (by decide),by show _<34359738368;omega⟩ (ak 21 ?_);refine ah 21 (.i .i64 ((((bs x.num.natAbs:Int)-bs x.den).toNat:Nat):Int)) rfl (congrArg (ab.i .i64) (by omega)) ?_;refine aL A6 (x.den,((bs x.num.natAbs:Int)-bs x.den).toNat) ⟨cD J.2 (by decide),by show _<34359738368;omega⟩ ?_;refine aL BU (x.num.natAbs*2^((bs x.den:Int)-bs x.num.natAbs).toNat,x.den*2^((bs x.num.natAbs:Int)-bs x.den).toNat) ⟨cD (lr J.1 (cD (AN _) (show _<=268435457 by omega))) (by decide),cD (lr J.2 (cD (AN _) (show _<=268435457 by omega))) (by decide)⟩ (I ?_);refine b9 (fun h=> ?_) (fun h=> ?_)
 ·refine I ?_;exact ar rfl (.of (by
   show ab.i _ _=ab.i .i64 (gy _ _);unfold gy;rw[zab (zs h)];exact bx))
 ·refine I ?_;exact ar rfl (.of (by
   show ab.i _ _=ab.i .i64 (gy _ _);unfold gy;rw[zaa (Nat.not_lt.2 (zt h))]))
def Z2:bh where
 L:=Rat
 args:=fun x=>[bG x]
 pre:=fun x=>cA 268435456 x
 res:=fun x=>if x.num=0 then .bu [.i .i64 0,.i .i64 8]else .bu [.i .i64 (gy x.num.natAbs x.den),.i .i64 0]
def aqz:a9 aT.ctx 275 Z2.spec:=by
 refine bH [(39,uE.spec),(344,XR.spec)] TB.1 ?_;intro(x:Rat) (J:cA _ x) H aH;refine I ?_;refine aL sK x trivial (I ?_);refine b9 (fun h=> ?_) (fun h=> ?_)
 ·have h:x.num=0:=zbM.1 h;refine I ?_;exact ar rfl (.of (zab h).symm)
 ·have h:x.num≠0:=fun e=>h (by rw[e];rfl);refine I ?_;refine aL aoj x J (I ?_);exact ar rfl (.of (zaa h).symm)
def cq(e p:Int):Prop:=2<=e∧e<=11∧2<=p∧p<=113∧5<=e+p
variable{e:Int}
instance(e p:Int):Decidable (cq e p):=by unfold cq;infer_instance
def m5(e p:Int):ab:=.agg [.i .i64 e,.i .i64 p]
def Cj:bh where
 L:=Int×Int
 args:=fun(e,p)=>[m5 e p]
 pre:=fun(e,p)=>True
 res:=fun(e,p)=>.i .i64 (if cq e p then 0 else 2)
def Lf:a9 aT.ctx 92 Cj.spec:=by
 refine bH [] UZ.1 ?_;intro⟨e,p⟩ _ H aH;have bad:¬cq e p->bZ (.i .i64 2) (Cj.res (e,p)):=fun h=>.of (by show _=ab.i .i64 (if _ then _ else _);rw[zaa h]);refine ak 5 ?_;by_cases h1:e<2
 ·refine dx 5 h1 (I ?_);exact ar rfl (bad (by unfold cq;omega))
 refine ea 5 h1 (ak 9 ?_);by_cases h2:11<e
 ·refine dx 9 h2 (I ?_);exact ar rfl (bad (by unfold cq;omega))
 refine ea 9 h2 (ak 14 ?_);by_cases h3:p<2
 ·refine dx 14 h3 (I ?_);exact ar rfl (bad (by unfold cq;omega))
 refine ea 14 h3 (ak 19 ?_);by_cases au:113<p
 ·refine dx 19 au (I ?_);exact ar rfl (bad (by unfold cq;omega))
 refine ea 19 au (ak 26 ?_);refine ah 26 (.i .i64 (e+p)) rfl (bx rfl (by omega) (by omega)) (ak 27 ?_);by_cases aW:e+p<5
 ·refine dx 27 aW (I ?_);exact ar rfl (bad (by unfold cq;omega))
 refine ea 27 aW (I ?_);exact ar rfl (.of (by show _=ab.i .i64 (if _ then _ else _);rw[zab (by unfold cq;omega)]))
def js(e p m b:Int):ab:=.agg [.i .i64 e,.i .i64 p,.i .i64 m,.i .i64 b]
def ct(e:Int):Int:=2^(e-1).toNat-1
def Bp:bh where
 L:=Int×Int
 args:=fun(e,p)=>[m5 e p,.i .i64 0,.nl]
 pre:=fun(e,p)=>True
 res:=fun(e,p)=>if cq e p then .bu [js e p 0 (ct e),.i .i64 0]else .bu [js 0 0 0 0,.i .i64 2]
def Pv:a9 aT.ctx 127 Bp.spec:=by
 refine bH [(92,Cj.spec)] Lr.1 ?_;intro⟨e,p⟩ _ H aH;refine I ?_;refine aL Lf (e,p) trivial ?_;by_cases h:cq e p
 ·refine ah 20 (.i .i64 0) rfl (by show ab.i .i64 (if _ then _ else _)=_;rw[zab h]) ?_;have cL:Bp.res (e,p)= .bu [js e p 0 (ct e),.i .i64 0]:=zab h;obtain⟨r,hr⟩:∃r,r=Bp.res (e,p):=⟨_,rfl⟩;obtain⟨h1,h2,_⟩:=h;refine I ?_;rcases(show e=2∨e=3∨e=4∨e=5∨e=6∨e=7∨e=8∨e=9∨e=10∨e=11 by omega)with h|h|h|h|h|h|h|h|h|h<;>subst h
  all_goals first|refine cu 28 (.i .i64 1) rfl rfl rfl ?_|refine cu 28 (.i .i64 2) rfl rfl rfl ?_|refine cu 28 (.i .i64 3) rfl rfl rfl ?_|refine cu 28 (.i .i64 4) rfl rfl rfl ?_|refine cu 28 (.i .i64 5) rfl rfl rfl ?_|refine cu 28 (.i .i64 6) rfl rfl rfl ?_|refine cu 28 (.i .i64 7) rfl rfl rfl ?_|refine cu 28 (.i .i64 8) rfl rfl rfl ?_|refine cu 28 (.i .i64 9) rfl rfl rfl ?_|refine cu 28 (.i .i64 10) rfl rfl rfl ?_
  all_goals (refine I ?_)
  all_goals (
   refine c6 (L:=Int×Int) (fun(E,b)=>r= .bu [js E p 0 b,.i .i64 0]) (fun(E,b)=>⟨[.c 234 [.i .i64 0,.i .i64 0,.i .i64 0,.i .i64 0],.c 234 [.i .i64 E,.i .i64 p,.i .i64 0,.i .i64 b]],2,[(34,.i .i64 0),(33,.i .i64 0),(8,.p 1 0),(6,.p 0 0),(7,.i .i64 0)]⟩) (fun _=>0) [1,2] (_,_) ?_ (by show 0<bQ+1;omega) ⟨by decide,rfl,⟨⟨_,rfl,rfl⟩,⟨_,rfl,rfl⟩,trivial⟩,⟨rfl,rfl,rfl,rfl,rfl,trivial⟩,rfl⟩ ?_
   ·rw[hr];exact cL
   rintro⟨E,b⟩ hH;refine I ?_;exact ar rfl (.of (hH.symm.trans hr)))
 ·refine ah 20 (.i .i64 2) rfl (by show ab.i .i64 (if _ then _ else _)=_;rw[zaa h]) (I ?_);exact ar rfl (.of (zaa h).symm)
def Gf:bh where
 L:=Int
 args:=fun k=>[.i .i64 k]
 pre:=fun k=> -20000<=k∧k<=20000
 res:=fun k=>bG (cS (mkRat 1 1) k)
def Lq:a9 aT.ctx 130 Gf.spec:=by
 refine bH [(231,abq.spec)] Sh.1 ?_;intro(k:Int) (h:_<=k∧k<=_) H aH;refine I ?_;refine aL atk k trivial ?_;refine ah 7 (.bu [bG (cS (mkRat 1 1) k),.i .i64 0]) rfl (zab h) (I ?_);exact ar rfl (.refl _)
def r5:bh where
 L:=Rat×Int
 args:=fun(x,k)=>[bG x,.i .i64 k]
 pre:=fun(x,k)=>cA 268435456 x∧-20000<=k∧k<=20000
 res:=fun(x,k)=>bG (cS x k)
def pZ:a9 aT.ctx 177 r5.spec:=by
 refine bH [(118,Je.spec)] SR.1 ?_;intro⟨x,k⟩ ⟨J,(h:_<=k∧k<=_)⟩ H aH;refine I ?_;refine aL aav (x,k) J ?_;refine ah 10 (.bu [bG (cS x k),.i .i64 0]) rfl (zab h) (I ?_);exact ar rfl (.refl _)
def Ll:bh where
 L:=Rat
 args:=fun x=>[bG x]
 pre:=fun x=>cA 268435456 x∧x.num≠0
 res:=fun x=>.i .i64 (gy x.num.natAbs x.den)
def RU:a9 aT.ctx 179 Ll.spec:=by
 refine bH [(275,Z2.spec)] SU.1 ?_;intro(x:Rat) ⟨J,(h:_≠_)⟩ H aH;refine I ?_;refine aL aqz x J ?_;refine ah 7 (.bu [.i .i64 (gy x.num.natAbs x.den),.i .i64 0]) rfl (zaa h) (I ?_);exact ar rfl (.refl _)
def jn(h1:2<=e)(h2:e<=11):1<=ct e∧ct e<=1023:=by
 unfold ct;rcases(show e=2∨e=3∨e=4∨e=5∨e=6∨e=7∨e=8∨e=9∨e=10∨e=11 by omega)with h|h|h|h|h|h|h|h|h|h<;>subst h<;>decide
def M6:bh where
 L:=Int×Int×Int
 args:=fun(e,p,m)=>[js e p m (ct e)]
 pre:=fun(e,p,m)=>cq e p
 res:=fun(e,p,m)=>.i .i64 (2-ct e-p)
def M7:a9 aT.ctx 330 M6.spec:=by
 refine bH [] TR.1 ?_;intro⟨e,p,m⟩ ⟨h1,h2,h3,au,aW⟩ H aH;obtain⟨cK,c9⟩:=jn h1 h2;refine ak 5 ?_;refine ah 5 (.i .i64 (2-ct e)) rfl (bx rfl (by omega) (by omega)) (I ?_);exact ar rfl (.of (bx rfl (by omega) (by omega)))
def Nx:bh where
 L:=Int×Int×Int
 args:=fun(e,p,m)=>[js e p m (ct e)]
 pre:=fun(e,p,m)=>cq e p
 res:=fun(e,p,m)=>.i .i64 (1-ct e)
def XU:a9 aT.ctx 274 Nx.spec:=by
 refine bH [] TA.1 ?_;intro⟨e,p,m⟩ ⟨h1,h2,h3,au,aW⟩ H aH;obtain⟨cK,c9⟩:=jn h1 h2;refine I ?_;exact ar rfl (.of (bx rfl (by omega) (by omega)))
def uf(h1:dF k n.natAbs)(h2:dF k d)(al:d≠0):cA k (mkRat n d):=by
 obtain⟨aq,e2⟩:=ss n d al;refine⟨so h1 ?_,so h2 ?_⟩
 ·rw[aq,Int.natAbs_ediv_of_dvd (Int.ofNat_dvd_left.2 (zdh _ _))];exact zax _ _
 ·rw[e2];exact zax _ _
def dn{l:Nat}{x:Rat}(h:cA k x)(hl:k<=l):cA l x:=⟨cD h.1 hl,cD h.2 hl⟩
def anB{c:Int}:bZ (.bu [.agg [.b false,.nl,.nl],.i .i64 c]) (.bu [bG 0,.i .i64 c]):=.bu ⟨le_zero,.refl _,trivial⟩
def ug(c:Nat){x:Rat}{k:Int}(h:cA a x)(h1: -(32*(c:Int))<k)(h2:k<32*(c:Int)):cA (a+c) (cS x k):=by
 have hp:∀n:Nat,n<32*c->dF c (2^n):=fun n hn=>cD (AN n) (by omega);unfold cS;split
 ·exact uf (cD h.1 (by omega)) (lr h.2 (hp _ (by omega))) (zbd x.den_nz (by have:=zah (-k).toNat;omega))
 ·refine uf ?_ (cD h.2 (by omega)) x.den_nz;rw[zbN,zdM];exact lr h.1 (hp _ (by omega))
def HO(n:Int)(h1: -9223372036854775808<=n)(h2:n<9223372036854775808):cA 2 (mkRat n 1):=uf (nV (by omega)) (nV (by decide)) (by decide)
def an7{x y:Rat}(h1:cA a x)(h2:cA b y):cA (a+b+1) (x+y):=by
 rw[zdj];have e4:=lr h1.1 h2.2;have a5:=lr h2.1 h1.2;refine uf (so (J8 e4 (cD a5 (by omega))) ?_) (cD (lr h1.2 h2.2) (by omega)) (zbd x.den_nz y.den_nz);have:=Int.natAbs_add_le (x.num*y.den) (y.num*x.den);rw[zbN,zbN]at this;simpa using this
def HP{x y:Rat}(h1:cA a x)(h2:cA b y):cA (a+b+1) (x-y):=by
 rw[zcJ];exact an7 h1 (Nt h2)
def kU(e p:Int):Rat:=cS (cS (mkRat 1 1) p-mkRat 1 1) (ct e-p+1)
def XM{p:Int}(h:cq e p):cA 41 (kU e p):=by
 obtain⟨h1,h2,h3,au,aW⟩:=h;obtain⟨cK,c9⟩:=jn h1 h2;have hi:=HO 1 (by decide) (by decide);exact dn (ug 32 (HP (ug 4 hi (by omega) (by omega)) hi) (by omega) (by omega)) (by decide)
def Nn:bh where
 L:=Int×Int×Int
 args:=fun(e,p,m)=>[js e p m (ct e)]
 pre:=fun(e,p,m)=>cq e p
 res:=fun(e,p,m)=>bG (kU e p)
def Xy:a9 aT.ctx 180 Nn.spec:=by
 refine bH [(130,Gf.spec),(10,rl.spec),(116,A0.spec),(177,r5.spec)] SV.1 ?_;intro⟨e,p,m⟩ ⟨h1,h2,h3,au,aW⟩ H aH;obtain⟨cK,c9⟩:=jn h1 h2;have hi:=HO 1 (by decide) (by decide);refine I ?_;refine bo Lq p ⟨by omega,by omega⟩ (I ?_);refine bo lp (1:Int) ⟨by decide,by decide⟩ (I ?_);refine bo Ep (cS (mkRat 1 1) p,mkRat 1 1) ⟨dn (ug 4 hi (by omega) (by omega)) (by decide),dn hi (by decide)⟩ (ak 14 ?_);refine cu 14 (.i .i64 (ct e-p)) rfl rfl (bx rfl (by omega) (by omega)) ?_;refine ak 15 ?_;refine cu 15 (.i .i64 (ct e-p+1)) rfl rfl (bx rfl (by omega) (by omega)) ?_;refine I ?_;refine bo pZ (cS (mkRat 1 1) p-mkRat 1 1,ct e-p+1) ⟨dn (HP (ug 4 hi (by omega) (by omega)) hi) (by decide),by show _<=ct e-p+1;omega,by show ct e-p+1<=_;omega⟩ (I ?_);exact ar rfl (.refl _)
def Nq:bh where
 L:=Int×Int×Int×Int
 args:=fun(e,p,k,m)=>[js e p m (ct e),.i .i64 k]
 pre:=fun(e,p,k,m)=>cq e p∧-1000000000000<=k∧k<=1000000000000
 res:=fun(e,p,k,m)=>.i .i64 (max k (1-ct e)-p+1)
def XG:a9 aT.ctx 178 Nq.spec:=by
 refine bH [(274,Nx.spec)] SS.1 ?_;intro⟨e,p,k,m⟩ ⟨⟨h1,h2,h3,au,aW⟩,(ch:_<=k),(dt:k<=_)⟩ H aH;obtain⟨cK,c9⟩:=jn h1 h2;refine I ?_;refine bo XU (e,p,m) ⟨h1,h2,h3,au,aW⟩ (I ?_);exact ar rfl (.of (by
  show ab.i _ (IntKind.i64.wrap (IntKind.i64.wrap (max k (1-ct e)-p)+1))=ab.i .i64 (max k (1-ct e)-p+1);rw[gL (n:=max k (1-ct e)-p) (by omega) (by omega)];exact bx rfl (by omega) (by omega)))
def Jm(e p:Int)(x:Rat):Int:=if x.num=0 then 2-ct e-p else max (gy x.num.natAbs x.den) (1-ct e)-p+1
def pS{x y:Rat}:0<g4 x y↔y<x:=by
 unfold g4;constructor
 ·intro h;split at h
  ·omega
  split at h
  ·omega
  exact Rat.lt_of_le_of_ne (zcK.1 (by assumption)) (fun e=>by simp_all)
 ·intro h;rw[zaa (zcK.2 (Rat.le_of_lt h)),zaa (fun e=>by subst e;exact absurd h (zcK.2 (zdN)))];decide
def HN{x:Rat}(h:cA k x):cA k (gv x):=by
 unfold gv;split
 ·exact Nt h
 ·exact h
def Dv(p q:Nat): -(bs q:Int)-1<=gy p q∧gy p q<=bs p:=by unfold gy;split<;>omega
def fM(d:Nat):ac ab:=[.i .i64 d]
def c8(ds:ac Nat):ab:=.cc 1 Nat fM ds
def cV(n:Nat):ab:=c8 (aR 1000000000 n)
def dR(k n:Nat):Prop:=(aR 1000000000 n).length<=k
variable{w mf oU:Nat}
def wq:bh where
 L:=ac Nat
 args:=fun ds=>[c8 ds]
 pre:=fun ds=>ds.length<=1099511627776
 res:=fun ds=>c8 (eG ds)
def wu:a9 aT.ctx 157 wq.spec:=by
 refine bH [] SC.1 ?_;intro(ds:ac Nat) (hp:ds.length<=1099511627776) H aH;refine I ?_;refine c6 (fun es:ac Nat=>eG es=eG ds∧es.length<=ds.length) (fun es=>⟨[],0,[(0,c8 es)]⟩) List.length [] ds ⟨rfl,bY _⟩ (by show ds.length<bQ+1;unfold bQ;omega) eP ?_;rintro es ⟨h1,h2⟩;rcases zbU es with rfl|⟨cM,d,rfl⟩
 ·refine I ?_;exact ar rfl (.of (by rw[show wq.res ds=c8 (eG ds)from rfl,<-h1];rfl))
 ·rw[zbV]at *;have hl:(cM++[d]).length=cM.length+1:=by simp
  refine I ?_;refine ah 6 (.b true) rfl (by simp) (I ?_);refine ah 10 (.i .i64 (cM.length:Nat)) rfl (by rw[hl,gL]<;>simp<;>omega) ?_;refine er (MJ rfl rfl (show(cM++[d])[cM.length]? =some d by simp)) ?_;refine I ?_;refine yB rfl (fun al=> ?_) (fun al=> ?_)
  ·have al:d=0:=by simpa using al
   refine I ?_;refine ah 18 (.i .i64 (cM.length:Nat)) rfl (by rw[hl,gL]<;>simp<;>omega) ?_;refine er (OY (p:=0) rfl rfl ⟨_,rfl⟩ (zag _) (by simp)) ?_;refine I ?_;refine a1 [] cM ⟨by simp,by rw[<-h1,rN,zab al],by omega⟩ (iO ⟨?_,trivial⟩);simp[dZ,lA,c8]
  ·have al:d≠0:=by simpa using al
   refine I ?_;exact ar rfl (.of (by rw[show wq.res ds=c8 (eG ds)from rfl,<-h1,rN,zaa al]))
def sF:bh where
 L:=Nat×Nat
 args:=fun(a,b)=>[cV a,cV b]
 pre:=fun(a,b)=>dR 1073741824 a∧dR 1073741824 b
 res:=fun(a,b)=>.i .i64 (hR a b)
def rF:a9 aT.ctx 155 sF.spec:=by
 refine bH [] SA.1 ?_;intro⟨a,b⟩ ⟨(ha:(aR _ a).length<=_),(hb:(aR _ b).length<=_)⟩ H aH;have h1:=gb (b:=1000000000) (by decide) a;have h2:=gb (b:=1000000000) (by decide) b;have t1:=r1 (b:=1000000000) (by decide) a;have t2:=r1 (b:=1000000000) (by decide) b;have iR:=fP (b:=1000000000) (by decide) a;have og:=fP (b:=1000000000) (by decide) b;show aU.ok _ ⟨_,_,⟨_,_,[(0,c8 (aR 1000000000 a)),(1,c8 (aR 1000000000 b))]⟩⟩;generalize aR 1000000000 a=xs at *;generalize aR 1000000000 b=ao at *;have fin:∀{r:Int},hR a b=r->bZ (.i .i64 r) (sF.res (a,b)):=fun h=>by rw[<-h];exact .refl _
 refine I ?_;refine b9 (fun h=> ?_) (fun h=> ?_)
 ·have h:xs.length≠ao.length:=by omega
  refine I ?_;refine b9 (fun h=> ?_) (fun h=> ?_)
  ·have h:xs.length<ao.length:=by omega
   refine I ?_;have:=HB (b:=1000000000) (by decide) h1 t2 h;exact ar rfl (fin (zr (by omega)))
  ·have h:ao.length<xs.length:=by have:ao.length<=xs.length:=by omega
                                  omega
   refine I ?_;have:=HB (b:=1000000000) (by decide) h2 t1 h;exact ar rfl (fin (FC (by omega)))
 have h:xs.length=ao.length:=by omega
 refine I ?_;refine c6 (L:=Nat) (fun k=>k<=xs.length∧xs.drop k=ao.drop k) (fun(k:Nat)=>⟨[],0,[(0,c8 xs),(1,c8 ao),(5,.i .i64 ((k:Int)-1))]⟩) id [] xs.length ⟨bY _,by rw[zcD,h,zcD]⟩ (by show xs.length<bQ+1;unfold bQ;omega) (iO ⟨rfl,rfl,eS,trivial⟩) ?_;rintro(k:Nat) ⟨U,al⟩;cases k with
 |zero=>
  refine I ?_;exact ar rfl (fin (by simp at al;rw[al]at iR;rw[<-iR,<-og];exact Q1 _))
 |succ m=>
  have J:m<xs.length:=by omega
  have aA:m<ao.length:=by omega
  have e:((m+1:Nat):Int)-1=(m:Nat):=by omega
  refine ah 5 (.i .i64 (m:Nat)) rfl (ev e) (I ?_);refine ah 20 (.b true) rfl (by simp) (I ?_);refine hS xs[m] (bF J) ?_;refine I ?_;refine hS ao[m] (bF aA) ?_;refine I ?_;have hg:=FV J;have mR:=FV aA;refine b9 (fun h=> ?_) (fun h=> ?_)
  ·have aV:xs[m]<ao[m]:=by omega
   refine I ?_;refine ar rfl (fin (zr ?_));rw[<-iR,<-og,hg,mR,al];exact Jx (fun x J=>h1 x (zbH J)) (by simp;omega) aV
  refine I ?_;refine hS xs[m] (bF J) ?_;refine I ?_;refine hS ao[m] (bF aA) ?_;refine I ?_;refine b9 (fun az=> ?_) (fun az=> ?_)
  ·have aV:ao[m]<xs[m]:=by omega
   refine I ?_;refine ar rfl (fin (FC ?_));rw[<-iR,<-og,hg,mR,al];exact Jx (fun x J=>h2 x (zbH J)) (by simp;omega) aV
  ·have he:xs[m]=ao[m]:=by omega
   refine I ?_;refine a1 [] m ⟨by simp,by omega,?_⟩ (iO ⟨rfl,rfl,eS,trivial⟩);rw[hB J,hB aA,he,al]
def Ix:bh where
 L:=Nat×Nat
 args:=fun(a,b)=>[cV a,cV b]
 pre:=fun(a,b)=>dR 1073741824 a∧dR 1073741824 b
 res:=fun(a,b)=>cV (a+b)
def r0{n:Nat}(h:(aR 1000000000 n).length<=k):n<1000000000^k:=by
 have h1:=j7 (gb (b:=1000000000) (by decide) n);rw[fP (by decide)]at h1;exact fC h1 (zat (by decide) h)
def J7(ha:(aR 1000000000 a).length<=k)(hb:(aR 1000000000 b).length<=k):(aR 1000000000 (a+b)).length<=k+1:=iW (by decide) (by
 have:=r0 ha;have:=r0 hb;rw[zak];omega)
def adY{u:Nat}(h:w=u+v+c):w≠0↔(u≠0∨v≠0∨0<c):=by omega
def acV{D:ac Nat}{m:Nat}(h:i<D.length)(hm:i<m)(al:D[i]=d):(D.take i++List.replicate (m-i) 0).take i++([d]++(D.take i++List.replicate (m-i) 0).drop (i+[d].length))=D.take (i+1)++List.replicate (m-(i+1)) 0:=by
 have hl:(D.take i).length=i:=by rw[zas];omega
 rw[as9 h,al,show m-i=(m-(i+1))+1 by omega,zem,zbO];congr 1
 ·rw[zcY (by omega),zay (by omega)]
 ·congr 1;rw[List.drop_append,zca (by simp;omega),hl];simp
def Of:a9 aT.ctx 81 Ix.spec:=by
 refine bH [] UN.1 ?_;intro⟨a,b⟩ ⟨(ha:(aR _ a).length<=_),(hb:(aR _ b).length<=_)⟩ H aH;show aU.ok _ ⟨_,_,⟨_,_,[(0,c8 (aR 1000000000 a)),(1,c8 (aR 1000000000 b))]⟩⟩;obtain⟨m,hm⟩:∃m,m=max (aR 1000000000 a).length (aR 1000000000 b).length:=⟨_,rfl⟩;have g5:=J7 (k:=m) (a:=a) (b:=b) (by omega) (by omega);refine ak 13 ?_;refine ah 13 (.i .i64 ((m+1:Nat):Int)) rfl bx ?_;refine pB (n:=0) (c:=m+1) fM 0 ?_ (hn:=zag _);refine I ?_;refine c6 (L:=Nat) (fun i=>i<=(aR 1000000000 (a+b)).length)
  (fun(i:Nat)=>⟨[.a 2 false 1 Nat fM ((aR 1000000000 (a+b)).take i++List.replicate (m+1-i) 0)],1,[(0,c8 (aR 1000000000 a)),(1,c8 (aR 1000000000 b)),(5,.aY 0 1 0 i (m+1)),(6,.i .i64 (mi 1000000000 a b i:Nat)),(7,.i .i64 i)]⟩)
  (fun i=>m+1-i) [0] 0 (zag _) (by show m+1-0<bQ+1;unfold bQ;omega) (dH ⟨rfl,rfl,rfl,by rw[aeE];rfl,rfl,trivial⟩ ⟨_,rfl,rfl,fun _=>rfl⟩) ?_
 rintro(i:Nat) hi;have QR:=Ra (b:=1000000000) (x:=a) (y:=b) (i:=i) (by decide);have ga:=aeC (b:=1000000000) (x:=a) (y:=b) (i:=i) (by decide);have MI:= @xj 1000000000 a i (by decide);have Wr:= @xj 1000000000 b i (by decide);have amB:= @xj 1000000000 (a+b) i (by decide);have LX:(i<(aR 1000000000 (a+b)).length)↔(i<(aR 1000000000 a).length∨i<(aR 1000000000 b).length∨0<mi 1000000000 a b i):=by rw[MI,Wr,amB];exact adY QR
 refine I ?_;refine fJ (L:=Bool) (fun t=>t=decide (i<(aR 1000000000 (a+b)).length)) (fun t=>⟨[.a 2 false 1 Nat fM ((aR 1000000000 (a+b)).take i++List.replicate (m+1-i) 0)],1,[(0,c8 (aR 1000000000 a)),(1,c8 (aR 1000000000 b)),(5,.aY 0 1 0 i (m+1)),(6,.i .i64 (mi 1000000000 a b i:Nat)),(7,.i .i64 i),(28,.b t)]⟩) ?_ ?_
 ·by_cases h1:i<(aR 1000000000 a).length
  ·refine ah 19 (.b true) rfl (by simp[h1]) (I ?_);exact a1 [0] true (by simp[LX,h1]) dD
  refine ah 19 (.b false) rfl (by simp[h1]) (ak 25 ?_);by_cases h2:i<(aR 1000000000 b).length
  ·refine ah 25 (.b true) rfl (by simp[h2]) (I ?_);exact a1 [0] true (by simp[LX,h2]) dD
  refine ah 25 (.b false) rfl (by simp[h2]) (I ?_);exact a1 [0] (decide ((0:Int)<(mi 1000000000 a b i:Nat))) (by simp only[LX];congr 1;simp;omega) dD
 intro t aN;by_cases aV:i<(aR 1000000000 (a+b)).length
 ·refine ah 28 (.b true) rfl (by rw[aN,zad aV]) ?_;obtain⟨pU,pc⟩:∃d,d=a/1000000000^i%1000000000:=⟨_,rfl⟩;obtain⟨tg,GF⟩:∃d,d=b/1000000000^i%1000000000:=⟨_,rfl⟩;have oD:pU<1000000000:=by rw[pc];exact zaf _ (by decide)
  have tW:tg<1000000000:=by rw[GF];exact zaf _ (by decide)
  have cs:=aeD (b:=1000000000) (x:=a) (y:=b) (i:=i) (by decide);have KG:=aeB (b:=1000000000) (x:=a) (y:=b) (i:=i) (by decide);rw[<-pc,<-GF]at cs KG;obtain⟨c,hc⟩:∃c,c=mi 1000000000 a b i:=⟨_,rfl⟩;rw[<-hc]at cs KG ga;have ae9:=afb (b:=1000000000) (n:=a+b) (i:=i) (by decide) aV;refine ah 6 (.i .i64 (c:Nat)) rfl (by rw[hc]) (I ?_);refine fJ (L:=Unit) (fun _=>True) (fun _=>⟨[.a 2 false 1 Nat fM ((aR 1000000000 (a+b)).take i++List.replicate (m+1-i) 0)],1,[(0,c8 (aR 1000000000 a)),(1,c8 (aR 1000000000 b)),(5,.aY 0 1 0 i (m+1)),(6,.i .i64 ((c+pU:Nat):Int)),(7,.i .i64 i)]⟩) ?_ ?_
  ·refine b9 (fun h=> ?_) (fun h=> ?_)
   ·have h:i<(aR 1000000000 a).length:=by omega
    refine I ?_;refine dP pU (by rw[pc];exact tj (by decide) h) ?_;refine I ?_;exact a1 [0] () trivial (dH ⟨rfl,rfl,rfl,eS,rfl,trivial⟩ ⟨_,rfl,rfl,fun _=>rfl⟩)
   ·have h:¬i<(aR 1000000000 a).length:=by omega
    have h0:pU=0:=by
     have:a/1000000000^i=0:=Decidable.not_not.1 (fun az=>h (MI.2 az));rw[pc,this]
    refine I ?_;exact a1 [0] () trivial (dH ⟨rfl,rfl,rfl,lX,rfl,trivial⟩ ⟨_,rfl,rfl,fun _=>rfl⟩)
  intro _ _;refine I ?_;refine fJ (L:=Unit) (fun _=>True) (fun _=>⟨[.a 2 false 1 Nat fM ((aR 1000000000 (a+b)).take i++List.replicate (m+1-i) 0)],1,[(0,c8 (aR 1000000000 a)),(1,c8 (aR 1000000000 b)),(5,.aY 0 1 0 i (m+1)),(6,.i .i64 ((c+pU+tg:Nat):Int)),(7,.i .i64 i)]⟩) ?_ ?_
  ·refine b9 (fun h=> ?_) (fun h=> ?_)
   ·have h:i<(aR 1000000000 b).length:=by omega
    refine I ?_;refine dP tg (by rw[GF];exact tj (by decide) h) ?_;refine I ?_;exact a1 [0] () trivial (dH ⟨rfl,rfl,rfl,eS,rfl,trivial⟩ ⟨_,rfl,rfl,fun _=>rfl⟩)
   ·have h:¬i<(aR 1000000000 b).length:=by omega
    have h0:tg=0:=by
     have:b/1000000000^i=0:=Decidable.not_not.1 (fun az=>h (Wr.2 az));rw[GF,this]
    refine I ?_;exact a1 [0] () trivial (dH ⟨rfl,rfl,rfl,lX,rfl,trivial⟩ ⟨_,rfl,rfl,fun _=>rfl⟩)
  intro _ _;refine ak 53 ?_;refine ah 53 (.i .i64 (((c+pU+tg)%1000000000:Nat):Int)) rfl rfl (I ?_);refine ZG (R:=fM) [(c+pU+tg)%1000000000] (j4 (R:=fM) [(c+pU+tg)%1000000000] rfl) ((aR 1000000000 (a+b)).take (i+1)++List.replicate (m+1-(i+1)) 0) ?_ (hl:= ?_) (hc:= ?_)
  ·refine ak 57 ?_;refine ah 57 (.i .i64 (((c+pU+tg)/1000000000:Nat):Int)) rfl (by show ab.i _ (IntKind.i64.wrap (((c+pU+tg)/1000000000:Nat):Int))=_;exact bx rfl (by omega) (by omega)) (I ?_);exact a1 [0] (i+1) ⟨by show m+1-(i+1)<m+1-i;omega,aV⟩ (dH ⟨rfl,rfl,rfl,by rw[cs];rfl,eS,trivial⟩ ⟨_,rfl,rfl,fun _=>rfl⟩)
  ·simp;omega
  ·exact acV aV (by omega) (by rw[ae9,KG])
 ·refine ah 28 (.b false) rfl (by rw[aN,zac aV]) (ak 58 ?_);have he:i=(aR 1000000000 (a+b)).length:=by omega
  refine IY 58 (aR 1000000000 (a+b)) ?_ (hl:=by rw[zaq,zcY (by simp;omega),zdD,Nat.min_self,zay (by omega)]) (hn:=he.symm);refine I ?_;exact ar rfl (.refl _)
def IJ:bh where
 L:=Nat×Nat
 args:=fun(a,b)=>[cV a,cV b]
 pre:=fun(a,b)=>dR 1073741824 a∧b<=a
 res:=fun(a,b)=>cV (a-b)
def acW{O:ac Nat}{m:Nat}(h:O.length=i)(hm:i<m):(O++List.replicate (m-i) 0).take i++([d]++(O++List.replicate (m-i) 0).drop (i+[d].length))=(O++[d])++List.replicate (m-(i+1)) 0:=by
 subst h;rw[show m-O.length=(m-(O.length+1))+1 by omega,zem,zbO];congr 1
 ·rw[zcY (by omega),zay (by omega)]
 ·congr 1;rw[List.drop_append,zca (by simp)];simp
def D8:a9 aT.ctx 158 IJ.spec:=by
 refine bH [(157,wq.spec)] SD.1 ?_;intro⟨a,b⟩ ⟨(ha:(aR _ a).length<=_),(iu:b<=a)⟩ H aH;have h1:=gb (b:=1000000000) (by decide) a;have h2:=gb (b:=1000000000) (by decide) b;have iR:=fP (b:=1000000000) (by decide) a;have og:=fP (b:=1000000000) (by decide) b;have hlen:(aR 1000000000 b).length<=(aR 1000000000 a).length:=iW (by decide) (zaX iu (r0 (bY _)));show aU.ok _ ⟨_,_,⟨_,_,[(0,c8 (aR 1000000000 a)),(1,c8 (aR 1000000000 b))]⟩⟩;generalize aR 1000000000 a=xs at *;generalize aR 1000000000 b=ao at *;refine I ?_;refine pB (n:=0) (c:=xs.length) fM 0 ?_ (hn:=zag _);refine I ?_;refine c6 (L:=Nat×ac Nat×Nat) (fun(i,outs,c)=>i<=xs.length∧outs.length=i∧cT 1000000000 outs∧c<=1∧val 1000000000 (xs.take i)+1000000000^i*c=val 1000000000 outs+val 1000000000 (ao.take i))
  (fun((i:Nat),(outs:ac Nat),(c:Nat))=>⟨[.a 2 false 1 Nat fM (outs++List.replicate (xs.length-i) 0)],1,[(0,c8 xs),(1,c8 ao),(5,.aY 0 1 0 i xs.length),(6,.i .i64 c),(7,.i .i64 i)]⟩)
  (fun l=>xs.length-l.1) [0] (0,[],0) ⟨zag _,rfl,fun x J=>by simp at J,by decide,by simp[val]⟩ (by show xs.length-0<bQ+1;unfold bQ;omega) dD ?_
 rintro⟨i,outs,c⟩ ⟨hi,gS,bI,hc,aF⟩;refine I ?_;refine b9 (fun h=> ?_) (fun h=> ?_)
 ·have h:i<xs.length:=by omega
  have De:xs[i]? =some xs[i]:=bF h;have aV:=h1 _ (dV h);refine I ?_;refine dP xs[i] De ?_;refine I ?_;refine fJ (L:=Nat) (fun y=>y<1000000000∧val 1000000000 (ao.take (i+1))=val 1000000000 (ao.take i)+1000000000^i*y) (fun(y:Nat)=>⟨[.a 2 false 1 Nat fM (outs++List.replicate (xs.length-i) 0)],1,[(0,c8 xs),(1,c8 ao),(5,.aY 0 1 0 i xs.length),(7,.i .i64 i),(8,.i .i64 ((xs[i]:Int)-c-y))]⟩) ?_ ?_
  ·refine b9 (fun az=> ?_) (fun az=> ?_)
   ·have az:i<ao.length:=by simpa using az
    have Dg:ao[i]? =some ao[i]:=bF az;have CO:=h2 _ (dV az);refine I ?_;refine dP ao[i] Dg ?_;refine I ?_;refine a1 [0] ao[i] ⟨CO,hN az⟩ (dH ⟨rfl,rfl,rfl,rfl,?_,trivial⟩ ⟨_,rfl,rfl,fun _=>rfl⟩);exact congrArg (fun n=>some (ab.i .i64 n)) (by rw[gL (n:=(xs[i]:Int)-c) (by omega) (by omega)];exact uK rfl (by omega) (by omega))
   ·have az:ao.length<=i:=by simpa using az
    refine I ?_;refine a1 [0] 0 ⟨by decide,by rw[jM (by omega),jM az];simp⟩ (dH ⟨rfl,rfl,rfl,rfl,?_,trivial⟩ ⟨_,rfl,rfl,fun _=>rfl⟩);exact congrArg (fun n=>some (ab.i .i64 n)) (uK (by omega) (by omega) (by omega))
  rintro y ⟨aA,fV⟩;refine I ?_;refine fJ (L:=Nat×Nat) (fun(d,bT)=>d<1000000000∧bT<=1∧xs[i]+1000000000*bT=d+y+c) (fun((d:Nat),(bT:Nat))=>⟨[.a 2 false 1 Nat fM (outs++List.replicate (xs.length-i) 0)],1,[(0,c8 xs),(1,c8 ao),(5,.aY 0 1 0 i xs.length),(6,.i .i64 bT),(7,.i .i64 i),(8,.i .i64 d)]⟩) ?_ ?_
  ·refine b9 (fun az=> ?_) (fun az=> ?_)
   ·refine I ?_;refine a1 [0] (xs[i]+1000000000-c-y,1) ⟨by omega,by omega,by omega⟩ (dH ⟨rfl,rfl,rfl,rfl,rfl,?_,trivial⟩ ⟨_,rfl,rfl,fun _=>rfl⟩);exact congrArg (fun n=>some (ab.i .i64 n)) (uK (by omega) (by omega) (by omega))
   ·refine I ?_;refine a1 [0] (xs[i]-c-y,0) ⟨by omega,by omega,by omega⟩ (dH ⟨rfl,rfl,rfl,rfl,rfl,?_,trivial⟩ ⟨_,rfl,rfl,fun _=>rfl⟩);exact congrArg (fun n=>some (ab.i .i64 n)) (by omega)
  rintro⟨d,bT⟩ ⟨al,m7,he⟩;refine I ?_;refine ZG (R:=fM) [d] (j4 (R:=fM) [d] rfl) ((outs++[d])++List.replicate (xs.length-(i+1)) 0) ?_ (hl:=acW gS h) (hc:=by simp;omega);refine I ?_;refine a1 [0] (i+1,outs++[d],bT) ⟨by show xs.length-(i+1)<xs.length-i;omega,by omega,by simp[gS],?_,m7,?_⟩ (dH ⟨rfl,rfl,rfl,rfl,eS,trivial⟩ ⟨_,rfl,rfl,fun _=>rfl⟩)
  ·intro x J;rcases zbE.1 J with h|h
   ·exact bI x h
   ·simp at h;omega
  ·rw[lD,gS,hN h,fV,zak];have:=aa4 aF he;simp[val];omega
 ·have he:i=xs.length:=by omega
  refine ak 42 ?_;refine IY 42 outs ?_ (hl:=by rw[zaq,zcY (by omega),zay (by omega)]) (hn:=gS);refine aL wu outs (by show outs.length<=_;omega) (I ?_);refine ar rfl (.of ?_);show c8 (eG outs)=cV (a-b);rw[yM (b:=1000000000) (by decide) bI];have aq:xs.take i=xs:=zay (by omega);have e2:ao.take i=ao:=zay (by omega);rw[aq,e2,iR,og]at aF;have amh:=j7 bI;have:c=0:=by
   rcases zcC c with h|h
   ·exact h
   ·exfalso;have:c=1:=by omega
    subst this;rw[gS]at amh;omega
  subst this;show c8 _=c8 _;rw[show val 1000000000 outs=a-b by omega]
def yz:bh where
 L:=Nat×Nat
 args:=fun(a,b)=>[cV a,cV b]
 pre:=fun(a,b)=>dR 1073741824 a∧dR 1073741824 b
 res:=fun(a,b)=>cV (a*b)
def apL(hc:c<1000000000)(J:x<1000000000)(aA:y<1000000000)(ai:o<1000000000):x*y+o+c<1000000000000000000:=by
 have h1:x*y<=999999999*999999999:=zdH (by omega) (by omega);omega
def qz:a9 aT.ctx 74 yz.spec:=by
 refine bH [(157,wq.spec)] UH.1 ?_;intro⟨a,b⟩ ⟨(ha:(aR _ a).length<=_),(hb:(aR _ b).length<=_)⟩ H aH;have h1:=gb (b:=1000000000) (by decide) a;have h2:=gb (b:=1000000000) (by decide) b;have iR:=fP (b:=1000000000) (by decide) a;have og:=fP (b:=1000000000) (by decide) b;show aU.ok _ ⟨_,_,⟨_,_,[(0,c8 (aR 1000000000 a)),(1,c8 (aR 1000000000 b))]⟩⟩;generalize aR 1000000000 a=xs at *;generalize aR 1000000000 b=ao at *;refine ak 13 ?_;refine ah 13 (.i .i64 ((xs.length+ao.length:Nat):Int)) rfl bx ?_;refine pB fM 0 ?_;refine I ?_;refine c6 (L:=Nat×ac Nat) (fun(i,outs)=>i<=xs.length∧outs.length=xs.length+ao.length∧cT 1000000000 outs∧val 1000000000 (outs.take (i+ao.length))=val 1000000000 (xs.take i)*val 1000000000 ao)
  (fun((i:Nat),(outs:ac Nat))=>⟨[.a 2 false 1 Nat fM outs],1,[(0,c8 xs),(1,c8 ao),(5,.aY 0 1 0 (xs.length+ao.length) (xs.length+ao.length)),(6,.i .i64 i)]⟩)
  (fun l=>xs.length-l.1) [0] (0,List.replicate (xs.length+ao.length) 0) ⟨by omega,by simp,sA (by decide) _,by simp[val,val_zero]⟩ (by show xs.length-0<bQ+1;unfold bQ;omega) dD ?_
 rintro⟨i,outs⟩ ⟨hi,gS,bI,aF⟩;refine I ?_;refine b9 (fun h=> ?_) (fun h=> ?_)
 ·have h:i<xs.length:=by omega
  have lo:=h1 _ (dV h);refine I ?_;refine c6 (L:=Nat×ac Nat×Nat) (fun(j,os,c)=>j<=ao.length∧os.length=xs.length+ao.length∧cT 1000000000 os∧c<1000000000∧(∀k,i+j<=k->os[k]? =outs[k]?)∧val 1000000000 (os.take (i+j))+1000000000^(i+j)*c=val 1000000000 (outs.take (i+j))+1000000000^i*(xs[i]*val 1000000000 (ao.take j)))
   (fun((j:Nat),(os:ac Nat),(c:Nat))=>⟨[.a 2 false 1 Nat fM os],1,[(0,c8 xs),(1,c8 ao),(5,.aY 0 1 0 (xs.length+ao.length) (xs.length+ao.length)),(6,.i .i64 i),(7,.i .i64 c),(8,.i .i64 j)]⟩)
   (fun l=>ao.length-l.1) [0] (0,outs,0) ⟨by omega,gS,bI,by omega,fun _ _=>rfl,by simp[val]⟩ (by show ao.length-0<bQ+1;unfold bQ;omega) dD ?_
  rintro⟨j,os,c⟩ ⟨hj,CX,tK,hc,my,k3⟩;refine I ?_;refine b9 (fun q4=> ?_) (fun q4=> ?_)
  ·have q4:j<ao.length:=by omega
   have He:=h2 _ (dV q4);have jD:i+j<os.length:=by omega
   have Mo:os[i+j]=outs[i+j]:=by
    have:=my (i+j) (bY _);rw[bF jD,bF (by omega)]at this;exact Option.some.inj this
   have Mp:=tK _ (dV jD);have g:=apL hc lo He Mp;refine I ?_;refine cu 31 (.i .i64 ((i+j:Nat):Int)) rfl rfl bx ?_;refine I ?_;refine lg ?_;refine FH os[i+j] (bF jD) ?_;refine I ?_;refine hS xs[i] (bF h) ?_;refine I ?_;refine hS ao[j] (bF q4) ?_;refine ak 44 ?_;have afw:IntKind.i64.wrap (IntKind.i64.wrap ((c:Int)+os[i+j])+IntKind.i64.wrap ((xs[i]:Int)*ao[j]))=((c+(xs[i]*ao[j]+os[i+j]):Nat):Int):=by
    rw[<-zap];rw[gL (n:=(c:Int)+os[i+j]) (by omega) (by omega),gL (n:=((xs[i]*ao[j]:Nat):Int)) (by omega) (by omega),gL (by omega) (by omega)];omega
   refine cu 44 (.i .i64 ((c+(xs[i]*ao[j]+os[i+j]):Nat):Int)) rfl rfl (congrArg (ab.i .i64) afw) ?_;refine ak 48 ?_;refine ah 48 (.i .i64 ((i+j:Nat):Int)) rfl bx ?_;obtain⟨T,gg⟩:∃T,T=c+(xs[i]*ao[j]+os[i+j]):=⟨_,rfl⟩;refine ah 7 (.i .i64 (T:Nat)) rfl (by rw[gg]) ?_;have auV:T<1000000000000000000:=by omega
   refine ak 50 ?_;refine ah 50 (.i .i64 ((T%1000000000:Nat):Int)) rfl rfl ?_;refine ix ?_;refine kp (T%1000000000) ?_;refine ak 53 ?_;refine ah 53 (.i .i64 ((T/1000000000:Nat):Int)) rfl (by show ab.i _ (IntKind.i64.wrap ((T/1000000000:Nat):Int))=_;exact bx rfl (by omega) (by omega)) (I ?_);refine a1 [0] (j+1,os.set (i+j) (T%1000000000),T/1000000000) ⟨by show ao.length-(j+1)<ao.length-j;omega,by omega,by simp[CX],mH tK _ (zaf _ (by decide)),by omega,fun k U=>by rw[zbo (by omega)];exact my k (by omega),?_⟩
    (dH ⟨rfl,rfl,rfl,rfl,rfl,eS,trivial⟩ ⟨_,rfl,rfl,fun _=>rfl⟩)
   rw[<-zbT,hN (l:=os.set (i+j) _) (by simp;omega),hN (l:=outs) (by omega),hN q4,zaU (bY _),zaR,zak,<-Mo,gg];exact XI (by rw[zal]) k3
  ·have hj:j=ao.length:=by omega
   subst hj;refine ak 58 ?_;refine ah 58 (.i .i64 ((i+ao.length:Nat):Int)) rfl bx (I ?_);refine ix ?_;refine kp c ?_;refine I ?_;refine a1 [0] (i+1,os.set (i+ao.length) c) ⟨by show xs.length-(i+1)<xs.length-i;omega,by omega,by simp[CX],mH tK _ hc,?_⟩ (dH ⟨rfl,rfl,rfl,eS,trivial⟩ ⟨_,rfl,rfl,fun _=>rfl⟩);rw[show i+1+ao.length=i+ao.length+1 by omega,hN (l:=os.set _ _) (by simp;omega),zaU (bY _),zaR,k3,aF,hN h,jM (bY _),zam,zar]
 ·have hi:i=xs.length:=by omega
  subst hi;refine I ?_;refine ko 61 ?_;refine aL wu outs (by show outs.length<=_;omega) (I ?_);refine ar rfl (.of ?_);show c8 (eG outs)=cV (a*b);rw[jM (l:=xs) (bY _),jM (l:=outs) (by omega)]at aF;rw[yM (b:=1000000000) (by decide) bI,aF,iR,og];rfl
def ve:aR 1000000000 1=[1]:=by rw[nE (by decide) (by decide),show 1/1000000000=0 from rfl,fG]
def wo:bh where
 L:=Unit
 args:=fun _=>[]
 pre:=fun _=>True
 res:=fun _=>cV 1
def uq:a9 aT.ctx 77 wo.spec:=by
 refine bH [] UK.1 ?_;intro _ _ H aH;refine ak 1 ?_;refine nk 0 fM [1] ?_;refine ko 1 ?_;refine I ?_;exact ar rfl (.of (by show c8 [1]=c8 _;rw[ve]))
def dj(x:Rat):ab:=.agg [.i .i64 x.num.sign,cV x.num.natAbs,c8 (if x.num=0 then[]else aR 1000000000 x.den)]
def yw:bh where
 L:=Rat
 args:=fun x=>[dj x]
 pre:=fun _=>True
 res:=fun x=>cV x.den
def rE:a9 aT.ctx 75 yw.spec:=by
 refine bH [(77,wo.spec)] UI.1 ?_;intro(x:Rat) _ H aH;refine I ?_;refine b9 (fun h=> ?_) (fun h=> ?_)
 ·have h:x.num=0:=zbM.1 h;have al:x.den=1:=by have:=x.reduced;rw[h]at this;simpa[Nat.Coprime]using this
  refine I ?_;refine aL uq () trivial (I ?_);exact ar rfl (.of (by show cV 1=cV x.den;rw[al]))
 ·have h:x.num≠0:=fun e=>h (by rw[e];rfl);refine I ?_;exact ar rfl (.of (by show c8 (if _ then _ else _)=c8 _;rw[zaa h]))
def Zo:bh where
 L:=Rat
 args:=fun x=>[dj x]
 pre:=fun _=>True
 res:=fun x=>dj (-x)
def apN:a9 aT.ctx 242 Zo.spec:=by
 refine bH [] Tk.1 ?_;intro(x:Rat) _ H aH;refine I ?_;refine ar rfl (.of ?_);show ab.agg [.i _ (IntKind.i64.wrap (-x.num.sign)),_,_]=ab.agg [.i _ _,_,_];have dw:∀n:Int,-1<=n.sign∧n.sign<=1:=fun n=>by
  rcases(show n<0∨n=0∨0<n by omega)with h|h|h
  ·rw[zcc h];decide
  ·rw[h];decide
  ·rw[zby h];decide
 have:=dw x.num;rw[gL (by omega) (by omega),zbK,zcd,Int.sign_neg,zbL];simp[cV,c8]
def Ew{own:ac ay}{n:Nat}{e cj:bO}{o:ay}(h:kM [k] cj e)(ai:∃bf,own[k]? =some bf∧e8 [k] o bf)(hp:pinned p [k] 0=true:=by rfl):Sub p [k] ⟨own,n,e⟩ ⟨[o],1,cj⟩:=⟨by simp,rfl,⟨ai,trivial⟩,h,hp⟩
def Zm:bh where
 L:=Nat
 args:=fun n=>[.i .u64 n]
 pre:=fun n=>n<18446744073709551616
 res:=fun n=>cV n
def apM(m:Nat):ac Nat->cG
 |[]=>⟨[],0,[(0,.i .u64 m),(3,.nl)]⟩
 |d::ds=>⟨[.a 2 true 1 Nat fM (d::ds)],1,[(0,.i .u64 m),(3,.aY 0 1 0 (d::ds).length (d::ds).length)]⟩
def Zn:a9 aT.ctx 76 Zm.spec:=by
 refine bH [] UJ.1 ?_;intro(n:Nat) (hn:n<18446744073709551616) H aH;have hl:(aR 1000000000 n).length<=3:=iW (by decide) (by omega);refine I ?_;refine c6 (L:=Nat×ac Nat) (fun(m,l)=>m<=n∧aR 1000000000 n=l++aR 1000000000 m) (fun(m,l)=>apM m l) (fun l=>(aR 1000000000 l.1).length) [] (n,[]) ⟨bY _,rfl⟩ (by show(aR 1000000000 n).length<bQ+1;unfold bQ;omega) eP ?_;rintro⟨m,l⟩ ⟨hm,al⟩;have nN:l.length<=3:=by rw[al]at hl;simp at hl;omega
 have step:m≠0->(aR 1000000000 (m/1000000000)).length<(aR 1000000000 m).length∧m/1000000000<=n∧aR 1000000000 n=(l++[m%1000000000])++aR 1000000000 (m/1000000000):=fun h=>by
  rw[al,nE (by decide) h];simp;omega
 have hq:((m%1000000000:Nat):Int)<9223372036854775808:=by omega
 have Vm:m/1000000000%18446744073709551616=m/1000000000:=by omega
 have g7: -9223372036854775808<=((m%1000000000:Nat):Int):=by omega
 cases l with
 |nil=>
  refine I ?_;refine b9 (fun h=> ?_) (fun h=> ?_)
  ·have step:=step (by omega);refine ak 9 ?_;refine ah 9 (.i .i64 ((m%1000000000:Nat):Int)) rfl (bx rfl g7 hq) (I ?_);refine wx fM [m%1000000000] (j4 (R:=fM) [m%1000000000] rfl) ?_;refine I ?_;exact a1 [1] (m/1000000000,[m%1000000000]) step (Ew ⟨lX (congrArg Int.ofNat Vm),rfl,trivial⟩ ⟨_,rfl,rfl,fun _=>rfl⟩)
  ·have h0:m=0:=by omega
   subst h0;rw[fG]at al;refine I ?_;exact ar rfl (bZ.nl.trans (.of (by show c8 []=c8 _;rw[al];rfl)))
 |cons d ds=>
  refine I ?_;refine b9 (fun h=> ?_) (fun h=> ?_)
  ·have step:=step (by omega);refine ak 9 ?_;refine ah 9 (.i .i64 ((m%1000000000:Nat):Int)) rfl (bx rfl g7 hq) (I ?_);have gJ:ds.length<=2:=by simp at nN;omega
   refine wv (R:=fM) [m%1000000000] (j4 (R:=fM) [m%1000000000] rfl) ?_;refine I ?_;exact a1 [2] (m/1000000000,d::(ds++[m%1000000000])) step (Ew ⟨lX (congrArg Int.ofNat Vm),congrArg (fun k=>some (ab.aY 2 1 0 k k)) (by simp),trivial⟩ ⟨_,rfl,rfl,fun _=>rfl⟩)
  ·have h0:m=0:=by omega
   subst h0;rw[fG,zcs]at al;refine ak 14 ?_;refine ko 14 ?_;refine I ?_;exact ar rfl (.of (by show c8 (d::ds)=c8 _;rw[al]))
def Zb:bh where
 L:=Nat
 args:=fun a=>[cV a]
 pre:=fun a=>dR 1073741824 a
 res:=fun a=>cV (a/2)
def IB:a9 aT.ctx 263 Zb.spec:=by
 refine bH [(157,wq.spec)] Tu.1 ?_;intro(a:Nat) (ha:(aR _ a).length<=_) H aH;have h1:=gb (b:=1000000000) (by decide) a;have iR:=fP (b:=1000000000) (by decide) a;show aU.ok _ ⟨_,_,⟨_,_,[(0,c8 (aR 1000000000 a))]⟩⟩;generalize aR 1000000000 a=xs at *;refine I ?_;refine pB fM 0 ?_;refine I ?_;refine c6 (L:=Nat×ac Nat×Nat) (fun(k,outs,r)=>k<=xs.length∧outs.length=xs.length∧cT 1000000000 outs∧r<2∧val 1000000000 (xs.drop k)=val 1000000000 (outs.drop k)*2+r)
  (fun((k:Nat),(outs:ac Nat),(r:Nat))=>⟨[.a 2 false 1 Nat fM outs],1,[(0,c8 xs),(3,.aY 0 1 0 xs.length xs.length),(4,.i .i64 r),(5,.i .i64 ((k:Int)-1))]⟩)
  (fun l=>l.1) [0] (xs.length,List.replicate xs.length 0,0) ⟨by omega,by simp,sA (by decide) _,by decide,by simp[val]⟩ (by show xs.length<bQ+1;unfold bQ;omega) (dH ⟨rfl,rfl,rfl,eS,trivial⟩ ⟨_,rfl,rfl,fun _=>rfl⟩) ?_
 rintro⟨k,outs,r⟩ ⟨U,gS,bI,hr,aF⟩;cases k with
 |zero=>
  refine I ?_;refine ko 30 ?_;refine aL wu outs (by show outs.length<=_;omega) (I ?_);rw[zaq,zaq]at aF;refine ar rfl (.of ?_);show c8 (eG outs)=cV (a/2);rw[yM (b:=1000000000) (by decide) bI,show a/2=val 1000000000 outs by omega];rfl
 |succ m=>
  have J:m<xs.length:=by omega
  have lo:=h1 _ (dV J);have pa:=aaI hr lo;refine ah 5 (.i .i64 (m:Nat)) rfl ev (I ?_);refine ah 13 (.b true) rfl (by simp) (I ?_);refine dP xs[m] (bF J) ?_;refine ak 22 ?_;refine ah 22 (.i .i64 ((r*1000000000+xs[m]:Nat):Int)) rfl (congrArg (ab.i .i64) (by rw[gL (n:=(r:Int)*1000000000) (by omega) (by omega),gL (by omega) (by omega)];omega)) ?_;obtain⟨T,xx⟩:∃T,T=r*1000000000+xs[m]:=⟨_,rfl⟩;have gg:T<2000000000:=by omega
  rw[<-xx]at pa;refine ah 22 (.i .i64 (T:Nat)) rfl (by rw[xx]) (ak 26 ?_);refine ah 26 (.i .i64 ((T/2:Nat):Int)) rfl (by show ab.i _ (IntKind.i64.wrap ((T/2:Nat):Int))=_;exact bx rfl (by omega) (by omega)) ?_;refine ix ?_;refine kp (T/2) ?_;refine ak 29 ?_;refine ah 29 (.i .i64 ((T%2:Nat):Int)) rfl rfl (I ?_);have ae:xs.drop m=xs[m]::xs.drop (m+1):=hB J;refine a1 [0] (m,outs.set m (T/2),T%2) ⟨by simp,by omega,by simp[gS],mH bI _ pa,zaf _ (by decide),?_⟩ (dH ⟨rfl,rfl,rfl,eS,trivial⟩ ⟨_,rfl,rfl,fun _=>rfl⟩);rw[ae,hB (l:=outs.set m _) (by simp;omega),zaR,zcT (by omega),xx];exact aaJ aF
def Zq:bh where
 L:=Nat
 args:=fun a=>[cV a]
 pre:=fun a=>True
 res:=fun a=>.b (decide (a%2=1))
def ID:a9 aT.ctx 262 Zq.spec:=by
 refine bH [] Tt.1 ?_;intro(a:Nat) _ H aH;show aU.ok _ ⟨_,_,⟨_,_,[(0,c8 (aR 1000000000 a))]⟩⟩;by_cases h0:a=0
 ·subst h0;rw[fG];refine I ?_;exact ar rfl (.refl _)
 ·rw[nE (by decide) h0];refine I ?_;refine ah 6 (.b true) rfl (by simp) (I ?_);refine dP (j:=0) (a%1000000000) rfl ?_;refine ak 10 ?_;refine ah 10 (.i .i64 ((a%1000000000%2:Nat):Int)) rfl rfl (I ?_);refine ar rfl (.of ?_);show ab.b (decide _)=ab.b (decide _);congr 2;apply propext;omega
def ajO{W:Nat}(hI:V=v*P+mf)(zP:mf<P)(gx:W=w*P+oU)(aF:0<V):w/(v+1)<=W/V:=by
 rw[zbI aF];have h1:w/(v+1)*(v+1)<=w:=zez _ _;have h2:V<=(v+1)*P:=by rw[zam];omega
 calc w/(v+1)*V<=w/(v+1)*((v+1)*P):=lF _ h2
  _=w/(v+1)*(v+1)*P:=(zar _ _ _).symm
  _<=w*P:=fK _ h1
  _<=W:=by omega
def ajN{W:Nat}(hI:V=v*P+mf)(tu:oU<P)(gx:W=w*P+oU)(aF:0<v)(hH:0<P):W/V<=(w+1)/v:=by
 have r6:0<V:=by have:=zbJ aF hH;omega
 rw[zbI aF];have h1:W/V*V<=W:=zez _ _;have h2:W/V*(v*P)<=W/V*V:=lF _ (by omega);have h3:W/V*v*P<(w+1)*P:=by rw[zar,zam];omega
 exact zaY (Nat.lt_of_mul_lt_mul_right h3)
