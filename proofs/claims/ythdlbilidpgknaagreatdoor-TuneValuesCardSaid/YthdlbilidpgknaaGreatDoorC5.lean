/- What the functions of the program and of the document compute, for every input (part 5); conditions as in the statements. -/
import Derived.Test.YthdlbilidpgknaaGreatDoorC4
import Derived.Test.YthdlbilidpgknaaGreatDoorC3
import Derived.Test.YthdlbilidpgknaaGreatDoorZ
set_option linter.all false
namespace Go.aj.a3
open Go.aj
set_option maxRecDepth 100000
set_option maxHeartbeats 4000000
def oS(H:bz):Prop:=iT H∧om H∧oR H
def oS.up{H br:bz}(h:dg H br):oS H->oS br:=fun⟨a,b,c⟩=>⟨a.up h,b.up h,c.up h⟩
structure kI where
 e:Int
 p:Int
 aM:Rat
 c:Int
def qO(x:kI):ac ab:=.i .i64 x.e:: .i .i64 x.p::(iS x.aM++[.i .i64 x.c])
def kI.at(x:kI)(i:Int):ac bv:=il (eb x.e x.p (eJ x.e x.p true x.aM+i))
def Qk:bh where
 L:=kI×Int
 args:=fun(x,i)=>[.agg (qO x),.i .i64 i]
 pre:=fun(x,i)=>cq x.e x.p∧cA 250 x.aM∧0<=i∧i<9223372036854775808∧eJ x.e x.p true x.aM+i<In x.e x.p
 res:=fun(x,i)=>.s (x.at i)
 hp:=oS
 hm:=oS.up
def aq4(a:Int):wG (decide (a<0)) a.natAbs=a:=by
 unfold wG;by_cases h:a<0
 ·rw[zad h,zab rfl];omega
 ·rw[zac h,zaa (by decide)];omega
def Ql:a9 aT.ctx 66 Qk.spec:=by
 refine jy [(132,X3.spec),(133,abL.spec),(60,aah.spec)] UC.1 ?_;intro⟨⟨e,p,aM,c⟩,i⟩ ⟨(h:cq e p),(hl:cA 250 aM),(h0:0<=i),(h1:i<9223372036854775808),(h2:eJ e p true aM+i<In e p)⟩ H aH ⟨cb,cL,gg⟩;obtain⟨_,_,n6,yA⟩:=zk (x:=aM) h;refine I ?_;refine aL aov (e,p,aM,i) ⟨h,hl,h0,h1,h2⟩ (I ?_) (hh:=cL);refine aL atG (e,p,decide (eJ e p true aM+i<0),(eJ e p true aM+i).natAbs) ⟨h,by show(eJ e p true aM+i).natAbs<In e p;omega⟩ ?_;refine ah 22 (.bu [bG (eb e p (eJ e p true aM+i)),.i .i64 0]) rfl (by show ab.bu [bG (eb e p (wG _ _)),_]=_;rw[aq4]) (I ?_);refine aL aqI (eb e p (eJ e p true aM+i)) (dn (XN h (by omega)) (by decide)) (I ?_) (hh:=gg);exact ar rfl (.refl _)
def aaZ{own:ac ay}{n p:Nat}{e cj:bO}{m:Nat}{o q:ay}(h:kM [0,m] cj e)(ai:∃bf,own[0]? =some bf∧e8 [0,m] o bf)(hq:∃bf,own[m]? =some bf∧e8 [0,m] q bf)(hm:0<m:=by decide)(hp:pinned p [0,m] 0=true:=by rfl):Sub p [0,m] ⟨own,n,e⟩ ⟨[o,q],2,cj⟩:=⟨by simp;omega,rfl,⟨ai,hq,trivial⟩,h,hp⟩
def ab8(a b:Int):bg a*bg b=bg (a*b):=by
 unfold bg;rw[Rat.mkRat_mul_mkRat]
def im(c n:Int)(k:Nat):Int:=if 1<n then(c-1)*k/(n-1)else 0
def gI(c n:Int):Nat->ac Int×Int
 |0=>([],-1)
 |k+1=>(if im c n k=(gI c n k).2 then(gI c n k).1 else(gI c n k).1++[im c n k],im c n k)
def kI.tq(x:kI)(n:Int):ac (ac bv):=(gI x.c n n.toNat).1.map x.at
def Gk{c n:Int}{k:Nat}(hc:1<=c)(U:(k:Int)<n):0<=im c n k∧im c n k<=c-1:=by
 unfold im;split
 ·rename_i hn;have h0:0<=(c-1)*(k:Int):=zcg (by omega) (by omega);refine⟨zeL h0 (by omega),?_⟩;refine Int.ediv_le_of_le_mul (by omega) ?_;exact zeX (by omega) (by omega)
 ·omega
theorem Ly(c n:Int):∀k,(gI c n k).1.length<=k
 |0=>bY _
 |k+1=>by
  have:=Ly c n k;show(if _ then _ else _:ac Int).length<=_;split
  ·omega
  ·simp;omega
def ajG(x:kI)(n:Int)(k:Nat)(last:Int):ac (ac bv)->cG
 |[]=>⟨[.c 78 (qO x)],1,[(1,.i .i64 n),(2,.p 0 0),(4,.nl),(5,.i .i64 last),(10,.i .i64 n),(11,.i .i64 (k:Nat))]⟩
 |d::ds=>⟨[.c 78 (qO x),.a 36 true 1 (ac bv) ff (d::ds)],2,[(1,.i .i64 n),(2,.p 0 0),(4,.aY 1 1 0 (ds.length+1) (ds.length+1)),(5,.i .i64 last),(10,.i .i64 n),(11,.i .i64 (k:Nat))]⟩
def Vj:bh where
 L:=kI×Int
 args:=fun(x,n)=>[.agg (qO x),.i .i64 n]
 pre:=fun(x,n)=>cq x.e x.p∧cA 250 x.aM∧1<=x.c∧x.c<=4611686018427387904∧1<=n∧n<=400∧eJ x.e x.p true x.aM+(x.c-1)<In x.e x.p
 res:=fun(x,n)=>.cc 1 (ac bv) ff (x.tq n)
 hp:=oS
 hm:=oS.up
def ajL:a9 aT.ctx 22 Vj.spec:=by
 refine jy [(10,rl.spec),(61,Z4.spec),(62,aad.spec),(63,Gb.spec),(64,Hm.spec),(66,Qk.spec)] S0.1 ?_;intro⟨x,n⟩ ⟨(h:cq x.e x.p),(hl:cA 250 x.aM),(eK:1<=x.c),(fO:x.c<=_),(mF:1<=n),(jf:n<=400),(hb:_<_)⟩ H aH dv;refine I ?_;refine c6 (L:=Nat×Int×ac (ac bv)) (fun(k,last,l)=>(k:Int)<=n∧last=(gI x.c n k).2∧l=(gI x.c n k).1.map x.at) (fun(k,last,l)=>ajG x n k last l) (fun l=>n.toNat-l.1) [0] (0,-1,[]) ⟨by show(0:Int)<=n;omega,rfl,rfl⟩ (by show n.toNat-0<bQ+1;unfold bQ;omega) dD ?_;rintro⟨k,last,l⟩ ⟨U,m9,nN⟩;have hlen:l.length<=400:=by rw[nN,zaN];have:=Ly x.c n k;omega
 obtain⟨i,hi⟩:∃i,i=im x.c n k:=⟨_,rfl⟩;have eR:(k:Int)<n->(gI x.c n (k+1)).1.map x.at=(if i=last then l else l++[x.at i])∧(gI x.c n (k+1)).2=i:=fun _=>by
  refine⟨?_,hi.symm⟩;show(if im x.c n k=(gI x.c n k).2 then _ else _:ac Int).map x.at=_;rw[<-hi,<-m9,nN];split
  ·rfl
  ·rw[zdv];rfl
 have Au:∀m:Int,m.natAbs<18446744073709551616->cA 2 (bg m):=fun m hm=>lv (k:=1) hm;cases l with
 |nil=>
  refine ak 12 ?_;by_cases aV:(k:Int)<n
  case neg=>
   refine v0 12 (show¬(k:Int)<n from aV) ?_;have vz:k=n.toNat:=by omega
   refine I ?_;exact ar rfl (bZ.nl.trans (.of (by show ab.cc 1 (ac bv) ff []=ab.cc 1 (ac bv) ff (x.tq n);unfold kI.tq;rw[<-vz,<-nN])))
  obtain⟨s1,s2⟩:=eR aV;obtain⟨aG,aI⟩:=Gk (k:=k) eK aV;rw[<-hi]at aG aI;refine v1 12 aV (I ?_);refine fJ (L:=Unit) (fun _=>True) (fun _=>⟨[.c 78 (qO x)],1,[(1,.i .i64 n),(2,.p 0 0),(4,.nl),(5,.i .i64 last),(7,.i .i64 i),(10,.i .i64 n),(11,.i .i64 (k:Nat))]⟩) ?_ ?_
  ·refine b9 (fun hn=> ?_) (fun hn=> ?_)
   ·have hq:i=(x.c-1)*(k:Int)/(n-1):=by rw[hi];exact zab hn
    have tH:(k:Int)<400:=by omega
    refine ak 19 ?_;refine ah 19 (.i .i64 (x.c-1)) rfl (bx rfl (by omega) (by omega)) ?_;refine aL lp (x.c-1:Int) ⟨by show -9223372036854775808<=x.c-1;omega,by show x.c-1<9223372036854775808;omega⟩ (I ?_);refine aL lp (k:Int) ⟨by show(-9223372036854775808:Int)<=(k:Int);omega,by show(k:Int)<9223372036854775808;omega⟩ ?_;refine aL Z5 (bg (x.c-1),bg (k:Int)) ⟨dn (Au (x.c-1) (by omega)) (by decide),dn (Au (k:Int) (by omega)) (by decide)⟩ ?_;refine ah 23 (bG (bg ((x.c-1)*(k:Int)))) rfl (by show bG (bg _*bg _)=_;rw[ab8]) (ak 25 ?_);refine ah 25 (.i .i64 (n-1)) rfl (bx rfl (by omega) (by omega)) ?_;refine aL lp (n-1:Int) ⟨by show -9223372036854775808<=n-1;omega,by show n-1<9223372036854775808;omega⟩ ?_;have hm:((x.c-1)*(k:Int)).natAbs<4294967296^3:=by
     have h1:=Int.mul_le_mul (show x.c-1<=4611686018427387904 by omega) (show(k:Int)<=400 by omega) (by omega) (by decide);have h2:=zcg (show 0<=x.c-1 by omega) (show(0:Int)<=(k:Int) by omega);generalize(x.c-1)*(k:Int)=y at *;omega
    have q6:cA 3 (bg ((x.c-1)*(k:Int))):=lv (k:=2) hm;have xK:(bg (n-1)).num=n-1:=(jO _).1;refine aL aae (bg ((x.c-1)*(k:Int)),bg (n-1)) ⟨dn q6 (by decide),dn (Au (n-1) (by omega)) (by decide),by rw[xK];omega⟩ ?_;refine ah 27 (.bu [bG (mkRat ((x.c-1)*(k:Int)) (n-1).toNat),.i .i64 0]) rfl (by show ab.bu [bG (mkRat ((bg _).num*((bg _).den:Int)) ((bg _).den*(bg _).num.natAbs)),_]=_;rw[(jO _).1,(jO _).2,xK,(jO _).2,show(((1:Nat):Int))=1 from rfl,Int.mul_one,zaH,show(n-1).natAbs=(n-1).toNat by omega]) (I ?_);refine aL Gc (mkRat ((x.c-1)*(k:Int)) (n-1).toNat) (uf (cD (rn hm) (by decide)) (cD (nV (by omega)) (by decide)) (by omega)) ?_;refine ah 32 (bG (bg i)) rfl (by show bG (bg (qY _))=_;rw[F8 (by omega),show(((n-1).toNat:Nat):Int)=n-1 by omega,<-hq]) ?_;refine aL Hn i ⟨by show -9223372036854775808<=i;omega,by show i<9223372036854775808;omega⟩ (I ?_);exact a1 [0] () trivial dD
   ·have hq:i=0:=by rw[hi];exact zaa hn
    refine I ?_;exact a1 [0] () trivial (dH ⟨rfl,rfl,rfl,rfl,by rw[hq];rfl,rfl,rfl,trivial⟩ ⟨_,rfl,rfl⟩)
  intro _ _;refine ak 38 ?_;by_cases he:i=last
  ·refine v0 38 (show¬i≠last from fun h=>h he) ?_;rw[zab he]at s1;refine ak 46 ?_;refine ah 46 (.i .i64 ((k+1:Nat):Int)) rfl bx (I ?_);exact a1 [0] (k+1,i,[]) ⟨by show n.toNat-(k+1)<n.toNat-k;omega,by show((k+1:Nat):Int)<=n;omega,s2.symm,s1.symm⟩ dD
  ·refine v1 38 (show i≠last from he) ?_;rw[zaa he]at s1;refine I ?_;refine aL Ql (x,i) ⟨h,hl,aG,by show i<9223372036854775808;omega,by show eJ x.e x.p true x.aM+i<In x.e x.p;omega⟩ (I ?_) (hh:=dv);refine wx ff [x.at i] (j4 (R:=ff) [x.at i] rfl) ?_;refine ak 46 ?_;refine ah 46 (.i .i64 ((k+1:Nat):Int)) rfl bx (I ?_);exact a1 [0,2] (k+1,i,[x.at i]) ⟨by show n.toNat-(k+1)<n.toNat-k;omega,by show((k+1:Nat):Int)<=n;omega,s2.symm,s1.symm⟩ ij
 |cons d ds=>
  refine ak 12 ?_;by_cases aV:(k:Int)<n
  case neg=>
   refine v0 12 (show¬(k:Int)<n from aV) ?_;have vz:k=n.toNat:=by omega
   refine ak 47 ?_;refine ko 47 ?_;refine I ?_;exact ar rfl (.of (by show ab.cc 1 (ac bv) ff (d::ds)=ab.cc 1 (ac bv) ff (x.tq n);unfold kI.tq;rw[<-vz,<-nN]))
  obtain⟨s1,s2⟩:=eR aV;obtain⟨aG,aI⟩:=Gk (k:=k) eK aV;rw[<-hi]at aG aI;refine v1 12 aV (I ?_);refine fJ (L:=Unit) (fun _=>True) (fun _=>⟨[.c 78 (qO x),.a 36 true 1 (ac bv) ff (d::ds)],2,[(1,.i .i64 n),(2,.p 0 0),(4,.aY 1 1 0 (ds.length+1) (ds.length+1)),(5,.i .i64 last),(7,.i .i64 i),(10,.i .i64 n),(11,.i .i64 (k:Nat))]⟩) ?_ ?_
  ·refine b9 (fun hn=> ?_) (fun hn=> ?_)
   ·have hq:i=(x.c-1)*(k:Int)/(n-1):=by rw[hi];exact zab hn
    have tH:(k:Int)<400:=by omega
    refine ak 19 ?_;refine ah 19 (.i .i64 (x.c-1)) rfl (bx rfl (by omega) (by omega)) ?_;refine aL lp (x.c-1:Int) ⟨by show -9223372036854775808<=x.c-1;omega,by show x.c-1<9223372036854775808;omega⟩ (I ?_);refine aL lp (k:Int) ⟨by show(-9223372036854775808:Int)<=(k:Int);omega,by show(k:Int)<9223372036854775808;omega⟩ ?_;refine aL Z5 (bg (x.c-1),bg (k:Int)) ⟨dn (Au (x.c-1) (by omega)) (by decide),dn (Au (k:Int) (by omega)) (by decide)⟩ ?_;refine ah 23 (bG (bg ((x.c-1)*(k:Int)))) rfl (by show bG (bg _*bg _)=_;rw[ab8]) (ak 25 ?_);refine ah 25 (.i .i64 (n-1)) rfl (bx rfl (by omega) (by omega)) ?_;refine aL lp (n-1:Int) ⟨by show -9223372036854775808<=n-1;omega,by show n-1<9223372036854775808;omega⟩ ?_;have hm:((x.c-1)*(k:Int)).natAbs<4294967296^3:=by
     have h1:=Int.mul_le_mul (show x.c-1<=4611686018427387904 by omega) (show(k:Int)<=400 by omega) (by omega) (by decide);have h2:=zcg (show 0<=x.c-1 by omega) (show(0:Int)<=(k:Int) by omega);generalize(x.c-1)*(k:Int)=y at *;omega
    have q6:cA 3 (bg ((x.c-1)*(k:Int))):=lv (k:=2) hm;have xK:(bg (n-1)).num=n-1:=(jO _).1;refine aL aae (bg ((x.c-1)*(k:Int)),bg (n-1)) ⟨dn q6 (by decide),dn (Au (n-1) (by omega)) (by decide),by rw[xK];omega⟩ ?_;refine ah 27 (.bu [bG (mkRat ((x.c-1)*(k:Int)) (n-1).toNat),.i .i64 0]) rfl (by show ab.bu [bG (mkRat ((bg _).num*((bg _).den:Int)) ((bg _).den*(bg _).num.natAbs)),_]=_;rw[(jO _).1,(jO _).2,xK,(jO _).2,show(((1:Nat):Int))=1 from rfl,Int.mul_one,zaH,show(n-1).natAbs=(n-1).toNat by omega]) (I ?_);refine aL Gc (mkRat ((x.c-1)*(k:Int)) (n-1).toNat) (uf (cD (rn hm) (by decide)) (cD (nV (by omega)) (by decide)) (by omega)) ?_;refine ah 32 (bG (bg i)) rfl (by show bG (bg (qY _))=_;rw[F8 (by omega),show(((n-1).toNat:Nat):Int)=n-1 by omega,<-hq]) ?_;refine aL Hn i ⟨by show -9223372036854775808<=i;omega,by show i<9223372036854775808;omega⟩ (I ?_);exact a1 [0,1] () trivial ij
   ·have hq:i=0:=by rw[hi];exact zaa hn
    refine I ?_;exact a1 [0,1] () trivial (nq ⟨rfl,rfl,rfl,rfl,by rw[hq];rfl,rfl,rfl,trivial⟩ ⟨_,rfl,rfl⟩ ⟨_,rfl,rfl,fun _=>rfl⟩)
  intro _ _;refine ak 38 ?_;by_cases he:i=last
  ·refine v0 38 (show¬i≠last from fun h=>h he) ?_;rw[zab he]at s1;refine ak 46 ?_;refine ah 46 (.i .i64 ((k+1:Nat):Int)) rfl bx (I ?_);exact a1 [0,1] (k+1,i,(d::ds)) ⟨by show n.toNat-(k+1)<n.toNat-k;omega,by show((k+1:Nat):Int)<=n;omega,s2.symm,s1.symm⟩ ij
  ·refine v1 38 (show i≠last from he) ?_;rw[zaa he]at s1;refine I ?_;refine aL Ql (x,i) ⟨h,hl,aG,by show i<9223372036854775808;omega,by show eJ x.e x.p true x.aM+i<In x.e x.p;omega⟩ (I ?_) (hh:=dv);have vr:ds.length+1<=400:=hlen;refine wv (R:=ff) [x.at i] (j4 (R:=ff) [x.at i] rfl) ?_;refine ak 46 ?_;refine ah 46 (.i .i64 ((k+1:Nat):Int)) rfl bx (I ?_);exact a1 [0,3] (k+1,i,d::(ds++[x.at i])) ⟨by show n.toNat-(k+1)<n.toNat-k;omega,by show((k+1:Nat):Int)<=n;omega,s2.symm,s1.symm⟩ (aaZ ⟨rfl,rfl,congrArg (fun k=>some (ab.aY 3 1 0 k k)) (by simp),rfl,rfl,rfl,trivial⟩ ⟨_,rfl,rfl⟩ ⟨_,rfl,rfl,fun _=>rfl⟩)
def adg(p:cB)(x:jm)(a:kI):Nat->cG
 |0=>⟨[.c 27 (di {p with ins:=[x]})],1,[(1,.p 0 0),(2,.nl),(3,.i .i64 0),(12,.cc 3 jm Ae [x]),(13,.i .i64 1),(14,.i .i64 0)]⟩
 |_+1=>⟨[.c 27 (di {p with ins:=[x]}),.a 78 true 6 kI qO [a]],2,[(1,.p 0 0),(2,.aY 1 6 0 1 1),(3,.i .i64 0),(12,.cc 3 jm Ae [x]),(13,.i .i64 1),(14,.i .i64 1)]⟩
structure acf where
 p:cB
 x:jm
 e:Int
 q:Int
 a:Rat
 b:Rat
def Qm:bh where
 L:=acf
 args:=fun l=>[gM {l.p with ins:=[l.x]}]
 pre:=fun l=>(∃f:Nat,l.x.f=f∧l.p.bB[f]? =some (l.e,l.q))∧cq l.e l.q∧fb l.x.aM=some l.a∧fb l.x.hi=some l.b∧l.x.aM.length<=2000∧l.x.hi.length<=2000
 res:=fun l=>if 4611686018427387904<e3 l.e l.q l.a l.b then .bu [.nl,.i .i64 3]else .bu [.cc 6 kI qO [⟨l.e,l.q,l.a,max (e3 l.e l.q l.a l.b) 0⟩],.i .i64 0]
 hp:=oS
 hm:=oS.up
def adh:a9 aT.ctx 21 Qm.spec:=by
 refine jy [(11,uz.spec),(65,KP.spec)] SY.1 ?_;intro⟨p,x,e,q,a,b⟩ ⟨⟨f,(aa:x.f=f),(hq:p.bB[f]? =some (e,q))⟩,(h:cq e q),(ha:fb x.aM=some a),(hb:fb x.hi=some b),(hx:x.aM.length<=2000),(mw:x.hi.length<=2000)⟩ H aH ⟨cb,cL,gg⟩;have DK:=sD hx ha;have qo:=sD mw hb;refine I ?_;refine c6 (L:=Nat) (fun k=>k<=1∧(k=1->¬4611686018427387904<e3 e q a b)) (adg p x ⟨e,q,a,max (e3 e q a b) 0⟩) (fun k=>1-k) [0] 0 ⟨zag _,fun h=>by cases h⟩ (by show 1-0<bQ+1;unfold bQ;omega) dD ?_;rintro k ⟨U,hc⟩;rcases(show k=0∨k=1 by omega)with rfl|rfl
 ·refine I ?_;refine dP (j:=0) x rfl ?_;refine I ?_;refine aL sJ x.aM hx ?_;refine ah 21 (.bu [bG a,.i .i64 0]) rfl (by show iM x.aM=_;unfold iM;rw[ha]) (I ?_);refine aL sJ x.hi mw ?_;refine ah 27 (.bu [bG b,.i .i64 0]) rfl (by show iM x.hi=_;unfold iM;rw[hb]) (ak 33 ?_);refine cu 33 (.i .i64 (f:Int)) rfl rfl (by rw[aa]) ?_;refine hS (e,q) hq ?_;refine I ?_;refine aL adW (e,q,a,b) ⟨h,DK,qo⟩ ?_ (hh:=cL);by_cases GB:4611686018427387904<e3 e q a b
  ·refine ah 43 (.bu [.i .i64 0,.i .i64 3]) rfl (zab GB) (I ?_);exact ar rfl (.of (zab GB).symm)
  ·refine ah 43 (.bu [.i .i64 (max (e3 e q a b) 0),.i .i64 0]) rfl (zaa GB) (I ?_);refine wx qO [⟨e,q,a,max (e3 e q a b) 0⟩] (j4 (R:=qO) [⟨e,q,a,max (e3 e q a b) 0⟩] rfl) ?_;refine I ?_;exact a1 [0,6] 1 ⟨by decide,by decide,fun _=>GB⟩ ij
 ·refine ak 55 ?_;refine ko 55 ?_;refine I ?_;exact ar rfl (.of (zaa (hc rfl)).symm)
structure uS(p:cB)(x:jm)(e q:Int)(a b:Rat):Prop where
 f:∃f:Nat,x.f=f∧p.bB[f]? =some (e,q)
 aM:fb x.aM=some a
 hi:fb x.hi=some b
 ha:hE e q a
 hb:hE e q b
 le:a<=b
variable{p:cB}{i:Nat}{x:jm}{e q:Int}{a b:Rat}
def MP(h:dm p=(0,0,0))(J:p.ins[i]? =some x):∃e q a b,uS p x e q a b:=by
 unfold dm at h;split at h
 case isFalse aJ=>exact absurd (congrArg (fun x:Int×Int×Int=>x.2.2) h) aJ
 unfold lJ at h;have z:∀{x y:Int×Int×Int},x=y->x.1=y.1:=fun h=>by rw[h]
 cases aq:eZ (mg p) p.bB 0 with
 |some x=>rw[aq]at h;have:=z h;simp at this
 |none=>
 rw[aq]at h;cases e2:eZ (mh p) p.ins 0 with
 |some x=>rw[e2]at h;have:=z h;simp at this
 |none=>
 have h3:tR p x=0:=F7 e2 i x J;unfold tR at h3;split at h3
 ·rename_i a5;obtain⟨f,aa⟩:∃f:Nat,x.f=(f:Int):=⟨x.f.toNat,by have:=a5.1;omega⟩;rw[aa,zbX]at h3;cases hq:p.bB[f]? with
  |none=>rw[hq]at h3;cases h3
  |some w=>
  obtain⟨e,q⟩:=w;rw[hq]at h3;have h3:pj e q x=0:=h3;unfold pj at h3;cases ha:fb x.aM with
  |none=>rw[ha]at h3;cases h3
  |some a=>
  cases hb:fb x.hi with
  |none=>rw[ha,hb]at h3;cases h3
  |some b=>
  rw[ha,hb]at h3;have h3:(if hE e q a∧hE e q b∧¬b<a then(0:Int)else 7)=0:=h3;split at h3
  ·rename_i g;exact⟨e,q,a,b,⟨f,aa,hq⟩,ha,hb,g.1,g.2.1,zcK.1 g.2.2⟩
  ·cases h3
 ·cases h3
def Q3(ha:hE e q a)(hl:a<=b):1<=e3 e q a b:=by
 have aa:=ha.1;obtain⟨r,hr,rfl⟩:=(Gz aa).1 ha;unfold e3;rw[KB aa hr];have:=(Fv aa hr).2 hl;omega
def qu(p:cB)(input n:Int):ac (ac bv)×Int:=
 if(dm p).2.2≠0 then([],(dm p).2.2)
 else if¬(0<=input∧input<(p.ins.length:Int)∧1<=n∧n<=400)then([],7)
 else match p.ins[input.toNat]? with
  |none=>([],7)
  |some x=>match p.bB[x.f.toNat]? with
   |none=>([],7)
   |some f=>if 4611686018427387904<e3 f.1 f.2 (fQ x.aM) (fQ x.hi)then([],3)else((kI.mk f.1 f.2 (fQ x.aM) (e3 f.1 f.2 (fQ x.aM) (fQ x.hi))).tq n,0)
def YU{n:Int}(h0:(dm p).2.2=0)(hi:i<p.ins.length)(hn:1<=n∧n<=400)(J:p.ins[i]? =some x)(ok:uS p x e q a b):qu p i n=if 4611686018427387904<e3 e q a b then([],3)else((kI.mk e q a (e3 e q a b)).tq n,0):=by
 obtain⟨⟨f,aa,hq⟩,ha,hb,_,_,_⟩:=ok;unfold qu;rw[zaa (fun h=>h h0),zaa (fun h=>h ⟨by omega,by omega,hn.1,hn.2⟩),zbX,J];simp only;rw[aa,zbX,hq];simp only[fQ,ha,hb,zdt]
def Ip(r:ac (ac bv)×Int):ab:=.bu [.cc 1 (ac bv) ff r.1,.i .i64 r.2]
def Il:bh where
 L:=cB×Int×Int
 args:=fun(p,i,n)=>[gM p,.i .i64 i,.i .i64 n]
 pre:=fun(p,i,n)=>oT p
 res:=fun(p,i,n)=>Ip (qu p i n)
 hp:=oS
 hm:=oS.up
def apb:a9 aT.ctx 7 Il.spec:=by
 refine jy [(14,zo.spec),(21,Qm.spec),(22,Vj.spec)] fR.1 ?_;intro⟨p,i,n⟩ (ae:oT p) H aH ⟨cb,cL,gg⟩;have bad:∀{c:Int},qu p i n=([],c)->bZ (.bu [.nl,.i .i64 c]) (Il.res (p,i,n)):=fun h=>by
  show bZ _ (Ip (qu p i n));rw[h];exact .bu ⟨.nl,.refl _,trivial⟩
 refine I ?_;refine aL KH p ae ?_ (hh:=cb);refine ah 15 (.bu [.i .i64 (dm p).1,.i .i64 (dm p).2.1,.i .i64 (dm p).2.2]) rfl rfl (ak 20 ?_);by_cases h0:(dm p).2.2=0
 case neg=>
  refine v1 20 (show(dm p).2.2≠0 from h0) (I ?_);exact ar rfl (bad (zab h0))
 refine v0 20 (show¬(dm p).2.2≠0 from fun h=>h h0) ?_;have Fo:¬(0<=i∧i<(p.ins.length:Int)∧1<=n∧n<=400)->bZ (.bu [.nl,.i .i64 7]) (Il.res (p,i,n)):=fun h=>bad ((zaa (fun az=>az h0)).trans (zab h));refine ak 23 ?_;by_cases cr:i<0
 ·refine v1 23 cr (I ?_);exact ar rfl (Fo (by omega))
 refine v0 23 cr (ak 29 ?_);by_cases cz:(p.ins.length:Int)<=i
 ·refine v1 29 cz (I ?_);exact ar rfl (Fo (by omega))
 refine v0 29 cz (ak 33 ?_);by_cases dT:n<1
 ·refine v1 33 dT (I ?_);exact ar rfl (Fo (by omega))
 refine v0 33 dT (ak 37 ?_);by_cases jI:400<n
 ·refine v1 37 jI (I ?_);exact ar rfl (Fo (by omega))
 refine v0 37 jI ?_;obtain⟨k,rfl⟩:∃k:Nat,i=(k:Int):=⟨i.toNat,by omega⟩;have U:k<p.ins.length:=by omega
 have J:=bF U;obtain⟨e,q,a,b,ok⟩:=MP (BQ h0) J;have LI:=YU (n:=n) h0 U ⟨by omega,by omega⟩ J ok;have k2:=ae.1 _ (dV U);have aV:p.ins.length<=6:=by
  have h:=BQ h0;have aJ:m6 p=0:=Classical.byContradiction fun aJ=>by
   unfold dm at h;rw[zaa aJ]at h;exact aJ (congrArg (fun x:Int×Int×Int=>x.2.2) h)
  exact(vm aJ).2.1
 generalize vJ:p.ins[k]=x at *;refine ak 43 ?_;refine ah 43 (.i .i64 ((k+1:Nat):Int)) rfl bx ?_;refine aqj [x] ?_ (hl:=by rw[hB U,vJ,show k+1-k=1 by omega];rfl);refine I ?_;refine aL adh ⟨p,x,e,q,a,b⟩ ⟨ok.f,ok.ha.1,ok.aM,ok.hi,k2.1,k2.2⟩ ?_ (hh:=⟨cb,cL,gg⟩);by_cases hc:4611686018427387904<e3 e q a b
 ·refine ah 48 (.bu [.nl,.i .i64 3]) rfl (zab hc) (I ?_);exact ar rfl (bad (LI.trans (zab hc)))
 ·refine ah 48 (.bu [.cc 6 kI qO [⟨e,q,a,max (e3 e q a b) 0⟩],.i .i64 0]) rfl (zaa hc) ?_;have eK:=Q3 ok.ha ok.le;rw[zaa hc]at LI;have LS:eJ e q true a+(e3 e q a b-1)=eJ e q false b:=by unfold e3;omega
  have avp:=(zk (x:=b) ok.ha.1).2.1;have DK:=sD k2.1 ok.aM;rw[show max (e3 e q a b) 0=e3 e q a b by omega];refine I ?_;refine dP (j:=0) (⟨e,q,a,e3 e q a b⟩:kI) rfl ?_;refine I ?_;refine aL ajL (⟨e,q,a,e3 e q a b⟩,n) ⟨ok.ha.1,DK,eK,by show e3 e q a b<=4611686018427387904;omega,by show 1<=n;omega,by show n<=400;omega,by show eJ e q true a+(e3 e q a b-1)<(In e q:Int);omega⟩ (I ?_) (hh:=⟨cb,cL,gg⟩);exact ar rfl (.of (by show _=Ip (qu p k n);rw[LI];rfl))
structure acD where
 p:cB
 i:Nat
 y:jm
 e:Int
 q:Int
 a:Rat
 b:Rat
 x:Rat
def abU:bh where
 L:=acD
 args:=fun l=>[gM l.p,.i .i64 (l.i:Nat),bG l.x]
 pre:=fun l=>l.p.ins[l.i]? =some l.y∧uS l.p l.y l.e l.q l.a l.b∧l.y.aM.length<=2000∧l.y.hi.length<=2000∧cA 250 l.x∧hE l.e l.q l.x∧l.a<=l.x∧l.x<=l.b
 res:=fun l=>.b true
def abV:a9 aT.ctx 90 abU.spec:=by
 refine bH [(11,uz.spec),(93,Ck.spec),(12,sH.spec)] UX.1 ?_;intro⟨p,i,y,e,q,a,b,x⟩ ⟨(hj:p.ins[i]? =some y),(ok:uS p y e q a b),(hx:y.aM.length<=2000),(mw:y.hi.length<=2000),(ag:cA 250 x),(J:hE e q x),(ha:a<=x),(hb:x<=b)⟩ H aH;obtain⟨⟨f,aa,hq⟩,DY,AK,_,_,_⟩:=ok;have DK:=sD hx DY;have qo:=sD mw AK;have w8:∀{u v:Rat},u<=v->g4 u v<=0:=fun h=>zcu.1 fun az=>absurd (pS.1 az) (zcK.2 h);refine I ?_;refine dP y hj ?_;refine I ?_;refine aL sJ y.aM hx ?_;refine ah 20 (.bu [bG a,.i .i64 0]) rfl (by show iM y.aM=_;unfold iM;rw[DY]) (I ?_);refine aL sJ y.hi mw ?_;refine ah 26 (.bu [bG b,.i .i64 0]) rfl (by show iM y.hi=_;unfold iM;rw[AK]) (ak 32 ?_);refine cu 32 (.i .i64 (f:Int)) rfl rfl (by rw[aa]) ?_;refine hS (e,q) hq ?_;refine I ?_;refine bo Lg (e,q,x) ag ?_;refine dx 36 J (I ?_);refine bo sI (a,x) ⟨dn DK (by decide),dn ag (by decide)⟩ (ak 41 ?_);refine ah 41 (.b true) rfl (b8 (zad (w8 ha))) (I ?_);refine bo sI (x,b) ⟨dn ag (by decide),dn qo (by decide)⟩ (ak 47 ?_);refine ah 47 (.b true) rfl (b8 (zad (w8 hb))) (I ?_);exact ar rfl (.refl _)
abbrev y5:=ac Int×ac Int×ac Int
def n0(p:cB)(l:y5):ac ab:=di p++[.cc 1 Int ee l.1,.cc 1 Int ee l.2.1,.cc 1 Int ee l.2.2,.i .i64 0]
def Z3:bh where
 L:=cB×y5
 args:=fun(p,l)=>[.agg (n0 p l)]
 pre:=fun(p,l)=>l.1.length<=100∧l.2.1.length<=100∧l.2.2.length<=100
 res:=fun(p,l)=>.i .i64 ((l.1.length:Int)+l.2.2.length)
def aqA:a9 aT.ctx 91 Z3.spec:=by
 refine bH [] UY.1 ?_;intro⟨p,a,b,c⟩ ⟨(h1:a.length<=100),(h2:b.length<=100),(h3:c.length<=100)⟩ H aH;refine I ?_;refine er (nh (j:=0) rfl rfl (by decide)) ?_;refine I ?_;refine er (nh (j:=1) rfl rfl (by decide)) ?_;refine ak 13 ?_;refine ah 13 (.i .i64 0) rfl (bx (by rw[Int.zero_mul]) (by omega) (by omega)) (ak 14 ?_);refine ah 14 (.i .i64 (a.length:Nat)) rfl (bx (n:=((a.length:Nat):Int)+0) (by omega) (by omega) (by omega)) (I ?_);refine er (nh (j:=2) rfl rfl (by decide)) ?_;refine ak 19 ?_;refine ah 19 (.i .i64 ((a.length:Int)+c.length)) rfl (bx (n:=((a.length:Nat):Int)+((c.length:Nat):Int)) rfl (by omega) (by omega)) (I ?_);exact ar rfl (.refl _)
def MW(p:cB)(i:Nat):Nat:=if p.dE.length=0 then 0 else(if p.head<=i then 1 else 0)+(if p.tail<=i then 1 else 0)
def k8(p:cB)(bU:ac Bool):Nat->y5
 |0=>([],[],[])
 |i+1=>if bU.getD i false=true then(match MW p i with
  |0=>((k8 p bU i).1++[(i:Int)],(k8 p bU i).2.1,(k8 p bU i).2.2)
  |1=>((k8 p bU i).1,(k8 p bU i).2.1++[(i:Int)],(k8 p bU i).2.2)
  |_=>((k8 p bU i).1,(k8 p bU i).2.1,(k8 p bU i).2.2++[(i:Int)]))else k8 p bU i
theorem N7(p:cB)(bU:ac Bool):∀i,(k8 p bU i).1.length<=i∧(k8 p bU i).2.1.length<=i∧(k8 p bU i).2.2.length<=i
 |0=>⟨bY _,bY _,bY _⟩
 |i+1=>by
  obtain⟨h1,h2,h3⟩:=N7 p bU i;unfold k8;split
  ·split<;>simp<;>omega
  ·omega
def slot(k:Nat):ac Int->ab
 |[]=>.nl
 |_::ds=>.aY k 1 0 (ds.length+1) (ds.length+1)
def arr:ac Int->ac ay
 |[]=>[]
 |d::ds=>[.a 3 true 1 Int ee (d::ds)]
def one?:ac Int->Nat
 |[]=>0
 |_::_=>1
def XK:ac ab:=[.nl,.i .i64 0,.nl,.nl,.i .i64 0,.i .i64 0,.nl,.i .i64 0,.nl,.nl,.nl,.i .i64 0]
def ao8(p:cB)(bU:ac Bool)(n i:Nat)(l:y5):cG:=
 ⟨[.c 27 (di p),.c 111 XK,.c 111 (di p++[slot 3 l.1,slot (3+one? l.1) l.2.1,slot (3+one? l.1+one? l.2.1) l.2.2,.i .i64 0])]++arr l.1++arr l.2.1++arr l.2.2,3+one? l.1+one? l.2.1+one? l.2.2,
   [(2,.p 0 0),(4,.p 1 0),(5,.i .i64 0),(9,.p 2 0),(37,.cc 1 Bool ka bU),(38,.i .i64 (n:Nat)),(39,.i .i64 (i:Nat))]⟩
def adP(h:dm p=(0,0,0)):p.head<=p.tail∧p.tail<=(p.a6.length:Int):=by
 have aJ:m6 p=0:=Classical.byContradiction fun aJ=>by
  unfold dm at h;rw[zaa aJ]at h;exact aJ (congrArg (fun x:Int×Int×Int=>x.2.2) h)
 have:=vm aJ;omega
def N8:bh where
 L:=cB
 args:=fun p=>[gM p,.i .i64 0]
 pre:=fun p=>oT p∧dm p=(0,0,0)
 res:=fun p=>.bu [.agg (n0 p (k8 p (ry p).1 p.a6.length)),.i .i64 0]
 hp:=iT
 hm:=iT.up
def vU{a b c:ac Int}{x y z:ab}(h1:bZ x (.cc 1 Int ee a))(h2:bZ y (.cc 1 Int ee b))(h3:bZ z (.cc 1 Int ee c)):bZ (.bu [.agg (di p++[x,y,z,.i .i64 0]),.i .i64 0]) (.bu [.agg (n0 p (a,b,c)),.i .i64 0]):=.bu ⟨.agg ⟨.refl _,.refl _,.refl _,.refl _,.refl _,.refl _,.refl _,.refl _,h1,h2,h3,.refl _,trivial⟩,.refl _,trivial⟩
def apa:a9 aT.ctx 89 N8.spec:=by
 refine jy [(176,XP.spec)] UW.1 ?_;intro(p:cB) ⟨(ae:oT p),(hc:dm p=(0,0,0))⟩ H aH dv;obtain⟨hx,mw⟩:=KM hc;obtain⟨f1,f2,_⟩:=DC p 65 (List.replicate p.a6.length false,List.replicate p.dE.length false) p.out.toNat;simp only[zbq]at f1 f2;have f1:(ry p).1.length=p.a6.length:=f1;obtain⟨bU,iG⟩:∃bU,bU=(ry p).1:=⟨_,rfl⟩;refine I ?_;refine aL aob p ⟨ae,adQ⟩ ?_ (hh:=dv);refine ah 15 (.bu [.cc 1 Bool ka bU,.cc 1 Bool ka (ry p).2,.i .i64 0]) rfl (by rw[iG];exact zab hc) ?_;rw[<-iG]at f1;refine I ?_;refine fJ (L:=Unit) (fun _=>True) (fun _=>⟨[.c 27 (di p),.c 111 XK],2,[(1,.i .i64 0),(2,.p 0 0),(4,.p 1 0),(5,.i .i64 0),(6,.cc 1 Bool ka bU)]⟩) ?_ ?_
 ·refine b9 (fun _=> ?_) (fun _=> ?_)
  ·refine I ?_;exact a1 [0,1] () trivial ij
  ·refine I ?_;exact a1 [0,1] () trivial ij
 intro _ _;refine I ?_;refine c6 (L:=Nat×y5) (fun(i,l)=>i<=bU.length∧l=k8 p bU i) (fun(i,l)=>ao8 p bU bU.length i l) (fun l=>bU.length-l.1) [0,1,2] (0,[],[],[]) ⟨zag _,rfl⟩ (by show bU.length-0<bQ+1;unfold bQ;omega) jK ?_;rintro⟨i,a,b,c⟩ ⟨hi,hl⟩;have tN:p.tail<=(i:Int)->p.head<=(i:Int):=fun h=>by have:=(adP hc).1;omega
 obtain⟨oD,tW,lc⟩:=N7 p bU i;rw[<-hl]at oD tW lc;have oD:a.length<=i:=oD;have tW:b.length<=i:=tW;have lc:c.length<=i:=lc;by_cases aV:i<bU.length
 case neg=>
  have k0:i=p.a6.length:=by omega
  have fT:N8.res p= .bu [.agg (n0 p (a,b,c)),.i .i64 0]:=by
   show ab.bu [ab.agg (n0 p (k8 p (ry p).1 p.a6.length)),.i .i64 0]=_;rw[<-iG,<-k0,<-hl]
  rcases a with _|⟨x,a⟩<;>rcases b with _|⟨y,b⟩<;>rcases c with _|⟨z,c⟩
  all_goals (
   rw[n0]at fT;refine ak 40 ?_;refine v0 40 (show¬(i:Int)<(bU.length:Nat) by omega) ?_;refine ak 72 ?_)
  ·refine I ?_;exact ar rfl (by rw[fT];exact vU .nl .nl .nl)
  ·refine pz 72 3 (a':=.agg (di p++[.nl,.nl,.cc 1 Int ee (z::c),.i .i64 0])) ?_ (ha:=by show ab.agg (di p++[eA _ _ _ _ _,eA _ _ _ _ _,eA _ _ _ _ _,_])=_;simp[eA,slot,one?]<;>first|rfl|exact⟨rfl,rfl⟩);refine I ?_;exact ar rfl (by rw[fT];exact vU .nl .nl (.refl _))
  ·refine pz 72 3 (a':=.agg (di p++[.nl,.cc 1 Int ee (y::b),.nl,.i .i64 0])) ?_ (ha:=by show ab.agg (di p++[eA _ _ _ _ _,eA _ _ _ _ _,eA _ _ _ _ _,_])=_;simp[eA,slot,one?]<;>first|rfl|exact⟨rfl,rfl⟩);refine I ?_;exact ar rfl (by rw[fT];exact vU .nl (.refl _) .nl)
  ·refine pz 72 3 (a':=.agg (di p++[.nl,.cc 1 Int ee (y::b),.aY 4 1 0 (c.length+1) (c.length+1),.i .i64 0])) ?_ (ha:=by show ab.agg (di p++[eA _ _ _ _ _,eA _ _ _ _ _,eA _ _ _ _ _,_])=_;simp[eA,slot,one?]<;>first|rfl|exact⟨rfl,rfl⟩);refine pz 72 4 (a':=.agg (di p++[.nl,.cc 1 Int ee (y::b),.cc 1 Int ee (z::c),.i .i64 0])) ?_ (ha:=by show ab.agg (di p++[eA _ _ _ _ _,eA _ _ _ _ _,eA _ _ _ _ _,_])=_;simp[eA,slot,one?]<;>first|rfl|exact⟨rfl,rfl⟩);refine I ?_;exact ar rfl (by rw[fT];exact vU .nl (.refl _) (.refl _))
  ·refine pz 72 3 (a':=.agg (di p++[.cc 1 Int ee (x::a),.nl,.nl,.i .i64 0])) ?_ (ha:=by show ab.agg (di p++[eA _ _ _ _ _,eA _ _ _ _ _,eA _ _ _ _ _,_])=_;simp[eA,slot,one?]<;>first|rfl|exact⟨rfl,rfl⟩);refine I ?_;exact ar rfl (by rw[fT];exact vU (.refl _) .nl .nl)
  ·refine pz 72 3 (a':=.agg (di p++[.cc 1 Int ee (x::a),.nl,.aY 4 1 0 (c.length+1) (c.length+1),.i .i64 0])) ?_ (ha:=by show ab.agg (di p++[eA _ _ _ _ _,eA _ _ _ _ _,eA _ _ _ _ _,_])=_;simp[eA,slot,one?]<;>first|rfl|exact⟨rfl,rfl⟩);refine pz 72 4 (a':=.agg (di p++[.cc 1 Int ee (x::a),.nl,.cc 1 Int ee (z::c),.i .i64 0])) ?_ (ha:=by show ab.agg (di p++[eA _ _ _ _ _,eA _ _ _ _ _,eA _ _ _ _ _,_])=_;simp[eA,slot,one?]<;>first|rfl|exact⟨rfl,rfl⟩);refine I ?_;exact ar rfl (by rw[fT];exact vU (.refl _) .nl (.refl _))
  ·refine pz 72 3 (a':=.agg (di p++[.cc 1 Int ee (x::a),.aY 4 1 0 (b.length+1) (b.length+1),.nl,.i .i64 0])) ?_ (ha:=by show ab.agg (di p++[eA _ _ _ _ _,eA _ _ _ _ _,eA _ _ _ _ _,_])=_;simp[eA,slot,one?]<;>first|rfl|exact⟨rfl,rfl⟩);refine pz 72 4 (a':=.agg (di p++[.cc 1 Int ee (x::a),.cc 1 Int ee (y::b),.nl,.i .i64 0])) ?_ (ha:=by show ab.agg (di p++[eA _ _ _ _ _,eA _ _ _ _ _,eA _ _ _ _ _,_])=_;simp[eA,slot,one?]<;>first|rfl|exact⟨rfl,rfl⟩);refine I ?_;exact ar rfl (by rw[fT];exact vU (.refl _) (.refl _) .nl)
  ·refine pz 72 3 (a':=.agg (di p++[.cc 1 Int ee (x::a),.aY 4 1 0 (b.length+1) (b.length+1),.aY 5 1 0 (c.length+1) (c.length+1),.i .i64 0])) ?_ (ha:=by show ab.agg (di p++[eA _ _ _ _ _,eA _ _ _ _ _,eA _ _ _ _ _,_])=_;simp[eA,slot,one?]<;>first|rfl|exact⟨rfl,rfl⟩);refine pz 72 4 (a':=.agg (di p++[.cc 1 Int ee (x::a),.cc 1 Int ee (y::b),.aY 5 1 0 (c.length+1) (c.length+1),.i .i64 0])) ?_ (ha:=by show ab.agg (di p++[eA _ _ _ _ _,eA _ _ _ _ _,eA _ _ _ _ _,_])=_;simp[eA,slot,one?]<;>first|rfl|exact⟨rfl,rfl⟩);refine pz 72 5 (a':=.agg (di p++[.cc 1 Int ee (x::a),.cc 1 Int ee (y::b),.cc 1 Int ee (z::c),.i .i64 0])) ?_ (ha:=by show ab.agg (di p++[eA _ _ _ _ _,eA _ _ _ _ _,eA _ _ _ _ _,_])=_;simp[eA,slot,one?]<;>first|rfl|exact⟨rfl,rfl⟩);refine I ?_;exact ar rfl (by rw[fT];exact vU (.refl _) (.refl _) (.refl _))
 have gT:k8 p bU (i+1)=if bU[i]=true then(match MW p i with
  |0=>(a++[(i:Int)],b,c)
  |1=>(a,b++[(i:Int)],c)
  |_=>(a,b,c++[(i:Int)]))else(a,b,c):=by
  show(if bU.getD i false=true then _ else k8 p bU i)=_;rw[zdm,bF aV,<-hl];rfl
 have alh:MW p i=if p.dE.length=0 then 0 else(if p.head<=i then 1 else 0)+(if p.tail<=i then 1 else 0):=rfl;cases hb:bU[i]with
 |false=>
  rw[hb,zaa (by decide)]at gT;cases a<;>cases b<;>cases c
  all_goals (
   refine ak 40 ?_;refine v1 40 (show(i:Int)<(bU.length:Nat) by omega) (I ?_);refine dP bU[i] (bF aV) ?_;refine ak 43 ?_;refine ah 43 (.b false) rfl (by rw[hb]) (ak 71 ?_);refine ah 71 (.i .i64 ((i+1:Nat):Int)) rfl bx ?_;refine I ?_)
  all_goals first
   |exact a1 [0,1,2] (i+1,_,_,_) ⟨by show bU.length-(i+1)<bU.length-i;omega,aV,gT.symm⟩ ⟨by simp,rfl,⟨⟨_,rfl,by first|rfl|exact⟨rfl,fun _=>rfl⟩|(show ay.c _ _=ay.c _ _;simp[slot];rfl)⟩,⟨_,rfl,by first|rfl|exact⟨rfl,fun _=>rfl⟩|(show ay.c _ _=ay.c _ _;simp[slot];rfl)⟩,⟨_,rfl,by first|rfl|exact⟨rfl,fun _=>rfl⟩|(show ay.c _ _=ay.c _ _;simp[slot];rfl)⟩,trivial⟩,⟨rfl,rfl,rfl,rfl,rfl,rfl,rfl,trivial⟩,by rfl⟩
   |exact a1 [0,1,2,3] (i+1,_,_,_) ⟨by show bU.length-(i+1)<bU.length-i;omega,aV,gT.symm⟩ ⟨by simp,rfl,⟨⟨_,rfl,by first|rfl|exact⟨rfl,fun _=>rfl⟩|(show ay.c _ _=ay.c _ _;simp[slot];rfl)⟩,⟨_,rfl,by first|rfl|exact⟨rfl,fun _=>rfl⟩|(show ay.c _ _=ay.c _ _;simp[slot];rfl)⟩,⟨_,rfl,by first|rfl|exact⟨rfl,fun _=>rfl⟩|(show ay.c _ _=ay.c _ _;simp[slot];rfl)⟩,⟨_,rfl,by first|rfl|exact⟨rfl,fun _=>rfl⟩|(show ay.c _ _=ay.c _ _;simp[slot];rfl)⟩,trivial⟩,⟨rfl,rfl,rfl,rfl,rfl,rfl,rfl,trivial⟩,by rfl⟩
   |exact a1 [0,1,2,3,4] (i+1,_,_,_) ⟨by show bU.length-(i+1)<bU.length-i;omega,aV,gT.symm⟩ ⟨by simp,rfl,⟨⟨_,rfl,by first|rfl|exact⟨rfl,fun _=>rfl⟩|(show ay.c _ _=ay.c _ _;simp[slot];rfl)⟩,⟨_,rfl,by first|rfl|exact⟨rfl,fun _=>rfl⟩|(show ay.c _ _=ay.c _ _;simp[slot];rfl)⟩,⟨_,rfl,by first|rfl|exact⟨rfl,fun _=>rfl⟩|(show ay.c _ _=ay.c _ _;simp[slot];rfl)⟩,⟨_,rfl,by first|rfl|exact⟨rfl,fun _=>rfl⟩|(show ay.c _ _=ay.c _ _;simp[slot];rfl)⟩,⟨_,rfl,by first|rfl|exact⟨rfl,fun _=>rfl⟩|(show ay.c _ _=ay.c _ _;simp[slot];rfl)⟩,trivial⟩,⟨rfl,rfl,rfl,rfl,rfl,rfl,rfl,trivial⟩,by rfl⟩
   |exact a1 [0,1,2,3,4,5] (i+1,_,_,_) ⟨by show bU.length-(i+1)<bU.length-i;omega,aV,gT.symm⟩ ⟨by simp,rfl,⟨⟨_,rfl,by first|rfl|exact⟨rfl,fun _=>rfl⟩|(show ay.c _ _=ay.c _ _;simp[slot];rfl)⟩,⟨_,rfl,by first|rfl|exact⟨rfl,fun _=>rfl⟩|(show ay.c _ _=ay.c _ _;simp[slot];rfl)⟩,⟨_,rfl,by first|rfl|exact⟨rfl,fun _=>rfl⟩|(show ay.c _ _=ay.c _ _;simp[slot];rfl)⟩,⟨_,rfl,by first|rfl|exact⟨rfl,fun _=>rfl⟩|(show ay.c _ _=ay.c _ _;simp[slot];rfl)⟩,⟨_,rfl,by first|rfl|exact⟨rfl,fun _=>rfl⟩|(show ay.c _ _=ay.c _ _;simp[slot];rfl)⟩,⟨_,rfl,by first|rfl|exact⟨rfl,fun _=>rfl⟩|(show ay.c _ _=ay.c _ _;simp[slot];rfl)⟩,trivial⟩,⟨rfl,rfl,rfl,rfl,rfl,rfl,rfl,trivial⟩,by rfl⟩
 |true=>
  rw[hb,zab rfl,alh]at gT;by_cases h3:p.dE.length=0<;>by_cases h1:p.head<=(i:Int)<;>by_cases h2:p.tail<=(i:Int)
  all_goals first|exact absurd (tN h2) h1|skip
  all_goals (simp[h1,h2,h3]at gT)
  all_goals (
   cases a<;>cases b<;>cases c
   all_goals (
    simp only[zau]at oD tW lc;refine ak 40 ?_;refine v1 40 (show(i:Int)<(bU.length:Nat) by omega) (I ?_);refine dP bU[i] (bF aV) ?_;refine ak 43 ?_;refine ah 43 (.b true) rfl (by rw[hb]) (ak 48 ?_)
    first|refine v1 48 h1 ?_|refine v0 48 h1 ?_
    refine ak 54 ?_
    first|refine v1 54 h2 ?_|refine v0 54 h2 ?_
    refine ak 60 ?_
    first|refine v1 60 (show(p.dE.length:Int)=0 by omega) ?_|refine v0 60 (show¬(p.dE.length:Int)=0 by omega) ?_
    refine I ?_
    first|refine er (nh (j:=0) rfl rfl (by decide)) ?_|refine er (nh (j:=1) rfl rfl (by decide)) ?_|refine er (nh (j:=2) rfl rfl (by decide)) ?_
    refine I ?_
    first|refine wx ee [(i:Int)] (j4 (R:=ee) [(i:Int)] rfl) ?_|refine wv (R:=ee) [(i:Int)] (j4 (R:=ee) [(i:Int)] rfl) ?_
    refine I ?_
    first|refine er (nh (j:=0) rfl rfl (by decide)) ?_|refine er (nh (j:=1) rfl rfl (by decide)) ?_|refine er (nh (j:=2) rfl rfl (by decide)) ?_
    refine ak 71 ?_;refine ah 71 (.i .i64 ((i+1:Nat):Int)) rfl bx ?_;refine I ?_))
  all_goals first
   |exact a1 [0,1,2,4] (i+1,_,_,_) ⟨by show bU.length-(i+1)<bU.length-i;omega,aV,gT.symm⟩ ⟨by simp,rfl,⟨⟨_,rfl,by first|rfl|exact⟨rfl,fun _=>rfl⟩|(show ay.c _ _=ay.c _ _;simp[slot];rfl)⟩,⟨_,rfl,by first|rfl|exact⟨rfl,fun _=>rfl⟩|(show ay.c _ _=ay.c _ _;simp[slot];rfl)⟩,⟨_,rfl,by first|rfl|exact⟨rfl,fun _=>rfl⟩|(show ay.c _ _=ay.c _ _;simp[slot];rfl)⟩,⟨_,rfl,by first|rfl|exact⟨rfl,fun _=>rfl⟩|(show ay.c _ _=ay.c _ _;simp[slot];rfl)⟩,trivial⟩,⟨rfl,rfl,rfl,rfl,rfl,rfl,rfl,trivial⟩,by rfl⟩
   |exact a1 [0,1,2,5] (i+1,_,_,_) ⟨by show bU.length-(i+1)<bU.length-i;omega,aV,gT.symm⟩ ⟨by simp,rfl,⟨⟨_,rfl,by first|rfl|exact⟨rfl,fun _=>rfl⟩|(show ay.c _ _=ay.c _ _;simp[slot];rfl)⟩,⟨_,rfl,by first|rfl|exact⟨rfl,fun _=>rfl⟩|(show ay.c _ _=ay.c _ _;simp[slot];rfl)⟩,⟨_,rfl,by first|rfl|exact⟨rfl,fun _=>rfl⟩|(show ay.c _ _=ay.c _ _;simp[slot];rfl)⟩,⟨_,rfl,by first|rfl|exact⟨rfl,fun _=>rfl⟩|(show ay.c _ _=ay.c _ _;simp[slot];rfl)⟩,trivial⟩,⟨rfl,rfl,rfl,rfl,rfl,rfl,rfl,trivial⟩,by rfl⟩
   |exact a1 [0,1,2,5,3] (i+1,_,_,_) ⟨by show bU.length-(i+1)<bU.length-i;omega,aV,gT.symm⟩ ⟨by simp,rfl,⟨⟨_,rfl,by first|rfl|exact⟨rfl,fun _=>rfl⟩|(show ay.c _ _=ay.c _ _;simp[slot];rfl)⟩,⟨_,rfl,by first|rfl|exact⟨rfl,fun _=>rfl⟩|(show ay.c _ _=ay.c _ _;simp[slot];rfl)⟩,⟨_,rfl,by first|rfl|exact⟨rfl,fun _=>rfl⟩|(show ay.c _ _=ay.c _ _;simp[slot];rfl)⟩,⟨_,rfl,by first|rfl|exact⟨rfl,fun _=>rfl⟩|(show ay.c _ _=ay.c _ _;simp[slot];rfl)⟩,⟨_,rfl,by first|rfl|exact⟨rfl,fun _=>rfl⟩|(show ay.c _ _=ay.c _ _;simp[slot];rfl)⟩,trivial⟩,⟨rfl,rfl,rfl,rfl,rfl,rfl,rfl,trivial⟩,by rfl⟩
   |exact a1 [0,1,2,6,4] (i+1,_,_,_) ⟨by show bU.length-(i+1)<bU.length-i;omega,aV,gT.symm⟩ ⟨by simp,rfl,⟨⟨_,rfl,by first|rfl|exact⟨rfl,fun _=>rfl⟩|(show ay.c _ _=ay.c _ _;simp[slot];rfl)⟩,⟨_,rfl,by first|rfl|exact⟨rfl,fun _=>rfl⟩|(show ay.c _ _=ay.c _ _;simp[slot];rfl)⟩,⟨_,rfl,by first|rfl|exact⟨rfl,fun _=>rfl⟩|(show ay.c _ _=ay.c _ _;simp[slot];rfl)⟩,⟨_,rfl,by first|rfl|exact⟨rfl,fun _=>rfl⟩|(show ay.c _ _=ay.c _ _;simp[slot];rfl)⟩,⟨_,rfl,by first|rfl|exact⟨rfl,fun _=>rfl⟩|(show ay.c _ _=ay.c _ _;simp[slot];rfl)⟩,trivial⟩,⟨rfl,rfl,rfl,rfl,rfl,rfl,rfl,trivial⟩,by rfl⟩
   |exact a1 [0,1,2,6,3,4] (i+1,_,_,_) ⟨by show bU.length-(i+1)<bU.length-i;omega,aV,gT.symm⟩ ⟨by simp,rfl,⟨⟨_,rfl,by first|rfl|exact⟨rfl,fun _=>rfl⟩|(show ay.c _ _=ay.c _ _;simp[slot];rfl)⟩,⟨_,rfl,by first|rfl|exact⟨rfl,fun _=>rfl⟩|(show ay.c _ _=ay.c _ _;simp[slot];rfl)⟩,⟨_,rfl,by first|rfl|exact⟨rfl,fun _=>rfl⟩|(show ay.c _ _=ay.c _ _;simp[slot];rfl)⟩,⟨_,rfl,by first|rfl|exact⟨rfl,fun _=>rfl⟩|(show ay.c _ _=ay.c _ _;simp[slot];rfl)⟩,⟨_,rfl,by first|rfl|exact⟨rfl,fun _=>rfl⟩|(show ay.c _ _=ay.c _ _;simp[slot];rfl)⟩,⟨_,rfl,by first|rfl|exact⟨rfl,fun _=>rfl⟩|(show ay.c _ _=ay.c _ _;simp[slot];rfl)⟩,trivial⟩,⟨rfl,rfl,rfl,rfl,rfl,rfl,rfl,trivial⟩,by rfl⟩
   |exact a1 [0,1,2,7,4,5] (i+1,_,_,_) ⟨by show bU.length-(i+1)<bU.length-i;omega,aV,gT.symm⟩ ⟨by simp,rfl,⟨⟨_,rfl,by first|rfl|exact⟨rfl,fun _=>rfl⟩|(show ay.c _ _=ay.c _ _;simp[slot];rfl)⟩,⟨_,rfl,by first|rfl|exact⟨rfl,fun _=>rfl⟩|(show ay.c _ _=ay.c _ _;simp[slot];rfl)⟩,⟨_,rfl,by first|rfl|exact⟨rfl,fun _=>rfl⟩|(show ay.c _ _=ay.c _ _;simp[slot];rfl)⟩,⟨_,rfl,by first|rfl|exact⟨rfl,fun _=>rfl⟩|(show ay.c _ _=ay.c _ _;simp[slot];rfl)⟩,⟨_,rfl,by first|rfl|exact⟨rfl,fun _=>rfl⟩|(show ay.c _ _=ay.c _ _;simp[slot];rfl)⟩,⟨_,rfl,by first|rfl|exact⟨rfl,fun _=>rfl⟩|(show ay.c _ _=ay.c _ _;simp[slot];rfl)⟩,trivial⟩,⟨rfl,rfl,rfl,rfl,rfl,rfl,rfl,trivial⟩,by rfl⟩
   |exact a1 [0,1,2,3,5] (i+1,_,_,_) ⟨by show bU.length-(i+1)<bU.length-i;omega,aV,gT.symm⟩ ⟨by simp,rfl,⟨⟨_,rfl,by first|rfl|exact⟨rfl,fun _=>rfl⟩|(show ay.c _ _=ay.c _ _;simp[slot];rfl)⟩,⟨_,rfl,by first|rfl|exact⟨rfl,fun _=>rfl⟩|(show ay.c _ _=ay.c _ _;simp[slot];rfl)⟩,⟨_,rfl,by first|rfl|exact⟨rfl,fun _=>rfl⟩|(show ay.c _ _=ay.c _ _;simp[slot];rfl)⟩,⟨_,rfl,by first|rfl|exact⟨rfl,fun _=>rfl⟩|(show ay.c _ _=ay.c _ _;simp[slot];rfl)⟩,⟨_,rfl,by first|rfl|exact⟨rfl,fun _=>rfl⟩|(show ay.c _ _=ay.c _ _;simp[slot];rfl)⟩,trivial⟩,⟨rfl,rfl,rfl,rfl,rfl,rfl,rfl,trivial⟩,by rfl⟩
   |exact a1 [0,1,2,3,6] (i+1,_,_,_) ⟨by show bU.length-(i+1)<bU.length-i;omega,aV,gT.symm⟩ ⟨by simp,rfl,⟨⟨_,rfl,by first|rfl|exact⟨rfl,fun _=>rfl⟩|(show ay.c _ _=ay.c _ _;simp[slot];rfl)⟩,⟨_,rfl,by first|rfl|exact⟨rfl,fun _=>rfl⟩|(show ay.c _ _=ay.c _ _;simp[slot];rfl)⟩,⟨_,rfl,by first|rfl|exact⟨rfl,fun _=>rfl⟩|(show ay.c _ _=ay.c _ _;simp[slot];rfl)⟩,⟨_,rfl,by first|rfl|exact⟨rfl,fun _=>rfl⟩|(show ay.c _ _=ay.c _ _;simp[slot];rfl)⟩,⟨_,rfl,by first|rfl|exact⟨rfl,fun _=>rfl⟩|(show ay.c _ _=ay.c _ _;simp[slot];rfl)⟩,trivial⟩,⟨rfl,rfl,rfl,rfl,rfl,rfl,rfl,trivial⟩,by rfl⟩
   |exact a1 [0,1,2,3,6,4] (i+1,_,_,_) ⟨by show bU.length-(i+1)<bU.length-i;omega,aV,gT.symm⟩ ⟨by simp,rfl,⟨⟨_,rfl,by first|rfl|exact⟨rfl,fun _=>rfl⟩|(show ay.c _ _=ay.c _ _;simp[slot];rfl)⟩,⟨_,rfl,by first|rfl|exact⟨rfl,fun _=>rfl⟩|(show ay.c _ _=ay.c _ _;simp[slot];rfl)⟩,⟨_,rfl,by first|rfl|exact⟨rfl,fun _=>rfl⟩|(show ay.c _ _=ay.c _ _;simp[slot];rfl)⟩,⟨_,rfl,by first|rfl|exact⟨rfl,fun _=>rfl⟩|(show ay.c _ _=ay.c _ _;simp[slot];rfl)⟩,⟨_,rfl,by first|rfl|exact⟨rfl,fun _=>rfl⟩|(show ay.c _ _=ay.c _ _;simp[slot];rfl)⟩,⟨_,rfl,by first|rfl|exact⟨rfl,fun _=>rfl⟩|(show ay.c _ _=ay.c _ _;simp[slot];rfl)⟩,trivial⟩,⟨rfl,rfl,rfl,rfl,rfl,rfl,rfl,trivial⟩,by rfl⟩
   |exact a1 [0,1,2,3,7,5] (i+1,_,_,_) ⟨by show bU.length-(i+1)<bU.length-i;omega,aV,gT.symm⟩ ⟨by simp,rfl,⟨⟨_,rfl,by first|rfl|exact⟨rfl,fun _=>rfl⟩|(show ay.c _ _=ay.c _ _;simp[slot];rfl)⟩,⟨_,rfl,by first|rfl|exact⟨rfl,fun _=>rfl⟩|(show ay.c _ _=ay.c _ _;simp[slot];rfl)⟩,⟨_,rfl,by first|rfl|exact⟨rfl,fun _=>rfl⟩|(show ay.c _ _=ay.c _ _;simp[slot];rfl)⟩,⟨_,rfl,by first|rfl|exact⟨rfl,fun _=>rfl⟩|(show ay.c _ _=ay.c _ _;simp[slot];rfl)⟩,⟨_,rfl,by first|rfl|exact⟨rfl,fun _=>rfl⟩|(show ay.c _ _=ay.c _ _;simp[slot];rfl)⟩,⟨_,rfl,by first|rfl|exact⟨rfl,fun _=>rfl⟩|(show ay.c _ _=ay.c _ _;simp[slot];rfl)⟩,trivial⟩,⟨rfl,rfl,rfl,rfl,rfl,rfl,rfl,trivial⟩,by rfl⟩
   |exact a1 [0,1,2,3,4,6] (i+1,_,_,_) ⟨by show bU.length-(i+1)<bU.length-i;omega,aV,gT.symm⟩ ⟨by simp,rfl,⟨⟨_,rfl,by first|rfl|exact⟨rfl,fun _=>rfl⟩|(show ay.c _ _=ay.c _ _;simp[slot];rfl)⟩,⟨_,rfl,by first|rfl|exact⟨rfl,fun _=>rfl⟩|(show ay.c _ _=ay.c _ _;simp[slot];rfl)⟩,⟨_,rfl,by first|rfl|exact⟨rfl,fun _=>rfl⟩|(show ay.c _ _=ay.c _ _;simp[slot];rfl)⟩,⟨_,rfl,by first|rfl|exact⟨rfl,fun _=>rfl⟩|(show ay.c _ _=ay.c _ _;simp[slot];rfl)⟩,⟨_,rfl,by first|rfl|exact⟨rfl,fun _=>rfl⟩|(show ay.c _ _=ay.c _ _;simp[slot];rfl)⟩,⟨_,rfl,by first|rfl|exact⟨rfl,fun _=>rfl⟩|(show ay.c _ _=ay.c _ _;simp[slot];rfl)⟩,trivial⟩,⟨rfl,rfl,rfl,rfl,rfl,rfl,rfl,trivial⟩,by rfl⟩
   |exact a1 [0,1,2,3,4,7] (i+1,_,_,_) ⟨by show bU.length-(i+1)<bU.length-i;omega,aV,gT.symm⟩ ⟨by simp,rfl,⟨⟨_,rfl,by first|rfl|exact⟨rfl,fun _=>rfl⟩|(show ay.c _ _=ay.c _ _;simp[slot];rfl)⟩,⟨_,rfl,by first|rfl|exact⟨rfl,fun _=>rfl⟩|(show ay.c _ _=ay.c _ _;simp[slot];rfl)⟩,⟨_,rfl,by first|rfl|exact⟨rfl,fun _=>rfl⟩|(show ay.c _ _=ay.c _ _;simp[slot];rfl)⟩,⟨_,rfl,by first|rfl|exact⟨rfl,fun _=>rfl⟩|(show ay.c _ _=ay.c _ _;simp[slot];rfl)⟩,⟨_,rfl,by first|rfl|exact⟨rfl,fun _=>rfl⟩|(show ay.c _ _=ay.c _ _;simp[slot];rfl)⟩,⟨_,rfl,by first|rfl|exact⟨rfl,fun _=>rfl⟩|(show ay.c _ _=ay.c _ _;simp[slot];rfl)⟩,trivial⟩,⟨rfl,rfl,rfl,rfl,rfl,rfl,rfl,trivial⟩,by rfl⟩
def acm(p:cB)(l:ac (ac bv)):Prop:=l.length=p.ins.length∧∀(i:Nat) (y:jm),p.ins[i]? =some y->∃(s:ac bv) (x:Rat) (e q:Int) (a b:Rat),l[i]? =some s∧s.length<=2000∧fb s=some x∧uS p y e q a b∧hE e q x∧a<=x∧x<=b
structure sW where
 p:cB
 l:ac (ac bv)
def sW.m(x:sW):y5:=k8 x.p (ry x.p).1 x.p.a6.length
def sW.pre(x:sW):Prop:=oT x.p∧dm x.p=(0,0,0)∧acm x.p x.l∧x.l≠[]
variable{c n:Int}
def Qi:ht where
 L:=sW
 own:=fun x=>[.a 36 true 1 (ac bv) ff x.l]
 args:=fun x=>[gM x.p,.aY 0 1 0 x.l.length x.l.length,.i .i64 0]
 pre:=sW.pre
 bC:=fun x=>[.a 36 true 1 (ac bv) ff x.l]
 res:=fun x=>.bu [.agg (n0 x.p x.m++[.cc 3 Rat iS (x.l.map fQ)]),.i .i64 0,.i .i64 0]
 hp:=iT
 hm:=iT.up
def ac6(x:sW)(k:Nat):ac Rat->cG
 |[]=>⟨[.a 36 true 1 (ac bv) ff x.l,.c 27 (di x.p),.c 114 (n0 x.p x.m++[.nl]),.c 111 (n0 x.p x.m)],4,[(3,.p 1 0),(6,.p 2 0),(7,.i .i64 0),(8,.i .i64 0),(9,.p 3 0),(36,.aY 0 1 0 x.l.length x.l.length),(37,.i .i64 (x.l.length:Nat)),(38,.i .i64 (k:Nat))]⟩
 |d::ds=>⟨[.a 36 true 1 (ac bv) ff x.l,.c 27 (di x.p),.c 114 (n0 x.p x.m++[.aY 4 3 0 (ds.length+1) (ds.length+1)]),.c 111 (n0 x.p x.m),.a 42 true 3 Rat iS (d::ds)],5,[(3,.p 1 0),(6,.p 2 0),(7,.i .i64 0),(8,.i .i64 0),(9,.p 3 0),(36,.aY 0 1 0 x.l.length x.l.length),(37,.i .i64 (x.l.length:Nat)),(38,.i .i64 (k:Nat))]⟩
def adb:a9 aT.ctx 43 Qi.spec:=by
 refine Fw [(89,N8.spec),(11,uz.spec),(90,abU.spec),(91,Z3.spec)] Um.1 ?_;rintro x ⟨ae,hc,⟨hlen,ak9⟩,cl⟩ H i0 aH dv h0;obtain⟨iz,rfl⟩:∃a,i0=[a]:=by
  match i0,h0 with
  |[a],_=>exact⟨a,rfl⟩
 obtain⟨hx,_⟩:=KM hc;have p7:=N7 x.p (ry x.p).1 x.p.a6.length;have ava:x.p.ins.length<=6:=by
  have aJ:m6 x.p=0:=Classical.byContradiction fun aJ=>by
   have h:=hc;unfold dm at h;rw[zaa aJ]at h;exact aJ (congrArg (fun x:Int×Int×Int=>x.2.2) h)
  exact(vm aJ).2.1
 show aU.ok _ ⟨_,_,⟨[.a 36 true 1 (ac bv) ff x.l],1,[(0,gM x.p),(1,.aY 0 1 0 x.l.length x.l.length),(2,.i .i64 0)]⟩⟩;refine I ?_;refine aL apa x.p ⟨ae,hc⟩ ?_ (hh:=dv);refine ah 17 (.bu [.agg (n0 x.p x.m),.i .i64 0]) rfl rfl (ak 28 ?_);refine v0 28 (show¬((x.l.length:Nat):Int)≠(x.p.ins.length:Nat) by omega) (I ?_);refine c6 (L:=Nat×ac Rat) (fun(k,xs)=>k<=x.l.length∧xs=(x.l.map fQ).take k) (fun(k,xs)=>ac6 x k xs) (fun l=>x.l.length-l.1) [0,1,2,3] (0,[]) ⟨zag _,rfl⟩ (by show x.l.length-0<bQ+1;unfold bQ;omega) oa ?_;rintro⟨k,xs⟩ ⟨U,J⟩;have amo:xs.length=k:=by rw[J,zas,zaN];omega
 by_cases aV:k<x.l.length
 ·have aA:x.p.ins[k]? =some (x.p.ins[k]'(by omega)):=bF (by omega);have k2:=ae.1 _ (dV (show k<x.p.ins.length by omega));generalize x.p.ins[k]'(by omega)=y at *;obtain⟨s,v,e,q,a,b,Mf,pe,lV,ok,aF,jB,Wg⟩:=ak9 k y aA;have p9:(x.l.map fQ).take (k+1)=xs++[v]:=by
   rw[zba (by rw[zaN];exact aV),List.getElem_map,<-J];have:x.l[k]=s:=Option.some.inj ((bF aV).symm.trans Mf);rw[this];unfold fQ;rw[lV];rfl
  cases xs with
  |nil=>
   refine ak 39 ?_;refine v1 39 (show(k:Int)<(x.l.length:Nat) by omega) (I ?_);refine ix ?_;refine pA s Mf ?_;refine I ?_;refine aL sJ s pe ?_;refine ah 45 (.bu [bG v,.i .i64 0]) rfl (by show iM s=_;unfold iM;rw[lV]) (I ?_);refine aL abV ⟨x.p,k,y,e,q,a,b,v⟩ ⟨aA,ok,k2.1,k2.2,sD pe lV,aF,jB,Wg⟩ (I ?_);refine wx iS [v] (j4 (R:=iS) [v] rfl) ?_;refine ak 66 ?_;refine ah 66 (.i .i64 ((k+1:Nat):Int)) rfl bx (I ?_);exact a1 [0,1,2,3,6] (k+1,[v]) ⟨by show x.l.length-(k+1)<x.l.length-k;omega,aV,p9.symm⟩ ⟨by simp,rfl,⟨⟨_,rfl,rfl,fun _=>rfl⟩,⟨_,rfl,rfl⟩,⟨_,rfl,rfl⟩,⟨_,rfl,rfl⟩,⟨_,rfl,rfl,fun _=>rfl⟩,trivial⟩,⟨rfl,rfl,rfl,rfl,rfl,rfl,rfl,rfl,trivial⟩,by rfl⟩
  |cons d ds=>
   simp only[zau]at amo;refine ak 39 ?_;refine v1 39 (show(k:Int)<(x.l.length:Nat) by omega) (I ?_);refine ix ?_;refine pA s Mf ?_;refine I ?_;refine aL sJ s pe ?_;refine ah 45 (.bu [bG v,.i .i64 0]) rfl (by show iM s=_;unfold iM;rw[lV]) (I ?_);refine aL abV ⟨x.p,k,y,e,q,a,b,v⟩ ⟨aA,ok,k2.1,k2.2,sD pe lV,aF,jB,Wg⟩ (I ?_);refine wv (R:=iS) [v] (j4 (R:=iS) [v] rfl) ?_;refine ak 66 ?_;refine ah 66 (.i .i64 ((k+1:Nat):Int)) rfl bx (I ?_);exact a1 [0,1,2,3,7] (k+1,d::(ds++[v])) ⟨by show x.l.length-(k+1)<x.l.length-k;omega,aV,p9.symm⟩ ⟨by simp,rfl,⟨⟨_,rfl,rfl,fun _=>rfl⟩,⟨_,rfl,rfl⟩,⟨_,rfl,(by show ay.c _ _=ay.c _ _;simp;rfl)⟩,⟨_,rfl,rfl⟩,⟨_,rfl,rfl,fun _=>rfl⟩,trivial⟩,⟨rfl,rfl,rfl,rfl,rfl,rfl,rfl,rfl,trivial⟩,by rfl⟩
 ·have GS:k=x.l.length:=by omega
  rw[zay (by rw[zaN];omega)]at J;cases xs with
  |nil=>exact absurd (List.map_eq_nil_iff.1 J.symm) cl
  |cons d ds=>
   refine ak 39 ?_;refine v0 39 (show¬(k:Int)<(x.l.length:Nat) by omega) (I ?_);have CP:x.m.1.length<=x.p.a6.length:=p7.1;have CQ:x.m.2.1.length<=x.p.a6.length:=p7.2.1;have avg:x.m.2.2.length<=x.p.a6.length:=p7.2.2;refine aL aqA (x.p,x.m) ⟨by omega,by omega,by omega⟩ (ak 69 ?_);refine v0 69 (show¬(2000:Int)<(x.m.1.length:Int)+x.m.2.2.length by omega) (ak 71 ?_);refine pz 71 4 (a':=.agg (n0 x.p x.m++[.cc 3 Rat iS (d::ds)])) ?_ (ha:=by show ab.agg (n0 x.p x.m++[eA _ _ _ _ _])=_;simp[eA]);refine I ?_;exact j3 ⟨.inr rfl,⟨_,rfl,rfl,.of (by show _=ab.bu [.agg (n0 x.p x.m++[.cc 3 Rat iS (x.l.map fQ)]),.i .i64 0,.i .i64 0];rw[<-J];rfl)⟩,[0],rfl,dH trivial ⟨_,rfl,rfl,fun _=>rfl⟩⟩
def ZR:ht where
 L:=sW
 own:=fun x=>[.a 36 true 1 (ac bv) ff x.l]
 args:=fun x=>[gM x.p,.aY 0 1 0 x.l.length x.l.length,.i .i64 0]
 pre:=sW.pre
 bC:=fun x=>[.a 36 true 1 (ac bv) ff x.l]
 res:=fun x=>.bu [.i .i64 0,.i .i64 0]
 hp:=iT
 hm:=iT.up
def aqn:a9 aT.ctx 13 ZR.spec:=by
 refine Fw [(43,Qi.spec)] Sg.1 ?_;rintro x J H i0 aH dv h0;obtain⟨iz,rfl⟩:∃a,i0=[a]:=by
  match i0,h0 with
  |[a],_=>exact⟨a,rfl⟩
 show aU.ok _ ⟨_,_,⟨[.a 36 true 1 (ac bv) ff x.l],1,[(0,gM x.p),(1,.aY 0 1 0 x.l.length x.l.length),(2,.i .i64 0)]⟩⟩;refine I ?_;refine IX adb 0 x J ?_ (hh:=dv);refine I ?_;exact j3 ⟨.inr rfl,⟨_,rfl,rfl,.refl _⟩,[0],rfl,dH trivial ⟨_,rfl,rfl,fun _=>rfl⟩⟩
def ajo(hc:1<=c)(k:Nat):im c n k<=im c n (k+1):=by
 unfold im;split
 ·exact Int.ediv_le_ediv (by omega) (zeX (by omega) (by omega))
 ·exact zcL _
def U7(c n:Int):im c n 0=0:=by
 unfold im;split
 ·show(c-1)*0/(n-1)=0;rw[Int.mul_zero,Int.zero_ediv]
 ·rfl
def ajn(hn:1<n):im c n (n.toNat-1)=c-1:=by
 unfold im;rw[zab hn,show((n.toNat-1:Nat):Int)=n-1 by omega];exact Int.mul_ediv_cancel _ (by omega)
structure ack(c n:Int)(k:Nat):Prop where
 last:(gI c n k).2=im c n (k-1)
 form:∃cM,(gI c n k).1=cM++[(gI c n k).2]∧∀i∈cM,0<=i∧i<(gI c n k).2
 gw:(gI c n k).1.Pairwise (· <·)
 first:(gI c n k).1[0]? =some 0
theorem U8{c n:Int}(hc:1<=c):∀k:Nat,(k:Int)+1<=n->ack c n (k+1)
 |0,h=>by
  have e:gI c n 1=([0],0):=by
   show(if im c n 0= -1 then([]:ac Int)else[]++[im c n 0],im c n 0)=_;rw[U7];rfl
  refine⟨by rw[e];exact(U7 c n).symm,⟨[],by rw[e];rfl,fun i hi=>by cases hi⟩,by rw[e];simp,by rw[e];rfl⟩
 |k+1,h=>by
  obtain⟨h1,⟨cM,h2,h3⟩,au,aW⟩:=U8 (n:=n) hc k (by omega);have hb:=Gk (c:=c) (n:=n) (k:=k) hc (by omega);have hm:=ajo (n:=n) hc k;have e:gI c n (k+1+1)=(if im c n (k+1)=(gI c n (k+1)).2 then(gI c n (k+1)).1 else(gI c n (k+1)).1++[im c n (k+1)],im c n (k+1)):=rfl;rw[show k+1-1=k by omega]at h1;by_cases he:im c n (k+1)=(gI c n (k+1)).2
  ·rw[zab he]at e;have e2:gI c n (k+1+1)=gI c n (k+1):=by rw[e,he]
   exact⟨by rw[e2,<-he];rfl,⟨cM,by rw[e2];exact h2,by rw[e2];exact h3⟩,by rw[e2];exact au,by rw[e2];exact aW⟩
  ·rw[zaa he]at e;have aV:(gI c n (k+1)).2<im c n (k+1):=by rw[h1]at he ⊢;omega
   have eu:∀i∈(gI c n (k+1)).1,0<=i∧i<im c n (k+1):=fun i hi=>by
    rw[h2]at hi;rcases zbE.1 hi with hi|hi
    ·have:=h3 i hi;omega
    ·have hi:i=(gI c n (k+1)).2:=by simpa using hi
     rw[hi,h1];rw[h1]at aV;omega
   refine⟨by rw[e];rfl,⟨(gI c n (k+1)).1,by rw[e],by rw[e];exact eu⟩,?_,?_⟩
   ·rw[e];show((gI c n (k+1)).1++[im c n (k+1)]).Pairwise _;rw[zef];have iu:∀a∈(gI c n (k+1)).1,∀b∈[im c n (k+1)],a<b:=fun a ha b hb=>by
     have hb:b=im c n (k+1):=by simpa using hb
     rw[hb];exact(eu a ha).2
    exact⟨au,by simp,iu⟩
   ·rw[e];show((gI c n (k+1)).1++_)[0]? =_;rw[zaV (zae.1 aW).1];exact aW
structure PO(p:cB)(k:Nat)(n:Int)(l:ac (ac bv)):Prop where
 ok:dm p=(0,0,0)
 WO:k<p.ins.length
 mF:1<=n
 jf:n<=400
 pos:1<=l.length
 len:(l.length:Int)<=n
 aM:∀x,p.ins[k]? =some x->l[0]? =some x.aM
 hi:1<n->∀x,p.ins[k]? =some x->l[l.length-1]? =some x.hi
 val:∀j,j<l.length->∃(s:ac bv) (v:Rat),l[j]? =some s∧s.length<=2000∧fb s=some v∧∀x e q a b,p.ins[k]? =some x->uS p x e q a b->hE e q v∧a<=v∧v<=b
 gw:∀(j:Nat) (s t:ac bv) (u v:Rat),l[j]? =some s->l[j+1]? =some t->fb s=some u->fb t=some v->u<v
def amH{cj e1:Int}{a' dN:Rat}(h:uS p x e q a b)(az:uS p x cj e1 a' dN):e=cj∧q=e1∧a=a'∧b=dN:=by
 obtain⟨⟨f,f1,f2⟩,fa,g8,_,_,_⟩:=h;obtain⟨⟨g,aG,aI⟩,eW,g1,_,_,_⟩:=az;have:f=g:=by omega
 subst this;rw[f2]at aI;rw[fa]at eW;rw[g8]at g1;cases aI;cases eW;cases g1;exact⟨rfl,rfl,rfl,rfl⟩
def aph{i:Int}(h:(qu p i n).2=0):∃k:Nat,i=k∧PO p k n (qu p i n).1:=by
 by_cases h0:(dm p).2.2=0
 case neg=>
  have:qu p i n=([],(dm p).2.2):=zab h0;rw[this]at h;exact absurd h h0
 by_cases h1:0<=i∧i<(p.ins.length:Int)∧1<=n∧n<=400
 case neg=>
  have:qu p i n=([],7):=(zaa (fun h=>h h0)).trans (zab h1);rw[this]at h;cases h
 obtain⟨cr,cz,dT,jI⟩:=h1;obtain⟨k,rfl⟩:∃k:Nat,i=(k:Int):=⟨i.toNat,by omega⟩;have U:k<p.ins.length:=by omega
 have J:=bF U;obtain⟨e,q,a,b,ok⟩:=MP (BQ h0) J;have cL:=YU (n:=n) h0 U ⟨dT,jI⟩ J ok;by_cases hc:4611686018427387904<e3 e q a b
 ·rw[zab hc]at cL;rw[cL]at h;cases h
 rw[zaa hc]at cL;rw[cL];refine⟨k,rfl,?_⟩;have eK:=Q3 ok.ha ok.le;have aa:=ok.ha.1;obtain⟨n5,nd,LN⟩:=(Gz aa).1 ok.ha;obtain⟨jJ,xR,gh⟩:=(Gz aa).1 ok.hb;have a0:eJ e q true a=n5:=by rw[LN];exact KB aa nd _
 have aq:eJ e q false b=jJ:=by rw[gh];exact KB aa xR _
 have xB:e3 e q a b=jJ-n5+1:=by unfold e3;rw[a0,aq]
 obtain⟨aG,⟨cM,aI,a4⟩,b2,cx⟩:=U8 (n:=n) eK (n.toNat-1) (by omega);have ak8:=Ly (e3 e q a b) n n.toNat;rw[show n.toNat-1+1=n.toNat by omega]at aG aI a4 b2 cx;have tx:∀x∈(gI (e3 e q a b) n n.toNat).1,0<=x∧x<=e3 e q a b-1:=fun x J=>by
  have hb:=Gk (c:=e3 e q a b) (n:=n) (k:=n.toNat-1) eK (by omega);rw[aI]at J;rcases zbE.1 J with J|J
  ·have:=a4 x J;rw[aG]at this;omega
  ·have J:x=(gI (e3 e q a b) n n.toNat).2:=by simpa using J
   rw[J,aG];exact hb
 have CL:1<n->(gI (e3 e q a b) n n.toNat).2=e3 e q a b-1:=fun hn=>by rw[aG];exact ajn hn
 obtain⟨L,iZ⟩:∃L,L=(gI (e3 e q a b) n n.toNat).1:=⟨_,rfl⟩;rw[<-iZ]at aI b2 cx tx ak8;have vu:(kI.mk e q a (e3 e q a b)).tq n=L.map (fun i=>il (eb e q (n5+i))):=by
  unfold kI.tq kI.at;rw[<-iZ];simp only[a0]
 rw[vu];have C0:0<L.length:=by rw[aI];simp
 have mq:∀j (hj:j<L.length),(L.map (fun i=>il (eb e q (n5+i))))[j]? =some (il (eb e q (n5+L[j]))):=fun j hj=>by
  rw[zco,bF hj];rfl
 have alW:∀j (hj:j<L.length),(n5+L[j]).natAbs<In e q∧n5<=n5+L[j]∧n5+L[j]<=jJ:=fun j hj=>by
  have:=tx L[j] (dV hj);omega
 refine⟨BQ h0,U,dT,jI,by rw[zaN];exact C0,by rw[zaN];omega,fun x bJ=> ?_,fun hn x bJ=> ?_,fun j hj=> ?_,fun j s t u v ae aN hu aF=> ?_⟩
 ·rw[J]at bJ;cases bJ;have tr:L[0]=0:=Option.some.inj ((bF C0).symm.trans cx);rw[mq 0 C0,tr,Int.add_zero,<-LN,aby ok.aM]
 ·rw[J]at bJ;cases bJ;have hx:L.length-1<L.length:=by omega
  have nN:L[L.length-1]=e3 e q a b-1:=by
   have h2:L[L.length-1]? =some (gI (e3 e q a b) n n.toNat).2:=by
    rw[aI];simp
   rw[CL hn]at h2;exact Option.some.inj ((bF hx).symm.trans h2)
  rw[zaN,mq _ hx,nN,show n5+(e3 e q a b-1)=jJ by omega,<-gh,aby ok.hi]
 ·rw[zaN]at hj;obtain⟨cK,c9,hQ⟩:=alW j hj;refine⟨_,_,mq j hj,?_,YT _,fun x cj e1 a' dN bJ mG=> ?_⟩
  ·have:=atm (XN aa (zaY cK));omega
  ·rw[J]at bJ;cases bJ;obtain⟨rfl,rfl,rfl,rfl⟩:=amH ok mG;refine⟨(Gz aa).2 ⟨_,cK,rfl⟩,?_,?_⟩
   ·rw[LN,EJ];exact c9
   ·rw[gh,EJ];exact hQ
 ·have lT:j+1<L.length:=by
   have:=(zae.1 aN).1
   rwa [zaN]at this
  rw[mq j (by omega)]at ae;rw[mq (j+1) lT]at aN;cases ae;cases aN;rw[YT]at hu aF;cases hu;cases aF;rw[abK];have:=zcA.1 b2 j (j+1) (by omega) lT (by omega);omega
def OU(G:bz->Prop)(du:∀{H br:bz},dg H br->G H->G br):bh where
 L:=Unit
 args:=fun _=>[]
 pre:=fun _=>True
 res:=fun _=>.b true
 hp:=G
 hm:=du
structure acC where
 p:cB
 i:Int
 n:Nat
def Po(G:bz->Prop)(du:∀{H br:bz},dg H br->G H->G br):bh where
 L:=acC
 args:=fun x=>[gM x.p,.i .i64 x.i,.i .u8 (x.n:Nat)]
 pre:=fun x=>uY x.p∧x.n<256
 res:=fun _=>.b true
 hp:=G
 hm:=du
def mU(p:cB):ac (ac bv):=p.ins.map jm.aM
def adC(p:cB)(l:ac (ac bv))(i k:Nat):ac (ac bv)->cG
 |[]=>⟨[.c 27 (di p),.a 36 false 1 (ac bv) ff []],2,[(1,.i .i64 (i:Nat)),(3,.p 0 0),(8,.cc 1 (ac bv) ff l),(10,.aY 1 1 0 0 0),(11,.i .i64 (k:Nat))]⟩
 |d::ds=>⟨[.c 27 (di p),.a 36 true 1 (ac bv) ff (d::ds)],2,[(1,.i .i64 (i:Nat)),(3,.p 0 0),(8,.cc 1 (ac bv) ff l),(10,.aY 1 1 0 (ds.length+1) (ds.length+1)),(11,.i .i64 (k:Nat))]⟩
def atE(p:cB)(l:ac (ac bv))(k j:Nat)(last:Rat)(w:ac bv):cG:=⟨[.c 27 (di p),.a 36 true 1 (ac bv) ff ((mU p).set k w),.c 42 (iS last)],3,[(1,.i .i64 (k:Nat)),(3,.p 0 0),(8,.cc 1 (ac bv) ff l),(10,.aY 1 1 0 p.ins.length p.ins.length),(12,.p 2 0),(13,.i .i64 (j:Nat))]⟩
def atF{G:bz->Prop}{du:∀{H br:bz},dg H br->G H->G br}(hH:∀{H},G H->oS H)(cb:a9 aT.ctx 6 (OU G du).spec):a9 aT.ctx 4 (Po G du).spec:=by
 refine KR aT.fA gF (cf [(5,WW.spec),(6,(OU G du).spec),(7,Il.spec),(10,rl.spec),(11,uz.spec),(12,sH.spec),(13,ZR.spec),(14,zo.spec)]) (xf:=b2.1) (by kernel_rfl) (fun l=>jN rfl) ?_;intro⟨p,i,n⟩ ⟨(hp:uY p),(hn:n<256)⟩ H aH dv;have LG:=hH dv;refine I ?_;refine aL anu p hp ?_;by_cases hb:w3 p
 ·refine dx 18 hb (I ?_);refine aL cb () trivial (I ?_) (hh:=dv);exact ar rfl (.refl _)
 refine ea 18 hb ?_;have k2:oT p:=aay (fun h=>hb (.inl h));refine ak 21 ?_;refine ah 21 (.i .i64 (n:Nat)) rfl (bx (n:=((n:Nat):Int)) rfl (by omega) (by omega)) ?_;refine ZK ?_ (n:=60);refine I ?_;obtain⟨m,hm⟩:∃m,m=n%60:=⟨_,rfl⟩;rw[<-hm];refine aL apb (p,i,(m:Int)) k2 ?_ (hh:=LG);obtain⟨l,e,hle⟩:∃l e,qu p i m=(l,e):=⟨_,_,rfl⟩;refine ah 27 (.bu [.cc 1 (ac bv) ff l,.i .i64 e]) rfl (by show Ip (qu p i m)=_;rw[hle];rfl) (ak 31 ?_);by_cases he:e=0
 case neg=>
  refine v1 31 (show e≠0 from he) (I ?_);refine aL cb () trivial (I ?_) (hh:=dv);exact ar rfl (.refl _)
 refine v0 31 (show¬e≠0 from fun h=>h he) ?_;obtain⟨k,zY,ok⟩:=aph (p:=p) (i:=i) (n:=(m:Int)) (by rw[hle];exact he);subst zY;rw[hle]at ok;have ok:PO p k m l:=ok;obtain⟨hc,U,eW,g1,C0,hlen,fo,fI,re,aku⟩:=ok;have J:=bF U;have fo:=fo _ J;have fI:=fun h=>fI h _ J
 iterate 6 refine gW ?_
 refine fJ (L:=Unit) (fun _=>True) (fun _=>⟨[.c 27 (di p)],1,[(1,.i .i64 (k:Nat)),(3,.p 0 0),(8,.cc 1 (ac bv) ff l)]⟩) ?_ ?_
 ·refine ak 34 ?_;refine hA 34 (show¬(k:Int)<0 by omega) (ak 40 ?_);refine hA 40 (show¬(p.ins.length:Int)<=(k:Int) by omega) (ak 44 ?_);refine hA 44 (show¬(m:Int)<1 by omega) (ak 49 ?_);refine hA 49 (show¬(l.length:Int)<1 by omega) (ak 55 ?_);refine hA 55 (show¬(m:Int)<(l.length:Int) by omega) (I ?_);refine hS (j:=0) _ fo ?_;refine I ?_;refine hS _ J ?_;refine ak 67 ?_;refine cu 67 (.b false) rfl rfl (by simp) ?_;refine ak 71 ?_;by_cases CP:1<m
  ·refine gE 71 (show(1:Int)<(m:Int) by omega) (ak 76 ?_);refine cu 76 (.i .i64 ((l.length-1:Nat):Int)) rfl rfl (bx (by omega) (by omega) (by omega)) ?_;refine I ?_;refine hS _ (fI (by omega)) ?_;refine I ?_;refine hS _ J ?_;refine ak 85 ?_;refine cu 85 (.b false) rfl rfl (by simp) ?_;refine I ?_;exact a1 [0] () trivial dD
  ·refine hA 71 (show¬(1:Int)<(m:Int) by omega) (I ?_);exact a1 [0] () trivial dD
 intro _ _;refine ak 88 ?_;refine nk 1 (z:=1) ff ([]:ac (ac bv)) ?_;have ave:p.ins.length<=6:=by
  have aJ:m6 p=0:=Classical.byContradiction fun aJ=>by
   have h:=hc;unfold dm at h;rw[zaa aJ]at h;exact aJ (congrArg (fun x:Int×Int×Int=>x.2.2) h)
  exact(vm aJ).2.1
 have se:(mU p).length=p.ins.length:=zaN ..;refine I ?_;refine l7 (L:=Unit) (fun _=>True) (fun _=>⟨[.c 27 (di p),.a 36 true 1 (ac bv) ff (mU p)],2,[(1,.i .i64 (k:Nat)),(3,.p 0 0),(8,.cc 1 (ac bv) ff l),(10,.aY 1 1 0 p.ins.length p.ins.length)]⟩) ?_ ?_
 ·refine c6 (L:=Nat×ac (ac bv)) (fun(j,bs)=>j<=p.ins.length∧bs=(mU p).take j) (fun(j,bs)=>adC p l k j bs) (fun x=>p.ins.length-x.1) [0,1] (0,[]) ⟨zag _,rfl⟩ (by show p.ins.length-0<bQ+1;unfold bQ;omega) ij ?_;rintro⟨j,bs⟩ ⟨hj,kA⟩;have VC:bs.length=j:=by rw[kA,zas];omega
  by_cases aV:j<p.ins.length
  ·have eR:(mU p).take (j+1)=bs++[p.ins[j].aM]:=by
    rw[zba (by omega),<-kA];simp[mU]
   cases bs with
   |nil=>
    refine ak 93 ?_;refine v1 93 (show(j:Int)<(p.ins.length:Nat) by omega) (I ?_);refine dP p.ins[j] (bF aV) ?_;refine I ?_;refine Oz (R:=ff) [p.ins[j].aM] (j4 (R:=ff) [p.ins[j].aM] rfl) [p.ins[j].aM] ?_;refine ak 95 ?_;refine ah 95 (.i .i64 ((j+1:Nat):Int)) rfl bx (I ?_);exact a1 [0,3] (j+1,[p.ins[j].aM]) ⟨by show p.ins.length-(j+1)<p.ins.length-j;omega,aV,eR.symm⟩ ij
   |cons d ds=>
    simp only[zau]at VC;refine ak 93 ?_;refine v1 93 (show(j:Int)<(p.ins.length:Nat) by omega) (I ?_);refine dP p.ins[j] (bF aV) ?_;refine I ?_;refine wv (R:=ff) [p.ins[j].aM] (j4 (R:=ff) [p.ins[j].aM] rfl) ?_;refine ak 95 ?_;refine ah 95 (.i .i64 ((j+1:Nat):Int)) rfl bx (I ?_);exact a1 [0,3] (j+1,d::(ds++[p.ins[j].aM])) ⟨by show p.ins.length-(j+1)<p.ins.length-j;omega,aV,eR.symm⟩ (aaZ ⟨rfl,rfl,rfl,congrArg (fun k=>some (ab.aY 3 1 0 k k)) (by simp),rfl,trivial⟩ ⟨_,rfl,rfl⟩ ⟨_,rfl,rfl,fun _=>rfl⟩)
  ·rw[zay (by omega)]at kA;cases bs with
   |nil=>rw[<-kA]at se;simp at se;omega
   |cons d ds=>
    simp only[zau]at VC;refine ak 93 ?_;refine v0 93 (show¬(j:Int)<(p.ins.length:Nat) by omega) (I ?_);exact a1 [0,1] () trivial (nq ⟨rfl,rfl,rfl,congrArg (fun k=>some (ab.aY 1 1 0 k k)) (by omega),trivial⟩ ⟨_,rfl,rfl⟩ ⟨_,rfl,by rw[kA];exact⟨rfl,fun _=>rfl⟩⟩)
 intro _ _;refine I ?_;refine aL lp (0:Int) ⟨by decide,by decide⟩ (I ?_);refine l7 (L:=Unit) (fun _=>True) (fun _=>⟨[.c 27 (di p)],1,[(3,.p 0 0)]⟩) ?_ ?_
 ·refine c6 (L:=Nat×Rat×ac bv) (fun(j,last,_)=>j<=l.length∧cA 250 last∧(0<j->∃s,l[j-1]? =some s∧fb s=some last)) (fun(j,last,w)=>atE p l k j last w) (fun x=>l.length-x.1) [0,1,2] (0,bg 0,(mU p)[k]'(by omega)) ⟨zag _,dn (lv (k:=0) (by decide)) (by decide),fun h=>absurd h (by decide)⟩ (by show l.length-0<bQ+1;unfold bQ;omega) (yK ⟨rfl,rfl,rfl,rfl,rfl,rfl,trivial⟩ ⟨_,rfl,rfl⟩ ⟨_,rfl,by rw[List.set_getElem_self];exact⟨rfl,fun _=>rfl⟩⟩ ⟨_,rfl,rfl⟩) ?_;rintro⟨j,last,w⟩ ⟨hj,CL,alP⟩;by_cases aV:j<l.length
  ·obtain⟨s,v,ae,pe,lV,aF⟩:=re j aV;have X7:=sD pe lV;refine ak 109 ?_;refine v1 109 (show(j:Int)<(l.length:Nat) by omega) (I ?_);refine dP s ae ?_;refine I ?_;refine aL sJ s pe ?_;refine ah 117 (.bu [bG v,.i .i64 0]) rfl (by show iM s=_;unfold iM;rw[lV]) (ak 124 ?_);refine fJ (L:=Unit) (fun _=>True) (fun _=>⟨[.c 27 (di p),.a 36 true 1 (ac bv) ff ((mU p).set k w),.c 42 (iS last),.c 42 (iS v)],4,[(1,.i .i64 (k:Nat)),(3,.p 0 0),(8,.cc 1 (ac bv) ff l),(10,.aY 1 1 0 p.ins.length p.ins.length),(12,.p 2 0),(13,.i .i64 (j:Nat)),(14,.p 3 0),(15,.i .i64 0),(131,.b false)]⟩) ?_ ?_
   ·by_cases h0:0<j
    ·refine v1 124 (show(0:Int)<(j:Int) by omega) ?_;obtain⟨bm,eV,fT⟩:=alP h0;have L4:=aku (j-1) bm s last v eV (by rw[show j-1+1=j by omega];exact ae) fT lV;have:=pS.2 L4;refine I ?_;refine aL sI (v,last) ⟨dn X7 (by decide),dn CL (by decide)⟩ (ak 129 ?_);refine v0 129 (show¬g4 v last<=0 by omega) (I ?_);exact a1 [0,1,2,3] () trivial oa
    ·refine v0 124 (show¬(0:Int)<(j:Int) by omega) (I ?_);exact a1 [0,1,2,3] () trivial oa
   intro _ _;have avu:((mU p).set k w).length=p.ins.length:=by rw[zbv,se]
   have GS:k<((mU p).set k w).length:=by omega
   refine I ?_;refine dP s ae ?_;refine I ?_;refine ix (j:=k) ?_;refine kp s ?_;rw[List.set_set];refine I ?_;refine IX aqn 1 ⟨p,(mU p).set k s⟩ ⟨k2,hc,⟨by rw[zbv,se],fun i y aA=> ?_⟩,fun h=> ?_⟩ ?_ (he:=by show[gM p,.aY 1 1 0 _ _,_]=[gM p,ab.aY 1 1 0 ((mU p).set k s).length ((mU p).set k s).length,_];rw[zbv,se];rfl) (hh:=LG.1)
   ·obtain⟨cj,e1,a',dN,mG⟩:=MP hc aA;by_cases zY:i=k
    ·subst zY;obtain⟨aG,aI,a4⟩:=aF y cj e1 a' dN aA mG;exact⟨s,v,cj,e1,a',dN,zdc (by omega),pe,lV,mG,aG,aI,a4⟩
    ·have hi:=(zae.1 aA).1;refine⟨y.aM,a',cj,e1,a',dN,?_,(k2.1 y (zaz aA)).1,mG.aM,mG,mG.ha,zdN,mG.le⟩;show((mU p).set k s)[i]? =_;rw[zbo (fun h=>zY h.symm)];unfold mU;rw[zco,aA];rfl
   ·have h:(mU p).set k s=[]:=h;have h2:=congrArg List.length h;rw[zbv,se,zeo]at h2;omega
   refine ak 111 ?_;refine ah 111 (.i .i64 ((j+1:Nat):Int)) rfl bx (I ?_);exact a1 [0,1,2] (j+1,v,s) ⟨by show l.length-(j+1)<l.length-j;omega,aV,X7,fun _=>⟨s,ae,lV⟩⟩ jK
  ·refine ak 109 ?_;refine v0 109 (show¬(j:Int)<(l.length:Nat) by omega) (I ?_);exact a1 [0] () trivial dD
 intro _ _;refine I ?_;refine aL KH p k2 ?_ (hh:=LG.1);refine ah 154 (.bu [.i .i64 0,.i .i64 0,.i .i64 0]) rfl (by show w6 (dm p)=_;rw[hc];rfl) (I ?_);refine aL cb () trivial (I ?_) (hh:=dv);exact ar rfl (.refl _)
end Go.aj.a3
namespace Go.aj.a3
open Go.aj Go.aj.kc
set_option maxRecDepth 100000
theorem Xo{h:an bD}{s:c2}:∀(os:ac (Nat×bD)),(∀o∈os,s.cI.get o.1=some o.1∧h.get o.1=some o.2∧ua o.2 o.2 s=some s)->x6 h os s=some s
 |[],_=>rfl
 |o::os,hh=>by
  obtain⟨h1,h2,h3⟩:=hh o (by simp);show bd (s.cI.get o.1) (fun j=>bd (h.get j) (fun p=>bd (ua o.2 p s) (x6 h os) none) none) none=_;rw[h1,Sym.eO,h2,Sym.eO,h3,Sym.eO];exact Xo os fun p hp=>hh p (zaK _ hp)
def mn:ac (Nat×bD):=[ly,k9,py,qy,oI,oJ]
def Gq{Q:Nat×bD->Prop}(h0:Q ly)(h1:Q k9)(h3:Q py)(aW:Q qy)(fS:Q oI)(h8:Q oJ):∀p∈mn,Q p:=fun p hp=>by
 have hp:p∈[ly,k9,py,qy,oI,oJ]:=hp;simp only[zao,zeN,or_false]at hp;rcases hp with rfl|rfl|rfl|rfl|rfl|rfl<;>assumption
def LB:∀p∈AS.gs,p∈mn:=fun p hp=>by
 have hp:p∈[ly,k9,py,oI,oJ]:=hp;show p∈[ly,k9,py,qy,oI,oJ];simp only[zao,zeN,or_false]at hp⊢;rcases hp with h|h|h|h|h<;>simp[h]
def ht(H:bz):Prop:=∀p∈mn,H p.1=some p.2
variable{H:bz}{st:aw}
def ht.up{br:bz}(h:dg H br)(aJ:ht H):ht br:=fun p hp=>h _ _ (aJ p hp)
def Vl:∀p∈mn,l3.cI.get p.1=some p.1∧ua p.2 p.2 l3=some l3:=
 Gq ⟨by kernel_rfl,by kernel_rfl⟩ ⟨by kernel_rfl,by kernel_rfl⟩ ⟨by kernel_rfl,by kernel_rfl⟩ ⟨by kernel_rfl,by kernel_rfl⟩ ⟨by kernel_rfl,by kernel_rfl⟩ ⟨by kernel_rfl,by kernel_rfl⟩
def acR{s:c2}{gs:ac (Nat×bD)}{aK:Nat}{t:Bool}(hc:s.bb<=aK)(h:x6 st.h gs s=some s):(⟨[],gs,[],.bool t,[],aK⟩:dS).app s [] st=some (.ret (.bool t) ⟨st.h,st.ag+(aK-s.bb)⟩ false):=by
 unfold dS.app;show bd (x6 st.h gs s) _ none=_;rw[h,Sym.eO];show cond (Nat.beq s.bb (Nat.add s.bb 0)) (cond (Nat.ble s.bb aK) (gd (Nat.add st.ag (Nat.sub aK s.bb)) fun n=>some (dL.ret (.bool t) ⟨st.h,n⟩ false)) none) none=_;rw[show Nat.beq s.bb (Nat.add s.bb 0)=true from zaL _,show Nat.ble s.bb aK=true from zcQ hc];show gd (Nat.add st.ag (Nat.sub aK s.bb)) (fun n=>some (dL.ret (.bool t) ⟨st.h,n⟩ false))=_;unfold gd;rw[zaL];rfl
def aok:l3.bb<=10394:=by rw[rz.2.1];exact jN (by kernel_rfl)
def ard(h:∀p∈mn,st.h.get p.1=some p.2):AS.app l3 [] st=some (.ret (.bool true) ⟨st.h,st.ag+(10394-l3.bb)⟩ false):=
 acR (gs:=AS.gs) aok (Xo AS.gs fun o ai=>⟨(Vl o (LB o ai)).1,h o (LB o ai),(Vl o (LB o ai)).2⟩)
def are:a9 aT.ctx 6 (OU ht ht.up).spec:=by
 rintro vs st ⟨⟨l,H⟩,_,dv,av,al⟩;have al:vs=[]:=al;subst al;refine⟨.bool true,⟨st.h,st.ag+(10394-l3.bb)⟩,?_,?_⟩
 ·rintro⟨l',br⟩ ⟨_,auT,eh,_⟩;have hw:∀b,st.ag+(10394-l3.bb)<=b->st.h.get b=none:=fun b hb=>eh.wf b (by omega);exact⟨br,⟨hw,eh.le,rfl,rfl,zdE,fun b hb=>by simp at hb,fun k o b U=>by simp at U⟩,⟨dg.refl _,fun _ _ _=>rfl,fun _ _ _=>rfl,zcv _ _,c5.refl _,fun b hb=>.inl hb⟩,rfl⟩
 ·intro ι as' w ha hw;exact P6 Qc rz.1 rz.2.1 rz.2.2 (ard fun p hp=>av.le _ _ (dv p hp)) ι as' w ha hw
theorem B3{H:bz}{k:d7}:∀l:ac Int,db H (l.map fun n=>.i k n) [] (l.map fun n=>Value.int k n)
 |[]=>rfl
 |n::l=>⟨_,_,rfl,rfl,B3 l⟩
def apo:oI=(8,.cells ((List.range 20).map fun k=>Value.int .u64 ((10^k:Nat):Int)) 488 (0,20) false):=by kernel_rfl
def ajQ(h:ht H):oR H:=by
 have aW:=h oI (by show oI∈[ly,k9,py,qy,oI,oJ];simp);rw[apo]at aW;refine⟨_,_,_,_,aW,fun br=> ?_⟩;have:=B3 (H:=br) (k:=.u64) ((List.range 20).map fun k=>((10^k:Nat):Int));rw[zck,zck]at this;exact this
def aas:ac Int:=Jb.flatMap fun p=>[(p.1:Int),(p.2:Int)]
def apl:ly=(0,.cells (aas.map fun n=>Value.int .i64 n) 280 (0,32) false):=by kernel_rfl
def ajS(h:ht H):iT H:=by
 have h0:=h ly (by show ly∈[ly,k9,py,qy,oI,oJ];simp);rw[apl]at h0;exact⟨_,_,_,_,h0,fun br=>B3 (k:=.i64) aas⟩
def Xz:ac Int:=[0,1,2,4,3]
def apm:qy=(5,.cells (Xz.map fun n=>Value.int .i64 n) 459 (0,5) false):=by kernel_rfl
def ajP(h:ht H):Br H:=by
 have h0:=h qy (by show qy∈[ly,k9,py,qy,oI,oJ];simp);rw[apm]at h0;exact⟨_,_,_,_,h0,fun br=>B3 (k:=.i64) Xz⟩
def KX:ac Int:=zx.map fun t:Nat=>(t:Int)
def apq:oJ=(9,.cells (KX.map fun n=>Value.int .u8 n) 497 (0,32) false):=by kernel_rfl
def ajM(h:ht H):qH H:=by
 have h0:=h oJ (by show oJ∈[ly,k9,py,qy,oI,oJ];simp);rw[apq]at h0;refine⟨_,_,_,_,h0,fun br=> ?_⟩;have:=B3 (H:=br) (k:=.u8) KX;unfold KX at this;rw[zck]at this;exact this
def ajR(h:ht H):oS H:=⟨ajS h,⟨ajM h,ajP h⟩,ajQ h⟩
def WX:a9 aT.ctx 4 (Po ht ht.up).spec:=atF ajR are
