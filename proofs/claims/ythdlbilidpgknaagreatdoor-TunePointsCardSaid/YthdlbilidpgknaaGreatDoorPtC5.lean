/- What the functions of the program and of the document compute, for every input (part 5); conditions as in the statements. -/
import Derived.Test.YthdlbilidpgknaaGreatDoorPtC4
import Derived.Test.YthdlbilidpgknaaGreatDoorPtC3
import Derived.Test.YthdlbilidpgknaaGreatDoorPtZ
set_option linter.all false
namespace Go.ak.a2
open Go.ak
set_option maxRecDepth 100000
set_option maxHeartbeats 4000000
def oM(H:bJ):Prop:=oN H∧n3 H∧oL H
def oM.up{H bF:bJ}(h:dp H bF):oM H->oM bF:=fun⟨a,b,c⟩=>⟨a.up h,b.up h,c.up h⟩
structure gz where
 e:Int
 p:Int
 aL:Rat
 c:Int
def qO(x:gz):ac ah:=.i .i64 x.e:: .i .i64 x.p::(nm x.aL++[.i .i64 x.c])
def gz.at(x:gz)(i:Int):ac bv:=kg (cv x.e x.p (cO x.e x.p true x.aL+i))
def QK:bc where
 L:=gz×Int
 args:=fun(x,i)=>[.agg (qO x),.i .i64 i]
 pre:=fun(x,i)=>b0 x.e x.p∧cK 250 x.aL∧0<=i∧i<9223372036854775808∧cO x.e x.p true x.aL+i<In x.e x.p
 res:=fun(x,i)=>.s (x.at i)
 hp:=oM
 hm:=oM.up
def abe(a:Int):mH (decide (a<0)) a.natAbs=a:=by
 unfold mH;by_cases h:a<0
 ·rw[zad h,zab rfl];omega
 ·rw[zac h,zaa (by decide)];omega
def QL:a6 aS.ctx 66 QK.spec:=by
 refine kn [(132,YJ.spec),(133,acz.spec),(60,aa4.spec)] Vr.1 ?_;intro⟨⟨e,p,aL,c⟩,i⟩ ⟨(h:b0 e p),(hl:cK 250 aL),(h0:0<=i),(J:i<9223372036854775808),(U:cO e p true aL+i<In e p)⟩ H aH ⟨cr,dm,fY⟩;obtain⟨_,_,nT,sQ⟩:=oT (x:=aL) h;refine I ?_;refine aC aon (e,p,aL,i) ⟨h,hl,h0,J,U⟩ (I ?_) (hh:=dm);refine aC atj (e,p,decide (cO e p true aL+i<0),(cO e p true aL+i).natAbs) ⟨h,by show(cO e p true aL+i).natAbs<In e p;omega⟩ ?_;refine ag 22 (.bu [bN (cv e p (cO e p true aL+i)),.i .i64 0]) rfl (by show ah.bu [bN (cv e p (mH _ _)),_]=_;rw[abe]) (I ?_);refine aC aqu (cv e p (cO e p true aL+i)) (dO (an1 h (by omega)) (by decide)) (I ?_) (hh:=fY);exact au rfl (.refl _)
def asJ{own:ac bp}{n p:Nat}{e cy:bX}{m:Nat}{o q:bp}(h:kG [0,m] cy e)(ao:∃br,own[0]? =some br∧gA [0,m] o br)(hq:∃br,own[m]? =some br∧gA [0,m] q br)(hm:0<m:=by decide)(hp:pinned p [0,m] 0=true:=by rfl):Sub p [0,m] ⟨own,n,e⟩ ⟨[o,q],2,cy⟩:=⟨by simp;omega,rfl,⟨ao,hq,trivial⟩,h,hp⟩
def J6(a b:Int):aA a*aA b=aA (a*b):=by
 unfold aA;rw[Rat.mkRat_mul_mkRat]
def sa(c n:Int)(k:Nat):Int:=if 1<n then(c-1)*k/(n-1)else 0
def mb(c n:Int):Nat->ac Int×Int
 |0=>([],-1)
 |k+1=>(if sa c n k=(mb c n k).2 then(mb c n k).1 else(mb c n k).1++[sa c n k],sa c n k)
def gz.sb(x:gz)(n:Int):ac (ac bv):=(mb x.c n n.toNat).1.map x.at
def Gx{c n:Int}{k:Nat}(hc:1<=c)(ab:(k:Int)<n):0<=sa c n k∧sa c n k<=c-1:=by
 unfold sa;split
 ·rename_i hn;have h0:0<=(c-1)*(k:Int):=zbP (by omega) (by omega);refine⟨zeL h0 (by omega),?_⟩;refine Int.ediv_le_of_le_mul (by omega) ?_;exact Int.mul_le_mul_of_nonneg_left (by omega) (by omega)
 ·omega
theorem Gy(c n:Int):∀k,(mb c n k).1.length<=k
 |0=>b5 _
 |k+1=>by
  have:=Gy c n k;show(if _ then _ else _:ac Int).length<=_;split
  ·omega
  ·simp;omega
def ajB(x:gz)(n:Int)(k:Nat)(last:Int):ac (ac bv)->cW
 |[]=>⟨[.c 78 (qO x)],1,[(1,.i .i64 n),(2,.p 0 0),(4,.nl),(5,.i .i64 last),(10,.i .i64 n),(11,.i .i64 (k:Nat))]⟩
 |d::ds=>⟨[.c 78 (qO x),.a 36 true 1 (ac bv) gB (d::ds)],2,[(1,.i .i64 n),(2,.p 0 0),(4,.bj 1 1 0 (ds.length+1) (ds.length+1)),(5,.i .i64 last),(10,.i .i64 n),(11,.i .i64 (k:Nat))]⟩
def V4:bc where
 L:=gz×Int
 args:=fun(x,n)=>[.agg (qO x),.i .i64 n]
 pre:=fun(x,n)=>b0 x.e x.p∧cK 250 x.aL∧1<=x.c∧x.c<=4611686018427387904∧1<=n∧n<=400∧cO x.e x.p true x.aL+(x.c-1)<In x.e x.p
 res:=fun(x,n)=>.c5 1 (ac bv) gB (x.sb n)
 hp:=oM
 hm:=oM.up
def ajF:a6 aS.ctx 22 V4.spec:=by
 refine kn [(10,sr.spec),(61,aaR.spec),(62,aa0.spec),(63,Gp.spec),(64,HA.spec),(66,QK.spec)] Ty.1 ?_;intro⟨x,n⟩ ⟨(h:b0 x.e x.p),(hl:cK 250 x.aL),(ee:1<=x.c),(fa:x.c<=_),(iS:1<=n),(gI:n<=400),(hb:_<_)⟩ H aH eB;refine I ?_;refine df (L:=Nat×Int×ac (ac bv)) (fun(k,last,l)=>(k:Int)<=n∧last=(mb x.c n k).2∧l=(mb x.c n k).1.map x.at) (fun(k,last,l)=>ajB x n k last l) (fun l=>n.toNat-l.1) [0] (0,-1,[]) ⟨by show(0:Int)<=n;omega,rfl,rfl⟩ (by show n.toNat-0<bT+1;unfold bT;omega) du ?_;rintro⟨k,last,l⟩ ⟨ab,lF,lG⟩;have hlen:l.length<=400:=by rw[lG,zbA];have:=Gy x.c n k;omega
 obtain⟨i,hi⟩:∃i,i=sa x.c n k:=⟨_,rfl⟩;have e0:(k:Int)<n->(mb x.c n (k+1)).1.map x.at=(if i=last then l else l++[x.at i])∧(mb x.c n (k+1)).2=i:=fun _=>by
  refine⟨?_,hi.symm⟩;show(if sa x.c n k=(mb x.c n k).2 then _ else _:ac Int).map x.at=_;rw[<-hi,<-lF,lG];split
  ·rfl
  ·rw[zcW];rfl
 have AG:∀m:Int,m.natAbs<18446744073709551616->cK 2 (aA m):=fun m hm=>lT (k:=1) hm;cases l with
 |nil=>
  refine an 12 ?_;by_cases a4:(k:Int)<n
  case neg=>
   refine v0 12 (show¬(k:Int)<n from a4) ?_;have p7:k=n.toNat:=by omega
   refine I ?_;exact au rfl (bY.nl.trans (.of (by show ah.c5 1 (ac bv) gB []=ah.c5 1 (ac bv) gB (x.sb n);unfold gz.sb;rw[<-p7,<-lG])))
  obtain⟨s1,s2⟩:=e0 a4;obtain⟨aM,aN⟩:=Gx (k:=k) ee a4;rw[<-hi]at aM aN;refine v1 12 a4 (I ?_);refine fK (L:=Unit) (fun _=>True) (fun _=>⟨[.c 78 (qO x)],1,[(1,.i .i64 n),(2,.p 0 0),(4,.nl),(5,.i .i64 last),(7,.i .i64 i),(10,.i .i64 n),(11,.i .i64 (k:Nat))]⟩) ?_ ?_
  ·refine cf (fun hn=> ?_) (fun hn=> ?_)
   ·have hq:i=(x.c-1)*(k:Int)/(n-1):=by rw[hi];exact zab hn
    have q6:(k:Int)<400:=by omega
    refine an 19 ?_;refine ag 19 (.i .i64 (x.c-1)) rfl (bo rfl (by omega) (by omega)) ?_;refine aC lM (x.c-1:Int) ⟨by show -9223372036854775808<=x.c-1;omega,by show x.c-1<9223372036854775808;omega⟩ (I ?_);refine aC lM (k:Int) ⟨by show(-9223372036854775808:Int)<=(k:Int);omega,by show(k:Int)<9223372036854775808;omega⟩ ?_;refine aC aaS (aA (x.c-1),aA (k:Int)) ⟨dO (AG (x.c-1) (by omega)) (by decide),dO (AG (k:Int) (by omega)) (by decide)⟩ ?_;refine ag 23 (bN (aA ((x.c-1)*(k:Int)))) rfl (by show bN (aA _*aA _)=_;rw[J6]) (an 25 ?_);refine ag 25 (.i .i64 (n-1)) rfl (bo rfl (by omega) (by omega)) ?_;refine aC lM (n-1:Int) ⟨by show -9223372036854775808<=n-1;omega,by show n-1<9223372036854775808;omega⟩ ?_;have hm:((x.c-1)*(k:Int)).natAbs<4294967296^3:=by
     have J:=zdW (show x.c-1<=4611686018427387904 by omega) (show(k:Int)<=400 by omega) (by omega) (by decide);have U:=zbP (show 0<=x.c-1 by omega) (show(0:Int)<=(k:Int) by omega);generalize(x.c-1)*(k:Int)=y at *;omega
    have p9:cK 3 (aA ((x.c-1)*(k:Int))):=lT (k:=2) hm;have o9:(aA (n-1)).num=n-1:=(fu _).1;refine aC aa1 (aA ((x.c-1)*(k:Int)),aA (n-1)) ⟨dO p9 (by decide),dO (AG (n-1) (by omega)) (by decide),by rw[o9];omega⟩ ?_;refine ag 27 (.bu [bN (mkRat ((x.c-1)*(k:Int)) (n-1).toNat),.i .i64 0]) rfl (by show ah.bu [bN (mkRat ((aA _).num*((aA _).den:Int)) ((aA _).den*(aA _).num.natAbs)),_]=_;rw[(fu _).1,(fu _).2,o9,(fu _).2,show(((1:Nat):Int))=1 from rfl,zdq,zaw,show(n-1).natAbs=(n-1).toNat by omega]) (I ?_);refine aC Gq (mkRat ((x.c-1)*(k:Int)) (n-1).toNat) (uq (cH (rl hm) (by decide)) (cH (nN (by omega)) (by decide)) (by omega)) ?_;refine ag 32 (bN (aA i)) rfl (by show bN (aA (j5 _))=_;rw[vu (by omega),show(((n-1).toNat:Nat):Int)=n-1 by omega,<-hq]) ?_;refine aC HB i ⟨by show -9223372036854775808<=i;omega,by show i<9223372036854775808;omega⟩ (I ?_);exact ba [0] () trivial du
   ·have hq:i=0:=by rw[hi];exact zaa hn
    refine I ?_;exact ba [0] () trivial (dK ⟨rfl,rfl,rfl,rfl,by rw[hq];rfl,rfl,rfl,trivial⟩ ⟨_,rfl,rfl⟩)
  intro _ _;refine an 38 ?_;by_cases he:i=last
  ·refine v0 38 (show¬i≠last from fun h=>h he) ?_;rw[zab he]at s1;refine an 46 ?_;refine ag 46 (.i .i64 ((k+1:Nat):Int)) rfl bo (I ?_);exact ba [0] (k+1,i,[]) ⟨by show n.toNat-(k+1)<n.toNat-k;omega,by show((k+1:Nat):Int)<=n;omega,s2.symm,s1.symm⟩ du
  ·refine v1 38 (show i≠last from he) ?_;rw[zaa he]at s1;refine I ?_;refine aC QL (x,i) ⟨h,hl,aM,by show i<9223372036854775808;omega,by show cO x.e x.p true x.aL+i<In x.e x.p;omega⟩ (I ?_) (hh:=eB);refine yI gB [x.at i] (ll (R:=gB) [x.at i] rfl) ?_;refine an 46 ?_;refine ag 46 (.i .i64 ((k+1:Nat):Int)) rfl bo (I ?_);exact ba [0,2] (k+1,i,[x.at i]) ⟨by show n.toNat-(k+1)<n.toNat-k;omega,by show((k+1:Nat):Int)<=n;omega,s2.symm,s1.symm⟩ ji
 |cons d ds=>
  refine an 12 ?_;by_cases a4:(k:Int)<n
  case neg=>
   refine v0 12 (show¬(k:Int)<n from a4) ?_;have p7:k=n.toNat:=by omega
   refine an 47 ?_;refine jh 47 ?_;refine I ?_;exact au rfl (.of (by show ah.c5 1 (ac bv) gB (d::ds)=ah.c5 1 (ac bv) gB (x.sb n);unfold gz.sb;rw[<-p7,<-lG]))
  obtain⟨s1,s2⟩:=e0 a4;obtain⟨aM,aN⟩:=Gx (k:=k) ee a4;rw[<-hi]at aM aN;refine v1 12 a4 (I ?_);refine fK (L:=Unit) (fun _=>True) (fun _=>⟨[.c 78 (qO x),.a 36 true 1 (ac bv) gB (d::ds)],2,[(1,.i .i64 n),(2,.p 0 0),(4,.bj 1 1 0 (ds.length+1) (ds.length+1)),(5,.i .i64 last),(7,.i .i64 i),(10,.i .i64 n),(11,.i .i64 (k:Nat))]⟩) ?_ ?_
  ·refine cf (fun hn=> ?_) (fun hn=> ?_)
   ·have hq:i=(x.c-1)*(k:Int)/(n-1):=by rw[hi];exact zab hn
    have q6:(k:Int)<400:=by omega
    refine an 19 ?_;refine ag 19 (.i .i64 (x.c-1)) rfl (bo rfl (by omega) (by omega)) ?_;refine aC lM (x.c-1:Int) ⟨by show -9223372036854775808<=x.c-1;omega,by show x.c-1<9223372036854775808;omega⟩ (I ?_);refine aC lM (k:Int) ⟨by show(-9223372036854775808:Int)<=(k:Int);omega,by show(k:Int)<9223372036854775808;omega⟩ ?_;refine aC aaS (aA (x.c-1),aA (k:Int)) ⟨dO (AG (x.c-1) (by omega)) (by decide),dO (AG (k:Int) (by omega)) (by decide)⟩ ?_;refine ag 23 (bN (aA ((x.c-1)*(k:Int)))) rfl (by show bN (aA _*aA _)=_;rw[J6]) (an 25 ?_);refine ag 25 (.i .i64 (n-1)) rfl (bo rfl (by omega) (by omega)) ?_;refine aC lM (n-1:Int) ⟨by show -9223372036854775808<=n-1;omega,by show n-1<9223372036854775808;omega⟩ ?_;have hm:((x.c-1)*(k:Int)).natAbs<4294967296^3:=by
     have J:=zdW (show x.c-1<=4611686018427387904 by omega) (show(k:Int)<=400 by omega) (by omega) (by decide);have U:=zbP (show 0<=x.c-1 by omega) (show(0:Int)<=(k:Int) by omega);generalize(x.c-1)*(k:Int)=y at *;omega
    have p9:cK 3 (aA ((x.c-1)*(k:Int))):=lT (k:=2) hm;have o9:(aA (n-1)).num=n-1:=(fu _).1;refine aC aa1 (aA ((x.c-1)*(k:Int)),aA (n-1)) ⟨dO p9 (by decide),dO (AG (n-1) (by omega)) (by decide),by rw[o9];omega⟩ ?_;refine ag 27 (.bu [bN (mkRat ((x.c-1)*(k:Int)) (n-1).toNat),.i .i64 0]) rfl (by show ah.bu [bN (mkRat ((aA _).num*((aA _).den:Int)) ((aA _).den*(aA _).num.natAbs)),_]=_;rw[(fu _).1,(fu _).2,o9,(fu _).2,show(((1:Nat):Int))=1 from rfl,zdq,zaw,show(n-1).natAbs=(n-1).toNat by omega]) (I ?_);refine aC Gq (mkRat ((x.c-1)*(k:Int)) (n-1).toNat) (uq (cH (rl hm) (by decide)) (cH (nN (by omega)) (by decide)) (by omega)) ?_;refine ag 32 (bN (aA i)) rfl (by show bN (aA (j5 _))=_;rw[vu (by omega),show(((n-1).toNat:Nat):Int)=n-1 by omega,<-hq]) ?_;refine aC HB i ⟨by show -9223372036854775808<=i;omega,by show i<9223372036854775808;omega⟩ (I ?_);exact ba [0,1] () trivial ji
   ·have hq:i=0:=by rw[hi];exact zaa hn
    refine I ?_;exact ba [0,1] () trivial (nW ⟨rfl,rfl,rfl,rfl,by rw[hq];rfl,rfl,rfl,trivial⟩ ⟨_,rfl,rfl⟩ ⟨_,rfl,rfl,fun _=>rfl⟩)
  intro _ _;refine an 38 ?_;by_cases he:i=last
  ·refine v0 38 (show¬i≠last from fun h=>h he) ?_;rw[zab he]at s1;refine an 46 ?_;refine ag 46 (.i .i64 ((k+1:Nat):Int)) rfl bo (I ?_);exact ba [0,1] (k+1,i,(d::ds)) ⟨by show n.toNat-(k+1)<n.toNat-k;omega,by show((k+1:Nat):Int)<=n;omega,s2.symm,s1.symm⟩ ji
  ·refine v1 38 (show i≠last from he) ?_;rw[zaa he]at s1;refine I ?_;refine aC QL (x,i) ⟨h,hl,aM,by show i<9223372036854775808;omega,by show cO x.e x.p true x.aL+i<In x.e x.p;omega⟩ (I ?_) (hh:=eB);have tH:ds.length+1<=400:=hlen;refine Bh (R:=gB) [x.at i] (ll (R:=gB) [x.at i] rfl) ?_;refine an 46 ?_;refine ag 46 (.i .i64 ((k+1:Nat):Int)) rfl bo (I ?_);exact ba [0,3] (k+1,i,d::(ds++[x.at i])) ⟨by show n.toNat-(k+1)<n.toNat-k;omega,by show((k+1:Nat):Int)<=n;omega,s2.symm,s1.symm⟩ (asJ ⟨rfl,rfl,congrArg (fun k=>some (ah.bj 3 1 0 k k)) (by simp),rfl,rfl,rfl,trivial⟩ ⟨_,rfl,rfl⟩ ⟨_,rfl,rfl,fun _=>rfl⟩)
def adR(p:dN)(x:jZ)(a:gz):Nat->cW
 |0=>⟨[.c 27 (g2 {p with ins:=[x]})],1,[(1,.p 0 0),(2,.nl),(3,.i .i64 0),(12,.c5 3 jZ Ap [x]),(13,.i .i64 1),(14,.i .i64 0)]⟩
 |_+1=>⟨[.c 27 (g2 {p with ins:=[x]}),.a 78 true 6 gz qO [a]],2,[(1,.p 0 0),(2,.bj 1 6 0 1 1),(3,.i .i64 0),(12,.c5 3 jZ Ap [x]),(13,.i .i64 1),(14,.i .i64 1)]⟩
structure acZ where
 p:dN
 x:jZ
 e:Int
 q:Int
 a:Rat
 b:Rat
def QM:bc where
 L:=acZ
 args:=fun l=>[h8 {l.p with ins:=[l.x]}]
 pre:=fun l=>(∃f:Nat,l.x.f=f∧l.p.bG[f]? =some (l.e,l.q))∧b0 l.e l.q∧fx l.x.aL=some l.a∧fx l.x.hi=some l.b∧l.x.aL.length<=2000∧l.x.hi.length<=2000
 res:=fun l=>if 4611686018427387904<eb l.e l.q l.a l.b then .bu [.nl,.i .i64 3]else .bu [.c5 6 gz qO [⟨l.e,l.q,l.a,max (eb l.e l.q l.a l.b) 0⟩],.i .i64 0]
 hp:=oM
 hm:=oM.up
def adS:a6 aS.ctx 21 QM.spec:=by
 refine kn [(11,Bm.spec),(65,K9.spec)] Tw.1 ?_;intro⟨p,x,e,q,a,b⟩ ⟨⟨f,(ae:x.f=f),(hq:p.bG[f]? =some (e,q))⟩,(h:b0 e q),(aY:fx x.aL=some a),(hb:fx x.hi=some b),(jH:x.aL.length<=2000),(p8:x.hi.length<=2000)⟩ H aH ⟨cr,dm,fY⟩;have yn:=Ee jH aY;have qn:=Ee p8 hb;refine I ?_;refine df (L:=Nat) (fun k=>k<=1∧(k=1->¬4611686018427387904<eb e q a b)) (adR p x ⟨e,q,a,max (eb e q a b) 0⟩) (fun k=>1-k) [0] 0 ⟨zaf _,fun h=>by cases h⟩ (by show 1-0<bT+1;unfold bT;omega) du ?_;rintro k ⟨ab,hc⟩;rcases(show k=0∨k=1 by omega)with rfl|rfl
 ·refine I ?_;refine ep (j:=0) x rfl ?_;refine I ?_;refine aC EH x.aL jH ?_;refine ag 21 (.bu [bN a,.i .i64 0]) rfl (by show mz x.aL=_;unfold mz;rw[aY]) (I ?_);refine aC EH x.hi p8 ?_;refine ag 27 (.bu [bN b,.i .i64 0]) rfl (by show mz x.hi=_;unfold mz;rw[hb]) (an 33 ?_);refine cm 33 (.i .i64 (f:Int)) rfl rfl (by rw[ae]) ?_;refine hK (e,q) hq ?_;refine I ?_;refine aC aex (e,q,a,b) ⟨h,yn,qn⟩ ?_ (hh:=dm);by_cases GS:4611686018427387904<eb e q a b
  ·refine ag 43 (.bu [.i .i64 0,.i .i64 3]) rfl (zab GS) (I ?_);exact au rfl (.of (zab GS).symm)
  ·refine ag 43 (.bu [.i .i64 (max (eb e q a b) 0),.i .i64 0]) rfl (zaa GS) (I ?_);refine yI qO [⟨e,q,a,max (eb e q a b) 0⟩] (ll (R:=qO) [⟨e,q,a,max (eb e q a b) 0⟩] rfl) ?_;refine I ?_;exact ba [0,6] 1 ⟨by decide,by decide,fun _=>GS⟩ ji
 ·refine an 55 ?_;refine jh 55 ?_;refine I ?_;exact au rfl (.of (zaa (hc rfl)).symm)
structure Kg(p:dN)(x:jZ)(e q:Int)(a b:Rat):Prop where
 f:∃f:Nat,x.f=f∧p.bG[f]? =some (e,q)
 aL:fx x.aL=some a
 hi:fx x.hi=some b
 aY:hU e q a
 hb:hU e q b
 le:a<=b
variable{e p:Int}{n k:Nat}{x:Rat}{i:Nat}{q:Int}{a b:Rat}{r:Int}
def Xm{p:dN}(h:eM p=(0,0,0)){x:jZ}(aa:p.ins[i]? =some x):∃e q a b,Kg p x e q a b:=by
 unfold eM at h;split at h
 case isFalse aO=>exact absurd (congrArg (fun x:Int×Int×Int=>x.2.2) h) aO
 unfold l7 at h;have z:∀{x y:Int×Int×Int},x=y->x.1=y.1:=fun h=>by rw[h]
 cases aw:fg (mP p) p.bG 0 with
 |some x=>rw[aw]at h;have:=z h;simp at this
 |none=>
 rw[aw]at h;cases e2:fg (mQ p) p.ins 0 with
 |some x=>rw[e2]at h;have:=z h;simp at this
 |none=>
 have af:tZ p x=0:=Sl e2 i x aa;unfold tZ at af;split at af
 ·rename_i bb;obtain⟨f,ae⟩:∃f:Nat,x.f=(f:Int):=⟨x.f.toNat,by have:=bb.1;omega⟩;rw[ae,zca]at af;cases hq:p.bG[f]? with
  |none=>rw[hq]at af;cases af
  |some w=>
  obtain⟨e,q⟩:=w;rw[hq]at af;have af:pf e q x=0:=af;unfold pf at af;cases aY:fx x.aL with
  |none=>rw[aY]at af;cases af
  |some a=>
  cases hb:fx x.hi with
  |none=>rw[aY,hb]at af;cases af
  |some b=>
  rw[aY,hb]at af;have af:(if hU e q a∧hU e q b∧¬b<a then(0:Int)else 7)=0:=af;split at af
  ·rename_i g;exact⟨e,q,a,b,⟨f,ae,hq⟩,aY,hb,g.1,g.2.1,zbO.1 g.2.2⟩
  ·cases af
 ·cases af
def Ru(aY:hU e q a)(hl:a<=b):1<=eb e q a b:=by
 have ae:=aY.1;obtain⟨r,hr,rfl⟩:=(ako ae).1 aY;unfold eb;rw[aec ae hr];have:=(xa ae hr).2 hl;omega
def lY(p:dN)(input n:Int):ac (ac bv)×Int:=
 if(eM p).2.2≠0 then([],(eM p).2.2)
 else if¬(0<=input∧input<(p.ins.length:Int)∧1<=n∧n<=400)then([],7)
 else match p.ins[input.toNat]? with
  |none=>([],7)
  |some x=>match p.bG[x.f.toNat]? with
   |none=>([],7)
   |some f=>if 4611686018427387904<eb f.1 f.2 (gQ x.aL) (gQ x.hi)then([],3)else((gz.mk f.1 f.2 (gQ x.aL) (eb f.1 f.2 (gQ x.aL) (gQ x.hi))).sb n,0)
def Zx{p:dN}{n:Int}(h0:(eM p).2.2=0)(hi:i<p.ins.length)(hn:1<=n∧n<=400){x:jZ}(aa:p.ins[i]? =some x)(ok:Kg p x e q a b):lY p i n=if 4611686018427387904<eb e q a b then([],3)else((gz.mk e q a (eb e q a b)).sb n,0):=by
 obtain⟨⟨f,ae,hq⟩,aY,hb,_,_,_⟩:=ok;unfold lY;rw[zaa (fun h=>h h0),zaa (fun h=>h ⟨by omega,by omega,hn.1,hn.2⟩),zca,aa];simp only;rw[ae,zca,hq];simp only[gQ,aY,hb,zdx]
def sJ(r:ac (ac bv)×Int):ah:=.bu [.c5 1 (ac bv) gB r.1,.i .i64 r.2]
def Ix:bc where
 L:=dN×Int×Int
 args:=fun(p,i,n)=>[h8 p,.i .i64 i,.i .i64 n]
 pre:=fun(p,i,n)=>oO p
 res:=fun(p,i,n)=>sJ (lY p i n)
 hp:=oM
 hm:=oM.up
def ao2:a6 aS.ctx 7 Ix.spec:=by
 refine kn [(14,FK.spec),(21,QM.spec),(22,V4.spec)] gn.1 ?_;intro⟨p,i,n⟩ (ai:oO p) H aH ⟨cr,dm,fY⟩;have bad:∀{c:Int},lY p i n=([],c)->bY (.bu [.nl,.i .i64 c]) (Ix.res (p,i,n)):=fun h=>by
  show bY _ (sJ (lY p i n));rw[h];exact .bu ⟨.nl,.refl _,trivial⟩
 refine I ?_;refine aC aeq p ai ?_ (hh:=cr);refine ag 15 (.bu [.i .i64 (eM p).1,.i .i64 (eM p).2.1,.i .i64 (eM p).2.2]) rfl rfl (an 20 ?_);by_cases h0:(eM p).2.2=0
 case neg=>
  refine v1 20 (show(eM p).2.2≠0 from h0) (I ?_);exact au rfl (bad (zab h0))
 refine v0 20 (show¬(eM p).2.2≠0 from fun h=>h h0) ?_;have tj:¬(0<=i∧i<(p.ins.length:Int)∧1<=n∧n<=400)->bY (.bu [.nl,.i .i64 7]) (Ix.res (p,i,n)):=fun h=>bad ((zaa (fun aB=>aB h0)).trans (zab h));refine an 23 ?_;by_cases cP:i<0
 ·refine v1 23 cP (I ?_);exact au rfl (tj (by omega))
 refine v0 23 cP (an 29 ?_);by_cases cT:(p.ins.length:Int)<=i
 ·refine v1 29 cT (I ?_);exact au rfl (tj (by omega))
 refine v0 29 cT (an 33 ?_);by_cases ek:n<1
 ·refine v1 33 ek (I ?_);exact au rfl (tj (by omega))
 refine v0 33 ek (an 37 ?_);by_cases jR:400<n
 ·refine v1 37 jR (I ?_);exact au rfl (tj (by omega))
 refine v0 37 jR ?_;obtain⟨k,rfl⟩:∃k:Nat,i=(k:Int):=⟨i.toNat,by omega⟩;have ab:k<p.ins.length:=by omega
 have aa:=bV ab;obtain⟨e,q,a,b,ok⟩:=Xm (K4 h0) aa;have zV:=Zx (n:=n) h0 ab ⟨by omega,by omega⟩ aa ok;have pa:=ai.1 _ (ea ab);have a4:p.ins.length<=6:=by
  have h:=K4 h0;have aO:o4 p=0:=Classical.byContradiction fun aO=>by
   unfold eM at h;rw[zaa aO]at h;exact aO (congrArg (fun x:Int×Int×Int=>x.2.2) h)
  exact(LO aO).2.1
 generalize tX:p.ins[k]=x at *;refine an 43 ?_;refine ag 43 (.i .i64 ((k+1:Nat):Int)) rfl bo ?_;refine ap9 [x] ?_ (hl:=by rw[hk ab,tX,show k+1-k=1 by omega];rfl);refine I ?_;refine aC adS ⟨p,x,e,q,a,b⟩ ⟨ok.f,ok.aY.1,ok.aL,ok.hi,pa.1,pa.2⟩ ?_ (hh:=⟨cr,dm,fY⟩);by_cases hc:4611686018427387904<eb e q a b
 ·refine ag 48 (.bu [.nl,.i .i64 3]) rfl (zab hc) (I ?_);exact au rfl (bad (zV.trans (zab hc)))
 ·refine ag 48 (.bu [.c5 6 gz qO [⟨e,q,a,max (eb e q a b) 0⟩],.i .i64 0]) rfl (zaa hc) ?_;have ee:=Ru ok.aY ok.le;rw[zaa hc]at zV;have CZ:cO e q true a+(eb e q a b-1)=cO e q false b:=by unfold eb;omega
  have alT:=(oT (x:=b) ok.aY.1).2.1;have yn:=Ee pa.1 ok.aL;rw[show max (eb e q a b) 0=eb e q a b by omega];refine I ?_;refine ep (j:=0) (⟨e,q,a,eb e q a b⟩:gz) rfl ?_;refine I ?_;refine aC ajF (⟨e,q,a,eb e q a b⟩,n) ⟨ok.aY.1,yn,ee,by show eb e q a b<=4611686018427387904;omega,by show 1<=n;omega,by show n<=400;omega,by show cO e q true a+(eb e q a b-1)<(In e q:Int);omega⟩ (I ?_) (hh:=⟨cr,dm,fY⟩);exact au rfl (.of (by show _=sJ (lY p k n);rw[zV];rfl))
def arr:ac Int->ac bp
 |[]=>[]
 |d::ds=>[.a 3 true 1 Int hH (d::ds)]
def Pm(G:bJ->Prop)(dE:∀{H bF:bJ},dp H bF->G H->G bF):bc where
 L:=Unit
 args:=fun _=>[]
 pre:=fun _=>True
 res:=fun _=>.b true
 hp:=G
 hm:=dE
def adQ{a b:Bool}(h:a=b):some (ah.b a)=some (ah.b b):=by rw[h]
def yQ{own:ac bp}{p m:Nat}{e cy:bX}{o q:bp}(h:kG [k,m] cy e)(ao:∃br,own[k]? =some br∧gA [k,m] o br:=by first|exact⟨_,rfl,rfl,fun _=>rfl⟩|exact⟨_,rfl,rfl⟩)(hq:∃br,own[m]? =some br∧gA [k,m] q br:=by first|exact⟨_,rfl,rfl,fun _=>rfl⟩|exact⟨_,rfl,rfl⟩)(ab:k≠m:=by decide)(hp:pinned p [k,m] 0=true:=by rfl):Sub p [k,m] ⟨own,n,e⟩ ⟨[o,q],2,cy⟩:=⟨by simpa using ab,rfl,⟨ao,hq,trivial⟩,h,hp⟩
def OO:bc where
 L:=Rat×Rat
 args:=fun(x,y)=>[bg x,bg y]
 pre:=fun(x,y)=>cq 67108864 x∧cq 67108864 y
 res:=fun(x,y)=>bg (x*y)
def OP:a6 aS.ctx 26 OO.spec:=by
 refine bq [(74,wz.spec),(75,uB.spec),(73,sO.spec)] Uc.1 ?_;intro⟨x,y⟩ ⟨(aa:cq _ x),(aF:cq _ y)⟩ H aH;have eX:=uM (x.num*y.num);have es:=Int.sign_mul x.num y.num;refine I ?_;refine aZ oA (x.num.natAbs,y.num.natAbs) ⟨ct aa.1 (by decide),ct aF.1 (by decide)⟩ (I ?_);refine aZ oz x trivial (I ?_);refine aZ oz y trivial (I ?_);refine aZ oA (x.den,y.den) ⟨ct aa.2 (by decide),ct aF.2 (by decide)⟩ (an 9 ?_);refine cm 9 (.i .i64 (x.num*y.num).sign) rfl rfl (bo es.symm (by omega) (by omega)) ?_;refine I ?_;refine aZ rE ((x.num*y.num).sign,x.num.natAbs*y.num.natAbs,x.den*y.den) ⟨eX.1,eX.2,ct (lj aa.1 aF.1) (by decide),ct (lj aa.2 aF.2) (by decide),zaO x.den_nz y.den_nz⟩ (I ?_);refine au rfl (.of (congrArg bg ?_));show mkRat _ _=x*y;rw[Rat.mul_def',<-zbq,zcj]
def IL:bc where
 L:=Rat
 args:=fun x=>[bg x]
 pre:=fun x=>cq 60000 x
 res:=fun x=>bg (aA (j5 x))
def Em:a6 aS.ctx 30 IL.spec:=by
 refine bq [(75,uB.spec),(80,IJ.spec),(77,uC.spec),(81,Ei.spec),(73,sO.spec)] Uq.1 ?_;intro(x:Rat) (aa:cq _ x) H aH;have gy:=uM x.num;have cP:dy 1 1:=by show(aT _ 1).length<=_;rw[qT];exact zcn _
 have hq:dy 60000 (x.num.natAbs/x.den):=lg aa.1 (zau _ _);have ae:=LA x;have fin:∀v:Nat,v=x.num.natAbs/x.den+(if decide (x.num<0)=true∧x.num.natAbs%x.den≠0 then 1 else 0)->bg (mkRat (x.num.sign*(v:Int)) 1)=bg (aA (j5 x)):=fun v aI=>by
  rw[<-ae,<-aI];congr 1;unfold ca aA;rcases(show x.num<0∨x.num=0∨0<x.num by omega)with h|h|h
  ·rw[zbx h,zad h,zab rfl,zaT,zaZ]
  ·rw[aI,h,zaa (fun h=>absurd h.1 (by decide)),show(0:Int).natAbs=0 from rfl,zdg];rfl
  ·rw[zby h,zac (by omega),zaa (by decide),zaZ]
 refine I ?_;refine aZ oz x trivial (I ?_);refine aZ IK (x.num.natAbs,x.den) ⟨ct aa.1 (by decide),ct aa.2 (by decide),x.den_nz⟩ (I ?_);refine ag 10 (.bu [cS (x.num.natAbs/x.den),cS (x.num.natAbs%x.den)]) rfl rfl ?_;generalize x.num.natAbs/x.den=q at *;generalize x.num.natAbs%x.den=r at *;refine an 16 ?_;refine fK (L:=Bool) (fun t=>t=decide (x.num<0∧r≠0)) (fun t=>⟨[.c 83 (pr x),.c 83 [.i .i64 0,.nl,.nl]],2,[(1,.p 0 0),(2,.p 1 0),(3,cS q),(20,.b t)]⟩) ?_ ?_
 ·by_cases hn:x.num<0
  ·refine ag 16 (.b true) rfl (b2 (zad (by rw[zbx hn];decide))) (I ?_);refine ba [0,1] (decide (r≠0)) (by simp only[hn,true_and]) (yQ ⟨rfl,rfl,rfl,adQ (decide_eq_decide.2 ?_),trivial⟩);exact⟨fun h e=>by subst e;rw[ft]at h;simp at h,fun e=>by have:(aT 1000000000 r).length≠0:=fun cy=>e (DL.1 cy);omega⟩
  ·refine ag 16 (.b false) rfl (b2 (zac (by have:=zeN.2 (zcl.1 hn);omega))) (I ?_);exact ba [0,1] false (by simp[hn]) (yQ ⟨rfl,rfl,rfl,rfl,trivial⟩)
 intro t aV;refine fK (L:=Nat) (fun v=>v=q+(if decide (x.num<0)=true∧r≠0 then 1 else 0)) (fun v=>⟨[.c 83 (pr x),.c 83 [.i .i64 0,.nl,.nl]],2,[(1,.p 0 0),(2,.p 1 0),(3,cS v)]⟩) ?_ ?_
 ·by_cases hn:x.num<0∧r≠0
  ·refine ag 20 (.b true) rfl (by rw[aV,zad hn]) (I ?_);refine aC rF () trivial ?_;refine aC IF (q,1) ⟨ct hq (by decide),ct cP (by decide)⟩ (I ?_);exact ba [0,1] (q+1) (by rw[zab ⟨zad hn.1,hn.2⟩]) (yQ ⟨rfl,rfl,rfl,trivial⟩)
  ·refine ag 20 (.b false) rfl (by rw[aV,zac hn]) (I ?_);exact ba [0,1] q (by rw[zaa (fun h=>hn ⟨zbT h.1,h.2⟩)];rfl) (yQ ⟨rfl,rfl,rfl,trivial⟩)
 intro v aI;have x1:dy 60001 v:=by
  rw[aI];split
  ·exact BZ hq (ct cP (by decide))
  ·exact ct hq (by decide)
 refine I ?_;refine aZ rF () trivial (I ?_);refine aZ rE (x.num.sign,v,1) ⟨gy.1,gy.2,ct x1 (by decide),ct cP (by decide),by show 1≠0;decide⟩ (I ?_);exact au rfl (.of (fin v aI))
def aew{y:Rat}:0<ho x y↔y<x:=n7
def IQ:bc where
 L:=Int
 args:=fun n=>[bg (aA n)]
 pre:=fun n=> -9223372036854775808<n∧n<9223372036854775808
 res:=fun n=>.bu [.i .i64 n,.i .i64 0]
def sE{n:Int}(h:n.natAbs<1000000000^(k+1)):cq (k+1) (aA n):=by
 have:=fu n;refine⟨?_,?_⟩
 ·rw[this.1];exact hL (by decide) h
 ·rw[this.2];show(aT _ 1).length<=_;rw[qT];exact Nat.succ_le_succ (zaf _)
def IS:a6 aS.ctx 29 IQ.spec:=by
 refine bq [(78,OC.spec),(27,sN.spec),(79,px.spec)] Up.1 ?_;intro(n:Int) ⟨(J:_<n),(U:n<_)⟩ H aH;have aP:cq 3 (aA n):=sE (k:=2) (by omega);have gy:=uM n;refine I ?_;refine aC ZW (aA n) (cJ aP (by decide)) ?_;refine ag 7 (.b true) rfl (b2 (zad (fu n).2)) (I ?_);refine aZ mC (-9223372036854775808:Int) ⟨by decide,by decide⟩ (I ?_);refine aZ py (aA n,aA (-9223372036854775808)) ⟨cJ aP (by decide),cJ (sE (k:=2) (by decide)) (by decide)⟩ (an 12 ?_);refine ag 12 (.b false) rfl (b2 (zac (fun h=>by have:=oG.1 (pR.1 h);omega))) (I ?_);refine aZ mC (9223372036854775807:Int) ⟨by decide,by decide⟩ (I ?_);refine aZ py (aA n,aA 9223372036854775807) ⟨cJ aP (by decide),cJ (sE (k:=2) (by decide)) (by decide)⟩ (an 17 ?_);refine ag 17 (.b false) rfl (b2 (zac (fun h=>by have:=oG.1 (aew.1 h);omega))) (I ?_);have Mx:=(fu n).1;generalize(aA n).num=m at *;subst Mx;obtain⟨ds,ga⟩:∃ds,ds=aT 1000000000 m.natAbs:=⟨_,rfl⟩;have bE:=fW (b:=1000000000) (by decide) m.natAbs;have aI:=fE (b:=1000000000) (by decide) m.natAbs;have hl:(aT 1000000000 m.natAbs).length<=3:=hL (by decide) (by omega);rw[<-ga]at hl bE aI;have atk:∀k,val 1000000000 (ds.drop k)<=m.natAbs:=fun k=>by
  rw[<-aI]
  conv=>rhs;rw[<-zbh k ds,k0]
  exact zaj (Nat.le_mul_of_pos_left _ (zcu (by decide))) (Nat.le_add_left _ _)
 show a1.ok _ ⟨_,_,⟨[.c 83 [.i .i64 m.sign,c4 (aT 1000000000 m.natAbs),_]],_,_⟩⟩;rw[<-ga];have Jt:∀X:Nat,X<=m.natAbs-> -9223372036854775808<m.sign*(X:Int)∧m.sign*(X:Int)<9223372036854775808:=fun X GN=>by
  rcases(show m.sign= -1∨m.sign=0∨m.sign=1 by omega)with h|h|h<;>rw[h]<;>omega
 refine ag 4 (.i .i64 (m.sign*(val 1000000000 (ds.drop ds.length):Nat))) rfl (by rw[zct];simp[val]) ?_;refine df (L:=Nat) (fun k=>k<=ds.length) (fun(k:Nat)=>⟨[.c 83 [.i .i64 m.sign,c4 ds,c4 (if m=0 then[]else aT 1000000000 (aA m).den)]],1,[(1,.p 0 0),(4,.i .i64 (m.sign*(val 1000000000 (ds.drop k):Nat))),(5,.i .i64 ((k:Int)-1))]⟩) (fun k=>k) [0] ds.length (zcn _) (by show ds.length<bT+1;unfold bT;omega) (dK ⟨rfl,rfl,eC,trivial⟩ ⟨_,rfl,rfl⟩) ?_;intro(k:Nat) ab;cases k with
 |zero=>
  refine I ?_;exact au rfl (.of (by show ah.bu [_,_]=ah.bu [_,_];rw[zap,aI,zcj]))
 |succ i=>
  have hi:i<ds.length:=by omega
  have a4:=bE _ (ea hi);have aw:val 1000000000 (ds.drop i)=ds[i]+1000000000*val 1000000000 (ds.drop (i+1)):=by
   rw[hk hi];rfl
  have cD:=atk i;have db:=Jt _ cD;refine ag 5 (.i .i64 (i:Nat)) rfl dY ?_;have hV:=Jt (1000000000*val 1000000000 (ds.drop (i+1))) (by omega);have e2:1000000000*(m.sign*(val 1000000000 (ds.drop (i+1)):Int))=m.sign*((1000000000*val 1000000000 (ds.drop (i+1)):Nat):Int):=by rw[zam];exact Int.mul_left_comm _ _ _
  refine an 28 ?_;refine cm 28 (.i .i64 (m.sign*((1000000000*val 1000000000 (ds.drop (i+1)):Nat):Int))) rfl rfl (bo e2 (by rw[e2];omega) (by rw[e2];omega)) ?_;refine I ?_;refine hK ds[i] (bV hi) ?_;rw[aw]at cD db;generalize ds[i]=d at *;generalize val 1000000000 (ds.drop (i+1))=V at *;have ti:=Jt d (by omega);have bW:m.sign*((1000000000*V:Nat):Int)+m.sign*(d:Int)=m.sign*((d+1000000000*V:Nat):Int):=by rw[<-Int.mul_add];congr 1;omega
  refine an 36 ?_;refine cm 36 (.i .i64 (m.sign*(d:Int))) rfl rfl (bo rfl (by omega) (by omega)) ?_;refine an 37 ?_;refine cm 37 (.i .i64 (m.sign*((d+1000000000*V:Nat):Int))) rfl rfl (bo bW (by rw[bW];omega) (by rw[bW];omega)) ?_;refine I ?_;exact ba [0] i ⟨by show i<i+1;omega,by omega⟩ (dK ⟨rfl,by rw[aw];rfl,eC,trivial⟩ ⟨_,rfl,rfl⟩)
def Z3:bc where
 L:=Int×Int
 args:=fun(a,b)=>[bg (aA a),bg (aA b)]
 pre:=fun(a,b)=>cq 60000 (aA a)∧cq 60000 (aA b)
 res:=fun(a,b)=>bg (aA (max a b))
def apA:a6 aS.ctx 147 Z3.spec:=by
 refine bq [(79,px.spec)] S1.1 ?_;intro⟨a,b⟩ ⟨(aY:cq _ _),(hb:cq _ _)⟩ H aH;refine I ?_;refine aC py (aA a,aA b) ⟨cJ aY (by decide),cJ hb (by decide)⟩ (an 8 ?_);by_cases h:a<b
 ·refine ag 8 (.b false) rfl (b2 (zac (fun aB=>by have:=pR.2 (oG.2 h);omega))) (I ?_);exact au rfl (.of (congrArg (fun x=>bg (aA x)) (by omega)))
 ·refine ag 8 (.b true) rfl (b2 (zad (by have:=mt pR.1 (mt oG.1 h);omega))) (I ?_);exact au rfl (.of (congrArg (fun x=>bg (aA x)) (by omega)))
def OU:bc where
 L:=Rat×Rat
 args:=fun(x,y)=>[bg x,bg y]
 pre:=fun(x,y)=>cq 60000 x∧cq 60000 y
 res:=fun(x,y)=>bg (x*y)
def aaf:a6 aS.ctx 244 OU.spec:=by
 refine bq [(26,OO.spec)] TV.1 ?_;intro⟨x,y⟩ ⟨(aa:cq _ x),(aF:cq _ y)⟩ H aH;refine I ?_;refine aC OP (x,y) ⟨cJ aa (by decide),cJ aF (by decide)⟩ (I ?_);exact au rfl (.refl _)
def nO(h:n<2^256):cq 9 (aA (n:Int)):=sE (k:=8) (by rw[zaq];exact zbG h (by decide))
def aah:bc where
 L:=Nat
 args:=fun n=>[.i .u64 (n:Int)]
 pre:=fun n=>n<bh
 res:=fun n=>bg (aA (n:Int))
def aai:a6 aS.ctx 335 aah.spec:=by
 refine bq [(27,sN.spec),(251,uF.spec),(143,uD.spec)] UJ.1 ?_;intro(n:Nat) (hn:n<18446744073709551616) H aH;refine an 5 ?_;refine ag 5 (.i .i64 ((n/4294967296:Nat):Int)) rfl (dY (gd (n:=((n/4294967296:Nat):Int)) (by omega) (by omega))) ?_;refine aC mC ((n/4294967296:Nat):Int) ⟨by omega,by omega⟩ (I ?_);have iS:cq 9 (aA ((n/4294967296:Nat):Int)):=nO (zbG (show n/4294967296<18446744073709551616 by omega) (by decide));refine aC sP (aA ((n/4294967296:Nat):Int),32) ⟨cJ iS (by decide),by decide,by decide⟩ ?_;refine ag 7 (bg (aA ((n/4294967296*4294967296:Nat):Int))) rfl (by show bg (b9 (aA _) ((32:Nat):Int))=_;rw[oH,<-zam]) (an 10 ?_);refine ag 10 (.i .i64 ((n%4294967296:Nat):Int)) rfl (dY (gd (n:=((n%4294967296:Nat):Int)) (by omega) (by omega))) ?_;refine aC mC ((n%4294967296:Nat):Int) ⟨by omega,by omega⟩ ?_;have gI:cq 9 (aA ((n%4294967296:Nat):Int)):=nO (zbG (show n%4294967296<18446744073709551616 by omega) (by decide));have pk:cq 9 (aA ((n/4294967296*4294967296:Nat):Int)):=nO (zbG (show n/4294967296*4294967296<18446744073709551616 by omega) (by decide));refine aC uE (aA ((n/4294967296*4294967296:Nat):Int),aA ((n%4294967296:Nat):Int)) ⟨cJ pk (by decide),cJ gI (by decide)⟩ (I ?_);exact au rfl (.of (by show bg (aA _+aA _)=bg (aA (n:Int));rw[ni];congr 2;omega))
def Ek:bc where
 L:=Nat
 args:=fun w=>[cN w]
 pre:=fun w=>w<bh*bh
 res:=fun w=>bg (aA (w:Int))
def uW{w:Nat}(h:w<bh*bh):w<2^256:=zcO h (by decide)
def IH:a6 aS.ctx 246 Ek.spec:=by
 refine bq [(335,aah.spec),(251,uF.spec),(143,uD.spec)] TX.1 ?_;intro(w:Nat) (hw:w<18446744073709551616*18446744073709551616) H aH;refine I ?_;refine aZ aai (w/bh) (by show w/18446744073709551616<18446744073709551616;omega) (I ?_);have iS:cq 9 (aA ((w/bh:Nat):Int)):=nO (zaG (zau _ _) (uW hw));refine aZ sP (aA ((w/bh:Nat):Int),64) ⟨cJ iS (by decide),by decide,by decide⟩ (I ?_);refine aZ aai (w%bh) (zae _ (by decide)) (I ?_);have aw:b9 (aA ((w/bh:Nat):Int)) 64=aA ((w/bh*bh:Nat):Int):=by
  show b9 (aA _) ((64:Nat):Int)=_;rw[oH,<-zam]
 have gI:cq 9 (aA ((w%bh:Nat):Int)):=nO (zaG (Nat.mod_le _ _) (uW hw));have pk:cq 9 (aA ((w/bh*bh:Nat):Int)):=nO (zaG (zdj _ _) (uW hw));refine aZ uE (b9 (aA ((w/bh:Nat):Int)) 64,aA ((w%bh:Nat):Int)) ⟨by rw[aw];exact cJ pk (by decide),cJ gI (by decide)⟩ (I ?_);exact au rfl (.of (by show bg (_+aA _)=bg (aA (w:Int));rw[aw,ni,<-zbU,zai,zaN]))
def OK:bc where
 L:=Nat×Nat×Nat
 args:=fun(n,f,b)=>[bg (aA (n:Int)),.i .i64 f,.i .i64 b]
 pre:=fun(n,f,b)=>n<2^256∧f<=256∧b<=256
 res:=fun(n,f,b)=>bg (aA ((n/2^f%2^b:Nat):Int))
def yH:a6 aS.ctx 257 OK.spec:=by
 refine bq [(251,uF.spec),(30,IL.spec),(144,wB.spec)] T9.1 ?_;intro⟨n,f,b⟩ ⟨(hn:n<_),(ae:f<=_),(hb:b<=_)⟩ H aH;have iS:=nO hn;have hq:n/2^f<2^256:=zaG (zau _ _) hn;refine an 10 ?_;refine ag 10 (.i .i64 (-(f:Int))) rfl (bo rfl (by omega) (by omega)) ?_;refine aC sP (aA (n:Int),-(f:Int)) ⟨cJ iS (by decide),by show _<= -(f:Int);omega,by show -(f:Int)<=_;omega⟩ ?_;refine aC Em (b9 (aA (n:Int)) (-(f:Int))) (cJ (AK 256 iS (by omega) (by omega)) (by decide)) ?_;refine ag 12 (bg (aA ((n/2^f:Nat):Int))) rfl (by show bg (aA (j5 _))=_;rw[P2,<-zcz]) ?_;obtain⟨q,WW⟩:∃q,q=n/2^f:=⟨_,rfl⟩;rw[<-WW]at hq⊢;have gI:=nO hq;refine an 16 ?_;refine cm 16 (.i .i64 (-(b:Int))) rfl rfl (bo rfl (by omega) (by omega)) ?_;refine I ?_;refine aZ sP (aA (q:Int),-(b:Int)) ⟨cJ gI (by decide),by show _<= -(b:Int);omega,by show -(b:Int)<=_;omega⟩ (I ?_);refine aZ Em (b9 (aA (q:Int)) (-(b:Int))) (cJ (AK 256 gI (by omega) (by omega)) (by decide)) ?_;refine ag 18 (bg (aA ((q/2^b:Nat):Int))) rfl (by show bg (aA (j5 _))=_;rw[P2,<-zcz]) (I ?_);have pk:=nO (zaG (zau q (2^b)) hq);refine aZ sP (aA ((q/2^b:Nat):Int),(b:Int)) ⟨cJ pk (by decide),by show _<=(b:Int);omega,by show(b:Int)<=_;omega⟩ ?_;refine ag 20 (bg (aA ((q/2^b*2^b:Nat):Int))) rfl (by show bg (b9 (aA _) (b:Int))=_;rw[oH,<-zam]) (I ?_);have yl:=nO (zaG (zdj q (2^b)) hq);refine aZ Er (aA (q:Int),aA ((q/2^b*2^b:Nat):Int)) ⟨cJ gI (by decide),cJ yl (by decide)⟩ (I ?_);exact au rfl (.of (by
  show bg (aA _-aA _)=bg (aA ((n/2^f%2^b:Nat):Int));rw[y9,<-WW];congr 2;have:=zaN q (2^b);rw[zai]at this;generalize q/2^b*2^b=x at *;generalize q%2^b=y at *;omega))
def OS:bc where
 L:=Nat
 args:=fun n=>[bg (aA (n:Int))]
 pre:=fun n=>n<9223372036854775808
 res:=fun n=>.i .u64 (n:Int)
def Es:a6 aS.ctx 258 OS.spec:=by
 refine bq [(29,IQ.spec)] Ua.1 ?_;intro(n:Nat) (hn:n<_) H aH;refine I ?_;refine aC IS (n:Int) ⟨by omega,by omega⟩ ?_;refine ag 7 (.bu [.i .i64 (n:Int),.i .i64 0]) rfl rfl (I ?_);exact au rfl (.of (dY (congrArg Int.ofNat (dH (by omega)))))
def IW:bc where
 L:=Nat
 args:=fun n=>[bg (aA (n:Int))]
 pre:=fun n=>n<bh*bh
 res:=fun n=>cN n
def aoZ(hn:n<18446744073709551616*18446744073709551616):(n/2^96%2^32*2^32%18446744073709551616+n/2^64%2^32)%18446744073709551616=n/bh∧(n/2^32%2^32*2^32%18446744073709551616+n/2^0%2^32)%18446744073709551616=n%bh:=by
 show(n/79228162514264337593543950336%4294967296*4294967296%18446744073709551616+n/18446744073709551616%4294967296)%18446744073709551616=n/18446744073709551616∧(n/4294967296%4294967296*4294967296%18446744073709551616+n/1%4294967296)%18446744073709551616=n%18446744073709551616;omega
def IX:a6 aS.ctx 253 IW.spec:=by
 refine bq [(257,OK.spec),(258,OS.spec)] T5.1 ?_;intro(n:Nat) (hn:n<18446744073709551616*18446744073709551616) H aH;have U:=uW hn;have JF:∀f:Nat,n/2^f%2^32<9223372036854775808:=fun f=>zbG (zae _ (by decide)) (by decide);refine I ?_;refine aZ yH (n,96,32) ⟨U,by decide,by decide⟩ (I ?_);refine aZ Es (n/2^96%2^32) (JF 96) (I ?_);refine aZ yH (n,64,32) ⟨U,by decide,by decide⟩ (I ?_);refine aZ Es (n/2^64%2^32) (JF 64) (I ?_);refine aZ yH (n,32,32) ⟨U,by decide,by decide⟩ (I ?_);refine aZ Es (n/2^32%2^32) (JF 32) (I ?_);refine aZ yH (n,0,32) ⟨U,by decide,by decide⟩ (I ?_);refine aZ Es (n/2^0%2^32) (JF 0) (I ?_);obtain⟨gU,gV⟩:=aoZ hn;exact au rfl (y4 gU.symm gV.symm)
def aaj(x:Rat)(k:Int):qx x (b9 (mkRat 1 1) k)=b9 x (-k):=by
 obtain⟨J,U⟩:=sT k;unfold qx;rw[J,U,m9 (x:=x) (k:= -k) (u:=(-k).toNat) (v:=k.toNat) (by omega),zdn];rfl
def YE(h:b0 e p)(hr:r.natAbs<=In e p):cq 2300 (cv e p r):=by
 obtain⟨k,ab,m⟩:=Yl h hr;have d:=F6 h;refine sD (lg (ct (pw k) (by omega)) ?_) (ct (pw (cF e p)) (by omega)) (r4 e p);have:(kY (aW p) r).natAbs=g4 (aW p) r.natAbs:=by
  rcases(show 0<=r∨r<=0 by omega)with h|h
  ·rw[lk h];rfl
  ·rw[rK h,zbp];rfl
 omega
def lf(h:b0 e p){n:Int}(hn:n.natAbs<=4*In e p+4):cq 9 (aA n):=sE (k:=8) (by
 have:=(kR h).1;have:=(kR h).2;have:bh*bh=340282366920938463463374607431768211456:=rfl;omega)
def ZM:bc where
 L:=Int×Int×Bool×Nat×Nat
 args:=fun(e,p,neg,fd,fr)=>[hz e p,.b neg,.i .i64 fd,bg (aA (fr:Int))]
 pre:=fun(e,p,neg,fd,fr)=>b0 e p∧fd*2^aW p+fr<In e p
 res:=fun(e,p,neg,fd,fr)=>cN (eK e p neg+(fd*2^aW p+fr))
def ZN:a6 aS.ctx 336 ZM.spec:=by
 refine bq [(27,sN.spec),(251,uF.spec),(143,uD.spec),(250,rG.spec),(253,IW.spec)] UK.1 ?_;intro⟨e,p,neg,fd,fr⟩ ⟨(h:b0 e p),(hr:fd*2^aW p+fr<In e p)⟩ H aH;obtain⟨i1,i2⟩:=kR h;obtain⟨t1,t2⟩:=sX h;have hp:=qt h;have hj:=M7 (n:=fr) (j:=fd) h (by omega);obtain⟨J,U,af,ax,a0⟩:=id h;have aP:∀n:Nat,n<=In e p->cq 9 (aA (n:Int)):=fun n hn=>lf h (by omega);have aob:cq 9 (aA (fd:Int)):=nO (zaG hj (by decide));refine I ?_;refine aZ mC (fd:Int) ⟨by omega,by omega⟩ (an 14 ?_);refine cm 14 (.i .i64 (aW p:Nat)) rfl rfl (bo (by omega) (by omega) (by omega)) ?_;refine I ?_;refine aZ sP (aA (fd:Int),(aW p:Int)) ⟨cJ aob (by decide),by show _<=(aW p:Int);omega,by show(aW p:Int)<=_;omega⟩ ?_;refine ag 15 (bg (aA ((fd*2^aW p:Nat):Int))) rfl (by show bg (b9 (aA _) _)=_;rw[oH,<-zam]) (I ?_);refine aZ uE (aA ((fd*2^aW p:Nat):Int),aA (fr:Int)) ⟨cJ (aP _ (by omega)) (by decide),cJ (aP _ (by omega)) (by decide)⟩ ?_;refine ag 17 (bg (aA ((fd*2^aW p+fr:Nat):Int))) rfl (by show bg (aA _+aA _)=_;rw[ni,<-zbU]) ?_;obtain⟨r,lI⟩:∃r,r=fd*2^aW p+fr:=⟨_,rfl⟩;rw[<-lI]at hr⊢;cases neg with
 |false=>
  refine I ?_;refine aC IX r (by show r<bh*bh;omega) (I ?_);exact au rfl (.of (by show cN _=cN (0+(fd*2^aW p+fr));rw[<-lI,zav]))
 |true=>
  refine an 24 ?_;refine cm 24 (.i .i64 (e+p)) rfl rfl (bo rfl (by omega) (by omega)) ?_;refine an 25 ?_;refine cm 25 (.i .i64 ((e+p-1).toNat:Nat)) rfl rfl (bo (by omega) (by omega) (by omega)) ?_;refine I ?_;refine aZ rH ((e+p-1).toNat:Int) ⟨by show _<=((e+p-1).toNat:Int);omega,by show((e+p-1).toNat:Int)<=_;omega⟩ ?_;refine ag 26 (bg (aA ((2^(e+p-1).toNat:Nat):Int))) rfl (by show bg (b9 (aA 1) _)=_;rw[oH,zaZ]) (I ?_);refine aZ uE (aA (r:Int),aA ((2^(e+p-1).toNat:Nat):Int)) ⟨cJ (aP _ (by omega)) (by decide),cJ (nO (uW (by omega))) (by decide)⟩ ?_;refine ag 27 (bg (aA ((2^(e+p-1).toNat+r:Nat):Int))) rfl (by show bg (aA _+aA _)=_;rw[ni,<-zbU,zbt]) (I ?_);refine aC IX (2^(e+p-1).toNat+r) (by show _<bh*bh;omega) (I ?_);exact au rfl (.of (by show cN _=cN (2^(e+p-1).toNat+(fd*2^aW p+fr));rw[<-lI];rfl))
def aan:bc where
 L:=Int×Int×Bool×Nat
 args:=fun(e,p,neg,r)=>[hz e p,.b neg,bg (cv e p (r:Int))]
 pre:=fun(e,p,neg,r)=>b0 e p∧r<In e p
 res:=fun(e,p,neg,r)=>cN (eK e p neg+r)
def apP:a6 aS.ctx 247 aan.spec:=by
 refine bq [(333,Ov.spec),(260,IT.spec),(245,IV.spec),(336,ZM.spec),(334,OF.spec),(251,uF.spec),(252,yD.spec),(250,rG.spec),(144,wB.spec)] TY.1 ?_;intro⟨e,p,neg,r⟩ ⟨(h:b0 e p),(hr:r<In e p)⟩ H aH;have aq:=pX h;have hp:=qt h;have z4:=F6 h;obtain⟨i1,i2⟩:=kR h;obtain⟨J,U,af,ax,a0⟩:=id h;have hb:=ia J U;have Ia:=YE (r:=(r:Int)) h (by omega);have fP:=zag (aW p);refine I ?_;refine aC ZJ (e,p,cv e p (r:Int)) ⟨h,cJ Ia (by decide)⟩ ?_;obtain⟨n,j,Ae,hn,hj⟩:=Nw (aW p) r;have j8:kY (aW p) (r:Int)=((n:Nat):Int)*((2^j:Nat):Int):=by
  rw[lk (by omega),zaq,Ae,m4 (by omega) hj,zam]
 have aI:=ati (e:=e) j8;by_cases a4:r<2^aW p
 ·refine ag 11 (.b true) rfl (b2 (zad ((QP h _).2 (by omega)))) ?_;have ala:j=0:=by
   rcases hj with hj|hj
   ·have:=zaf (j*2^aW p);omega
   ·exact hj
  subst ala;rw[zas,zaJ]at Ae;subst Ae;refine I ?_;refine aZ OE (e,p) h ?_;refine ag 16 (bg (b9 (mkRat 1 1) (-(cF e p:Int)))) rfl (by show bg (b9 _ (2-ch e-p))=_;congr 2;omega) (I ?_);refine aZ OJ (cv e p (r:Int),b9 (mkRat 1 1) (-(cF e p:Int))) ⟨cJ Ia (by decide),cJ (AL (c:=1200) (by omega) (by omega)) (by decide),by rw[(sT _).1];exact zdV (by decide)⟩ ?_;refine ag 17 (bg (aA (r:Int))) rfl (by show bg (qx _ _)=_;rw[aaj,zdS];exact congrArg bg (by rw[<-aI];congr 1)) (I ?_);refine aZ ZN (e,p,neg,0,r) ⟨h,by show 0*_+r<_;omega⟩ (I ?_);exact au rfl (.of (by show cN (_+(0*2^aW p+r))=cN _;rw[zas,zav]))
 ·refine ag 11 (.b false) rfl (b2 (zac (fun hb=>by have:=(QP h (r:Int)).1 hb;omega))) ?_;have Ms:2^aW p<=n:=by
   rcases hj with hj|hj
   ·exact hj
   ·subst hj;rw[zas]at Ae;omega
  have auH:=M7 (n:=n) (j:=j) h (by omega);have aa:=atg (e:=e) (p:=p) (r:=(r:Int));rw[zaq,Ae,m4 (by omega) hj,<-Ae]at aa;have alg:=anG h Ms hn aa;have h0:(cv e p (r:Int)).num≠0:=fun h0=>by
   rw[h0,show(0:Int).natAbs=0 from rfl,zas]at aa;have:=zbe (zbe (show 0<n by omega) (zag j)) (zaV (cv e p (r:Int)).den_nz);omega
  refine I ?_;refine aC Z1 (cv e p (r:Int)) ⟨cJ Ia (by decide),h0⟩ ?_;refine ag 20 (.i .i64 ((aW p:Int)+j-cF e p)) rfl (congrArg (ah.i .i64) alg) (an 24 ?_);refine ag 24 (.i .i64 (aW p:Nat)) rfl (bo (by omega) (by omega) (by omega)) (an 26 ?_);refine ag 26 (.i .i64 ((cF e p:Int)-j)) rfl (bo (by omega) (by omega) (by omega)) ?_;refine aC sP (cv e p (r:Int),(cF e p:Int)-j) ⟨cJ Ia (by decide),by show _<=(cF e p:Int)-j;omega,by show(cF e p:Int)-j<=_;omega⟩ ?_;refine ag 27 (bg (aA (n:Int))) rfl (congrArg bg aI) (I ?_);refine aZ A7 (e,p) h (an 37 ?_);refine cm 37 (.i .i64 (aW p:Nat)) rfl rfl (bo (by omega) (by omega) (by omega)) ?_;refine I ?_;refine aZ rH (aW p:Int) ⟨by show _<=(aW p:Int);omega,by show(aW p:Int)<=_;omega⟩ ?_;refine ag 38 (bg (aA ((2^aW p:Nat):Int))) rfl (by show bg (b9 (aA 1) _)=_;rw[oH,zaZ]) (I ?_);refine aZ Er (aA (n:Int),aA ((2^aW p:Nat):Int)) ⟨cJ (lf h (by omega)) (by decide),cJ (lf h (by have:=nL h;omega)) (by decide)⟩ ?_;refine ag 39 (bg (aA ((n-2^aW p:Nat):Int))) rfl (by show bg (aA _-aA _)=_;rw[y9];congr 2;omega) (an 33 ?_);refine ag 33 (.i .i64 ((j+1:Nat):Int)) rfl (bo (by omega) (by omega) (by omega)) (I ?_);have he:(j+1)*2^aW p+(n-2^aW p)=r:=by rw[zbZ];omega
  refine aZ ZN (e,p,neg,j+1,n-2^aW p) ⟨h,by show(j+1)*_+_<_;rw[he];exact hr⟩ (I ?_);exact au rfl (.of (by show cN (_+((j+1)*2^aW p+(n-2^aW p)))=cN _;rw[he]))
def ON:bc where
 L:=Int×Int×Int
 args:=fun(e,p,r)=>[hz e p,bg (cv e p r)]
 pre:=fun(e,p,r)=>b0 e p∧r.natAbs<In e p
 res:=fun(e,p,r)=>bg (aA r)
def acy:(cv e p r).num.sign<0↔r<0:=by
 have h:(cv e p r).num<0↔r<0:=by rw[NO,<-wR e p,E3]
 rw[<-h];constructor
 ·intro ai;refine Int.not_le.1 fun hn=> ?_;have:=zeN.2 hn;omega
 ·intro ai;rw[zbx ai];decide
def I2:a6 aS.ctx 148 ON.spec:=by
 refine bq [(248,A6.spec),(247,aan.spec),(246,Ek.spec),(249,I4.spec),(242,A8.spec)] S2.1 ?_;intro⟨e,p,r⟩ ⟨(h:b0 e p),(hr:r.natAbs<In e p)⟩ H aH;obtain⟨i1,i2⟩:=kR h;refine I ?_;refine aZ Eh (cv e p r) trivial ?_;refine ag 8 (bg (cv e p (r.natAbs:Int))) rfl (congrArg bg (acx e p r)) (I ?_);refine aZ apP (e,p,false,r.natAbs) ⟨h,hr⟩ ?_;refine ag 9 (cN r.natAbs) rfl (by show cN (0+r.natAbs)=_;rw[zav]) (I ?_);refine aZ IH r.natAbs (by show r.natAbs<bh*bh;omega) (I ?_);refine aC I5 (cv e p r) trivial (an 13 ?_);by_cases hn:r<0
 ·refine ag 13 (.b true) rfl (b2 (zad (acy.2 hn))) (I ?_);refine aC wA (aA (r.natAbs:Int)) trivial (I ?_);exact au rfl (.of (by show bg (-aA _)=bg (aA r);rw[Fe];congr 2;omega))
 ·refine ag 13 (.b false) rfl (b2 (zac (mt acy.1 hn))) (I ?_);exact au rfl (.of (by show bg (aA _)=bg (aA r);congr 2;omega))
def ZS:bc where
 L:=Int×Int×Nat
 args:=fun(e,p,r)=>[hz e p,cN r]
 pre:=fun(e,p,r)=>b0 e p∧r<In e p
 res:=fun(e,p,r)=>cN (eK e p true+r)
def aps:a6 aS.ctx 254 ZS.spec:=by
 refine bq [(250,rG.spec),(246,Ek.spec),(79,px.spec),(143,uD.spec),(253,IW.spec),(144,wB.spec)] T6.1 ?_;intro⟨e,p,r⟩ ⟨(h:b0 e p),(hr:r<In e p)⟩ H aH;obtain⟨i1,i2⟩:=kR h;obtain⟨t1,t2⟩:=sX h;obtain⟨J,U,af,ax,a0⟩:=id h;have iS:cq 9 (aA (r:Int)):=lf h (by omega);have gI:cq 9 (aA ((2^(e+p-1).toNat:Nat):Int)):=nO (uW (by omega));refine an 11 ?_;refine ag 11 (.i .i64 (e+p)) rfl (bo rfl (by omega) (by omega)) (an 12 ?_);refine ag 12 (.i .i64 ((e+p-1).toNat:Nat)) rfl (bo (by omega) (by omega) (by omega)) ?_;refine aC rH ((e+p-1).toNat:Int) ⟨by show _<=((e+p-1).toNat:Int);omega,by show((e+p-1).toNat:Int)<=_;omega⟩ ?_;refine ag 13 (bg (aA ((2^(e+p-1).toNat:Nat):Int))) rfl (by show bg (b9 (aA 1) _)=_;rw[oH,zaZ]) (I ?_);refine aC IH r (by show r<bh*bh;omega) (I ?_);refine aC py (aA (r:Int),aA ((2^(e+p-1).toNat:Nat):Int)) ⟨cJ iS (by decide),cJ gI (by decide)⟩ (an 19 ?_);refine ag 19 (.b false) rfl (b2 (zac (fun aO=>by have:=pR.2 (oG.2 (show(r:Int)<((2^(e+p-1).toNat:Nat):Int) by omega));omega))) (I ?_);refine aC uE (aA (r:Int),aA ((2^(e+p-1).toNat:Nat):Int)) ⟨cJ iS (by decide),cJ gI (by decide)⟩ ?_;refine ag 26 (bg (aA ((2^(e+p-1).toNat+r:Nat):Int))) rfl (by show bg (aA _+aA _)=_;rw[ni,<-zbU,zbt]) ?_;refine aC IX (2^(e+p-1).toNat+r) (by show _<bh*bh;omega) (I ?_);exact au rfl (.refl _)
def Z9:bc where
 L:=Int×Int×Int
 args:=fun(e,p,r)=>[hz e p,bg (aA r)]
 pre:=fun(e,p,r)=>b0 e p∧r.natAbs<In e p
 res:=fun(e,p,r)=>cN (eK e p (decide (r<0))+r.natAbs)
def apI:a6 aS.ctx 150 Z9.spec:=by
 refine bq [(248,A6.spec),(253,IW.spec),(249,I4.spec),(254,ZS.spec)] S5.1 ?_;intro⟨e,p,r⟩ ⟨(h:b0 e p),(hr:r.natAbs<In e p)⟩ H aH;obtain⟨i1,i2⟩:=kR h;refine I ?_;refine aC Eh (aA r) trivial ?_;refine ag 7 (bg (aA (r.natAbs:Int))) rfl (congrArg bg (acT r)) ?_;refine aC IX r.natAbs (by show r.natAbs<bh*bh;omega) (I ?_);refine aC I5 (aA r) trivial (an 11 ?_);by_cases hn:r<0
 ·refine ag 11 (.b true) rfl (b2 (zad (by rw[(fu r).1,zbx hn];decide))) (I ?_);refine aC aps (e,p,r.natAbs) ⟨h,hr⟩ (I ?_);exact au rfl (.of (by show cN _=cN (eK e p (decide (r<0))+_);rw[zad hn]))
 ·refine ag 11 (.b false) rfl (b2 (zac (by rw[(fu r).1];have:=zeN.2 (zcl.1 hn);omega))) (I ?_);exact au rfl (.of (by show cN _=cN (eK e p (decide (r<0))+_);rw[zac hn,show eK e p false=0 from rfl,zav]))
def ZG:bc where
 L:=Int×Int
 args:=fun(e,p)=>[hz e p,.i .i64 0]
 pre:=fun(e,p)=>b0 e p
 res:=fun(e,p)=>.i .i64 0
def aph:a6 aS.ctx 255 ZG.spec:=by
 refine bq [(135,yE.spec)] T7.1 ?_;intro⟨e,p⟩ (h:b0 e p) H aH;refine I ?_;refine aC El (e,p) trivial ?_;refine ag 12 (.i .i64 0) rfl (congrArg (ah.i .i64) (zab h)) (I ?_);exact au rfl (.refl _)
def aam:bc where
 L:=Int×Int×Nat
 args:=fun(e,p,w)=>[hz e p,cN w]
 pre:=fun(e,p,w)=>b0 e p∧w<2^(e+p).toNat
 res:=fun(e,p,w)=>.b true
def ab4(h:b0 e p):(e+p).toNat=(e+p-1).toNat+1:=by
 obtain⟨J,U,af,ax,a0⟩:=h;omega
def apO:a6 aS.ctx 256 aam.spec:=by
 refine bq [(246,Ek.spec),(250,rG.spec),(79,px.spec)] T8.1 ?_;intro⟨e,p,w⟩ ⟨(h:b0 e p),(hw:w<2^(e+p).toNat)⟩ H aH;obtain⟨i1,i2⟩:=kR h;obtain⟨t1,t2⟩:=sX h;have t3:=ab4 h;obtain⟨J,U,af,ax,a0⟩:=id h;have fP:2^(e+p).toNat<bh*bh:=by rw[t3,zak];exact i2
 have vQ:w<bh*bh:=zcO hw fP;refine I ?_;refine aZ IH w vQ (an 11 ?_);refine cm 11 (.i .i64 ((e+p).toNat:Nat)) rfl rfl (bo (by omega) (by omega) (by omega)) ?_;refine I ?_;refine aZ rH ((e+p).toNat:Int) ⟨by show _<=((e+p).toNat:Int);omega,by show((e+p).toNat:Int)<=_;omega⟩ ?_;refine ag 12 (bg (aA ((2^(e+p).toNat:Nat):Int))) rfl (by show bg (b9 (aA 1) _)=_;rw[oH,zaZ]) (I ?_);refine aZ py (aA (w:Int),aA ((2^(e+p).toNat:Nat):Int)) ⟨cJ (nO (uW vQ)) (by decide),cJ (nO (uW fP)) (by decide)⟩ (I ?_);exact au rfl (.of (b2 (zad (pR.2 (oG.2 (by omega))))))
def aao:bc where
 L:=Int×Int×Nat
 args:=fun(e,p,w)=>[hz e p,.i .i64 0,.c5 2 Nat qE [w]]
 pre:=fun(e,p,w)=>b0 e p∧w<2^(e+p).toNat
 res:=fun(e,p,w)=>.i .i64 0
def apQ:a6 aS.ctx 151 aao.spec:=by
 refine bq [(255,ZG.spec),(256,aam.spec)] S6.1 ?_;intro⟨e,p,w⟩ ⟨(h:b0 e p),(hw:w<2^(e+p).toNat)⟩ H aH;refine I ?_;refine aC aph (e,p) h (I ?_);refine df (L:=Nat) (fun k=>k<=1) (fun(k:Nat)=>⟨[.c 76 [.i .i64 e,.i .i64 p]],1,[(2,.c5 2 Nat qE [w]),(3,.p 0 0),(7,.i .i64 0),(8,.i .i64 (k:Nat))]⟩) (fun k=>1-k) [0] 0 (zaf _) (by show 1-0<bT+1;unfold bT;omega) du ?_;intro(k:Nat) ab;cases k with
 |zero=>
  refine I ?_;refine hK (j:=0) w rfl ?_;refine I ?_;refine aZ apO (e,p,w) ⟨h,hw⟩ (I ?_);exact ba [0] 1 ⟨by decide,by decide⟩ du
 |succ i=>
  have:i=0:=by omega
  subst this;refine I ?_;exact au rfl (.refl _)
def ZQ:bc where
 L:=Nat×Bool×Rat
 args:=fun(r,neg,x)=>[.agg (.i .i64 (if r=0 then 1 else 2):: .b neg::pr x)]
 pre:=fun _=>True
 res:=fun _=>.b true
def apr:a6 aS.ctx 152 ZQ.spec:=by
 refine bq [] S7.1 ?_;intro⟨r,neg,x⟩ _ H aH;by_cases h:r=0
 ·refine ag 0 (.agg (.i .i64 1:: .b neg::pr x)) rfl (by show ah.agg (.i .i64 (if r=0 then 1 else 2)::_)=_;rw[zab h]) (I ?_);exact au rfl (.refl _)
 ·refine ag 0 (.agg (.i .i64 2:: .b neg::pr x)) rfl (by show ah.agg (.i .i64 (if r=0 then 1 else 2)::_)=_;rw[zaa h]) (I ?_);exact au rfl (.refl _)
def aag:bc where
 L:=Int×Int
 args:=fun(e,p)=>[hz e p]
 pre:=fun(e,p)=>b0 e p
 res:=fun(e,p)=>.i .i64 (2*ch e+1)
def OV:a6 aS.ctx 259 aag.spec:=by
 refine bq [(252,yD.spec)] Ub.1 ?_;intro⟨e,p⟩ (h:b0 e p) H aH;have hb:=ia h.1 h.2.1;refine I ?_;refine aC A7 (e,p) h (an 5 ?_);refine ag 5 (.i .i64 (2*ch e)) rfl (bo rfl (by omega) (by omega)) (an 6 ?_);refine ag 6 (.i .i64 (2*ch e+1)) rfl (bo rfl (by omega) (by omega)) (I ?_);exact au rfl (.refl _)
def OG(e p:Int)(neg:Bool)(r:Nat):ac ah:=.i .i64 (if r=0 then 1 else 2):: .b neg::pr (cv e p (mH neg r))
def OH:bc where
 L:=Int×Int×Bool×Nat
 args:=fun(e,p,neg,r)=>[hz e p,cN (eK e p neg+r)]
 pre:=fun(e,p,neg,r)=>b0 e p∧r<In e p
 res:=fun(e,p,neg,r)=>.agg (OG e p neg r)
def ZF(h:b0 e p){j:Nat}(J:n<=2*2^aW p)(U:2^aW p<=n∨j=0):b9 (aA (n:Int)) ((j:Int)-cF e p)=cv e p ((n+j*2^aW p:Nat):Int):=(V3 h J U).1
def Z2:a6 aS.ctx 153 OH.spec:=by
 refine bq [(246,Ek.spec),(257,OK.spec),(258,OS.spec),(249,I4.spec),(250,rG.spec),(259,aag.spec),(79,px.spec),(144,wB.spec),(260,IT.spec),(244,OU.spec),(143,uD.spec),(252,yD.spec),(251,uF.spec),(242,A8.spec)] S8.1 ?_;intro⟨e,p,neg,r⟩ ⟨(h:b0 e p),(hr:r<In e p)⟩ H aH;obtain⟨i1,i2⟩:=kR h;have it:=MZ h;have cw:=MY h;have aq:=pX h;have hp:=qt h;have z4:=F6 h;have ai:=EM h neg;obtain⟨t1,t2⟩:=sX h;obtain⟨J,U,af,ax,a0⟩:=id h;have hb:=ia J U;have fP:=zag (aW p);obtain⟨E,rfl⟩:∃E:Nat,e=(E:Int):=⟨e.toNat,by omega⟩;have xA:2^((E:Int)+p-1).toNat=2^E*2^aW p:=by rw[<-zal];congr 1;omega
 have GJ:=zag E;obtain⟨s,k9,k8⟩:∃s:Nat,eK E p neg=s*(2^E*2^aW p)∧s=(if neg then 1 else 0):=by
  unfold eK;rw[xA];cases neg
  ·exact⟨0,by simp,rfl⟩
  ·exact⟨1,by simp,rfl⟩
 have kx:s<=1:=by rw[k8];split<;>omega
 have sm:decide (0<(aA (s:Int)).num.sign)=neg:=by
  rw[(fu _).1,k8];cases neg<;>rfl
 rw[xA]at i1 i2 it;have vM:r<2^E*2^aW p:=by omega
 have hw:s*(2^E*2^aW p)+r<bh*bh:=by
  have:=fq (2^E*2^aW p) kx;omega
 have az:(s*(2^E*2^aW p)+r)/2^aW p%2^E=r/2^aW p:=RZ fP vM;have ae:(s*(2^E*2^aW p)+r)/2^0%2^aW p=r%2^aW p:=by rw[zbi,zbV,<-zat,zbt,zdP]
 have cr:(s*(2^E*2^aW p)+r)/2^((E:Int)+p-1).toNat%2^1=s:=by
  rw[xA,zai s,zde (by exact zbe GJ fP),zaX vM,zaJ];omega
 refine ag 1 (cN (s*(2^E*2^aW p)+r)) rfl (by rw[k9]) ?_;generalize amf:s*(2^E*2^aW p)+r=w at *;have wT:=uW hw;have akO:r%2^aW p<2^aW p:=zae _ fP;have mX:=zaN r (2^aW p);have hj:r/2^aW p<(2*ch (E:Int)+1).toNat:=by
  rw[zbd fP];exact hr
 have xW:r=0↔r/2^aW p=0∧r%2^aW p=0:=by
  constructor
  ·intro h0;subst h0;exact⟨zdg _,Nat.zero_mod _⟩
  ·intro⟨a,b⟩;rw[a,b,zbw]at mX;omega
 generalize r/2^aW p=F at *;generalize r%2^aW p=f at *;have lJ:r≠0->bY (.agg (.i .i64 2:: .b neg::pr (cv E p (mH neg r)))) (OH.res (E,p,neg,r)):=fun h0=>.of (by show _=ah.agg (OG E p neg r);unfold OG;rw[zaa h0]);have NJ:cq 9 (aA (f:Int)):=lf h (by omega);refine I ?_;refine aC IH w hw (an 16 ?_);refine ag 16 (.i .i64 (aW p:Nat)) rfl (bo (by omega) (by omega) (by omega)) ?_;refine aC yH (w,0,aW p) ⟨wT,by decide,by show aW p<=256;omega⟩ ?_;refine ag 17 (bg (aA (f:Int))) rfl (by show bg (aA ((w/2^0%2^aW p:Nat):Int))=_;rw[ae]) (an 21 ?_);refine ag 21 (.i .i64 (aW p:Nat)) rfl (bo (by omega) (by omega) (by omega)) (I ?_);refine aC yH (w,aW p,E) ⟨wT,by show aW p<=256;omega,by show E<=256;omega⟩ ?_;refine ag 24 (bg (aA (F:Int))) rfl (by show bg (aA ((w/2^aW p%2^E:Nat):Int))=_;rw[az]) ?_;refine aC Es F (by show F<9223372036854775808;omega) (an 26 ?_);refine ag 26 (.i .i64 (F:Int)) rfl (dY (gd (n:=((F:Nat):Int)) (by omega) (by omega))) (an 32 ?_);refine ag 32 (.i .i64 ((E:Int)+p)) rfl (bo rfl (by omega) (by omega)) (an 33 ?_);refine ag 33 (.i .i64 (((E:Int)+p-1).toNat:Nat)) rfl (bo (by omega) (by omega) (by omega)) ?_;refine aC yH (w,((E:Int)+p-1).toNat,1) ⟨wT,by show _<=256;omega,by decide⟩ ?_;refine ag 34 (bg (aA (s:Int))) rfl (by show bg (aA ((w/2^_%2^1:Nat):Int))=_;rw[cr]) ?_;refine aC I5 (aA (s:Int)) trivial (an 36 ?_);refine ag 36 (.b neg) rfl (b2 sm) (an 40 ?_);refine ag 40 (.i .i64 (p-2)) rfl (bo rfl (by omega) (by omega)) ?_;refine aC rH (p-2) ⟨by show _<=p-2;omega,by show p-2<=_;omega⟩ (I ?_);refine aC OV ((E:Int),p) h (an 63 ?_);refine ag 63 (.b false) rfl (b2 (zac (by show¬(F:Int)=2*ch (E:Int)+1;omega))) (I ?_);refine aC OV ((E:Int),p) h (an 75 ?_);refine ag 75 (.b false) rfl (b2 (zac (by show¬(F:Int)=2*ch (E:Int)+1;omega))) (I ?_);refine aC OV ((E:Int),p) h (an 92 ?_);refine ag 92 (.b false) rfl (b2 (zac (by show¬(F:Int)=2*ch (E:Int)+1;omega))) (an 99 ?_);by_cases kq:F=0
 ·refine ag 99 (.b true) rfl (b2 (zad (by show(F:Int)=0;omega))) (I ?_);refine aC I5 (aA (f:Int)) trivial (an 103 ?_);have WZ:(aA (f:Int)).num.sign=0↔f=0:=by rw[(fu _).1,zbF];omega
  by_cases mY:f=0
  ·refine ag 103 (.b true) rfl (b2 (zad (WZ.2 mY))) ?_;have kb:=xW.2 ⟨kq,mY⟩;have oq:cv (E:Int) p (mH neg r)=0:=by
    have:mH neg r=0:=by unfold mH;split<;>omega
    rw[this,wR]
   refine I ?_;refine au rfl ?_;show bY _ (.agg (.i .i64 (if r=0 then 1 else 2):: .b neg::pr (cv (E:Int) p (mH neg r))));rw[oq,zab kb];exact bY.agg ⟨.refl _,.refl _,.refl _,bY.nl.trans (.of (by show c4 []=c4 (aT _ 0);rw[ft])),bY.nl,trivial⟩
  ·refine ag 103 (.b false) rfl (b2 (zac (mt WZ.1 mY))) ?_;have kb:r≠0:=fun h=>mY (xW.1 h).2;refine an 109 ?_;refine ag 109 (.b true) rfl (b2 (zad (by show(F:Int)=0;omega))) (I ?_);refine aZ OE ((E:Int),p) h ?_;refine ag 112 (bg (b9 (mkRat 1 1) (-(cF E p:Int)))) rfl (by show bg (b9 _ (2-ch E-p))=_;congr 2;omega) (I ?_);refine aZ aaf (aA (f:Int),b9 (mkRat 1 1) (-(cF E p:Int))) ⟨cJ NJ (by decide),cJ (AL (c:=1200) (by omega) (by omega)) (by decide)⟩ ?_;have aI:cv (E:Int) p (r:Int)=aA (f:Int)*b9 (mkRat 1 1) (-(cF E p:Int)):=by
    have ck:=ZF h (n:=f) (j:=0) (by omega) (.inr rfl);rw[zas,zaJ]at ck;rw[show r=f by rw[<-mX,kq];omega,<-ck,P6 (j:=0) (D:=cF E p) (by omega),m9 (u:=0) (v:=cF E p) (by omega),(fu _).1,(fu _).2,zaw]
   refine ag 113 (bg (cv E p (r:Int))) rfl (by rw[aI];rfl) ?_;cases neg with
   |false=>
    refine I ?_;exact au rfl (lJ kb)
   |true=>
    refine I ?_;refine aC wA (cv E p (r:Int)) trivial ?_;refine ag 119 (bg (cv E p (-(r:Int)))) rfl (by show bg (-_)=_;rw[uV]) (I ?_);exact au rfl (lJ kb)
 ·refine ag 99 (.b false) rfl (b2 (zac (by show¬(F:Int)=0;omega))) ?_;have kb:r≠0:=fun h=>kq (xW.1 h).1;refine an 109 ?_;refine ag 109 (.b false) rfl (b2 (zac (by show¬(F:Int)=0;omega))) (an 44 ?_);refine cm 44 (.i .i64 (aW p:Nat)) rfl rfl (bo (by omega) (by omega) (by omega)) ?_;refine I ?_;refine aZ rH (aW p:Int) ⟨by show _<=(aW p:Int);omega,by show(aW p:Int)<=_;omega⟩ ?_;refine ag 45 (bg (aA ((2^aW p:Nat):Int))) rfl (by show bg (b9 (aA 1) _)=_;rw[oH,zaZ]) (I ?_);refine aZ uE (aA ((2^aW p:Nat):Int),aA (f:Int)) ⟨cJ (lf h (by have:=nL h;omega)) (by decide),cJ NJ (by decide)⟩ ?_;refine ag 47 (bg (aA ((2^aW p+f:Nat):Int))) rfl (by show bg (aA _+aA _)=_;rw[ni,<-zbU]) (I ?_);refine aZ A7 ((E:Int),p) h (an 52 ?_);refine ag 52 (.i .i64 ((F:Int)-ch E)) rfl (bo rfl (by omega) (by omega)) (an 55 ?_);refine ag 55 (.i .i64 ((F:Int)-ch E-p)) rfl (bo rfl (by omega) (by omega)) (an 56 ?_);refine ag 56 (.i .i64 (((F-1:Nat):Int)-cF E p)) rfl (bo (by omega) (by omega) (by omega)) ?_;have fe:cq 9 (aA ((2^aW p+f:Nat):Int)):=lf h (by have:=nL h;omega);refine I ?_;refine aZ sP (aA ((2^aW p+f:Nat):Int),((F-1:Nat):Int)-cF E p) ⟨cJ fe (by decide),by show _<=((F-1:Nat):Int)-cF E p;omega,by show((F-1:Nat):Int)-cF E p<=_;omega⟩ ?_;have aI:b9 (aA ((2^aW p+f:Nat):Int)) (((F-1:Nat):Int)-cF E p)=cv (E:Int) p (r:Int):=by
   rw[ZF h (by omega) (.inl (by omega))];congr 2;obtain⟨k,ab⟩:∃k,F=k+1:=⟨F-1,by omega⟩;rw[<-mX,ab,Nat.add_sub_cancel,zaz,zai k,zaE];omega
  refine ag 57 (bg (cv E p (r:Int))) rfl (congrArg bg aI) ?_;cases neg with
  |false=>
   refine I ?_;exact au rfl (lJ kb)
  |true=>
   refine I ?_;refine aC wA (cv E p (r:Int)) trivial ?_;refine ag 119 (bg (cv E p (-(r:Int)))) rfl (by show bg (-_)=_;rw[uV]) (I ?_);exact au rfl (lJ kb)
def aal:bc where
 L:=Int×Int×Bool×Nat
 args:=fun(e,p,neg,r)=>[hz e p,cN (eK e p neg+r)]
 pre:=fun(e,p,neg,r)=>b0 e p∧r<In e p
 res:=fun(e,p,neg,r)=>.bu [bg (cv e p (mH neg r)),.i .i64 0]
def apN:a6 aS.ctx 71 aal.spec:=by
 refine bq [(151,aao.spec),(153,OH.spec),(152,ZQ.spec)] Vw.1 ?_;intro⟨e,p,neg,r⟩ ⟨(h:b0 e p),(hr:r<In e p)⟩ H aH;obtain⟨i1,i2⟩:=kR h;obtain⟨t1,t2⟩:=sX h;have hw:eK e p neg+r<2^(e+p).toNat:=by
  rw[ab4 h,zak];unfold eK;split<;>omega
 refine an 9 ?_;refine mD 3 (z:=2) qE [eK e p neg+r] ?_;refine jh 9 ?_;refine I ?_;refine aC apQ (e,p,eK e p neg+r) ⟨h,hw⟩ (I ?_);refine aC Z2 (e,p,neg,r) ⟨h,hr⟩ (I ?_);refine aC apr (r,neg,cv e p (mH neg r)) trivial (I ?_);refine aC Z2 (e,p,neg,r) ⟨h,hr⟩ (I ?_);exact au rfl (.refl _)
def aol(h:cq k x):cq (k+1) (aA (j5 x)):=by
 have hq:dy k (x.num.natAbs/x.den):=lg h.1 (zau _ _);have J:dy 1 1:=by show(aT _ 1).length<=_;rw[qT];exact zcn _
 by_cases ab:k=0
 ·subst ab;have h0:=h.2;have:=(nu (b:=1000000000) (by decide)).1 (zbz (Nat.le_zero.1 h0));exact absurd this x.den_nz
 refine⟨?_,?_⟩
 ·rw[(fu _).1,<-LA];unfold ca;have hn:∀v:Nat,v<=x.num.natAbs/x.den+1->dy (k+1) v:=fun v aI=>lg (BZ hq (ct J (by omega))) aI;split
  ·rw[zbp,zaq];exact hn _ (by split<;>omega)
  ·rw[zaq];exact hn _ (by split<;>omega)
 ·rw[(fu _).2];exact ct J (by omega)
def YC(h:cq k x):cq k (-x):=NN h
def OA:bc where
 L:=Int×Int×Rat
 args:=fun(e,p,x)=>[hz e p,bg x]
 pre:=fun(e,p,x)=>b0 e p∧cq 300 x
 res:=fun(e,p,x)=>bg (aA (cO e p false x))
def ZR:a6 aS.ctx 145 OA.spec:=by
 refine bq [(149,IM.spec),(79,px.spec),(148,ON.spec),(242,A8.spec),(27,sN.spec),(144,wB.spec),(243,OT.spec),(245,IV.spec),(30,IL.spec),(244,OU.spec)] SZ.1 ?_;intro⟨e,p,x⟩ ⟨(h:b0 e p),(aa:cq _ x)⟩ H aH;have hi:=nL h;have oo:=zag (aW p);have aO:=CR h;have aD:=YB h;have oi:=aea h x;obtain⟨aM,aN,_,_⟩:=oT (x:=x) h;refine I ?_;refine aC OB (e,p) h (I ?_);refine aC py (x,ib e p) ⟨cJ aa (by decide),cJ aD (by decide)⟩ (an 13 ?_);by_cases ee:x<ib e p
 case neg=>
  refine ag 13 (.b true) rfl (b2 (zad (by have:=mt pR.1 ee;omega))) (I ?_);refine ag 15 (bg (cv e p ((In e p:Int)-1))) rfl (by rw[<-aO];rfl) ?_;refine aC I2 (e,p,(In e p:Int)-1) ⟨h,by omega⟩ (I ?_);rw[zab ee]at oi;exact au rfl (.of (by show bg (aA _)=bg (aA (cO e p false x));rw[oi]))
 rw[zaa (fun aB=>aB ee)]at oi;refine ag 13 (.b false) rfl (b2 (zac (by have:=pR.2 ee;omega))) (I ?_);refine aZ wA (ib e p) trivial (I ?_);refine aZ py (x,-ib e p) ⟨cJ aa (by decide),cJ (YC aD) (by decide)⟩ (an 22 ?_);by_cases fa:x< -ib e p
 ·refine ag 22 (.b true) rfl (b2 (zad (pR.2 fa))) ?_;rw[zab fa]at oi;refine I ?_;refine aZ wA (ib e p) trivial ?_;refine ag 25 (bg (cv e p (-((In e p:Int)-1)))) rfl (by rw[uV,<-aO];rfl) (I ?_);refine aZ I2 (e,p,-((In e p:Int)-1)) ⟨h,by omega⟩ (I ?_);refine aZ mC (1:Int) ⟨by decide,by decide⟩ (I ?_);refine aZ Er (aA (-((In e p:Int)-1)),aA 1) ⟨cJ (lf h (by omega)) (by decide),cJ (lf h (by omega)) (by decide)⟩ (I ?_);exact au rfl (.of (by show bg (aA _-aA _)=bg (aA (cO e p false x));rw[oi,y9]))
 refine ag 22 (.b false) rfl (b2 (zac (mt pR.1 fa))) ?_;rw[zaa fa]at oi;have k5:=anU h x;rw[<-oi]at k5;have fH: -((In e p:Int)-1)<=cO e p false x:=(xa h (by omega)).2 (by rw[uV,<-aO];exact zbO.1 fa);obtain⟨a5,bD⟩:=abM h aa;have AO:=AL (c:=20000) (k:=hS e p x) (by omega) (by omega);have P0:0<(b9 (mkRat 1 1) (hS e p x)).num:=by
  rw[(sT _).1];exact zdV (by decide)
 have aQ:cq 20301 (b9 x (-hS e p x)):=AK 20000 aa (by omega) (by omega);refine I ?_;refine aC aac (e,p,x) ⟨h,cJ aa (by decide)⟩ (I ?_);refine aZ OJ (x,b9 (mkRat 1 1) (hS e p x)) ⟨cJ aa (by decide),cJ AO (by decide),P0⟩ ?_;refine ag 35 (bg (b9 x (-hS e p x))) rfl (congrArg bg (aaj _ _)) (I ?_);refine aZ Em (b9 x (-hS e p x)) (cJ aQ (by decide)) (I ?_);refine aZ aaf (aA (j5 (b9 x (-hS e p x))),b9 (mkRat 1 1) (hS e p x)) ⟨cJ (aol aQ) (by decide),cJ AO (by decide)⟩ ?_;refine ag 38 (bg (cv e p (cO e p false x))) rfl (congrArg bg k5) (I ?_);refine aZ I2 (e,p,cO e p false x) ⟨h,by show(cO e p false x).natAbs<_;omega⟩ (I ?_);exact au rfl (.refl _)
def Ow:bc where
 L:=Int×Int×Rat
 args:=fun(e,p,x)=>[hz e p,bg x]
 pre:=fun(e,p,x)=>b0 e p∧cq 300 x
 res:=fun(e,p,x)=>bg (aA (cO e p true x))
def ZL:a6 aS.ctx 146 Ow.spec:=by
 refine bq [(242,A8.spec),(145,OA.spec)] S0.1 ?_;intro⟨e,p,x⟩ ⟨(h:b0 e p),(aa:cq _ x)⟩ H aH;refine I ?_;refine aZ wA x trivial (I ?_);refine aZ ZR (e,p,-x) ⟨h,YC aa⟩ (I ?_);refine aZ wA (aA (cO e p false (-x))) trivial (I ?_);exact au rfl (.of (by show bg (-aA _)=bg (aA (cO e p true x));rw[Fe,Rc,zdS];rfl))
def Ox:bc where
 L:=Int×Int×Rat×Rat
 args:=fun(e,p,aL,hi)=>[hz e p,bg aL,bg hi]
 pre:=fun(e,p,aL,hi)=>b0 e p∧cq 300 aL∧cq 300 hi
 res:=fun(e,p,aL,hi)=>if 4611686018427387904<eb e p aL hi then .bu [.i .i64 0,.i .i64 3]else .bu [.i .i64 (max (eb e p aL hi) 0),.i .i64 0]
def apl:a6 aS.ctx 69 Ox.spec:=by
 refine bq [(135,yE.spec),(145,OA.spec),(146,Ow.spec),(144,wB.spec),(27,sN.spec),(143,uD.spec),(79,px.spec),(147,Z3.spec),(29,IQ.spec)] Vu.1 ?_;intro⟨e,p,aL,hi⟩ ⟨(h:b0 e p),(hl:cq _ aL),(hh:cq _ hi)⟩ H aH;obtain⟨oB,oC,_,_⟩:=oT (x:=hi) h;obtain⟨_,_,nT,sQ⟩:=oT (x:=aL) h;have WD:=nL h;have oo:=zag (aW p);refine I ?_;refine aC El (e,p) trivial ?_;refine ag 12 (.i .i64 0) rfl (congrArg (ah.i .i64) (zab h)) (I ?_);refine aZ ZR (e,p,hi) ⟨h,hh⟩ (I ?_);refine aZ ZL (e,p,aL) ⟨h,hl⟩ (I ?_);refine aZ Er (aA (cO e p false hi),aA (cO e p true aL)) ⟨cJ (lf h (by omega)) (by decide),cJ (lf h (by omega)) (by decide)⟩ ?_;refine ag 20 (bg (aA (cO e p false hi-cO e p true aL))) rfl (by show bg (aA _-aA _)=_;rw[y9]) (I ?_);refine aZ mC (1:Int) ⟨by decide,by decide⟩ (I ?_);refine aZ uE (aA (cO e p false hi-cO e p true aL),aA 1) ⟨cJ (lf h (by omega)) (by decide),cJ (lf h (by omega)) (by decide)⟩ ?_;refine ag 22 (bg (aA (eb e p aL hi))) rfl (by show bg (aA _+aA _)=_;rw[ni];rfl) ?_;have hc:(eb e p aL hi).natAbs<=4*In e p+4:=by unfold eb;omega
 have res:∀{r},(4611686018427387904<eb e p aL hi->bY r (.bu [.i .i64 0,.i .i64 3]))->(¬4611686018427387904<eb e p aL hi->bY r (.bu [.i .i64 (max (eb e p aL hi) 0),.i .i64 0]))->bY r (Ox.res (e,p,aL,hi)):=fun J U=>by
  show bY _ (if _ then _ else _);split
  ·exact J (by assumption)
  ·exact U (by assumption)
 generalize eb e p aL hi=n at *;refine I ?_;refine aZ mC (4611686018427387904:Int) ⟨by decide,by decide⟩ (I ?_);refine aZ py (aA n,aA 4611686018427387904) ⟨cJ (lf h hc) (by decide),cJ (sE (k:=2) (by decide)) (by decide)⟩ (I ?_);refine cf (fun aO=> ?_) (fun aO=> ?_)
 ·have aO:=oG.1 (n7.1 aO);refine I ?_;exact au rfl (res (fun _=>.refl _) (fun hn=>absurd aO hn))
 ·have aO:¬4611686018427387904<n:=fun h=>aO (n7.2 (oG.2 h));refine an 29 ?_;refine Bj 29 (bg (aA 0)) rfl (OD.trans (.of (by unfold aA;rw[zcy]))) ?_;refine I ?_;refine aC apA (n,0) ⟨cJ (lf h hc) (by decide),cJ (lf h (by omega)) (by decide)⟩ ?_;refine aC IS (max n 0:Int) ⟨by show -9223372036854775808<max n 0;omega,by show max n 0<9223372036854775808;omega⟩ ?_;refine ag 31 (.bu [.i .i64 (max n 0),.i .i64 0]) rfl rfl (I ?_);exact au rfl (res (fun h=>absurd h aO) (fun _=>.refl _))
def Z7:bc where
 L:=Int×Int×Rat×Int
 args:=fun(e,p,aL,n)=>[hz e p,bg aL,.i .i64 n]
 pre:=fun(e,p,aL,n)=>b0 e p∧cq 300 aL∧0<=n∧n<9223372036854775808∧cO e p true aL+n<In e p
 res:=fun(e,p,aL,n)=>.bu [cN (eK e p (decide (cO e p true aL+n<0))+(cO e p true aL+n).natAbs),.i .i64 0]
def apE:a6 aS.ctx 70 Z7.spec:=by
 refine bq [(135,yE.spec),(146,Ow.spec),(27,sN.spec),(143,uD.spec),(149,IM.spec),(148,ON.spec),(79,px.spec),(150,Z9.spec)] Vv.1 ?_;intro⟨e,p,aL,n⟩ ⟨(h:b0 e p),(hl:cq _ aL),(h0:0<=n),(J:n<9223372036854775808),(U:cO e p true aL+n<In e p)⟩ H aH;obtain⟨_,_,nT,sQ⟩:=oT (x:=aL) h;have WD:=nL h;have oo:=zag (aW p);have vB:=CR h;refine I ?_;refine aC El (e,p) trivial ?_;refine ag 10 (.i .i64 0) rfl (congrArg (ah.i .i64) (zab h)) (an 14 ?_);refine v0 14 (show¬n<0 by omega) (I ?_);refine aC ZL (e,p,aL) ⟨h,hl⟩ (I ?_);refine aC mC n ⟨by show -9223372036854775808<=n;omega,J⟩ ?_;have D1:cq 9 (aA n):=sE (k:=8) (by omega);refine aC uE (aA (cO e p true aL),aA n) ⟨cJ (lf h (by omega)) (by decide),cJ D1 (by decide)⟩ ?_;refine ag 21 (bg (aA (cO e p true aL+n))) rfl (by show bg (aA _+aA _)=_;rw[ni]) ?_;obtain⟨a,aY⟩:∃a,a=cO e p true aL+n:=⟨_,rfl⟩;rw[<-aY]at U⊢;have akj:a.natAbs<In e p:=by omega
 refine I ?_;refine aZ OB (e,p) h ?_;refine ag 25 (bg (cv e p ((In e p:Int)-1))) rfl (by rw[<-vB];rfl) (I ?_);refine aZ I2 (e,p,(In e p:Int)-1) ⟨h,by omega⟩ (I ?_);refine aZ py (aA a,aA ((In e p:Int)-1)) ⟨cJ (lf h (by omega)) (by decide),cJ (lf h (by omega)) (by decide)⟩ (an 28 ?_);refine ag 28 (.b false) rfl (b2 (zac (fun aO=>by have:=oG.1 (n7.1 aO);omega))) (I ?_);refine aC apI (e,p,a) ⟨h,by show a.natAbs<_;omega⟩ (I ?_);exact au rfl (.of (by show _=ah.bu [cN (eK e p (decide (cO e p true aL+n<0))+(cO e p true aL+n).natAbs),.i .i64 0];rw[<-aY];rfl))
structure qH where
 p:dN
 i:Nat
 x:jZ
 e:Int
 q:Int
 a:Rat
 b:Rat
def qH.ok(l:qH):Prop:=oO l.p∧l.p.ins[l.i]? =some l.x∧Kg l.p l.x l.e l.q l.a l.b
def qH.c(l:qH):Int:=eb l.e l.q l.a l.b
def qH.yb(l:qH):Prop:=4611686018427387904<l.c
instance(l:qH):Decidable l.yb:=by unfold qH.yb;infer_instance
def Oz:bc where
 L:=qH
 args:=fun l=>[h8 l.p,.i .i64 l.i]
 pre:=fun l=>l.ok
 res:=fun l=>.bu [bg l.a,bg l.b,.i .i64 (if l.yb then 0 else max l.c 0),.i .i64 (if l.yb then 3 else 0)]
def ZP:a6 aS.ctx 24 Oz.spec:=by
 refine bq [(68,A9.spec),(69,Ox.spec)] TQ.1 ?_;intro l ⟨(ai:oO l.p),aa,ok⟩ H aH;obtain⟨p,i,x,e,q,a,b⟩:=l;have aa:p.ins[i]? =some x:=aa;obtain⟨⟨f,(ae:x.f=f),(hq:p.bG[f]? =some (e,q))⟩,(aY:fx x.aL=some a),(hb:fx x.hi=some b),(er:hU e q a),_,_⟩:=ok;obtain⟨eW,g1⟩:=ai.1 x (zaA aa);have yn:=Ef eW aY;have qn:=Ef g1 hb;refine I ?_;refine ep x aa ?_;refine I ?_;refine aC Ep x.aL eW ?_;refine ag 23 (.bu [bg a,.i .i64 0]) rfl (by show mA x.aL=_;unfold mA;rw[aY]) (I ?_);refine aC Ep x.hi g1 ?_;refine ag 29 (.bu [bg b,.i .i64 0]) rfl (by show mA x.hi=_;unfold mA;rw[hb]) (an 36 ?_);refine cm 36 (.i .i64 (f:Int)) rfl rfl (by rw[ae]) ?_;refine I ?_;refine hK (e,q) hq ?_;refine I ?_;refine aZ apl (e,q,a,b) ⟨er.1,yn,qn⟩ ?_;refine ag 41 (.bu [.i .i64 (if 4611686018427387904<eb e q a b then 0 else max (eb e q a b) 0),.i .i64 (if 4611686018427387904<eb e q a b then 3 else 0)]) rfl (by show(if _ then _ else _:ah)=_;split<;>rfl) (I ?_);exact au rfl (.refl _)
def aak:bc where
 L:=qH×Int
 args:=fun(l,k)=>[h8 l.p,.i .i64 l.i,.i .i64 k]
 pre:=fun(l,k)=>l.ok∧0<=k∧k<9223372036854775808∧cO l.e l.q true l.a+k<In l.e l.q
 res:=fun(l,k)=>.s (kg (cv l.e l.q (cO l.e l.q true l.a+k)))
def OW:a6 aS.ctx 25 aak.spec:=by
 refine bq [(24,Oz.spec),(70,Z7.spec),(71,aal.spec),(72,Ot.spec)] T1.1 ?_;intro⟨l,k⟩ ⟨bE,(bL:0<=k),(a5:k<_),ab⟩ H aH;obtain⟨ai,aa,ok⟩:=id bE;obtain⟨p,i,x,e,q,a,b⟩:=l;have ab:cO e q true a+k<In e q:=ab;have ai:oO p:=ai;have aa:p.ins[i]? =some x:=aa;obtain⟨⟨f,(ae:x.f=f),(hq:p.bG[f]? =some (e,q))⟩,(aY:fx x.aL=some a),(hb:fx x.hi=some b),(er:hU e q a),_,_⟩:=ok;obtain⟨eW,g1⟩:=ai.1 x (zaA aa);have yn:=Ef eW aY;obtain⟨_,_,nT,sQ⟩:=oT (x:=a) er.1;refine I ?_;refine aC ZP ⟨p,i,x,e,q,a,b⟩ bE (I ?_);refine hK x aa ?_;refine an 31 ?_;refine cm 31 (.i .i64 (f:Int)) rfl rfl (by rw[ae]) ?_;refine I ?_;refine hK (e,q) hq ?_;refine I ?_;refine aC apE (e,q,a,k) ⟨er.1,yn,bL,a5,ab⟩ (I ?_);refine aC apN (e,q,decide (cO e q true a+k<0),(cO e q true a+k).natAbs) ⟨er.1,by show(cO e q true a+k).natAbs<In e q;omega⟩ ?_;refine ag 44 (.bu [bg (cv e q (cO e q true a+k)),.i .i64 0]) rfl (by show ah.bu [bg (cv e q (mH _ _)),_]=_;rw[abe]) (I ?_);refine aC ZD (cv e q (cO e q true a+k)) (cJ (YE er.1 (by omega)) (by decide)) (I ?_);exact au rfl (.refl _)
def apF(p:dN)(i:Nat)(n c:Int)(k:Nat)(last:Int):ac (ac bv)->cW
 |[]=>⟨[.c 27 (g2 p)],1,[(1,.i .i64 i),(2,.i .i64 n),(3,.p 0 0),(11,.i .i64 c),(12,.nl),(13,.i .i64 last),(14,.i .i64 (k:Nat))]⟩
 |d::ds=>⟨[.c 27 (g2 p),.a 36 true 1 (ac bv) gB (d::ds)],2,[(1,.i .i64 i),(2,.i .i64 n),(3,.p 0 0),(11,.i .i64 c),(12,.bj 1 1 0 (ds.length+1) (ds.length+1)),(13,.i .i64 last),(14,.i .i64 (k:Nat))]⟩
def I1:bc where
 L:=dN×Int×Int
 args:=fun(p,i,n)=>[h8 p,.i .i64 i,.i .i64 n]
 pre:=fun(p,i,n)=>oO p
 res:=fun(p,i,n)=>sJ (lY p i n)
def apG:a6 aS.ctx 8 I1.spec:=by
 refine bq [(23,LP.spec),(24,Oz.spec),(25,aak.spec),(27,sN.spec),(26,OO.spec),(28,OL.spec),(30,IL.spec),(29,IQ.spec)] od.1 ?_;intro⟨p,i,n⟩ (ai:oO p) H aH;have bad:∀{c:Int},lY p i n=([],c)->bY (.bu [.nl,.i .i64 c]) (I1.res (p,i,n)):=fun h=>by
  show bY _ (sJ (lY p i n));rw[h];exact .bu ⟨.nl,.refl _,trivial⟩
 refine I ?_;refine aC V2 p ai (an 23 ?_);by_cases h0:(eM p).2.2=0
 case neg=>
  refine dW 23 h0 (an 44 ?_);refine v1 44 (show(eM p).2.2≠0 from h0) (I ?_);exact au rfl (bad (zab h0))
 refine dG 23 h0 (an 24 ?_);have tj:¬(0<=i∧i<(p.ins.length:Int)∧1<=n∧n<=400)->bY (.bu [.nl,.i .i64 7]) (I1.res (p,i,n)):=fun h=>bad ((zaa (fun aB=>aB h0)).trans (zab h));refine an 26 ?_;by_cases cP:i<0
 ·refine v1 26 cP (I ?_);exact au rfl (tj (by omega))
 refine v0 26 cP (an 32 ?_);by_cases cT:(p.ins.length:Int)<=i
 ·refine v1 32 cT (I ?_);exact au rfl (tj (by omega))
 refine v0 32 cT (an 36 ?_);by_cases ek:n<1
 ·refine v1 36 ek (I ?_);exact au rfl (tj (by omega))
 refine v0 36 ek (an 40 ?_);by_cases jR:400<n
 ·refine v1 40 jR (I ?_);exact au rfl (tj (by omega))
 refine v0 40 jR (an 44 ?_);refine v0 44 (show¬(eM p).2.2≠0 from fun h=>h h0) ?_;obtain⟨i,rfl⟩:∃k:Nat,i=(k:Int):=⟨i.toNat,by omega⟩;have ab:i<p.ins.length:=by omega
 have aa:=bV ab;obtain⟨e,q,a,b,ok⟩:=Xm (K4 h0) aa;have zV:=Zx (n:=n) h0 ab ⟨by omega,by omega⟩ aa ok;generalize tX:p.ins[i]=x at *;have bE:qH.ok ⟨p,i,x,e,q,a,b⟩:=⟨ai,aa,ok⟩;refine I ?_;refine aC ZP ⟨p,i,x,e,q,a,b⟩ bE ?_;by_cases hc:4611686018427387904<eb e q a b
 ·refine ag 49 (.bu [bg a,bg b,.i .i64 0,.i .i64 3]) rfl (by show ah.bu [_,_,.i .i64 (if 4611686018427387904<eb e q a b then _ else _),.i .i64 (if 4611686018427387904<eb e q a b then _ else _)]=_;rw[zab hc,zab hc]) (I ?_);exact au rfl (bad (zV.trans (zab hc)))
 have oU:=Ru ok.aY ok.le;have CZ:cO e q true a+(eb e q a b-1)=cO e q false b:=by unfold eb;omega
 have alT:=(oT (x:=b) ok.aY.1).2.1;refine ag 49 (.bu [bg a,bg b,.i .i64 (eb e q a b),.i .i64 0]) rfl (by show ah.bu [_,_,.i .i64 (if 4611686018427387904<eb e q a b then _ else max (eb e q a b) 0),.i .i64 (if 4611686018427387904<eb e q a b then _ else _)]=_;rw[zaa hc,zaa hc,show max (eb e q a b) 0=eb e q a b by omega]) ?_;have GL:lY p i n=((gz.mk e q a (eb e q a b)).sb n,0):=zV.trans (zaa hc);obtain⟨c,akt⟩:∃c,c=eb e q a b:=⟨_,rfl⟩;rw[<-akt]at hc oU CZ GL⊢;have ee:1<=c:=oU;refine an 58 ?_;by_cases wy:n=1
 ·refine v1 58 wy (I ?_);refine aC OW (⟨p,i,x,e,q,a,b⟩,0) ⟨bE,by decide,by decide,by show cO e q true a+0<In e q;omega⟩ ?_;refine ag 61 (.s ((gz.mk e q a c).at 0)) rfl rfl (an 62 ?_);refine mD 3 (z:=1) gB [(gz.mk e q a c).at 0] ?_;refine jh 62 ?_;refine I ?_;exact au rfl (.of (by show _=sJ (lY p i n);rw[GL];subst wy;rfl))
 refine v0 58 wy ?_;have AM:∀m:Int,m.natAbs<18446744073709551616->cq 9 (aA m):=fun m hm=>sE (k:=8) (by omega);refine I ?_;refine df (L:=Nat×Int×ac (ac bv)) (fun(k,last,l)=>(k:Int)<=n∧last=(mb c n k).2∧l=(mb c n k).1.map (gz.mk e q a c).at) (fun(k,last,l)=>apF p i n c k last l) (fun l=>n.toNat-l.1) [0] (0,-1,[]) ⟨by show(0:Int)<=n;omega,rfl,rfl⟩ (by show n.toNat-0<bT+1;unfold bT;omega) du ?_;rintro⟨k,last,l⟩ ⟨ab,lF,lG⟩;have hlen:l.length<=400:=by rw[lG,zbA];have:=Gy c n k;omega
 obtain⟨j,hi⟩:∃j,j=sa c n k:=⟨_,rfl⟩;have e0:(k:Int)<n->(mb c n (k+1)).1.map (gz.mk e q a c).at=(if j=last then l else l++[(gz.mk e q a c).at j])∧(mb c n (k+1)).2=j:=fun _=>by
  refine⟨?_,hi.symm⟩;show(if sa c n k=(mb c n k).2 then _ else _:ac Int).map (gz.mk e q a c).at=_;rw[<-hi,<-lF,lG];split
  ·rfl
  ·rw[zcW];rfl
 cases l with
 |nil=>
  refine an 65 ?_;by_cases a4:(k:Int)<n
  case neg=>
   refine v0 65 (show¬(k:Int)<n from a4) ?_;have p7:k=n.toNat:=by omega
   refine I ?_;refine au rfl ?_;show bY _ (sJ (lY p i n));rw[GL];unfold gz.sb;rw[<-p7];show bY _ (.bu [.c5 1 (ac bv) gB ((mb c n k).1.map (gz.mk e q a c).at),.i .i64 0]);rw[<-lG];exact .bu ⟨.nl,.refl _,trivial⟩
  obtain⟨s1,s2⟩:=e0 a4;obtain⟨aM,aN⟩:=Gx (k:=k) ee a4;rw[<-hi]at aM aN;have vL:j=(c-1)*(k:Int)/(n-1):=by rw[hi];exact zab (by omega)
  have q6:(k:Int)<400:=by omega
  have hm:((c-1)*(k:Int)).natAbs<1000000000^3:=by
   have J:=zdW (show c-1<=4611686018427387904 by omega) (show(k:Int)<=400 by omega) (by omega) (by decide);have U:=zbP (show 0<=c-1 by omega) (show(0:Int)<=(k:Int) by omega);generalize(c-1)*(k:Int)=y at *;omega
  have p9:cq 3 (aA ((c-1)*(k:Int))):=sE (k:=2) hm;refine v1 65 a4 (I ?_);refine aC mC (k:Int) ⟨by show(-9223372036854775808:Int)<=(k:Int);omega,by show(k:Int)<9223372036854775808;omega⟩ (an 71 ?_);refine ag 71 (.i .i64 (c-1)) rfl (bo rfl (by omega) (by omega)) ?_;refine aC mC (c-1:Int) ⟨by show -9223372036854775808<=c-1;omega,by show c-1<9223372036854775808;omega⟩ ?_;refine aC OP (aA (k:Int),aA (c-1)) ⟨cJ (AM (k:Int) (by omega)) (by decide),cJ (AM (c-1) (by omega)) (by decide)⟩ ?_;refine ag 73 (bg (aA ((c-1)*(k:Int)))) rfl (by show bg (aA _*aA _)=_;rw[J6,zdT]) (an 77 ?_);refine cm 77 (.i .i64 (n-1)) rfl rfl (bo rfl (by omega) (by omega)) ?_;refine I ?_;refine aZ mC (n-1:Int) ⟨by show -9223372036854775808<=n-1;omega,by show n-1<9223372036854775808;omega⟩ ?_;have o9:(aA (n-1)).num=n-1:=(fu _).1;refine I ?_;refine aZ OM (aA ((c-1)*(k:Int)),aA (n-1)) ⟨cJ p9 (by decide),cJ (AM (n-1) (by omega)) (by decide),by rw[o9];omega⟩ ?_;refine ag 79 (.bu [bg (mkRat ((c-1)*(k:Int)) (n-1).toNat),.i .i64 0]) rfl (by show ah.bu [bg (mkRat ((aA _).num*((aA _).den:Int)) ((aA _).den*(aA _).num.natAbs)),_]=_;rw[(fu _).1,(fu _).2,o9,(fu _).2,show(((1:Nat):Int))=1 from rfl,zdq,zaw,show(n-1).natAbs=(n-1).toNat by omega]) (I ?_);refine aC Em (mkRat ((c-1)*(k:Int)) (n-1).toNat) (sD (ct (hL (by decide) hm) (by decide)) (ct (IG (by omega)) (by decide)) (by omega)) ?_;refine ag 84 (bg (aA j)) rfl (by show bg (aA (j5 _))=_;rw[vu (by omega),show(((n-1).toNat:Nat):Int)=n-1 by omega,<-vL]) ?_;refine aC IS j ⟨by show -9223372036854775808<j;omega,by show j<9223372036854775808;omega⟩ ?_;refine ag 85 (.bu [.i .i64 j,.i .i64 0]) rfl rfl (an 90 ?_);by_cases he:j=last
  ·refine v0 90 (show¬j≠last from fun h=>h he) ?_;rw[zab he]at s1;refine an 67 ?_;refine ag 67 (.i .i64 ((k+1:Nat):Int)) rfl bo (I ?_);exact ba [0] (k+1,j,[]) ⟨by show n.toNat-(k+1)<n.toNat-k;omega,by show((k+1:Nat):Int)<=n;omega,s2.symm,s1.symm⟩ du
  ·refine v1 90 (show j≠last from he) ?_;rw[zaa he]at s1;refine I ?_;refine aC OW (⟨p,i,x,e,q,a,b⟩,j) ⟨bE,aM,by show j<9223372036854775808;omega,by show cO e q true a+j<In e q;omega⟩ ?_;refine ag 95 (.s ((gz.mk e q a c).at j)) rfl rfl (I ?_);refine yI gB [(gz.mk e q a c).at j] (ll (R:=gB) [(gz.mk e q a c).at j] rfl) ?_;refine an 67 ?_;refine ag 67 (.i .i64 ((k+1:Nat):Int)) rfl bo (I ?_);exact ba [0,4] (k+1,j,[(gz.mk e q a c).at j]) ⟨by show n.toNat-(k+1)<n.toNat-k;omega,by show((k+1:Nat):Int)<=n;omega,s2.symm,s1.symm⟩ (yQ ⟨rfl,rfl,rfl,rfl,rfl,rfl,rfl,trivial⟩)
 |cons d ds=>
  refine an 65 ?_;by_cases a4:(k:Int)<n
  case neg=>
   refine v0 65 (show¬(k:Int)<n from a4) ?_;have p7:k=n.toNat:=by omega
   refine an 99 ?_;refine jh 99 ?_;refine I ?_;exact au rfl (.of (by show ah.bu [ah.c5 1 (ac bv) gB (d::ds),.i .i64 0]=sJ (lY p i n);rw[GL];unfold gz.sb;rw[<-p7];show _=ah.bu [ah.c5 1 (ac bv) gB ((mb c n k).1.map (gz.mk e q a c).at),.i .i64 0];rw[<-lG]))
  obtain⟨s1,s2⟩:=e0 a4;obtain⟨aM,aN⟩:=Gx (k:=k) ee a4;rw[<-hi]at aM aN;have vL:j=(c-1)*(k:Int)/(n-1):=by rw[hi];exact zab (by omega)
  have q6:(k:Int)<400:=by omega
  have hm:((c-1)*(k:Int)).natAbs<1000000000^3:=by
   have J:=zdW (show c-1<=4611686018427387904 by omega) (show(k:Int)<=400 by omega) (by omega) (by decide);have U:=zbP (show 0<=c-1 by omega) (show(0:Int)<=(k:Int) by omega);generalize(c-1)*(k:Int)=y at *;omega
  have p9:cq 3 (aA ((c-1)*(k:Int))):=sE (k:=2) hm;refine v1 65 a4 (I ?_);refine aC mC (k:Int) ⟨by show(-9223372036854775808:Int)<=(k:Int);omega,by show(k:Int)<9223372036854775808;omega⟩ (an 71 ?_);refine ag 71 (.i .i64 (c-1)) rfl (bo rfl (by omega) (by omega)) ?_;refine aC mC (c-1:Int) ⟨by show -9223372036854775808<=c-1;omega,by show c-1<9223372036854775808;omega⟩ ?_;refine aC OP (aA (k:Int),aA (c-1)) ⟨cJ (AM (k:Int) (by omega)) (by decide),cJ (AM (c-1) (by omega)) (by decide)⟩ ?_;refine ag 73 (bg (aA ((c-1)*(k:Int)))) rfl (by show bg (aA _*aA _)=_;rw[J6,zdT]) (an 77 ?_);refine cm 77 (.i .i64 (n-1)) rfl rfl (bo rfl (by omega) (by omega)) ?_;refine I ?_;refine aZ mC (n-1:Int) ⟨by show -9223372036854775808<=n-1;omega,by show n-1<9223372036854775808;omega⟩ ?_;have o9:(aA (n-1)).num=n-1:=(fu _).1;refine I ?_;refine aZ OM (aA ((c-1)*(k:Int)),aA (n-1)) ⟨cJ p9 (by decide),cJ (AM (n-1) (by omega)) (by decide),by rw[o9];omega⟩ ?_;refine ag 79 (.bu [bg (mkRat ((c-1)*(k:Int)) (n-1).toNat),.i .i64 0]) rfl (by show ah.bu [bg (mkRat ((aA _).num*((aA _).den:Int)) ((aA _).den*(aA _).num.natAbs)),_]=_;rw[(fu _).1,(fu _).2,o9,(fu _).2,show(((1:Nat):Int))=1 from rfl,zdq,zaw,show(n-1).natAbs=(n-1).toNat by omega]) (I ?_);refine aC Em (mkRat ((c-1)*(k:Int)) (n-1).toNat) (sD (ct (hL (by decide) hm) (by decide)) (ct (IG (by omega)) (by decide)) (by omega)) ?_;refine ag 84 (bg (aA j)) rfl (by show bg (aA (j5 _))=_;rw[vu (by omega),show(((n-1).toNat:Nat):Int)=n-1 by omega,<-vL]) ?_;refine aC IS j ⟨by show -9223372036854775808<j;omega,by show j<9223372036854775808;omega⟩ ?_;refine ag 85 (.bu [.i .i64 j,.i .i64 0]) rfl rfl (an 90 ?_);by_cases he:j=last
  ·refine v0 90 (show¬j≠last from fun h=>h he) ?_;rw[zab he]at s1;refine an 67 ?_;refine ag 67 (.i .i64 ((k+1:Nat):Int)) rfl bo (I ?_);exact ba [0,1] (k+1,j,d::ds) ⟨by show n.toNat-(k+1)<n.toNat-k;omega,by show((k+1:Nat):Int)<=n;omega,s2.symm,s1.symm⟩ (yQ ⟨rfl,rfl,rfl,rfl,rfl,rfl,rfl,trivial⟩)
  ·refine v1 90 (show j≠last from he) ?_;rw[zaa he]at s1;refine I ?_;refine aC OW (⟨p,i,x,e,q,a,b⟩,j) ⟨bE,aM,by show j<9223372036854775808;omega,by show cO e q true a+j<In e q;omega⟩ ?_;refine ag 95 (.s ((gz.mk e q a c).at j)) rfl rfl (I ?_);have tH:ds.length+1<=400:=hlen;refine Bh (R:=gB) [(gz.mk e q a c).at j] (ll (R:=gB) [(gz.mk e q a c).at j] rfl) ?_;refine an 67 ?_;refine ag 67 (.i .i64 ((k+1:Nat):Int)) rfl bo (I ?_);exact ba [0,5] (k+1,j,d::(ds++[(gz.mk e q a c).at j])) ⟨by show n.toNat-(k+1)<n.toNat-k;omega,by show((k+1:Nat):Int)<=n;omega,s2.symm,s1.symm⟩ (yQ ⟨rfl,rfl,rfl,rfl,congrArg (fun k=>some (ah.bj 5 1 0 k k)) (by simp),rfl,rfl,trivial⟩)
def aa6:bc where
 L:=ac (ac bv)
 args:=fun l=>[.c5 1 (ac bv) gB l,.c5 1 (ac bv) gB l]
 pre:=fun l=>l.length<=400
 res:=fun _=>.b true
def aqD:a6 aS.ctx 9 aa6.spec:=by
 refine bq [] r9.1 ?_;intro(l:ac (ac bv)) (hl:l.length<=400) H aH;refine an 10 ?_;refine v0 10 (show¬(l.length:Int)≠(l.length:Int)from fun h=>h rfl) (I ?_);refine df (L:=Nat) (fun k=>k<=l.length) (fun(k:Nat)=>⟨[],0,[(0,.c5 1 (ac bv) gB l),(1,.c5 1 (ac bv) gB l),(5,.i .i64 (k:Nat))]⟩) (fun k=>l.length-k) [] 0 (zaf _) (by show l.length-0<bT+1;unfold bT;omega) ew ?_;intro(k:Nat) ab;refine an 14 ?_;by_cases a4:k<l.length
 ·refine v1 14 (show(k:Int)<(l.length:Nat) by omega) (I ?_);refine hK l[k] (bV a4) ?_;refine I ?_;refine hK l[k] (bV a4) ?_;refine an 25 ?_;refine cm 25 (.b false) rfl rfl (by show ah.b (!(l[k]==l[k]))=_;rw[beq_self_eq_true];rfl) ?_;refine an 16 ?_;refine ag 16 (.i .i64 ((k+1:Nat):Int)) rfl bo (I ?_);exact ba [] (k+1) ⟨by show l.length-(k+1)<l.length-k;omega,a4⟩ ew
 ·refine v0 14 (show¬(k:Int)<(l.length:Nat) by omega) (I ?_);exact au rfl (.refl _)
structure ac9 where
 p:dN
 i:Int
 n:Int
def Om(G:bJ->Prop)(dE:∀{H bF:bJ},dp H bF->G H->G bF):bc where
 L:=ac9
 args:=fun x=>[h8 x.p,.i .i64 x.i,.i .i64 x.n]
 pre:=fun x=>va x.p
 res:=fun _=>.b true
 hp:=G
 hm:=dE
def ao7(p:dN)(i n:Int):(lY p i n).1.length<=400:=by
 unfold lY;split
 ·exact zaf _
 split
 ·exact zaf _
 rename_i h;split
 ·exact zaf _
 split
 ·exact zaf _
 split
 ·exact zaf _
 have h:=Classical.not_not.1 h;show(List.map _ _).length<=400;rw[zbA];refine zaj (Gy _ _ _) ?_;omega
def ao6{G:bJ->Prop}{dE:∀{H bF:bJ},dp H bF->G H->G bF}(fP:∀{H},G H->oM H)(cr:a6 aS.ctx 6 (Pm G dE).spec):a6 aS.ctx 3 (Om G dE).spec:=by
 refine Lb aS.fF gM (cp [(5,XF.spec),(6,(Pm G dE).spec),(7,Ix.spec),(8,I1.spec),(9,aa6.spec)]) (xf:=bf.1) (by kernel_rfl) (fun l=>jw rfl) ?_;intro⟨p,i,n⟩ (hp:va p) H aH eB;have akc:=fP eB;refine I ?_;refine aC ano p hp ?_;by_cases hb:w8 p
 ·refine dG 12 hb (I ?_);refine aC cr () trivial (I ?_) (hh:=eB);exact au rfl (.refl _)
 refine dW 12 hb ?_;have pa:oO p:=abo (fun h=>hb (.inl h));have go:∀t:Bool,t=true∨t=false:=fun t=>by cases t<;>simp
 refine an 15 ?_;refine fK (L:=Bool) (fun _=>True) (fun t=>⟨[.c 27 (g2 p)],1,[(1,.i .i64 i),(2,.i .i64 n),(3,.p 0 0),(20,.b t)]⟩) ?_ ?_
 ·by_cases J:60<n
  ·refine v1 15 J (an 18 ?_);by_cases U:n<=400
   ·refine v1 18 U (I ?_);exact ba [0] true trivial du
   ·refine v0 18 U (I ?_);exact ba [0] false trivial du
  ·refine v0 15 J (I ?_);exact ba [0] false trivial du
 intro t _;cases t with
 |true=>
  refine I ?_;refine aC cr () trivial (I ?_) (hh:=eB);exact au rfl (.refl _)
 |false=>
  have hlen:=ao7 p i n;obtain⟨l,e,hle⟩:∃l e,lY p i n=(l,e):=⟨_,_,rfl⟩;rw[hle]at hlen;refine I ?_;refine aC ao2 (p,i,n) pa ?_ (hh:=akc);refine ag 26 (.bu [.c5 1 (ac bv) gB l,.i .i64 e]) rfl (by show sJ (lY p i n)=_;rw[hle];rfl) (I ?_);refine aC apG (p,i,n) pa ?_;refine ag 33 (.bu [.c5 1 (ac bv) gB l,.i .i64 e]) rfl (by show sJ (lY p i n)=_;rw[hle];rfl) (I ?_);refine aC aqD l hlen (an 42 ?_);refine ag 42 (.b true) rfl (b2 (zad rfl)) (I ?_);refine aC cr () trivial (I ?_) (hh:=eB);exact au rfl (.refl _)
end Go.ak.a2
namespace Go.ak.a2
open Go.ak Go.ak.j1
set_option maxRecDepth 100000
theorem X5{h:ar bH}{s:c6}:∀(os:ac (Nat×bH)),(∀o∈os,s.cL.get o.1=some o.1∧h.get o.1=some o.2∧ui o.2 o.2 s=some s)->ye h os s=some s
 |[],_=>rfl
 |o::os,hh=>by
  obtain⟨J,U,af⟩:=hh o (by simp);show bm (s.cL.get o.1) (fun j=>bm (h.get j) (fun p=>bm (ui o.2 p s) (ye h os) none) none) none=_;rw[J,Sym.eJ,U,Sym.eJ,af,Sym.eJ];exact X5 os fun p hp=>hh p (zaM _ hp)
def mf:ac (Nat×bH):=[lZ,lh,sM,rD,pt,pv]
def GF{Q:Nat×bH->Prop}(h0:Q lZ)(J:Q lh)(af:Q sM)(a0:Q rD)(gF:Q pt)(hZ:Q pv):∀p∈mf,Q p:=fun p hp=>by
 have hp:p∈[lZ,lh,sM,rD,pt,pv]:=hp;simp only[zar,zeO,or_false]at hp;rcases hp with rfl|rfl|rfl|rfl|rfl|rfl<;>assumption
def LR:∀p∈Bd.gs,p∈mf:=fun p hp=>by
 have hp:p∈[lZ,lh,sM,pt,pv]:=hp;show p∈[lZ,lh,sM,rD,pt,pv];simp only[zar,zeO,or_false]at hp⊢;rcases hp with h|h|h|h|h<;>simp[h]
def iH(H:bJ):Prop:=∀p∈mf,H p.1=some p.2
variable{H:bJ}{st:ay}
def iH.up{bF:bJ}(h:dp H bF)(aO:iH H):iH bF:=fun p hp=>h _ _ (aO p hp)
def V6:∀p∈mf,lU.cL.get p.1=some p.1∧ui p.2 p.2 lU=some lU:=
 GF ⟨by kernel_rfl,by kernel_rfl⟩ ⟨by kernel_rfl,by kernel_rfl⟩ ⟨by kernel_rfl,by kernel_rfl⟩ ⟨by kernel_rfl,by kernel_rfl⟩ ⟨by kernel_rfl,by kernel_rfl⟩ ⟨by kernel_rfl,by kernel_rfl⟩
def adw{s:c6}{gs:ac (Nat×bH)}{aP:Nat}{t:Bool}(hc:s.bn<=aP)(h:ye st.h gs s=some s):(⟨[],gs,[],.bool t,[],aP⟩:dS).app s [] st=some (.ret (.bool t) ⟨st.h,st.al+(aP-s.bn)⟩ false):=by
 unfold dS.app;show bm (ye st.h gs s) _ none=_;rw[h,Sym.eJ];show cond (Nat.beq s.bn (Nat.add s.bn 0)) (cond (Nat.ble s.bn aP) (fX (Nat.add st.al (Nat.sub aP s.bn)) fun n=>some (dM.ret (.bool t) ⟨st.h,n⟩ false)) none) none=_;rw[show Nat.beq s.bn (Nat.add s.bn 0)=true from zaP _,show Nat.ble s.bn aP=true from zcR hc];show fX (Nat.add st.al (Nat.sub aP s.bn)) (fun n=>some (dM.ret (.bool t) ⟨st.h,n⟩ false))=_;unfold fX;rw[zaP];rfl
def aof:lU.bn<=10394:=by rw[rv.2.1];exact jw (by kernel_rfl)
def aqW(h:∀p∈mf,st.h.get p.1=some p.2):Bd.app lU [] st=some (.ret (.bool true) ⟨st.h,st.al+(10394-lU.bn)⟩ false):=
 adw (gs:=Bd.gs) aof (X5 Bd.gs fun o ao=>⟨(V6 o (LR o ao)).1,h o (LR o ao),(V6 o (LR o ao)).2⟩)
def aqX:a6 aS.ctx 6 (Pm iH iH.up).spec:=by
 rintro vs st ⟨⟨l,H⟩,_,eB,az,aq⟩;have aq:vs=[]:=aq;subst aq;refine⟨.bool true,⟨st.h,st.al+(10394-lU.bn)⟩,?_,?_⟩
 ·rintro⟨l',bF⟩ ⟨_,aus,ef,_⟩;have hw:∀b,st.al+(10394-lU.bn)<=b->st.h.get b=none:=fun b hb=>ef.wf b (by omega);exact⟨bF,⟨hw,ef.le,rfl,rfl,zdI,fun b hb=>by simp at hb,fun k o b ab=>by simp at ab⟩,⟨dp.refl _,fun _ _ _=>rfl,fun _ _ _=>rfl,zcA _ _,di.refl _,fun b hb=>.inl hb⟩,rfl⟩
 ·intro ι as' w aY hw;exact Qx QD rv.1 rv.2.1 rv.2.2 (aqW fun p hp=>az.le _ _ (eB p hp)) ι as' w aY hw
theorem Cq{H:bJ}{k:d7}:∀l:ac Int,dj H (l.map fun n=>.i k n) [] (l.map fun n=>Value.int k n)
 |[]=>rfl
 |n::l=>⟨_,_,rfl,rfl,Cq l⟩
def ape:pt=(8,.cells ((List.range 20).map fun k=>Value.int .u64 ((10^k:Nat):Int)) 488 (0,20) false):=by kernel_rfl
def ajK(h:iH H):oL H:=by
 have a0:=h pt (by show pt∈[lZ,lh,sM,rD,pt,pv];simp);rw[ape]at a0;refine⟨_,_,_,_,a0,fun bF=> ?_⟩;have:=Cq (H:=bF) (k:=.u64) ((List.range 20).map fun k=>((10^k:Nat):Int));rw[zcp,zcp]at this;exact this
def abi:ac Int:=Jw.flatMap fun p=>[(p.1:Int),(p.2:Int)]
def apb:lZ=(0,.cells (abi.map fun n=>Value.int .i64 n) 280 (0,32) false):=by kernel_rfl
def ajM(h:iH H):oN H:=by
 have h0:=h lZ (by show lZ∈[lZ,lh,sM,rD,pt,pv];simp);rw[apb]at h0;exact⟨_,_,_,_,h0,fun bF=>Cq (k:=.i64) abi⟩
def Ye:ac Int:=[0,1,2,4,3]
def apc:rD=(5,.cells (Ye.map fun n=>Value.int .i64 n) 459 (0,5) false):=by kernel_rfl
def ajJ(h:iH H):BN H:=by
 have h0:=h rD (by show rD∈[lZ,lh,sM,rD,pt,pv];simp);rw[apc]at h0;exact⟨_,_,_,_,h0,fun bF=>Cq (k:=.i64) Ye⟩
def Lf:ac Int:=zD.map fun t:Nat=>(t:Int)
def apf:pv=(9,.cells (Lf.map fun n=>Value.int .u8 n) 497 (0,32) false):=by kernel_rfl
def ajG(h:iH H):qG H:=by
 have h0:=h pv (by show pv∈[lZ,lh,sM,rD,pt,pv];simp);rw[apf]at h0;refine⟨_,_,_,_,h0,fun bF=> ?_⟩;have:=Cq (H:=bF) (k:=.u8) Lf;unfold Lf at this;rw[zcp]at this;exact this
def ajL(h:iH H):oM H:=⟨ajM h,⟨ajG h,ajJ h⟩,ajK h⟩
def XG:a6 aS.ctx 3 (Om iH iH.up).spec:=ao6 ajL aqX
