/- What the functions of the program and of the document compute, for every input (part 4); conditions as in the statements. -/
import Derived.Test.YtoepefenkpijoaaGreatDoorC3
import Derived.Test.YtoepefenkpijoaaGreatDoorS2
set_option linter.all false
namespace Go.ar.a9
open Go.ar
set_option maxRecDepth 100000
set_option maxHeartbeats 4000000
def Pj:bD where
 L:=dK×Nat×gR
 args:=fun(p,i,n)=>[jQ p,.i .i64 (i:Int)]
 pre:=fun(p,i,n)=>p.bw[i]? =some n∧n.v.length<=2000
 res:=fun(p,i,n)=>.i .i64 (u2 p i n)
def ars:bl aT.ctx 174 Pj.spec:=by
 refine bI [(279,zV.spec),(280,acJ.spec),(176,tG.spec),(281,aau.spec),(282,aaD.spec),(283,xt.spec)] T9.1 ?_;intro⟨p,i,n⟩ ⟨hj,aD⟩ H aK;have a3:∀{c:Int},u2 p i n=c->bS (.i .i64 c) (Pj.res (p,i,n)):=fun h=>.of (by rw[<-h];rfl);refine I ?_;refine dr n hj ?_;refine I ?_;refine aX zW n.op trivial (aq 16 ?_);by_cases J:1<=n.op∧n.op<=15
 case neg=>
  refine v1 16 (show rA n.op<0 by unfold rA;rw[zaa J];decide) (I ?_);exact au rfl (a3 (zab (.inl J)))
 refine v0 16 (show¬rA n.op<0 by unfold rA;rw[zab J];omega) (I ?_);refine aX auO n J ?_;cases U:r4 n with
 |false=>
  refine ax 19 (.b true) rfl (bM (by rw[U];rfl)) (I ?_);exact au rfl (a3 (zab (.inr U)))
 |true=>
 refine ax 19 (.b false) rfl (bM (by rw[U];rfl)) ?_;have g1:¬(¬(1<=n.op∧n.op<=15)∨r4 n=false):=fun h=>h.elim (fun h=>h J) (fun h=>Bool.noConfusion (U.symm.trans h));refine I ?_;refine aX zg (n.f,(p.bB.length:Int)) trivial ?_;by_cases ag:j5 n.f p.bB.length
 case neg=>
  refine eu 26 ag (I ?_);exact au rfl (a3 ((zaa g1).trans (zab ag)))
 refine dS 26 ag ?_;have aM:¬¬j5 n.f p.bB.length:=fun h=>h ag;have e2:=fun{c} h=> @a3 c ((zaa g1).trans ((zaa aM).trans h));have f2:=fun{c} h=>((zaa g1).trans ((zaa aM).trans h):u2 p i n=c);refine aq 29 ?_
 iterate 3 refine gZ ?_
 refine pw (L:=Unit) (fun _=>u2 p i n=if(hO n).all (fun k=>xr p i k)then 0 else 7) (fun _=>⟨[.c 27 (ih p),.c 143 (lK n)],2,[(1,.i .i64 (i:Int)),(2,.p 0 0),(4,.i .i64 0),(5,.p 1 0)]⟩) ?_ ?_
 ·clear a3;refine aq 31 ?_;by_cases af:n.op=1
  ·refine v1 31 af (I ?_);refine aX zg (n.a,(p.ins.length:Int)) trivial ?_;by_cases az:j5 n.a p.ins.length
   case neg=>
    refine eu 37 az (I ?_);exact au rfl (e2 (zab ⟨af,az⟩))
   refine dS 37 az ?_;have bc:¬(n.op=1∧¬j5 n.a p.ins.length):=fun h=>h.2 az;obtain⟨a,ha⟩:∃a:Nat,n.a=(a:Int):=⟨n.a.toNat,by have:=az.1;omega⟩;have um:n.a.toNat=a:=by omega
   have lC:a<p.ins.length:=by have:=az.2;omega
   refine aq 42 ?_;refine di 42 (.i .i64 (a:Int)) rfl rfl (by rw[ha]) ?_;refine I ?_;refine eU p.ins[a] (bm lC) ?_;refine aq 48 ?_;by_cases a4:(p.ins[a]).f=n.f
   case neg=>
    refine e9 48 a4 (I ?_);exact au rfl (e2 ((zaa bc).trans (zab ⟨af,by rw[um,bm lC];simpa using a4⟩)))
   refine hK 48 (fi a4) (I ?_);refine bf [0,1] () (f2 ((zaa bc).trans ((zaa ?_).trans ((zaa (by omega)).trans (zaa (by omega)))))) jS;rintro⟨_,h⟩;exact h (by rw[um,bm lC];simp[a4])
  ·refine v0 31 af ?_;have f3:=fun{c} h=> @f2 c ((zaa (fun h=>af h.1)).trans ((zaa (fun h=>af h.1)).trans h));have b3:=fun{c} h=> @e2 c ((zaa (fun h=>af h.1)).trans ((zaa (fun h=>af h.1)).trans h));refine aq 50 ?_;by_cases ah:n.op=2
   ·refine v1 50 ah (aq 54 ?_);by_cases az:(i:Int)<p.head
    ·refine v1 54 az (I ?_);exact au rfl (b3 (zab ⟨ah,.inl az⟩))
    refine v0 54 az (I ?_);refine aX zg (n.a,(p.fA.length:Int)) trivial ?_;by_cases a4:j5 n.a p.fA.length
    case neg=>
     refine eu 61 a4 (I ?_);exact au rfl (b3 (zab ⟨ah,.inr a4⟩))
    refine dS 61 a4 (I ?_);exact bf [0,1] () (f3 ((zaa (fun h=>h.2.elim az (fun h=>h a4))).trans (zaa (by omega)))) jS
   ·refine v0 50 ah ?_;have f4:=fun{c} h=> @f3 c ((zaa (fun h=>ah h.1)).trans h);have fo:=fun{c} h=> @b3 c ((zaa (fun h=>ah h.1)).trans h);refine aq 65 ?_;by_cases hc:n.op=3
    ·refine v1 65 hc (I ?_);refine aX aq9 n.v aD (I ?_);exact au rfl (fo (zab hc))
    ·refine v0 65 hc (I ?_);exact bf [0,1] () (f4 (zaa hc)) jS
 intro _ lB;have ab:=Yd n;refine I ?_;refine aX arj n J (I ?_);refine cN (L:=Nat) (fun k=>k<=(hO n).length∧((hO n).take k).all (fun k=>xr p i k)=true) (fun(k:Nat)=>⟨[.c 27 (ih p),.c 143 (lK n)],2,[(1,.i .i64 (i:Int)),(2,.p 0 0),(4,.i .i64 0),(6,.cc 1 Int eZ (hO n)),(7,.i .i64 (k:Int))]⟩) (fun k=>(hO n).length-k) [0,1] 0 ⟨zae _,rfl⟩ hF jS ?_;rintro(k:Nat) ⟨km,an⟩;refine aq 74 ?_;by_cases hl:k<(hO n).length
 ·refine v1 74 (show(k:Int)<((hO n).length:Int) by omega) (I ?_);refine eU (hO n)[k] (bm hl) ?_;refine I ?_;refine bQ arA (p,(i:Int),(hO n)[k]) trivial ?_;cases ah:xr p i (hO n)[k]with
  |false=>
   refine ax 83 (.b false) rfl (bM ah) (I ?_);refine au rfl (a3 (lB.trans (zaa ?_)));intro h;rw[zaP]at h;have:=h _ (dy hl);rw[ah]at this;cases this
  |true=>
   refine ax 83 (.b true) rfl (bM ah) (aq 76 ?_);refine e8 76 ((k+1:Nat):Int) (I ?_);exact bf [0,1] (k+1) ⟨by omega,hl,by rw[zaY hl,zet,an];simp[ah]⟩ jS
 ·refine v0 74 (show¬(k:Int)<((hO n).length:Int) by omega) (I ?_);exact au rfl (a3 (lB.trans (zab (by rw[zas (by omega)]at an;exact an))))
def ad5{α:Type}{l:ac α}{q:α->Bool}{k:Nat}(ab:k<l.length)(h:(l.take k).any q=false)(U:q l[k]=false):(l.take (k+1)).any q=false:=by
 rw[zaY ab,List.any_append,h];simp[U]
def arB:bl aT.ctx 175 vu.spec:=by
 refine bI [(176,tG.spec)] Ua.1 ?_;intro⟨p,i,s⟩ ⟨hj,hh,aW,hl⟩ H aK;have a3:∀{c:Int},Ch p i s=c->bS (.i .i64 c) (vu.res (p,i,s)):=fun h=>.of (by rw[<-h];rfl);refine I ?_;refine dr s hj ?_;refine I ?_;refine aX zg (s.i,p.head) trivial ?_;by_cases J:0<=s.i∧s.i<p.head
 case neg=>
  refine eu 18 J (I ?_);exact au rfl (a3 (zab (.inl J)))
 refine dS 18 J (I ?_);refine aX zg (s.n,p.tail) trivial ?_;by_cases U:0<=s.n∧s.n<p.tail
 case neg=>
  refine eu 25 U (I ?_);exact au rfl (a3 (zab (.inr U)))
 refine dS 25 U ?_;obtain⟨a,ha⟩:∃a:Nat,s.i=(a:Int):=⟨s.i.toNat,by omega⟩;obtain⟨b,hb⟩:∃b:Nat,s.n=(b:Int):=⟨s.n.toNat,by omega⟩;have um:s.i.toNat=a:=by omega
 have hL:s.n.toNat=b:=by omega
 have lC:a<p.bw.length:=by omega
 have ot:b<p.bw.length:=by omega
 have aC:∀{c:Int},(if(p.bw[b]).f≠(p.bw[a]).f∨p.bw.any (kq i (p.bw[a]).f)=true then 143 else 0)=c->bS (.i .i64 c) (vu.res (p,i,s)):=fun h=>a3 (by
  unfold Ch;rw[zaa (fun h=>h.elim (fun h=>h J) (fun h=>h U)),um,hL,bm lC,bm ot];exact h)
 refine aq 31 ?_;refine ax 31 (.i .i64 (a:Int)) rfl (by rw[ha]) ?_;refine dr p.bw[a] (bm lC) ?_;refine aq 38 ?_;refine ax 38 (.i .i64 (b:Int)) rfl (by rw[hb]) ?_;refine dr p.bw[b] (bm ot) ?_;refine aq 43 ?_;by_cases ag:(p.bw[b]).f≠(p.bw[a]).f
 ·refine v1 43 ag (I ?_);exact au rfl (aC (zab (.inl ag)))
 refine v0 43 ag (I ?_);refine cN (L:=Nat) (fun k=>k<=p.bw.length∧(p.bw.take k).any (kq i (p.bw[a]).f)=false) (fun(k:Nat)=>⟨[.c 27 (ih p)],1,[(1,.i .i64 (i:Int)),(2,.p 0 0),(6,.i .i64 (p.bw[a]).f),(7,.i .i64 (k:Int))]⟩) (fun k=>p.bw.length-k) [0] 0 ⟨zae _,rfl⟩ hF dI ?_;rintro(k:Nat) ⟨km,an⟩;refine aq 48 ?_;by_cases ab:k<p.bw.length
 ·refine v1 48 (show(k:Int)<(p.bw.length:Int) by omega) (I ?_);refine dr p.bw[k] (bm ab) ?_;have yp:kq i (p.bw[a]).f p.bw[k]=true->bS (.i .i64 143) (vu.res (p,i,s)):=fun h=>aC (zab (.inr (zdp.2 ⟨_,dy ab,h⟩)));have q1:kq i (p.bw[a]).f p.bw[k]=false->k+1<=p.bw.length∧(p.bw.take (k+1)).any (kq i (p.bw[a]).f)=false:=fun h=>⟨ab,ad5 ab an h⟩;refine aq 58 ?_;by_cases cv:(p.bw[k]).op=2
  case neg=>
   refine v0 58 cv (aq 50 ?_);refine e8 50 ((k+1:Nat):Int) (I ?_);exact bf [0] (k+1) ⟨by omega,q1 (by unfold kq;rw[zad cv];rfl)⟩ dI
  refine v1 58 cv (aq 63 ?_);by_cases cF:(p.bw[k]).a=(i:Int)
  case neg=>
   refine v0 63 cF (aq 50 ?_);refine e8 50 ((k+1:Nat):Int) (I ?_);exact bf [0] (k+1) ⟨by omega,q1 (by unfold kq;rw[zac cv,zad cF];rfl)⟩ dI
  refine v1 63 cF (aq 69 ?_);by_cases dU:(p.bw[k]).f≠(p.bw[a]).f
  ·refine v1 69 dU (I ?_);exact au rfl (yp (by unfold kq;rw[zac cv,zac cF,zac dU];rfl))
  ·refine v0 69 dU (aq 50 ?_);refine e8 50 ((k+1:Nat):Int) (I ?_);exact bf [0] (k+1) ⟨by omega,q1 (by unfold kq;rw[zac cv,zac cF,zad dU];rfl)⟩ dI
 ·refine v0 48 (show¬(k:Int)<(p.bw.length:Int) by omega) ?_;rw[zas (by omega)]at an;refine I ?_;exact au rfl (aC (zaa (fun h=>h.elim ag (fun h=>Bool.noConfusion (an.symm.trans h)))))
def Js:bD where
 L:=dK
 args:=fun p=>[jQ p]
 pre:=xL
 res:=fun p=>z2 (dL p)
def aq5:bl aT.ctx 78 Js.spec:=by
 refine bI [(171,Az.spec),(172,Jr.spec),(173,E8.spec),(174,Pj.spec),(175,vu.spec),(176,tG.spec),(177,xq.spec)] Wi.1 ?_;intro(p:dK) ⟨cb,lB⟩ H aK;have a3:∀{c:Int×Int×Int},dL p=c->bS (z2 c) (Js.res p):=fun h=>.of (by rw[<-h];rfl);refine I ?_;refine aX avO p trivial ?_;refine ax 15 (.i .i64 (qG p)) rfl rfl (aq 17 ?_);by_cases aR:qG p=0
 case neg=>
  refine v1 17 aR (I ?_);exact au rfl (a3 (zaa aR))
 refine v0 17 (fi aR) ?_;have aC:∀{c:Int×Int×Int},m8 p=c->bS (z2 c) (Js.res p):=fun h=>a3 ((zab aR).trans h);obtain⟨e6,iC,r7,Ex,yP,NZ,ao1⟩:=Mm aR;refine I ?_;refine cN (L:=Nat) (fun j=>j<=p.bB.length∧fD (nE p) (p.bB.drop j) j=fD (nE p) p.bB 0) (fun(j:Nat)=>⟨[.c 27 (ih p)],1,[(1,.p 0 0),(6,.i .i64 (j:Int))]⟩) (fun j=>p.bB.length-j) [0] 0 ⟨zae _,rfl⟩ hF dI ?_;rintro(j:Nat) ⟨gT,an⟩;refine aq 23 ?_;by_cases hj:j<p.bB.length
 ·refine v1 23 (show(j:Int)<(p.bB.length:Int) by omega) (I ?_);rw[wo hj]at an;refine dr p.bB[j] (bm hj) ?_;refine I ?_;refine aX aat p.bB[j] trivial ?_;refine ax 31 (.i .i64 (nE p j p.bB[j])) rfl rfl (aq 33 ?_);by_cases he:nE p j p.bB[j]=0
  ·rw[zab he]at an;refine v0 33 (fi he) (aq 25 ?_);refine e8 25 ((j+1:Nat):Int) (I ?_);exact bf [0] (j+1) ⟨by omega,hj,an⟩ dI
  ·rw[zaa he]at an;refine v1 33 he (I ?_);refine au rfl (aC (c:=(1,(j:Int),nE p j p.bB[j])) ?_);unfold m8;simp only[<-an]
 refine v0 23 (show¬(j:Int)<(p.bB.length:Int) by omega) ?_;have J:fD (nE p) p.bB 0=none:=by rw[<-an,zan (by omega)];rfl
 clear an hj gT;refine I ?_;refine cN (L:=Nat) (fun j=>j<=p.ins.length∧fD (nF p) (p.ins.drop j) j=fD (nF p) p.ins 0) (fun(j:Nat)=>⟨[.c 27 (ih p)],1,[(1,.p 0 0),(8,.i .i64 (j:Int))]⟩) (fun j=>p.ins.length-j) [0] 0 ⟨zae _,rfl⟩ hF dI ?_;rintro(j:Nat) ⟨gT,an⟩;refine aq 40 ?_;by_cases hj:j<p.ins.length
 ·refine v1 40 (show(j:Int)<(p.ins.length:Int) by omega) (I ?_);rw[wo hj]at an;refine eU p.ins[j] (bm hj) ?_;refine I ?_;refine bQ ard (p,p.ins[j]) (cb _ (dy hj)) ?_;refine ax 49 (.i .i64 (nF p j p.ins[j])) rfl rfl (aq 51 ?_);by_cases he:nF p j p.ins[j]=0
  ·rw[zab he]at an;refine v0 51 (fi he) (aq 42 ?_);refine e8 42 ((j+1:Nat):Int) (I ?_);exact bf [0] (j+1) ⟨by omega,hj,an⟩ dI
  ·rw[zaa he]at an;refine v1 51 he (I ?_);refine au rfl (aC (c:=(2,(j:Int),nF p j p.ins[j])) ?_);unfold m8;simp only[J,<-an]
 refine v0 40 (show¬(j:Int)<(p.ins.length:Int) by omega) ?_;have U:fD (nF p) p.ins 0=none:=by rw[<-an,zan (by omega)];rfl
 clear an hj gT;refine I ?_;refine cN (L:=Nat) (fun j=>j<=p.bw.length∧fD (og p) (p.bw.drop j) j=fD (og p) p.bw 0) (fun(j:Nat)=>⟨[.c 27 (ih p)],1,[(1,.p 0 0),(10,.i .i64 (j:Int))]⟩) (fun j=>p.bw.length-j) [0] 0 ⟨zae _,rfl⟩ hF dI ?_;rintro(j:Nat) ⟨gT,an⟩;refine aq 58 ?_;by_cases hj:j<p.bw.length
 ·refine v1 58 (show(j:Int)<(p.bw.length:Int) by omega) (I ?_);rw[wo hj]at an;refine aX ars (p,j,p.bw[j]) ⟨bm hj,lB _ (dy hj)⟩ ?_;refine ax 63 (.i .i64 (og p j p.bw[j])) rfl rfl (aq 65 ?_);by_cases he:og p j p.bw[j]=0
  ·rw[zab he]at an;refine v0 65 (fi he) (aq 60 ?_);refine e8 60 ((j+1:Nat):Int) (I ?_);exact bf [0] (j+1) ⟨by omega,hj,an⟩ dI
  ·rw[zaa he]at an;refine v1 65 he (I ?_);refine au rfl (aC (c:=(3,(j:Int),og p j p.bw[j])) ?_);unfold m8;simp only[J,U,<-an]
 refine v0 58 (show¬(j:Int)<(p.bw.length:Int) by omega) ?_;have ag:fD (og p) p.bw 0=none:=by rw[<-an,zan (by omega)];rfl
 clear an hj gT;refine I ?_;refine cN (L:=Nat) (fun j=>j<=p.fA.length∧fD (oh p) (p.fA.drop j) j=fD (oh p) p.fA 0) (fun(j:Nat)=>⟨[.c 27 (ih p)],1,[(1,.p 0 0),(12,.i .i64 (j:Int))]⟩) (fun j=>p.fA.length-j) [0] 0 ⟨zae _,rfl⟩ hF dI ?_;rintro(j:Nat) ⟨gT,an⟩;refine aq 72 ?_;by_cases hj:j<p.fA.length
 ·refine v1 72 (show(j:Int)<(p.fA.length:Int) by omega) (I ?_);rw[wo hj]at an;refine aX arB (p,j,p.fA[j]) ⟨bm hj,by omega,yP,by omega⟩ ?_;refine ax 77 (.i .i64 (oh p j p.fA[j])) rfl rfl (aq 79 ?_);by_cases he:oh p j p.fA[j]=0
  ·rw[zab he]at an;refine v0 79 (fi he) (aq 74 ?_);refine e8 74 ((j+1:Nat):Int) (I ?_);exact bf [0] (j+1) ⟨by omega,hj,an⟩ dI
  ·rw[zaa he]at an;refine v1 79 he (I ?_);refine au rfl (aC (c:=(4,(j:Int),oh p j p.fA[j])) ?_);unfold m8;simp only[J,U,ag,<-an]
 refine v0 72 (show¬(j:Int)<(p.fA.length:Int) by omega) ?_;have az:fD (oh p) p.fA 0=none:=by rw[<-an,zan (by omega)];rfl
 clear an hj gT;have cT:m8 p=if¬j5 p.out p.bw.length∨gY p p.out=1 then(5,0,7)else(0,0,0):=by unfold m8;simp only[J,U,ag,az]
 refine I ?_;refine aX zg (p.out,(p.bw.length:Int)) trivial ?_;by_cases cv:j5 p.out p.bw.length
 case neg=>
  refine eu 87 cv (I ?_);exact au rfl (aC (c:=(5,0,7)) (cT.trans (zab (.inl cv))))
 refine dS 87 cv (I ?_);refine aX Jy (p,p.out) trivial ?_;refine ax 93 (.i .i64 (gY p p.out)) rfl rfl (aq 94 ?_);by_cases cF:gY p p.out=1
 ·refine v1 94 cF (I ?_);exact au rfl (aC (c:=(5,0,7)) (cT.trans (zab (.inr cF))))
 ·refine v0 94 cF (I ?_);exact au rfl (aC (c:=(0,0,0)) (cT.trans (zaa (fun h=>h.elim (fun h=>h cv) cF))))
def Mn:bD where
 L:=dK
 args:=fun p=>[jQ p]
 pre:=xL
 res:=fun p=>.i .i64 (dL p).2.2
def WE:bl aT.ctx 31 Mn.spec:=by
 refine bI [(78,Js.spec)] U8.1 ?_;intro(p:dK) hp H aK;refine I ?_;refine aX aq5 p hp ?_;refine ax 8 (.bP [.i .i64 (dL p).1,.i .i64 (dL p).2.1,.i .i64 (dL p).2.2]) rfl rfl (I ?_);exact au rfl (.of rfl)
def oR(l:ac lr):Nat:=(l.map fun x=>x.aQ.length+x.af.length).sum
def mY(l:ac gR):Nat:=(l.map fun n=>n.v.length).sum
def vT(p:dK):Prop:=100<(p.bB.length:Int)∨100<(p.ins.length:Int)∨100<(p.bw.length:Int)∨100<(p.fA.length:Int)∨2000<((oR p.ins+mY p.bw:Nat):Int)
instance(p:dK):Decidable (vT p):=by unfold vT;infer_instance
def zR(p:dK):Prop:=(∀x∈p.ins,x.aQ.length<=140737488355328∧x.af.length<=140737488355328)∧∀n∈p.bw,n.v.length<=140737488355328
def Hi:bD where
 L:=dK
 args:=fun p=>[jQ p]
 pre:=zR
 res:=fun p=>.b (decide (vT p))
def alo:bl aT.ctx 91 Hi.spec:=by
 refine bI [] Wu.1 ?_;intro(p:dK) ⟨cb,lB⟩ H aK;have yes:vT p->bS (.b true) (Hi.res p):=fun h=>.of (bM (zac h).symm);have no:¬vT p->bS (.b false) (Hi.res p):=fun h=>.of (bM (zad h).symm);refine aq 9 ?_;by_cases J:100<(p.bB.length:Int)
 ·refine v1 9 J (I ?_);exact au rfl (yes (.inl J))
 refine v0 9 J (aq 14 ?_);by_cases U:100<(p.ins.length:Int)
 ·refine v1 14 U (I ?_);exact au rfl (yes (.inr (.inl U)))
 refine v0 14 U (aq 20 ?_);by_cases ag:100<(p.bw.length:Int)
 ·refine v1 20 ag (I ?_);exact au rfl (yes (.inr (.inr (.inl ag))))
 refine v0 20 ag (aq 26 ?_);by_cases az:100<(p.fA.length:Int)
 ·refine v1 26 az (I ?_);exact au rfl (yes (.inr (.inr (.inr (.inl az)))))
 refine v0 26 az (I ?_);refine cN (L:=Nat×Nat) (fun(k,a)=>k<=p.ins.length∧a<=300000000000000*k∧a+oR (p.ins.drop k)=oR p.ins) (fun(k,a)=>⟨[.c 27 (ih p)],1,[(1,.p 0 0),(3,.i .i64 (a:Int)),(4,.i .i64 (k:Int))]⟩) (fun q=>p.ins.length-q.1) [0] (0,0) ⟨zae _,zae _,zaC _⟩ hF dI ?_;rintro⟨k,a⟩ ⟨ab,hb,an⟩;refine aq 32 ?_;by_cases aN:k<p.ins.length
 ·refine v1 32 (show(k:Int)<(p.ins.length:Int) by omega) ?_;obtain⟨c3,dP⟩:=cb _ (dy aN);rw[eX aN]at an;have an:a+((p.ins[k].aQ.length+p.ins[k].af.length)+oR (p.ins.drop (k+1)))=oR p.ins:=an;refine I ?_;refine eU p.ins[k] (bm aN) ?_;refine aq 43 ?_;refine ww 43 ((a+p.ins[k].aQ.length:Nat):Int) ?_;refine I ?_;refine eU p.ins[k] (bm aN) ?_;refine aq 51 ?_;refine ww 51 ((a+p.ins[k].aQ.length+p.ins[k].af.length:Nat):Int) ?_;refine aq 34 ?_;refine e8 34 ((k+1:Nat):Int) (I ?_);exact bf [0] (k+1,a+p.ins[k].aQ.length+p.ins[k].af.length) ⟨by show _-(k+1)<_-k;omega,aN,by omega,by omega⟩ dI
 refine v0 32 (show¬(k:Int)<(p.ins.length:Int) by omega) ?_;rw[zan (by omega)]at an;have an:a=oR p.ins:=an;have jb:oR p.ins<=30000000000000000:=by omega
 rw[an];refine I ?_;refine cN (L:=Nat×Nat) (fun(k,a)=>k<=p.bw.length∧a<=30000000000000000+300000000000000*k∧a+mY (p.bw.drop k)=oR p.ins+mY p.bw) (fun(k,a)=>⟨[.c 27 (ih p)],1,[(1,.p 0 0),(3,.i .i64 (a:Int)),(5,.i .i64 (k:Int))]⟩) (fun q=>p.bw.length-q.1) [0] (0,oR p.ins) ⟨zae _,by omega,rfl⟩ hF dI ?_;rintro⟨k,a⟩ ⟨ab,hb,an⟩;refine aq 56 ?_;by_cases aN:k<p.bw.length
 ·refine v1 56 (show(k:Int)<(p.bw.length:Int) by omega) ?_;have c3:=lB _ (dy aN);rw[eX aN]at an;have an:a+(p.bw[k].v.length+mY (p.bw.drop (k+1)))=oR p.ins+mY p.bw:=an;refine I ?_;refine dr p.bw[k] (bm aN) ?_;refine aq 67 ?_;refine e8 67 ((a+p.bw[k].v.length:Nat):Int) (aq 58 ?_);refine e8 58 ((k+1:Nat):Int) (I ?_);exact bf [0] (k+1,a+p.bw[k].v.length) ⟨by show _-(k+1)<_-k;omega,aN,by omega,by omega⟩ dI
 refine v0 56 (show¬(k:Int)<(p.bw.length:Int) by omega) ?_;rw[zan (by omega)]at an;have an:a=oR p.ins+mY p.bw:=an;rw[an];refine aq 69 ?_;by_cases a4:2000<((oR p.ins+mY p.bw:Nat):Int)
 ·refine v1 69 a4 (I ?_);exact au rfl (yes (.inr (.inr (.inr (.inr a4)))))
 ·refine v0 69 a4 (I ?_);exact au rfl (no (fun h=>h.elim J fun h=>h.elim U fun h=>h.elim ag fun h=>h.elim az a4))
theorem ac6:∀{l:ac lr} {x:lr},x∈l->x.aQ.length+x.af.length<=oR l
 |y::l,x,h=>by
  show _<=(y.aQ.length+y.af.length)+oR l;rcases zak.1 h with rfl|h
  ·omega
  ·have:=ac6 h;omega
theorem ac7:∀{l:ac gR} {x:gR},x∈l->x.v.length<=mY l
 |y::l,x,h=>by
  show _<=y.v.length+mY l;rcases zak.1 h with rfl|h
  ·omega
  ·have:=ac7 h;omega
def abV{p:dK}(h:¬vT p):xL p:=by
 have a4:¬2000<((oR p.ins+mY p.bw:Nat):Int):=fun aG=>h (.inr (.inr (.inr (.inr aG))));exact⟨fun x aa=>by have:=ac6 aa;omega,fun n hn=>by have:=ac7 hn;omega⟩
def v3(p:dK):Int:=if(dL p).2.2=0 then 7 else(dL p).2.2
def Sg:bD where
 L:=dK
 args:=fun p=>[jQ p,.i .i64 (-1)]
 pre:=xL
 res:=fun p=>.bP [.i .i64 0,.i .i64 (v3 p)]
def afo:bl aT.ctx 92 Sg.spec:=by
 refine bI [(31,Mn.spec)] Wv.1 ?_;intro(p:dK) hp H aK;refine I ?_;refine aX WE p hp ?_;refine ax 8 (.i .i64 (dL p).2.2) rfl rfl (aq 10 ?_);by_cases h0:(dL p).2.2=0
 ·refine v1 10 h0 (aq 13 ?_);refine v1 13 (show(-1:Int)<0 by decide) (aq 20 ?_);refine v1 20 (show(7:Int)≠0 by decide) (I ?_);exact au rfl (.of (by show _=aj.bP [.i .i64 0,.i .i64 (v3 p)];unfold v3;rw[zab h0]))
 ·refine v0 10 h0 (aq 20 ?_);refine v1 20 h0 (I ?_);exact au rfl (.of (by show _=aj.bP [.i .i64 0,.i .i64 (v3 p)];unfold v3;rw[zaa h0]))
def vU(p:dK):Prop:=vT p∨400<(mY p.bw:Int)
instance(p:dK):Decidable (vU p):=by unfold vU;infer_instance
def Hj:bD where
 L:=dK
 args:=fun p=>[.agg (ih p++[.nl,.i .i64 (-1)])]
 pre:=zR
 res:=fun p=>.b (decide (vU p))
def alp:bl aT.ctx 41 Hj.spec:=by
 refine bI [(91,Hi.spec),(92,Sg.spec)] VS.1 ?_;intro(p:dK) hp H aK;have yes:vU p->bS (.b true) (Hj.res p):=fun h=>.of (bM (zac h).symm);have no:¬vU p->bS (.b false) (Hj.res p):=fun h=>.of (bM (zad h).symm);refine I ?_;refine aX alo p hp ?_;by_cases J:vT p
 ·refine dS 10 J (I ?_);exact au rfl (yes (.inl J))
 refine eu 10 J ?_;have A3:=abV J;have hl:¬100<(p.bw.length:Int):=fun h=>J (.inr (.inr (.inl h)));refine aq 15 ?_;refine v0 15 (show¬(20:Int)<0 by decide) (I ?_);refine cN (L:=Nat×Nat) (fun(k,a)=>k<=p.bw.length∧a<=2000*k∧a+mY (p.bw.drop k)=mY p.bw) (fun(k,a)=>⟨[.c 107 (ih p++[aj.nl,aj.i .i64 (-1)])],1,[(1,.p 0 0),(3,.i .i64 (a:Int)),(4,.i .i64 (k:Int))]⟩) (fun q=>p.bw.length-q.1) [0] (0,0) ⟨zae _,zae _,zaC _⟩ hF dI ?_;rintro⟨k,a⟩ ⟨ab,hb,an⟩;refine aq 22 ?_;by_cases aN:k<p.bw.length
 ·refine v1 22 (show(k:Int)<(p.bw.length:Int) by omega) ?_;have c3:=A3.2 _ (dy aN);rw[eX aN]at an;have an:a+(p.bw[k].v.length+mY (p.bw.drop (k+1)))=mY p.bw:=an;refine I ?_;refine dr p.bw[k] (bm aN) ?_;refine aq 34 ?_;refine e8 34 ((a+p.bw[k].v.length:Nat):Int) (aq 24 ?_);refine e8 24 ((k+1:Nat):Int) (I ?_);exact bf [0] (k+1,a+p.bw[k].v.length) ⟨by show _-(k+1)<_-k;omega,aN,by omega,by omega⟩ dI
 refine v0 22 (show¬(k:Int)<(p.bw.length:Int) by omega) ?_;rw[zan (by omega)]at an;have an:a=mY p.bw:=an;rw[an];refine I ?_;refine cN (L:=Unit) (fun _=>True) (fun _=>⟨[.c 107 (ih p++[aj.nl,aj.i .i64 (-1)])],1,[(1,.p 0 0),(3,.i .i64 (mY p.bw:Int)),(5,.i .i64 0)]⟩) (fun _=>0) [0] () trivial hF dI ?_;intro _ _;refine aq 39 ?_;refine v0 39 (show¬(0:Int)<0 by decide) (aq 50 ?_);by_cases cl:400<(mY p.bw:Int)
 ·refine v1 50 cl (I ?_);exact au rfl (yes (.inr cl))
 refine v0 50 cl ?_;have hc:¬v3 p=0:=by
  unfold v3;split
  ·decide
  ·assumption
 refine I ?_;refine aX afo p A3 ?_;refine ax 56 (.bP [.i .i64 0,.i .i64 (v3 p)]) rfl rfl (aq 60 ?_);refine v0 60 hc (I ?_);exact au rfl (no (fun h=>h.elim J cl))
def Yl:bD where
 L:=dK
 args:=fun p=>[jQ p]
 pre:=zR
 res:=fun p=>.b (decide (vU p))
def ao5:bl aT.ctx 10 Yl.spec:=by
 refine bI [(41,Hj.spec)] qE.1 ?_;intro(p:dK) hp H aK;refine I ?_;refine aX alp p hp (I ?_);exact au rfl (.refl _)
structure fm where
 mu:ac bv
 ji:ac Int
def fB(t:fm):ac aj:=[.s t.mu,.a6 1 Int eZ t.ji]
structure dx where
 mu:ac bv
 oB:Int
 cR:ac fm
def et(s:dx):ac aj:=[.s s.mu,.i .i64 s.oB,.a6 2 fm fB s.cR]
structure ei where
 zo:Int
 aQ:ac bv
 af:ac bv
 err:ac bv
 low:ac dx
 high:ac dx
def e4(c:ei):ac aj:=[.i .i64 c.zo,.s c.aQ,.s c.af,.s c.err,.a6 3 dx et c.low,.a6 3 dx et c.high]
structure eS where
 kind:Int
 oB:Int
 cut:ac bv
 c4:ac ei
 st:ac ei
def eO(x:eS):ac aj:=[.i .i64 x.kind,.i .i64 x.oB,.s x.cut,.a6 6 ei e4 x.c4,.a6 6 ei e4 x.st]
structure g4 where
 bZ:ac eS
 aQ:ac bv
 af:ac bv
 err:ac bv
def ig(q:g4):ac aj:=[.cc 5 eS eO q.bZ,.s q.aQ,.s q.af,.s q.err]
def wr(n:Int):Int:=IntKind.i64.wrap n
def Cl(n:Int)(t:fm):Int:=wr (wr (wr (n+t.mu.length)+t.ji.length)+1)
def ri(n:Int)(s:dx):Int:=(s.cR.take 1000).foldl Cl (wr (wr (n+s.mu.length)+1))
def xu(l:ac dx):Int:=(l.take 1000).foldl ri 0
def z5(n:Int)(c:ei):Int:=wr (wr (wr (wr (wr (wr (n+c.aQ.length)+c.af.length)+c.err.length)+1)+xu c.low)+xu c.high)
def sH(l:ac ei):Int:=(l.take 1000).foldl z5 0
def tk(s:dx):Bool:=decide (60<(s.cR.length:Int))
def rM(l:ac dx):Bool:= !((l.take 31).any tk)&&decide ((l.length:Int)<=30)
def qc(c:ei):Bool:= !rM c.low|| !rM c.high
def Ev(x:eS):Prop:=100<(x.c4.length:Int)∨100<(x.st.length:Int)∨300<(x.cut.length:Int)∨6000<wr (sH x.c4+sH x.st)∨x.c4.any qc=true
instance(x:eS):Decidable (Ev x):=by unfold Ev;infer_instance
def uN(x:eS):Bool:=decide (Ev x)
def uO(n:Int)(x:eS):Int:=wr (n+sH x.c4)
def oa:Nat:=140737488355328
def iI{α:Type}(w:Nat)(Q:α->Prop)(l:ac α):Prop:=l.length*w<=oa∧∀x∈l,Q x
def tO(t:fm):Prop:=t.ji.length*8<=oa
def pH(s:dx):Prop:=iI 40 tO s.cR
def pG(c:ei):Prop:=iI 48 pH c.low∧iI 48 pH c.high
def rq(x:eS):Prop:=iI 104 pG x.c4∧iI 104 pG x.st
def rr(q:g4):Prop:=iI 80 rq q.bZ
variable{k:Nat}{p:dK}{α:Type}{cut:ac bv}{a b:g4}{x:lr}{q:g4}{w:Nat}{i:Int}{y:Rat}{n:Nat}{l:ac α}{Q:α->Prop}
def iI.len(h:iI w Q l)(hw:1<=w:=by decide):l.length<=oa:=zag (zdl _ hw) h.1
def iI.get(h:iI w Q l)(ab:k<l.length):Q l[k]:=h.2 _ (dy ab)
def ew{α:Type}(f:α->α->Bool):ac α->ac α->Bool
 |[],[]=>true
 |x::a,y::b=>f x y&&ew f a b
 |_,_=>false
theorem rJ{α:Type}{f:α->α->Bool}:∀{a b:ac α},a.length≠b.length->ew f a b=false
 |[],[],h=>absurd rfl h
 |[],_::_,_=>rfl
 |_::_,[],_=>rfl
 |x::a,y::b,h=>by
  show(f x y&&ew f a b)=false;rw[rJ (fun e=>h (by rw[zaq,zaq,e])),Bool.and_false]
theorem wh{α:Type}{f:α->α->Bool}(h:∀x,f x x=true):∀l:ac α,ew f l l=true
 |[]=>rfl
 |x::l=>by show(f x x&&ew f l l)=true;rw[h,wh h l];rfl
def nK(m n:Int):Bool:=decide (m=n)
def hZ(s t:fm):Bool:=decide (s.mu=t.mu)&&ew nK s.ji t.ji
def hs(s t:dx):Bool:=decide (s.mu=t.mu)&&(decide (s.oB=t.oB)&&ew hZ s.cR t.cR)
def fV(x y:ei):Bool:=decide (x.zo=y.zo)&&(decide (x.aQ=y.aQ)&&(decide (x.af=y.af)&&(decide (x.err=y.err)&&(ew hs x.low y.low&&ew hs x.high y.high))))
def fZ(x y:eS):Bool:=decide (x.kind=y.kind)&&(decide (x.oB=y.oB)&&(decide (x.cut=y.cut)&&(ew fV x.c4 y.c4&&ew fV x.st y.st)))
def la(a b:g4):Bool:=decide (a.aQ=b.aQ)&&(decide (a.af=b.af)&&(decide (a.err=b.err)&&ew fZ a.bZ b.bZ))
def ahF(n:Int):nK n n=true:=zac rfl
def ahL(t:fm):hZ t t=true:=by unfold hZ;rw[zac rfl,wh ahF];rfl
def S0(t:dx):hs t t=true:=by unfold hs;rw[zac rfl,zac rfl,wh ahL];rfl
def SX(t:ei):fV t t=true:=by
 unfold fV;rw[zac rfl,zac rfl,zac rfl,zac rfl,wh S0,wh S0];rfl
def ahD(t:eS):fZ t t=true:=by
 unfold fZ;rw[zac rfl,zac rfl,zac rfl,wh SX,wh SX];rfl
def Dm(t:g4):la t t=true:=by
 unfold la;rw[zac rfl,zac rfl,zac rfl,wh ahD];rfl
def qt:ac Int->ac Int->Int
 |a::l,b::m=>if a<b then -1 else if b<a then 1 else qt l m
 |_,_=>0
theorem Li:∀{a b:ac Int},a.length=b.length->(qt a b=0↔ew nK a b=true)
 |[],[],_=>⟨fun _=>rfl,fun _=>rfl⟩
 |[],_::_,h=>by cases h
 |_::_,[],h=>by cases h
 |x::a,y::b,h=>by
  have a7:=Li (a:=a) (b:=b) (by simpa using h);show(if x<y then(-1:Int)else if y<x then 1 else qt a b)=0↔(nK x y&&ew nK a b)=true;by_cases J:x<y
  ·rw[zab J,show nK x y=false from zad (by omega)];exact⟨(fun h=>by cases h),(fun h=>by cases h)⟩
  rw[zaa J];by_cases U:y<x
  ·rw[zab U,show nK x y=false from zad (by omega)];exact⟨(fun h=>by cases h),(fun h=>by cases h)⟩
  rw[zaa U,show nK x y=true from zac (by omega),zbk];exact a7
def kQ(r aQ af:ac bv)(e:Int):Int:=
 match cJ r with
 |none=>6
 |some x=>match cJ aQ with
  |none=>6
  |some a=>if a<x then(match cJ af with
   |none=>6
   |some b=>if x<b then 0 else e)else e
def jA(x y:Rat):Rat:=if x<y then x else y
def ga(x y:Rat):Rat:=if x<y then y else x
def hr(i:Int)(cut:ac bv):eS:=⟨2,i,cut,[],[]⟩
def lW(q:g4):am ((Rat×Rat)×Rat):=
 match cJ q.aQ with
 |none=>none
 |some x=>match cJ q.af with
  |none=>none
  |some y=>match cJ q.err with
   |none=>none
   |some z=>some ((x,y),z)
def oY:g4:=⟨[],[],[],[]⟩
def yO(i:Int)(cut:ac bv)(a b:g4)(x y:(Rat×Rat)×Rat):g4:=
 ⟨hr i cut::(a.bZ++b.bZ),gp (jA x.1.1 y.1.1),gp (ga x.1.2 y.1.2),gp (ga x.2 y.2)⟩
def lj(p:dK)(i:Int)(cut:ac bv)(a b:g4):g4×Int:=
 if(dL p).2.2=0 then
  if 0<=i∧i<(p.ins.length:Int)then
   match p.ins[i.toNat]? with
   |none=>(oY,7)
   |some x=>
    if kQ cut x.aQ x.af 7=0 then
     match lW a with
     |none=>(oY,6)
     |some s=>match lW b with
      |none=>(oY,6)
      |some t=>(yO i cut a b s t,0)
    else(oY,kQ cut x.aQ x.af 7)
  else(oY,7)
 else(oY,(dL p).2.2)
def Ya(h:(dL p).2.2≠0):lj p i cut a b=(oY,(dL p).2.2):=zaa h
def Ij(h:(dL p).2.2=0)(aG:¬(0<=i∧i<(p.ins.length:Int))):lj p i cut a b=(oY,7):=(zab h).trans (zaa aG)
def Ik(h:(dL p).2.2=0)(aa:p.ins[k]? =some x)(he:kQ cut x.aQ x.af 7≠0):lj p k cut a b=(oY,kQ cut x.aQ x.af 7):=by
 have ab:k<p.ins.length:=(zaf.1 aa).1;unfold lj;rw[zab h,zab ⟨by omega,by omega⟩,zbR,aa];exact zaa he
def Yb(h:(dL p).2.2=0)(aa:p.ins[k]? =some x)(he:kQ cut x.aQ x.af 7=0)(hc:lW a=none∨lW b=none):lj p k cut a b=(oY,6):=by
 have ab:k<p.ins.length:=(zaf.1 aa).1;unfold lj;rw[zab h,zab ⟨by omega,by omega⟩,zbR,aa];refine(zab he).trans ?_;rcases hc with h|h
 ·rw[h]
 ·rw[h];cases lW a<;>rfl
def Yc{s t:(Rat×Rat)×Rat}(h:(dL p).2.2=0)(aa:p.ins[k]? =some x)(he:kQ cut x.aQ x.af 7=0)(ha:lW a=some s)(hb:lW b=some t):lj p k cut a b=(yO k cut a b s t,0):=by
 have ab:k<p.ins.length:=(zaf.1 aa).1;unfold lj;rw[zab h,zab ⟨by omega,by omega⟩,zbR,aa];refine(zab he).trans ?_;rw[ha,hb]
def Gn(h:cJ q.aQ=none):lW q=none:=by unfold lW;rw[h]
def Gp{x:Rat}(J:cJ q.aQ=some x)(h:cJ q.af=none):lW q=none:=by unfold lW;rw[J,h]
def Gq{x:Rat}(J:cJ q.aQ=some x)(U:cJ q.af=some y)(h:cJ q.err=none):lW q=none:=by unfold lW;rw[J,U,h]
def Gr{x z:Rat}(J:cJ q.aQ=some x)(U:cJ q.af=some y)(h:cJ q.err=some z):lW q=some ((x,y),z):=by unfold lW;rw[J,U,h]
def aoh(h:(dL p).2.2=0)(aa:p.ins[k]? =some x):(cJ x.aQ).isSome=true∧(cJ x.af).isSome=true:=by
 have h:=RZ h;unfold dL at h;split at h
 case isFalse aR=>exact absurd (congrArg (fun x:Int×Int×Int=>x.2.2) h) aR
 unfold m8 at h;have z:∀{x y:Int×Int×Int},x=y->x.1=y.1:=fun h=>by rw[h]
 cases aC:fD (nE p) p.bB 0 with
 |some x=>rw[aC]at h;have:=z h;simp at this
 |none=>
 rw[aC]at h;cases e2:fD (nF p) p.ins 0 with
 |some x=>rw[e2]at h;have:=z h;simp at this
 |none=>
 have g:uK p x=0:=Tk e2 k x aa;unfold uK at g;split at g
 ·split at g
  ·unfold qW at g;cases ha:cJ x.aQ with
   |none=>rw[ha]at g;cases g
   |some a=>
    cases hb:cJ x.af with
    |none=>rw[ha,hb]at g;cases g
    |some b=>exact⟨rfl,rfl⟩
  ·cases g
 ·cases g
def ak9(h:(dL p).2.2=0):p.ins.length<=1000:=by
 have h:=RZ h;unfold dL at h;split at h
 case isFalse aR=>exact absurd (congrArg (fun x:Int×Int×Int=>x.2.2) h) aR
 rename_i aR;have:=(Mm aR).2.1;omega
def Gf(K:ac (Nat×eY)){f:ci}(xf:cM){S:PP}(h:∀l,S.pre l->∀H aK,S.hp H->aU.ok ⟨b9 aZ (cg aT.ctx (b5 K)) (bV+1),bV+1,f,H,[],aK,FQ S l xf.res⟩ ⟨[],.c xf.body,⟨[],0,mA 0 (S.args l)⟩⟩)
 (aa:aZ.get f=some xf:=by kernel_rfl) (hl:∀l,(S.args l).length<=xf.aJ:=by exact fun _=>jF rfl):oV aT.ctx f S.spec:=ags aT.dY eR (b5 K) aa hl h
def jm(c:Int):be:=.iface 156 (.agg #[.int .i64 c])
def apQ(b:Bool)(c:Int):Cw:=if b=true then .ret (.bP [])else .a1 (jm c)
def IK:PP where
 L:=Bool×Int
 args:=fun(b,c)=>[.b b,.i .i64 c]
 pre:=fun _=>True
 out:=fun(b,c)=>apQ b c
def u1:oV aT.ctx 24 IK.spec:=by
 refine Gf [] Uu.1 ?_;rintro⟨b,c⟩ _ H aK _;cases b with
 |true=>
  refine I ?_;exact eP (G6 rfl rfl rfl (bS.refl _))
 |false=>
  refine I ?_;refine arV (.agg #[.int .i64 c]) ?_;refine ar1 ?_;refine I ?_;exact eP (wk rfl)
def aip(c:Int):Cw:=if c=0 then .ret (.bP [])else .a1 (jm c)
def L6:PP where
 L:=Int
 args:=fun c=>[.i .i64 c]
 pre:=fun _=>True
 out:=aip
def G7:oV aT.ctx 23 L6.spec:=by
 refine Gf [(24,IK.spec)] Ut.1 ?_;intro(c:Int) _ H aK _;by_cases h:c=0
 ·refine I ?_;refine dS 3 h (I ?_);refine BW u1 (true,c) trivial (.bP []) rfl (I ?_);exact eP (G6 rfl rfl (zab h) (bS.refl _))
 ·refine I ?_;refine eu 3 h (I ?_);refine BV u1 (false,c) trivial (jm c) rfl ?_;refine I ?_;exact eP (wk (zaa h))
def u3(s:ac bv):Cw:=match cJ s with
 |some x=>.ret (cO x)
 |none=>.a1 (jm 6)
def Oz:PP where
 L:=ac bv
 args:=fun s=>[.s s]
 pre:=fun s=>s.length<=2000
 out:=u3
def mQ:oV aT.ctx 27 Oz.spec:=by
 refine Gf [(75,B8.spec),(23,L6.spec)] UJ.1 ?_;intro(s:ac bv) (ah:s.length<=2000) H aK _;cases h:cJ s with
 |some x=>
  refine I ?_;refine aX Fj s ah ?_;refine ax 7 (.bP [cO x,.i .i64 0]) rfl (by show nq s=_;unfold nq;rw[h]) (I ?_);refine BW G7 (0:Int) trivial (.bP []) rfl (I ?_);exact eP (G6 rfl rfl (show u3 s= .ret (cO x) by unfold u3;rw[h]) (bS.refl _))
 |none=>
  refine I ?_;refine aX Fj s ah ?_;refine ax 7 (.bP [cO 0,.i .i64 6]) rfl (by show nq s=_;unfold nq;rw[h]) (I ?_);refine BV G7 (6:Int) trivial (jm 6) rfl ?_;refine I ?_;exact eP (wk (show u3 s= .a1 (jm 6) by unfold u3;rw[h]))
def Kn(h:k<l.length)(hn:k<n):(l.take n).drop k=l[k]::(l.take n).drop (k+1):=by
 have aG:k<(l.take n).length:=by rw[zao];omega
 rw[zcG aG,zdK]
def xz(h:¬(k<l.length∧k<n)):(l.take n).drop k=[]:=zan (by rw[zao];omega)
def ne_of_lt(h:k<l.length):l≠[]:=fun e=>by rw[e]at h;exact zcN _ h
def Tc:bD where
 L:=ac dx
 args:=fun l=>[.a6 3 dx et l]
 pre:=fun _=>True
 res:=fun l=>.b (rM l)
def Td:bl aT.ctx 42 Tc.spec:=by
 refine bI [] VU.1 ?_;intro(l:ac dx) _ H aK;refine I ?_;refine cN (L:=Nat) (fun k=>((l.take 31).drop k).any tk=(l.take 31).any tk) (fun(k:Nat)=>⟨[],0,[(0,.a6 3 dx et l),(3,.i .i64 (k:Int))]⟩) (fun k=>31-k) [] 0 rfl (by show 31-0<bV+1;unfold bV;omega) dj ?_;rintro(k:Nat) an;refine aq 7 ?_;by_cases aN:k<l.length
 ·refine v1 7 (show(k:Int)<(l.length:Int) by omega) (aq 10 ?_);by_cases alL:k<31
  ·refine v1 10 (show(k:Int)<31 by omega) ?_;rw[Kn aN alL]at an;have an:(tk l[k]||((l.take 31).drop (k+1)).any tk)=(l.take 31).any tk:=an;refine I ?_;refine dz 14 (.cc 3 dx et l) rfl (.eG (ne_of_lt aN)) ?_;refine dr l[k] (bm aN) ?_;refine aq 20 ?_;by_cases hp:60<(l[k].cR.length:Int)
   ·refine v1 20 hp ?_;have hq:tk l[k]=true:=zac hp;rw[hq,zcP]at an;refine I ?_;exact au rfl (.of (by show aj.b false= .b (rM l);unfold rM;rw[<-an];rfl))
   ·refine v0 20 hp ?_;have hq:tk l[k]=false:=zad hp;rw[hq,zeu]at an;refine aq 13 ?_;refine e8 13 ((k+1:Nat):Int) (I ?_);exact bf [] (k+1) ⟨by show 31-(k+1)<31-k;omega,an⟩ dj
  ·refine v0 10 (show¬(k:Int)<31 by omega) ?_;rw[xz (by omega)]at an;have an:false=(l.take 31).any tk:=an;refine I ?_;exact au rfl (.of (by show aj.b (decide ((l.length:Int)<=30))= .b (rM l);unfold rM;rw[<-an];rfl))
 ·refine v0 7 (show¬(k:Int)<(l.length:Int) by omega) ?_;rw[xz (by omega)]at an;have an:false=(l.take 31).any tk:=an;refine I ?_;exact au rfl (.of (by show aj.b (decide ((l.length:Int)<=30))= .b (rM l);unfold rM;rw[<-an];rfl))
def acf:bD where
 L:=ac dx
 args:=fun l=>[.a6 3 dx et l]
 pre:=fun _=>True
 res:=fun l=>.i .i64 (xu l)
def acg:bl aT.ctx 43 acf.spec:=by
 refine bI [] V1.1 ?_;intro(l:ac dx) _ H aK;refine I ?_;refine cN (L:=Nat×Int) (fun(k,n)=>((l.take 1000).drop k).foldl ri n=xu l) (fun(k,n)=>⟨[],0,[(0,.a6 3 dx et l),(3,.i .i64 n),(4,.i .i64 (k:Int))]⟩) (fun q=>1000-q.1) [] (0,0) rfl (by show 1000-0<bV+1;unfold bV;omega) dj ?_;rintro⟨k,n⟩ an;have fin:((l.take 1000).drop k=[])->n=xu l:=fun h=>by
  have an:((l.take 1000).drop k).foldl ri n=xu l:=an;rw[h]at an;exact an
 refine aq 9 ?_;by_cases aN:k<l.length
 ·refine v1 9 (show(k:Int)<(l.length:Int) by omega) (aq 12 ?_);by_cases Nw:k<1000
  ·refine v1 12 (show(k:Int)<1000 by omega) ?_;have an:((l.take 1000).drop k).foldl ri n=xu l:=an;rw[Kn aN Nw]at an;have an:((l.take 1000).drop (k+1)).foldl ri (ri n l[k])=xu l:=an;refine I ?_;refine dz 17 (.cc 3 dx et l) rfl (.eG (ne_of_lt aN)) ?_;refine dr l[k] (bm aN) ?_;refine I ?_;refine cN (L:=Nat×Int) (fun(j,m)=>((l[k].cR.take 1000).drop j).foldl Cl m=ri n l[k]) (fun(j,m)=>⟨[],0,[(0,.a6 3 dx et l),(3,.i .i64 m),(4,.i .i64 (k:Int)),(5,.i .i64 (j:Int))]⟩) (fun q=>1000-q.1) [] (0,wr (wr (n+l[k].mu.length)+1)) rfl (by show 1000-0<bV+1;unfold bV;omega) dj ?_;rintro⟨j,m⟩ hj;have hj:((l[k].cR.take 1000).drop j).foldl Cl m=ri n l[k]:=hj;have up:((l[k].cR.take 1000).drop j=[])->m=ri n l[k]:=fun h=>by rw[h]at hj;exact hj
   refine I ?_;refine dz 26 (.cc 3 dx et l) rfl (.eG (ne_of_lt aN)) ?_;refine dr l[k] (bm aN) ?_;refine aq 32 ?_;by_cases gT:j<l[k].cR.length
   ·refine v1 32 (show(j:Int)<(l[k].cR.length:Int) by omega) (aq 35 ?_);by_cases l5:j<1000
    ·refine v1 35 (show(j:Int)<1000 by omega) ?_;rw[Kn gT l5]at hj;have hj:((l[k].cR.take 1000).drop (j+1)).foldl Cl (Cl m l[k].cR[j])=ri n l[k]:=hj;refine I ?_;refine tZ 40 (.cc 3 dx et l) rfl rfl (.eG (ne_of_lt aN)) ?_;refine eU l[k] (bm aN) ?_;refine I ?_;refine tZ 44 (.cc 2 fm fB l[k].cR) rfl rfl (.eG (ne_of_lt gT)) ?_;refine eU l[k].cR[j] (bm gT) ?_;refine I ?_;refine tZ 51 (.cc 3 dx et l) rfl rfl (.eG (ne_of_lt aN)) ?_;refine eU l[k] (bm aN) ?_;refine I ?_;refine tZ 55 (.cc 2 fm fB l[k].cR) rfl rfl (.eG (ne_of_lt gT)) ?_;refine eU l[k].cR[j] (bm gT) ?_;refine aq 38 ?_;refine e8 38 ((j+1:Nat):Int) (I ?_);exact bf [] (j+1,Cl m l[k].cR[j]) ⟨by show 1000-(j+1)<1000-j;omega,hj⟩ dj
    ·refine v0 35 (show¬(j:Int)<1000 by omega) ?_;rw[up (xz (by omega))];refine aq 15 ?_;refine e8 15 ((k+1:Nat):Int) (I ?_);exact bf [] (k+1,ri n l[k]) ⟨by show 1000-(k+1)<1000-k;omega,an⟩ dj
   ·refine v0 32 (show¬(j:Int)<(l[k].cR.length:Int) by omega) ?_;rw[up (xz (by omega))];refine aq 15 ?_;refine e8 15 ((k+1:Nat):Int) (I ?_);exact bf [] (k+1,ri n l[k]) ⟨by show 1000-(k+1)<1000-k;omega,an⟩ dj
  ·refine v0 12 (show¬(k:Int)<1000 by omega) ?_;rw[fin (xz (by omega))];refine I ?_;exact au rfl (.refl _)
 ·refine v0 9 (show¬(k:Int)<(l.length:Int) by omega) ?_;rw[fin (xz (by omega))];refine I ?_;exact au rfl (.refl _)
def LF:bD where
 L:=ac ei
 args:=fun l=>[.a6 6 ei e4 l]
 pre:=fun _=>True
 res:=fun l=>.i .i64 (sH l)
def LG:bl aT.ctx 12 LF.spec:=by
 refine bI [(43,acf.spec)] TB.1 ?_;intro(l:ac ei) _ H aK;refine I ?_;refine cN (L:=Nat×Int) (fun(k,n)=>((l.take 1000).drop k).foldl z5 n=sH l) (fun(k,n)=>⟨[],0,[(0,.a6 6 ei e4 l),(3,.i .i64 n),(4,.i .i64 (k:Int))]⟩) (fun q=>1000-q.1) [] (0,0) rfl (by show 1000-0<bV+1;unfold bV;omega) dj ?_;rintro⟨k,n⟩ an;have an:((l.take 1000).drop k).foldl z5 n=sH l:=an;have fin:((l.take 1000).drop k=[])->n=sH l:=fun h=>by rw[h]at an;exact an
 refine aq 8 ?_;by_cases aN:k<l.length
 ·refine v1 8 (show(k:Int)<(l.length:Int) by omega) (aq 11 ?_);by_cases Nw:k<1000
  ·refine v1 11 (show(k:Int)<1000 by omega) ?_;rw[Kn aN Nw]at an;have an:((l.take 1000).drop (k+1)).foldl z5 (z5 n l[k])=sH l:=an;refine I ?_;refine tZ 38 (.cc 6 ei e4 l) rfl rfl (.eG (ne_of_lt aN)) ?_;refine eU l[k] (bm aN) ?_;refine I ?_;refine bQ acg l[k].low trivial (I ?_);refine tZ 45 (.cc 6 ei e4 l) rfl rfl (.eG (ne_of_lt aN)) ?_;refine eU l[k] (bm aN) ?_;refine I ?_;refine bQ acg l[k].high trivial (I ?_);refine tZ 16 (.cc 6 ei e4 l) rfl rfl (.eG (ne_of_lt aN)) ?_;refine eU l[k] (bm aN) ?_;refine I ?_;refine tZ 23 (.cc 6 ei e4 l) rfl rfl (.eG (ne_of_lt aN)) ?_;refine eU l[k] (bm aN) ?_;refine I ?_;refine tZ 30 (.cc 6 ei e4 l) rfl rfl (.eG (ne_of_lt aN)) ?_;refine eU l[k] (bm aN) ?_;refine aq 14 ?_;refine e8 14 ((k+1:Nat):Int) (I ?_);exact bf [] (k+1,z5 n l[k]) ⟨by show 1000-(k+1)<1000-k;omega,an⟩ dj
  ·refine v0 11 (show¬(k:Int)<1000 by omega) ?_;rw[fin (xz (by omega))];refine I ?_;exact au rfl (.refl _)
 ·refine v0 8 (show¬(k:Int)<(l.length:Int) by omega) ?_;rw[fin (xz (by omega))];refine I ?_;exact au rfl (.refl _)
def Hk:bD where
 L:=eS
 args:=fun x=>[.agg (eO x)]
 pre:=fun _=>True
 res:=fun x=>.b (uN x)
def alq:bl aT.ctx 11 Hk.spec:=by
 refine bI [(12,LF.spec),(42,Tc.spec)] wx.1 ?_;intro(x:eS) _ H aK;have yes:Ev x->bS (.b true) (Hk.res x):=fun h=>.of (bM (zac h).symm);have no:¬Ev x->bS (.b false) (Hk.res x):=fun h=>.of (bM (zad h).symm);refine aq 7 ?_;by_cases J:100<(x.c4.length:Int)
 ·refine e9 7 J (I ?_);exact au rfl (yes (.inl J))
 refine hK 7 J (aq 12 ?_);by_cases U:100<(x.st.length:Int)
 ·refine e9 12 U (I ?_);exact au rfl (yes (.inr (.inl U)))
 refine hK 12 U (aq 18 ?_);by_cases ag:300<(x.cut.length:Int)
 ·refine e9 18 ag (I ?_);exact au rfl (yes (.inr (.inr (.inl ag))))
 refine hK 18 ag (I ?_);refine bQ LG x.c4 trivial (I ?_);refine bQ LG x.st trivial (aq 28 ?_);by_cases az:6000<wr (sH x.c4+sH x.st)
 ·refine v1 28 az (I ?_);exact au rfl (yes (.inr (.inr (.inr (.inl az)))))
 refine v0 28 az (I ?_);refine cN (L:=Nat) (fun k=>k<=x.c4.length∧(x.c4.drop k).any qc=x.c4.any qc) (fun(k:Nat)=>⟨[.c 47 (eO x)],1,[(1,.p 0 0),(3,.i .i64 (k:Int))]⟩) (fun k=>x.c4.length-k) [0] 0 ⟨zae _,rfl⟩ hF dI ?_;rintro(k:Nat) ⟨ab,an⟩;refine aq 34 ?_;by_cases aN:k<x.c4.length
 ·refine v1 34 (show(k:Int)<(x.c4.length:Int) by omega) ?_;rw[eX aN]at an;have an:(qc x.c4[k]||(x.c4.drop (k+1)).any qc)=x.c4.any qc:=an;refine I ?_;refine dz 38 (.cc 6 ei e4 x.c4) rfl (.eG (ne_of_lt aN)) ?_;refine dr x.c4[k] (bm aN) ?_;refine I ?_;refine aX Td x.c4[k].low trivial ?_;cases ae:rM x.c4[k].low with
  |false=>
   refine ax 43 (.b false) rfl (bM ae) ?_;have hm:qc x.c4[k]=true:=by unfold qc;rw[ae];rfl
   rw[hm,zcP]at an;refine I ?_;exact au rfl (yes (.inr (.inr (.inr (.inr an.symm)))))
  |true=>
   refine ax 43 (.b true) rfl (bM ae) (I ?_);refine dz 47 (.cc 6 ei e4 x.c4) rfl (.eG (ne_of_lt aN)) ?_;refine dr x.c4[k] (bm aN) ?_;refine I ?_;refine aX Td x.c4[k].high trivial ?_;cases aR:rM x.c4[k].high with
   |false=>
    refine ax 52 (.b false) rfl (bM aR) ?_;have hm:qc x.c4[k]=true:=by unfold qc;rw[ae,aR];rfl
    rw[hm,zcP]at an;refine I ?_;exact au rfl (yes (.inr (.inr (.inr (.inr an.symm)))))
   |true=>
    refine ax 52 (.b true) rfl (bM aR) ?_;have hm:qc x.c4[k]=false:=by unfold qc;rw[ae,aR];rfl
    rw[hm,zeu]at an;refine aq 36 ?_;refine e8 36 ((k+1:Nat):Int) (I ?_);exact bf [0] (k+1) ⟨by show _-(k+1)<_-k;omega,aN,an⟩ dI
 refine v0 34 (show¬(k:Int)<(x.c4.length:Int) by omega) ?_;rw[zan (by omega)]at an;have an:false=x.c4.any qc:=an;refine I ?_;exact au rfl (no (fun h=>h.elim J fun h=>h.elim U fun h=>h.elim ag fun h=>h.elim az fun h=>by rw[<-an]at h;cases h))
def wW(p:dK)(q:g4):Prop:=vU p∨20<(q.bZ.length:Int)∨300<(q.aQ.length:Int)∨300<(q.af.length:Int)∨300<(q.err.length:Int)∨q.bZ.any uN=true∨12000<q.bZ.foldl uO 0
variable{s:ac bv}
instance(p:dK)(q:g4):Decidable (wW p q):=by unfold wW;infer_instance
def Ip:bD where
 L:=dK×g4
 args:=fun(p,q)=>[.agg (ih p++ig q)]
 pre:=fun(p,q)=>zR p
 res:=fun(p,q)=>.b (decide (wW p q))
def Yk:bl aT.ctx 4 Ip.spec:=by
 refine bI [(10,Yl.spec),(11,Hk.spec),(12,LF.spec)] cf.1 ?_;intro⟨p,q⟩ (hp:zR p) H aK;have yes:wW p q->bS (.b true) (Ip.res (p,q)):=fun h=>.of (bM (zac h).symm);have no:¬wW p q->bS (.b false) (Ip.res (p,q)):=fun h=>.of (bM (zad h).symm);refine I ?_;refine aX ao5 p hp ?_;by_cases J:vU p
 ·refine dS 7 J (I ?_);exact au rfl (yes (.inl J))
 refine eu 7 J (aq 13 ?_);by_cases U:20<(q.bZ.length:Int)
 ·refine v1 13 U (I ?_);exact au rfl (yes (.inr (.inl U)))
 refine v0 13 U (aq 20 ?_);by_cases ag:300<(q.aQ.length:Int)
 ·refine v1 20 ag (I ?_);exact au rfl (yes (.inr (.inr (.inl ag))))
 refine v0 20 ag (aq 27 ?_);by_cases az:300<(q.af.length:Int)
 ·refine v1 27 az (I ?_);exact au rfl (yes (.inr (.inr (.inr (.inl az)))))
 refine v0 27 az (aq 34 ?_);by_cases a4:300<(q.err.length:Int)
 ·refine v1 34 a4 (I ?_);exact au rfl (yes (.inr (.inr (.inr (.inr (.inl a4))))))
 refine v0 34 a4 (I ?_);refine cN (L:=Nat×Int) (fun(k,n)=>k<=q.bZ.length∧(q.bZ.drop k).any uN=q.bZ.any uN∧(q.bZ.drop k).foldl uO n=q.bZ.foldl uO 0) (fun(k,n)=>⟨[.c 36 (ih p++ig q)],1,[(1,.p 0 0),(3,.i .i64 n),(4,.i .i64 (k:Int))]⟩) (fun r=>q.bZ.length-r.1) [0] (0,0) ⟨zae _,rfl,rfl⟩ hF dI ?_;rintro⟨k,n⟩ ⟨ab,an,hn⟩;refine aq 41 ?_;by_cases aN:k<q.bZ.length
 ·refine v1 41 (show(k:Int)<(q.bZ.length:Int) by omega) ?_;rw[eX aN]at an hn;have an:(uN q.bZ[k]||(q.bZ.drop (k+1)).any uN)=q.bZ.any uN:=an;have hn:(q.bZ.drop (k+1)).foldl uO (uO n q.bZ[k])=q.bZ.foldl uO 0:=hn;refine I ?_;refine dr q.bZ[k] (bm aN) ?_;refine I ?_;refine aX alq q.bZ[k] trivial ?_;cases aR:uN q.bZ[k]with
  |true=>
   refine ax 50 (.b true) rfl (bM aR) ?_;rw[aR,zcP]at an;refine I ?_;exact au rfl (yes (.inr (.inr (.inr (.inr (.inr (.inl an.symm)))))))
  |false=>
   refine ax 50 (.b false) rfl (bM aR) ?_;rw[aR,zeu]at an;refine I ?_;refine dr q.bZ[k] (bm aN) ?_;refine I ?_;refine aX LG q.bZ[k].c4 trivial (aq 43 ?_);refine e8 43 ((k+1:Nat):Int) (I ?_);exact bf [0] (k+1,uO n q.bZ[k]) ⟨by show _-(k+1)<_-k;omega,aN,an,hn⟩ dI
 refine v0 41 (show¬(k:Int)<(q.bZ.length:Int) by omega) ?_;rw[zan (by omega)]at an hn;have an:false=q.bZ.any uN:=an;have hn:n=q.bZ.foldl uO 0:=hn;rw[hn];refine aq 62 ?_;by_cases cl:12000<q.bZ.foldl uO 0
 ·refine v1 62 cl (I ?_);exact au rfl (yes (.inr (.inr (.inr (.inr (.inr (.inr cl)))))))
 ·refine v0 62 cl (I ?_);exact au rfl (no (fun h=>h.elim J fun h=>h.elim U fun h=>h.elim ag fun h=>h.elim az fun h=>h.elim a4 fun h=>h.elim (fun h=>by rw[<-an]at h;cases h) cl))
def vZ{x:Rat}:gd x y<0↔x<y:=by
 unfold gd;by_cases h:x<y
 ·rw[zab h];exact⟨fun _=>h,fun _=>by decide⟩
 ·rw[zaa h];by_cases aG:x=y
  ·rw[zab aG];exact⟨fun h=>absurd h (by decide),fun g=>absurd g h⟩
  ·rw[zaa aG];exact⟨fun h=>absurd h (by decide),fun g=>absurd g h⟩
def u5{x:Rat}(h:cJ s=some x):u3 s= .ret (cO x):=by unfold u3;rw[h]
def u4(h:cJ s=none):u3 s= .a1 (jm 6):=by unfold u3;rw[h]
def YU:bD where
 L:=Rat×Rat
 args:=fun(x,y)=>[cO x,cO y]
 pre:=fun(x,y)=>eF 268435456 x∧eF 268435456 y
 res:=fun(x,y)=>cO (jA x y)
def apz:bl aT.ctx 76 YU.spec:=by
 refine bI [(74,BZ.spec)] Wg.1 ?_;intro⟨x,y⟩ hp H aK;refine I ?_;refine aX B0 (x,y) hp (aq 8 ?_);by_cases h:x<y
 ·refine v1 8 (show gd x y<0 from vZ.2 h) (I ?_);exact au rfl (.of (by show cO x=cO (jA x y);unfold jA;rw[zab h]))
 ·refine v0 8 (show¬gd x y<0 from fun g=>h (vZ.1 g)) (I ?_);exact au rfl (.of (by show cO y=cO (jA x y);unfold jA;rw[zaa h]))
def Oi:bD where
 L:=Rat×Rat
 args:=fun(x,y)=>[cO x,cO y]
 pre:=fun(x,y)=>eF 268435456 x∧eF 268435456 y
 res:=fun(x,y)=>cO (ga x y)
def YR:bl aT.ctx 29 Oi.spec:=by
 refine bI [(74,BZ.spec)] U4.1 ?_;intro⟨x,y⟩ hp H aK;refine I ?_;refine aX B0 (x,y) hp (aq 8 ?_);by_cases h:x<y
 ·refine v1 8 (show gd x y<0 from vZ.2 h) (I ?_);exact au rfl (.of (by show cO y=cO (ga x y);unfold ga;rw[zab h]))
 ·refine v0 8 (show¬gd x y<0 from fun g=>h (vZ.1 g)) (I ?_);exact au rfl (.of (by show cO x=cO (ga x y);unfold ga;rw[zaa h]))
def ab2:bD where
 L:=(Rat×Rat)×Rat×Rat
 args:=fun(a,b)=>[.agg (rn a.1++rn a.2),.agg (rn b.1++rn b.2)]
 pre:=fun(a,b)=>eF 268435456 a.1∧eF 268435456 a.2∧eF 268435456 b.1∧eF 268435456 b.2
 res:=fun(a,b)=>.agg (rn (jA a.1 b.1)++rn (ga a.2 b.2))
def at7:bl aT.ctx 28 ab2.spec:=by
 refine bI [(76,YU.spec),(29,Oi.spec)] UU.1 ?_;intro⟨(fa,fR),c3,dP⟩ ⟨J,U,ag,az⟩ H aK;refine I ?_;refine bQ apz (fa,c3) ⟨J,ag⟩ (I ?_);refine bQ YR (fR,dP) ⟨U,az⟩ (I ?_);exact au rfl (.refl _)
def m7(r aQ af:ac bv)(e:Int):Cw:=
 match cJ r with
 |none=>.a1 (jm 6)
 |some x=>match cJ aQ with
  |none=>.a1 (jm 6)
  |some a=>if a<x then(match cJ af with
   |none=>.a1 (jm 6)
   |some b=>if x<b then .ret (.bP [])else .a1 (jm e))else .a1 (jm e)
def RM:PP where
 L:=ac bv×ac bv×ac bv×Int
 args:=fun(r,aQ,af,e)=>[.s r,.agg [.s aQ,.s af],.i .i64 e]
 pre:=fun(r,aQ,af,e)=>r.length<=2000∧aQ.length<=2000∧af.length<=2000
 out:=fun(r,aQ,af,e)=>m7 r aQ af e
def RN:oV aT.ctx 25 RM.spec:=by
 refine Gf [(27,Oz.spec),(74,BZ.spec),(24,IK.spec)] Ux.1 ?_;intro⟨r,aQ,af,e⟩ ⟨J,U,ag⟩ H aK _;cases aE:cJ r with
 |none=>
  refine I ?_;refine BV mQ r J (jm 6) (u4 aE) ?_;refine I ?_;exact eP (wk (by show m7 r aQ af e=_;unfold m7;rw[aE]))
 |some x=>
 refine I ?_;refine BW mQ r J (cO x) (u5 aE) (I ?_);cases ha:cJ aQ with
 |none=>
  refine rG mQ aQ U (jm 6) (u4 ha) ?_ ?_
  ·refine I ?_;exact eP (wk (by show m7 r aQ af e=_;unfold m7;rw[aE,ha]))
  ·refine I ?_;exact eP rfl
 |some a=>
 refine sJ mQ aQ U (cO a) (u5 ha) (I ?_);refine bQ B0 (a,x) ⟨kI (q3 U ha) (by decide),kI (q3 J aE) (by decide)⟩ ?_;by_cases AE:a<x
 case neg=>
  refine I ?_;refine ax 15 (.b false) rfl (bM (zad (fun g=>AE (vZ.1 g)))) (I ?_);refine rG u1 (false,e) trivial (jm e) rfl ?_ ?_
  ·refine I ?_;exact eP (wk (by show m7 r aQ af e=_;unfold m7;rw[aE,ha];exact zaa AE))
  ·refine I ?_;exact eP rfl
 refine I ?_;refine ax 15 (.b true) rfl (bM (zac (vZ.2 AE))) (I ?_);cases hb:cJ af with
 |none=>
  refine rG mQ af ag (jm 6) (u4 hb) ?_ ?_
  ·refine I ?_;exact eP (wk (by show m7 r aQ af e=_;unfold m7;rw[aE,ha];simp only[zab AE,hb]))
  ·refine I ?_;exact eP rfl
 |some b=>
 refine sJ mQ af ag (cO b) (u5 hb) (I ?_);refine bQ B0 (x,b) ⟨kI (q3 J aE) (by decide),kI (q3 ag hb) (by decide)⟩ ?_;by_cases H5:x<b
 case neg=>
  refine I ?_;refine ax 22 (.b false) rfl (bM (zad (fun g=>H5 (vZ.1 g)))) (I ?_);refine rG u1 (false,e) trivial (jm e) rfl ?_ ?_
  ·refine I ?_;exact eP (wk (by show m7 r aQ af e=_;unfold m7;rw[aE,ha];simp only[zab AE,hb,zaa H5]))
  ·refine I ?_;exact eP rfl
 refine I ?_;refine ax 22 (.b true) rfl (bM (zac (vZ.2 H5))) (I ?_);refine sJ u1 (true,e) trivial (.bP []) rfl (I ?_);exact eP (G6 rfl rfl (by show m7 r aQ af e=_;unfold m7;rw[aE,ha];simp only[zab AE,hb,zab H5]) (.refl _))
def acE{own:ac bj}{p:Nat}{e bL:bO}{m:Nat}{o q:bj}(h:k5 [0,m] bL e)(al:∃bh,own[0]? =some bh∧gQ [0,m] o bh)(hq:∃bh,own[m]? =some bh∧gQ [0,m] q bh)(hm:0<m:=by decide)(hp:pinned p [0,m] 0=true:=by rfl):Sub p [0,m] ⟨own,n,e⟩ ⟨[o,q],2,bL⟩:=⟨by simp;omega,rfl,⟨al,hq,trivial⟩,h,hp⟩
abbrev sC:=ac bv×ac bv
def tx(x:sC):ac aj:=[.s x.1,.s x.2]
def tz(p:dK):ac sC:=p.ins.map fun x=>(x.aQ,x.af)
def asy(p:dK):Nat×ac sC->cz
 |(k,[])=>⟨[.c 27 (ih p)],1,[(1,.p 0 0),(2,.nl),(6,.cc 3 lr Bc p.ins),(7,.i .i64 (p.ins.length:Int)),(8,.i .i64 (k:Int))]⟩
 |(k,d::ds)=>⟨[.c 27 (ih p),.a 64 true 2 sC tx (d::ds)],2,[(1,.p 0 0),(2,.a5 1 2 0 (ds.length+1) (ds.length+1)),(6,.cc 3 lr Bc p.ins),(7,.i .i64 (p.ins.length:Int)),(8,.i .i64 (k:Int))]⟩
def abu:bD where
 L:=dK
 args:=fun p=>[jQ p]
 pre:=fun p=>p.ins.length<=1000
 res:=fun p=>.cc 2 sC tx (tz p)
def asn:bl aT.ctx 26 abu.spec:=by
 refine bI [] UE.1 ?_;intro(p:dK) (hl:p.ins.length<=1000) H aK;have p5:(tz p).length=p.ins.length:=zbS ..;refine I ?_;refine cN (L:=Nat×ac sC) (fun(k,l)=>k<=p.ins.length∧l=(tz p).take k) (asy p) (fun l=>p.ins.length-l.1) [0] (0,[]) ⟨zae _,rfl⟩ hF dI ?_;rintro⟨k,l⟩ ⟨ab,an⟩;have nR:l.length=k:=by rw[an,zao];omega
 by_cases aN:k<p.ins.length
 ·have MY:k<(tz p).length:=p5.symm▸aN;have aR:(tz p)[k]=(p.ins[k].aQ,p.ins[k].af):=zcM ..;have eH:(tz p).take (k+1)=l++[(p.ins[k].aQ,p.ins[k].af)]:=by rw[zaY MY,aR,<-an]
  cases l with
  |nil=>
   refine aq 9 ?_;refine v1 9 (show(k:Int)<(p.ins.length:Int) by omega) (I ?_);refine dr p.ins[k] (bm aN) ?_;refine I ?_;refine vh tx [(p.ins[k].aQ,p.ins[k].af)] (jj (R:=tx) [(p.ins[k].aQ,p.ins[k].af)] rfl) ?_;refine aq 20 ?_;refine e8 20 ((k+1:Nat):Int) (I ?_);exact bf [0,3] (k+1,[(p.ins[k].aQ,p.ins[k].af)]) ⟨by show _-(k+1)<_-k;omega,aN,eH.symm⟩ jS
  |cons d ds=>
   have iN:ds.length+1=k:=nR;refine aq 9 ?_;refine v1 9 (show(k:Int)<(p.ins.length:Int) by omega) (I ?_);refine dr p.ins[k] (bm aN) ?_;refine I ?_;refine vg (R:=tx) [(p.ins[k].aQ,p.ins[k].af)] (jj (R:=tx) [(p.ins[k].aQ,p.ins[k].af)] rfl) ?_;refine aq 20 ?_;refine e8 20 ((k+1:Nat):Int) (I ?_);exact bf [0,4] (k+1,d::(ds++[(p.ins[k].aQ,p.ins[k].af)])) ⟨by show _-(k+1)<_-k;omega,aN,eH.symm⟩ (acE ⟨rfl,congrArg (fun k=>some (aj.a5 4 2 0 k k)) (by simp),rfl,rfl,rfl,trivial⟩ ⟨_,rfl,rfl⟩ ⟨_,rfl,rfl,fun _=>rfl⟩)
 ·rw[zas (by omega)]at an;cases l with
  |nil=>
   refine aq 9 ?_;refine v0 9 (show¬(k:Int)<(p.ins.length:Int) by omega) (I ?_);exact au rfl (bS.nl.trans (.of (by show aj.cc 2 sC tx []=aj.cc 2 sC tx (tz p);rw[<-an])))
  |cons d ds=>
   refine aq 9 ?_;refine v0 9 (show¬(k:Int)<(p.ins.length:Int) by omega) (aq 2 ?_);refine kb 2 ?_;refine I ?_;exact au rfl (.of (by show aj.cc 2 sC tx (d::ds)=aj.cc 2 sC tx (tz p);rw[<-an]))
def Ir{g:ci}:bS (.v (.func (.func g) #[] #[])) (.fn (.func g) [] []):=fun _ _ _ d=>⟨[],[],d,rfl,rfl⟩
def vq{a b:ac bv}(h:a=b):aj.b (a==b)= .b true:=by rw[h,zbB]
def vp{a b:ac bv}(h:a≠b):aj.b (a==b)= .b false:=by rw[zat.2 h]
def tA(h:l.length*w<=oa)(hw:1<=w:=by decide):l.length<=140737488355328:=zag (zdl _ hw) h
def ab6:bD where
 L:=ac Int×ac Int
 args:=fun(a,b)=>[.a6 1 Int eZ a,.a6 1 Int eZ b]
 pre:=fun(a,_)=>a.length*8<=oa
 res:=fun(a,b)=>.b (ew nK a b)
def aue:bl aT.ctx 188 ab6.spec:=by
 refine bI [] Un.1 ?_;intro⟨a,b⟩ (ah:a.length*8<=oa) H aK;have ep:=tA ah;refine aq 10 ?_;by_cases hl:a.length=b.length
 case neg=>
  refine v1 10 (show(a.length:Int)≠(b.length:Int) by omega) (I ?_);exact au rfl (.of (bM (rJ hl).symm))
 refine v0 10 (fi (show(a.length:Int)=(b.length:Int) by omega)) (I ?_);refine cN (L:=Nat) (fun k=>k<=a.length∧ew nK (a.drop k) (b.drop k)=ew nK a b) (fun(k:Nat)=>⟨[],0,[(0,.a6 1 Int eZ a),(1,.a6 1 Int eZ b),(12,.i .i64 (a.length:Int)),(13,.i .i64 (k:Int))]⟩) (fun k=>a.length-k) [] 0 ⟨zae _,rfl⟩ hF dj ?_;rintro(k:Nat) ⟨ab,an⟩;refine aq 14 ?_;by_cases aN:k<a.length
 ·have fe:k<b.length:=by omega
  rw[eX aN,eX fe]at an;have an:(nK a[k] b[k]&&ew nK (a.drop (k+1)) (b.drop (k+1)))=ew nK a b:=an;refine v1 14 (show(k:Int)<(a.length:Int) by omega) ?_;refine dz 0 (.cc 1 Int eZ a) rfl (.eG (ne_of_lt aN)) ?_;refine dz 1 (.cc 1 Int eZ b) rfl (.eG (ne_of_lt fe)) ?_;refine I ?_;refine eU a[k] (bm aN) ?_;refine I ?_;refine eU b[k] (bm fe) ?_;refine aq 24 ?_;by_cases he:a[k]=b[k]
  ·rw[show nK a[k] b[k]=true from zac he,zbk]at an;refine hK 24 (fi he) (aq 25 ?_);refine e8 25 ((k+1:Nat):Int) ?_;refine dz 0 (.a6 1 Int eZ a) rfl .a6 ?_;refine dz 1 (.a6 1 Int eZ b) rfl .a6 ?_;refine I ?_;exact bf [] (k+1) ⟨by omega,aN,an⟩ dj
  ·rw[show nK a[k] b[k]=false from zad he,zdd]at an;refine e9 24 he (I ?_);exact au rfl (.of (bM an))
 ·refine v0 14 (show¬(k:Int)<(a.length:Int) by omega) ?_;rw[zan (by omega),zan (by omega)]at an;refine I ?_;exact au rfl (.of (bM an))
def wi(z w:Nat)(α:Type)(R:α->ac aj)(g:ci)(Q:α->Prop)(f:α->α->Bool):bD where
 L:=ac α×ac α
 args:=fun(a,b)=>[.a6 z α R a,.a6 z α R b,.fn (.func g) [] []]
 pre:=fun(a,_)=>iI w Q a
 res:=fun(a,b)=>.b (ew f a b)
def GZ(α:Type)(R:α->ac aj)(Q:α->Prop)(f:α->α->Bool):bD where
 L:=α×α
 args:=fun(x,y)=>[.agg (R x),.agg (R y)]
 pre:=fun(x,_)=>Q x
 res:=fun(x,y)=>.b (f x y)
def Dp(z w:Nat)(α:Type)(R:α->ac aj)(Q:α->Prop)(f:α->α->Bool):bD where
 L:=ac α×ac α
 args:=fun(a,b)=>[.a6 z α R a,.a6 z α R b]
 pre:=fun(a,_)=>iI w Q a
 res:=fun(a,b)=>.b (ew f a b)
abbrev adx:=GZ fm fB tO hZ
abbrev adw:=GZ dx et pH hs
abbrev adu:=GZ ei e4 pG fV
abbrev adv:=GZ eS eO rq fZ
def ahp:bl aT.ctx 187 adx.spec:=by
 refine bI [(188,ab6.spec)] Um.1 ?_;intro⟨x,y⟩ (ah:x.ji.length*8<=oa) H aK;refine aq 9 ?_;by_cases J:x.mu=y.mu
 case neg=>
  refine ax 9 (.b false) rfl (vp J) (I ?_);exact au rfl (.of (bM (by show _=hZ x y;unfold hZ;rw[zad J];rfl)))
 refine ax 9 (.b true) rfl (vq J) (I ?_);refine aX aue (x.ji,y.ji) ah (I ?_);exact au rfl (.of (bM (by show _=hZ x y;unfold hZ;rw[zac J];rfl)))
def ah8:bl aT.ctx 186 (wi 2 40 fm fB 187 tO hZ).spec:=by
 refine bI [(187,adx.spec)] Ul.1 ?_;intro⟨a,b⟩ (ah:iI 40 tO a) H aK;have ep:=tA ah.1;refine aq 14 ?_;by_cases hl:a.length=b.length
 case neg=>
  refine v1 14 (show(a.length:Int)≠(b.length:Int) by omega) (I ?_);exact au rfl (.of (bM (rJ hl).symm))
 refine v0 14 (fi (show(a.length:Int)=(b.length:Int) by omega)) (I ?_);refine cN (L:=Nat) (fun k=>k<=a.length∧ew hZ (a.drop k) (b.drop k)=ew hZ a b) (fun(k:Nat)=>⟨[],0,[(1,.a6 2 fm fB b),(2,.fn (.func 187) [] []),(15,.a6 2 fm fB a),(16,.i .i64 (a.length:Int)),(17,.i .i64 (k:Int))]⟩) (fun k=>a.length-k) [] 0 ⟨zae _,rfl⟩ hF dj ?_;rintro(k:Nat) ⟨ab,an⟩;refine aq 18 ?_;by_cases aN:k<a.length
 ·have fe:k<b.length:=by omega
  rw[eX aN,eX fe]at an;have an:(hZ a[k] b[k]&&ew hZ (a.drop (k+1)) (b.drop (k+1)))=ew hZ a b:=an;refine v1 18 (show(k:Int)<(a.length:Int) by omega) ?_;refine dz 15 (.cc 2 fm fB a) rfl (.eG (ne_of_lt aN)) ?_;refine dz 1 (.cc 2 fm fB b) rfl (.eG (ne_of_lt fe)) ?_;refine I ?_;refine dr a[k] (bm aN) ?_;refine I ?_;refine dr b[k] (bm fe) ?_;refine I ?_;refine vi ahp (a[k],b[k]) (ah.get aN) ?_;cases he:hZ a[k] b[k]with
  |true=>
   rw[he,zbk]at an;refine ax 29 (.b true) rfl (bM he) (aq 31 ?_);refine e8 31 ((k+1:Nat):Int) ?_;refine dz 15 (.a6 2 fm fB a) rfl .a6 ?_;refine dz 1 (.a6 2 fm fB b) rfl .a6 ?_;refine I ?_;exact bf [] (k+1) ⟨by omega,aN,an⟩ dj
  |false=>
   rw[he,zdd]at an;refine ax 29 (.b false) rfl (bM he) (I ?_);exact au rfl (.of (bM an))
 ·refine v0 18 (show¬(k:Int)<(a.length:Int) by omega) ?_;rw[zan (by omega),zan (by omega)]at an;refine I ?_;exact au rfl (.of (bM an))
abbrev av9:=wi 2 40 fm fB 187 tO hZ
abbrev av8:=wi 3 48 dx et 185 pH hs
abbrev av6:=wi 6 104 ei e4 89 pG fV
abbrev av7:=wi 5 80 eS eO 39 rq fZ
def aho:bl aT.ctx 185 adw.spec:=by
 refine bI [(186,av9.spec)] Uk.1 ?_;intro⟨x,y⟩ (ah:iI 40 tO x.cR) H aK;refine aq 9 ?_;by_cases J:x.mu=y.mu
 case neg=>
  refine ax 9 (.b false) rfl (vp J) (I ?_);exact au rfl (.of (bM (by show _=hs x y;unfold hs;rw[zad J];rfl)))
 refine ax 9 (.b true) rfl (vq J) (aq 15 ?_);by_cases U:x.oB=y.oB
 case neg=>
  refine v0 15 U (I ?_);exact au rfl (.of (bM (by show _=hs x y;unfold hs;rw[zac J,zad U];rfl)))
 refine v1 15 U (I ?_);refine aX ah8 (x.cR,y.cR) ah (I ?_) (he:=by exact⟨.refl _,.refl _,Ir,trivial⟩);exact au rfl (.of (bM (by show _=hs x y;unfold hs;rw[zac J,zac U];rfl)))
def ah7:bl aT.ctx 184 (wi 3 48 dx et 185 pH hs).spec:=by
 refine bI [(185,adw.spec)] Uj.1 ?_;intro⟨a,b⟩ (ah:iI 48 pH a) H aK;have ep:=tA ah.1;refine aq 14 ?_;by_cases hl:a.length=b.length
 case neg=>
  refine v1 14 (show(a.length:Int)≠(b.length:Int) by omega) (I ?_);exact au rfl (.of (bM (rJ hl).symm))
 refine v0 14 (fi (show(a.length:Int)=(b.length:Int) by omega)) (I ?_);refine cN (L:=Nat) (fun k=>k<=a.length∧ew hs (a.drop k) (b.drop k)=ew hs a b) (fun(k:Nat)=>⟨[],0,[(1,.a6 3 dx et b),(2,.fn (.func 185) [] []),(15,.a6 3 dx et a),(16,.i .i64 (a.length:Int)),(17,.i .i64 (k:Int))]⟩) (fun k=>a.length-k) [] 0 ⟨zae _,rfl⟩ hF dj ?_;rintro(k:Nat) ⟨ab,an⟩;refine aq 18 ?_;by_cases aN:k<a.length
 ·have fe:k<b.length:=by omega
  rw[eX aN,eX fe]at an;have an:(hs a[k] b[k]&&ew hs (a.drop (k+1)) (b.drop (k+1)))=ew hs a b:=an;refine v1 18 (show(k:Int)<(a.length:Int) by omega) ?_;refine dz 15 (.cc 3 dx et a) rfl (.eG (ne_of_lt aN)) ?_;refine dz 1 (.cc 3 dx et b) rfl (.eG (ne_of_lt fe)) ?_;refine I ?_;refine dr a[k] (bm aN) ?_;refine I ?_;refine dr b[k] (bm fe) ?_;refine I ?_;refine vi aho (a[k],b[k]) (ah.get aN) ?_;cases he:hs a[k] b[k]with
  |true=>
   rw[he,zbk]at an;refine ax 29 (.b true) rfl (bM he) (aq 31 ?_);refine e8 31 ((k+1:Nat):Int) ?_;refine dz 15 (.a6 3 dx et a) rfl .a6 ?_;refine dz 1 (.a6 3 dx et b) rfl .a6 ?_;refine I ?_;exact bf [] (k+1) ⟨by omega,aN,an⟩ dj
  |false=>
   rw[he,zdd]at an;refine ax 29 (.b false) rfl (bM he) (I ?_);exact au rfl (.of (bM an))
 ·refine v0 18 (show¬(k:Int)<(a.length:Int) by omega) ?_;rw[zan (by omega),zan (by omega)]at an;refine I ?_;exact au rfl (.of (bM an))
abbrev adC:=Dp 3 48 dx et pH hs
def adD:bl aT.ctx 90 adC.spec:=by
 refine bI [(184,av8.spec)] Wt.1 ?_;intro⟨a,b⟩ ah H aK;refine I ?_;refine aX ah7 (a,b) ah (I ?_) (he:=by exact⟨.refl _,.refl _,Ir,trivial⟩);exact au rfl (.refl _)
def ahm:bl aT.ctx 89 adu.spec:=by
 refine bI [(90,adC.spec)] Ws.1 ?_;intro⟨x,y⟩ ⟨Mq,Ms⟩ H aK;refine aq 9 ?_;by_cases J:x.zo=y.zo
 case neg=>
  refine v0 9 J (I ?_);exact au rfl (.of (bM (by show _=fV x y;unfold fV;rw[zad J];rfl)))
 refine v1 9 J (aq 15 ?_);by_cases U:x.aQ=y.aQ
 case neg=>
  refine ax 15 (.b false) rfl (vp U) (I ?_);exact au rfl (.of (bM (by show _=fV x y;unfold fV;rw[zac J,zad U];rfl)))
 refine ax 15 (.b true) rfl (vq U) (aq 22 ?_);by_cases ag:x.af=y.af
 case neg=>
  refine ax 22 (.b false) rfl (vp ag) (I ?_);exact au rfl (.of (bM (by show _=fV x y;unfold fV;rw[zac J,zac U,zad ag];rfl)))
 refine ax 22 (.b true) rfl (vq ag) (aq 29 ?_);by_cases az:x.err=y.err
 case neg=>
  refine ax 29 (.b false) rfl (vp az) (I ?_);exact au rfl (.of (bM (by show _=fV x y;unfold fV;rw[zac J,zac U,zac ag,zad az];rfl)))
 refine ax 29 (.b true) rfl (vq az) (I ?_);refine aX adD (x.low,y.low) Mq ?_;cases g1:ew hs x.low y.low with
 |false=>
  refine g3 36 g1 (I ?_);exact au rfl (.of (bM (by show _=fV x y;unfold fV;rw[zac J,zac U,zac ag,zac az,g1];rfl)))
 |true=>
 refine g3 36 g1 (I ?_);refine aX adD (x.high,y.high) Ms (I ?_);exact au rfl (.of (bM (by show _=fV x y;unfold fV;rw[zac J,zac U,zac ag,zac az,g1];rfl)))
def ah5:bl aT.ctx 88 (wi 6 104 ei e4 89 pG fV).spec:=by
 refine bI [(89,adu.spec)] Wr.1 ?_;intro⟨a,b⟩ (ah:iI 104 pG a) H aK;have ep:=tA ah.1;refine aq 14 ?_;by_cases hl:a.length=b.length
 case neg=>
  refine v1 14 (show(a.length:Int)≠(b.length:Int) by omega) (I ?_);exact au rfl (.of (bM (rJ hl).symm))
 refine v0 14 (fi (show(a.length:Int)=(b.length:Int) by omega)) (I ?_);refine cN (L:=Nat) (fun k=>k<=a.length∧ew fV (a.drop k) (b.drop k)=ew fV a b) (fun(k:Nat)=>⟨[],0,[(1,.a6 6 ei e4 b),(2,.fn (.func 89) [] []),(15,.a6 6 ei e4 a),(16,.i .i64 (a.length:Int)),(17,.i .i64 (k:Int))]⟩) (fun k=>a.length-k) [] 0 ⟨zae _,rfl⟩ hF dj ?_;rintro(k:Nat) ⟨ab,an⟩;refine aq 18 ?_;by_cases aN:k<a.length
 ·have fe:k<b.length:=by omega
  rw[eX aN,eX fe]at an;have an:(fV a[k] b[k]&&ew fV (a.drop (k+1)) (b.drop (k+1)))=ew fV a b:=an;refine v1 18 (show(k:Int)<(a.length:Int) by omega) ?_;refine dz 15 (.cc 6 ei e4 a) rfl (.eG (ne_of_lt aN)) ?_;refine dz 1 (.cc 6 ei e4 b) rfl (.eG (ne_of_lt fe)) ?_;refine I ?_;refine dr a[k] (bm aN) ?_;refine I ?_;refine dr b[k] (bm fe) ?_;refine I ?_;refine vi ahm (a[k],b[k]) (ah.get aN) ?_;cases he:fV a[k] b[k]with
  |true=>
   rw[he,zbk]at an;refine ax 29 (.b true) rfl (bM he) (aq 31 ?_);refine e8 31 ((k+1:Nat):Int) ?_;refine dz 15 (.a6 6 ei e4 a) rfl .a6 ?_;refine dz 1 (.a6 6 ei e4 b) rfl .a6 ?_;refine I ?_;exact bf [] (k+1) ⟨by omega,aN,an⟩ dj
  |false=>
   rw[he,zdd]at an;refine ax 29 (.b false) rfl (bM he) (I ?_);exact au rfl (.of (bM an))
 ·refine v0 18 (show¬(k:Int)<(a.length:Int) by omega) ?_;rw[zan (by omega),zan (by omega)]at an;refine I ?_;exact au rfl (.of (bM an))
abbrev adA:=Dp 6 104 ei e4 pG fV
def adB:bl aT.ctx 40 adA.spec:=by
 refine bI [(88,av6.spec)] VK.1 ?_;intro⟨a,b⟩ ah H aK;refine I ?_;refine aX ah5 (a,b) ah (I ?_) (he:=by exact⟨.refl _,.refl _,Ir,trivial⟩);exact au rfl (.refl _)
def ahn:bl aT.ctx 39 adv.spec:=by
 refine bI [(40,adA.spec)] VH.1 ?_;intro⟨x,y⟩ ⟨Mq,Ms⟩ H aK;refine aq 9 ?_;by_cases J:x.kind=y.kind
 case neg=>
  refine v0 9 J (I ?_);exact au rfl (.of (bM (by show _=fZ x y;unfold fZ;rw[zad J];rfl)))
 refine v1 9 J (aq 15 ?_);by_cases U:x.oB=y.oB
 case neg=>
  refine v0 15 U (I ?_);exact au rfl (.of (bM (by show _=fZ x y;unfold fZ;rw[zac J,zad U];rfl)))
 refine v1 15 U (aq 22 ?_);by_cases ag:x.cut=y.cut
 case neg=>
  refine ax 22 (.b false) rfl (vp ag) (I ?_);exact au rfl (.of (bM (by show _=fZ x y;unfold fZ;rw[zac J,zac U,zad ag];rfl)))
 refine ax 22 (.b true) rfl (vq ag) (I ?_);refine aX adB (x.c4,y.c4) Mq ?_;cases g1:ew fV x.c4 y.c4 with
 |false=>
  refine g3 29 g1 (I ?_);exact au rfl (.of (bM (by show _=fZ x y;unfold fZ;rw[zac J,zac U,zac ag,g1];rfl)))
 |true=>
 refine g3 29 g1 (I ?_);refine aX adB (x.st,y.st) Ms (I ?_);exact au rfl (.of (bM (by show _=fZ x y;unfold fZ;rw[zac J,zac U,zac ag,g1];rfl)))
def ah6:bl aT.ctx 38 (wi 5 80 eS eO 39 rq fZ).spec:=by
 refine bI [(39,adv.spec)] VD.1 ?_;intro⟨a,b⟩ (ah:iI 80 rq a) H aK;have ep:=tA ah.1;refine aq 14 ?_;by_cases hl:a.length=b.length
 case neg=>
  refine v1 14 (show(a.length:Int)≠(b.length:Int) by omega) (I ?_);exact au rfl (.of (bM (rJ hl).symm))
 refine v0 14 (fi (show(a.length:Int)=(b.length:Int) by omega)) (I ?_);refine cN (L:=Nat) (fun k=>k<=a.length∧ew fZ (a.drop k) (b.drop k)=ew fZ a b) (fun(k:Nat)=>⟨[],0,[(1,.a6 5 eS eO b),(2,.fn (.func 39) [] []),(15,.a6 5 eS eO a),(16,.i .i64 (a.length:Int)),(17,.i .i64 (k:Int))]⟩) (fun k=>a.length-k) [] 0 ⟨zae _,rfl⟩ hF dj ?_;rintro(k:Nat) ⟨ab,an⟩;refine aq 18 ?_;by_cases aN:k<a.length
 ·have fe:k<b.length:=by omega
  rw[eX aN,eX fe]at an;have an:(fZ a[k] b[k]&&ew fZ (a.drop (k+1)) (b.drop (k+1)))=ew fZ a b:=an;refine v1 18 (show(k:Int)<(a.length:Int) by omega) ?_;refine dz 15 (.cc 5 eS eO a) rfl (.eG (ne_of_lt aN)) ?_;refine dz 1 (.cc 5 eS eO b) rfl (.eG (ne_of_lt fe)) ?_;refine I ?_;refine dr a[k] (bm aN) ?_;refine I ?_;refine dr b[k] (bm fe) ?_;refine I ?_;refine vi ahn (a[k],b[k]) (ah.get aN) ?_;cases he:fZ a[k] b[k]with
  |true=>
   rw[he,zbk]at an;refine ax 29 (.b true) rfl (bM he) (aq 31 ?_);refine e8 31 ((k+1:Nat):Int) ?_;refine dz 15 (.a6 5 eS eO a) rfl .a6 ?_;refine dz 1 (.a6 5 eS eO b) rfl .a6 ?_;refine I ?_;exact bf [] (k+1) ⟨by omega,aN,an⟩ dj
  |false=>
   rw[he,zdd]at an;refine ax 29 (.b false) rfl (bM he) (I ?_);exact au rfl (.of (bM an))
 ·refine v0 18 (show¬(k:Int)<(a.length:Int) by omega) ?_;rw[zan (by omega),zan (by omega)]at an;refine I ?_;exact au rfl (.of (bM an))
def aae:bD where
 L:=g4×g4
 args:=fun(x,y)=>[.agg (ig x),.agg (ig y)]
 pre:=fun(x,_)=>rr x
 res:=fun(x,y)=>.b (la x y)
def E6:bl aT.ctx 9 aae.spec:=by
 refine bI [(38,av7.spec)] qF.1 ?_;intro⟨x,y⟩ (ah:iI 80 rq x.bZ) H aK;refine aq 9 ?_;by_cases J:x.aQ=y.aQ
 case neg=>
  refine ax 9 (.b false) rfl (vp J) (I ?_);exact au rfl (.of (bM (by show _=la x y;unfold la;rw[zad J];rfl)))
 refine ax 9 (.b true) rfl (vq J) (aq 15 ?_);by_cases U:x.af=y.af
 case neg=>
  refine ax 15 (.b false) rfl (vp U) (I ?_);exact au rfl (.of (bM (by show _=la x y;unfold la;rw[zac J,zad U];rfl)))
 refine ax 15 (.b true) rfl (vq U) (aq 22 ?_);by_cases ag:x.err=y.err
 case neg=>
  refine ax 22 (.b false) rfl (vp ag) (I ?_);exact au rfl (.of (bM (by show _=la x y;unfold la;rw[zac J,zac U,zad ag];rfl)))
 refine ax 22 (.b true) rfl (vq ag) (I ?_);refine aX ah6 (x.bZ,y.bZ) ah (I ?_) (he:=by exact⟨.a6,.a6,Ir,trivial⟩);exact au rfl (.of (bM (by show _=la x y;unfold la;rw[zac J,zac U,zac ag];rfl)))
def Rp:bD where
 L:=ac Int×ac Int
 args:=fun(a,b)=>[.a6 1 Int eZ a,.a6 1 Int eZ b]
 pre:=fun(a,b)=>a.length=b.length∧a.length*8<=oa
 res:=fun(a,b)=>.i .i64 (qt a b)
def aeE:bl aT.ctx 65 Rp.spec:=by
 refine bI [] V6.1 ?_;intro⟨a,b⟩ ⟨(hl:a.length=b.length),(ah:a.length*8<=oa)⟩ H aK;have ep:=tA ah;refine I ?_;refine cN (L:=Nat) (fun k=>k<=a.length∧qt (a.drop k) (b.drop k)=qt a b) (fun(k:Nat)=>⟨[],0,[(0,.a6 1 Int eZ a),(1,.a6 1 Int eZ b),(5,.i .i64 (k:Int))]⟩) (fun k=>a.length-k) [] 0 ⟨zae _,rfl⟩ hF dj ?_;rintro(k:Nat) ⟨ab,an⟩;refine aq 9 ?_;by_cases aN:k<a.length
 ·have fe:k<b.length:=by omega
  rw[eX aN,eX fe]at an;have an:(if a[k]<b[k]then(-1:Int)else if b[k]<a[k]then 1 else qt (a.drop (k+1)) (b.drop (k+1)))=qt a b:=an;refine v1 9 (show(k:Int)<(a.length:Int) by omega) ?_;refine dz 0 (.cc 1 Int eZ a) rfl (.eG (ne_of_lt aN)) ?_;refine dz 1 (.cc 1 Int eZ b) rfl (.eG (ne_of_lt fe)) ?_;refine I ?_;refine eU a[k] (bm aN) ?_;refine I ?_;refine eU b[k] (bm fe) ?_;refine aq 20 ?_;by_cases J:a[k]<b[k]
  ·rw[zab J]at an;refine e9 20 J (I ?_);exact au rfl (.of (by show aj.i .i64 (-1)= .i .i64 (qt a b);rw[an]))
  rw[zaa J]at an;refine hK 20 J (I ?_);refine eU a[k] (bm aN) ?_;refine I ?_;refine eU b[k] (bm fe) ?_;refine aq 29 ?_;by_cases U:b[k]<a[k]
  ·rw[zab U]at an;refine e9 29 U (I ?_);exact au rfl (.of (by show aj.i .i64 1= .i .i64 (qt a b);rw[an]))
  rw[zaa U]at an;refine hK 29 U (aq 11 ?_);refine e8 11 ((k+1:Nat):Int) ?_;refine dz 0 (.a6 1 Int eZ a) rfl .a6 ?_;refine dz 1 (.a6 1 Int eZ b) rfl .a6 ?_;refine I ?_;exact bf [] (k+1) ⟨by omega,aN,an⟩ dj
 ·refine v0 9 (show¬(k:Int)<(a.length:Int) by omega) ?_;rw[zan (by omega),zan (by omega)]at an;refine I ?_;exact au rfl (.of (by show aj.i .i64 0= .i .i64 (qt a b);rw[<-an];rfl))
abbrev O8:=Dp 2 40 fm fB tO hZ
def aq1:bl aT.ctx 19 O8.spec:=by
 refine bI [(65,Rp.spec)] Uo.1 ?_;intro⟨a,b⟩ (ah:iI 40 tO a) H aK;have ep:=tA ah.1;refine aq 10 ?_;by_cases hl:a.length=b.length
 case neg=>
  refine v1 10 (show(a.length:Int)≠(b.length:Int) by omega) (I ?_);exact au rfl (.of (bM (rJ hl).symm))
 refine v0 10 (fi (show(a.length:Int)=(b.length:Int) by omega)) (I ?_);refine cN (L:=Nat) (fun k=>k<=a.length∧ew hZ (a.drop k) (b.drop k)=ew hZ a b) (fun(k:Nat)=>⟨[],0,[(0,.a6 2 fm fB a),(1,.a6 2 fm fB b),(5,.i .i64 (k:Int))]⟩) (fun k=>a.length-k) [] 0 ⟨zae _,rfl⟩ hF dj ?_;rintro(k:Nat) ⟨ab,an⟩;refine aq 14 ?_;by_cases aN:k<a.length
 case neg=>
  refine v0 14 (show¬(k:Int)<(a.length:Int) by omega) ?_;rw[zan (by omega),zan (by omega)]at an;refine I ?_;exact au rfl (.of (bM an))
 have fe:k<b.length:=by omega
 rw[eX aN,eX fe]at an;have an:(hZ a[k] b[k]&&ew hZ (a.drop (k+1)) (b.drop (k+1)))=ew hZ a b:=an;have no:hZ a[k] b[k]=false->bS (.b false) (O8.res (a,b)):=fun h=>.of (bM (by rw[h]at an;exact an));refine v1 14 (show(k:Int)<(a.length:Int) by omega) ?_;refine dz 0 (.cc 2 fm fB a) rfl (.eG (ne_of_lt aN)) ?_;refine dz 1 (.cc 2 fm fB b) rfl (.eG (ne_of_lt fe)) ?_;refine I ?_;refine eU a[k] (bm aN) ?_;refine I ?_;refine eU b[k] (bm fe) ?_;refine aq 27 ?_;by_cases J:a[k].mu=b[k].mu
 case neg=>
  refine di 27 (.b true) rfl rfl (by rw[zat.2 J];rfl) ?_;refine I ?_;exact au rfl (no (by unfold hZ;rw[zad J];rfl))
 refine di 27 (.b false) rfl rfl (by rw[J,zbB];rfl) ?_;refine I ?_;refine eU a[k] (bm aN) ?_;refine I ?_;refine eU b[k] (bm fe) ?_;refine aq 41 ?_;by_cases U:a[k].ji.length=b[k].ji.length
 case neg=>
  refine e9 41 (show(a[k].ji.length:Int)≠(b[k].ji.length:Int) by omega) (I ?_);exact au rfl (no (by unfold hZ;rw[zac J,rJ U];rfl))
 refine hK 41 (fi (show(a[k].ji.length:Int)=(b[k].ji.length:Int) by omega)) (I ?_);refine eU a[k] (bm aN) ?_;refine I ?_;refine eU b[k] (bm fe) ?_;refine I ?_;refine bQ aeE (a[k].ji,b[k].ji) ⟨U,ah.get aN⟩ (aq 55 ?_);by_cases ag:qt a[k].ji b[k].ji=0
 case neg=>
  refine v1 55 ag (I ?_);exact au rfl (no (by
   unfold hZ;rw[zac J,eq_false_of_ne_true (fun h=>ag ((Li U).2 h))];rfl))
 refine v0 55 (fi ag) ?_;rw[show hZ a[k] b[k]=true by unfold hZ;rw[zac J,(Li U).1 ag];rfl,zbk]at an;refine aq 16 ?_;refine e8 16 ((k+1:Nat):Int) ?_;refine dz 0 (.a6 2 fm fB a) rfl .a6 ?_;refine dz 1 (.a6 2 fm fB b) rfl .a6 ?_;refine I ?_;exact bf [] (k+1) ⟨by omega,aN,an⟩ dj
abbrev O7:=Dp 3 48 dx et pH hs
def aal:bl aT.ctx 87 O7.spec:=by
 refine bI [(19,O8.spec)] Wq.1 ?_;intro⟨a,b⟩ (ah:iI 48 pH a) H aK;have ep:=tA ah.1;refine aq 10 ?_;by_cases hl:a.length=b.length
 case neg=>
  refine v1 10 (show(a.length:Int)≠(b.length:Int) by omega) (I ?_);exact au rfl (.of (bM (rJ hl).symm))
 refine v0 10 (fi (show(a.length:Int)=(b.length:Int) by omega)) (I ?_);refine cN (L:=Nat) (fun k=>k<=a.length∧ew hs (a.drop k) (b.drop k)=ew hs a b) (fun(k:Nat)=>⟨[],0,[(0,.a6 3 dx et a),(1,.a6 3 dx et b),(5,.i .i64 (k:Int))]⟩) (fun k=>a.length-k) [] 0 ⟨zae _,rfl⟩ hF dj ?_;rintro(k:Nat) ⟨ab,an⟩;refine aq 14 ?_;by_cases aN:k<a.length
 case neg=>
  refine v0 14 (show¬(k:Int)<(a.length:Int) by omega) ?_;rw[zan (by omega),zan (by omega)]at an;refine I ?_;exact au rfl (.of (bM an))
 have fe:k<b.length:=by omega
 rw[eX aN,eX fe]at an;have an:(hs a[k] b[k]&&ew hs (a.drop (k+1)) (b.drop (k+1)))=ew hs a b:=an;have no:hs a[k] b[k]=false->bS (.b false) (O7.res (a,b)):=fun h=>.of (bM (by rw[h]at an;exact an));refine v1 14 (show(k:Int)<(a.length:Int) by omega) ?_;refine dz 0 (.cc 3 dx et a) rfl (.eG (ne_of_lt aN)) ?_;refine dz 1 (.cc 3 dx et b) rfl (.eG (ne_of_lt fe)) ?_;refine I ?_;refine eU a[k] (bm aN) ?_;refine I ?_;refine eU b[k] (bm fe) ?_;refine aq 27 ?_;by_cases J:a[k].mu=b[k].mu
 case neg=>
  refine di 27 (.b true) rfl rfl (by rw[zat.2 J];rfl) ?_;refine I ?_;exact au rfl (no (by unfold hs;rw[zad J];rfl))
 refine di 27 (.b false) rfl rfl (by rw[J,zbB];rfl) ?_;refine I ?_;refine eU a[k] (bm aN) ?_;refine I ?_;refine eU b[k] (bm fe) ?_;refine aq 39 ?_;by_cases U:a[k].oB=b[k].oB
 case neg=>
  refine e9 39 U (I ?_);exact au rfl (no (by unfold hs;rw[zac J,zad U];rfl))
 refine hK 39 (fi U) (I ?_);refine eU a[k] (bm aN) ?_;refine I ?_;refine eU b[k] (bm fe) ?_;refine I ?_;refine bQ aq1 (a[k].cR,b[k].cR) (ah.get aN) ?_;cases ag:ew hZ a[k].cR b[k].cR with
 |false=>
  refine g3 52 ag (I ?_);exact au rfl (no (by unfold hs;rw[zac J,zac U,ag];rfl))
 |true=>
 refine g3 52 ag ?_;rw[show hs a[k] b[k]=true by unfold hs;rw[zac J,zac U,ag];rfl,zbk]at an;refine aq 16 ?_;refine e8 16 ((k+1:Nat):Int) ?_;refine dz 0 (.a6 3 dx et a) rfl .a6 ?_;refine dz 1 (.a6 3 dx et b) rfl .a6 ?_;refine I ?_;exact bf [] (k+1) ⟨by omega,aN,an⟩ dj
abbrev O6:=Dp 6 104 ei e4 pG fV
variable{e bL:bO}{m:Nat}{o:bj}
def aai:bl aT.ctx 37 O6.spec:=by
 refine bI [(87,O7.spec)] Vz.1 ?_;intro⟨a,b⟩ (ah:iI 104 pG a) H aK;have ep:=tA ah.1;refine aq 12 ?_;by_cases hl:a.length=b.length
 case neg=>
  refine v1 12 (show(a.length:Int)≠(b.length:Int) by omega) (I ?_);exact au rfl (.of (bM (rJ hl).symm))
 refine v0 12 (fi (show(a.length:Int)=(b.length:Int) by omega)) (I ?_);refine cN (L:=Nat) (fun k=>k<=a.length∧ew fV (a.drop k) (b.drop k)=ew fV a b) (fun(k:Nat)=>⟨[],0,[(0,.a6 6 ei e4 a),(1,.a6 6 ei e4 b),(5,.i .i64 (k:Int))]⟩) (fun k=>a.length-k) [] 0 ⟨zae _,rfl⟩ hF dj ?_;rintro(k:Nat) ⟨ab,an⟩;refine aq 16 ?_;by_cases aN:k<a.length
 case neg=>
  refine v0 16 (show¬(k:Int)<(a.length:Int) by omega) ?_;rw[zan (by omega),zan (by omega)]at an;refine I ?_;exact au rfl (.of (bM an))
 have fe:k<b.length:=by omega
 rw[eX aN,eX fe]at an;have an:(fV a[k] b[k]&&ew fV (a.drop (k+1)) (b.drop (k+1)))=ew fV a b:=an;have no:fV a[k] b[k]=false->bS (.b false) (O6.res (a,b)):=fun h=>.of (bM (by rw[h]at an;exact an));refine v1 16 (show(k:Int)<(a.length:Int) by omega) ?_;refine dz 0 (.cc 6 ei e4 a) rfl (.eG (ne_of_lt aN)) ?_;refine dz 1 (.cc 6 ei e4 b) rfl (.eG (ne_of_lt fe)) ?_;refine I ?_;refine eU a[k] (bm aN) ?_;refine I ?_;refine eU b[k] (bm fe) ?_;refine aq 31 ?_;by_cases J:a[k].zo=b[k].zo
 case neg=>
  refine v1 31 J (I ?_);exact au rfl (no (by unfold fV;rw[zad J];rfl))
 refine v0 31 (fi J) (aq 37 ?_);by_cases U:a[k].aQ=b[k].aQ
 case neg=>
  refine ax 37 (.b true) rfl (by rw[zat.2 U];rfl) (I ?_);exact au rfl (no (by unfold fV;rw[zac J,zad U];rfl))
 refine ax 37 (.b false) rfl (by rw[U,zbB];rfl) (aq 44 ?_);by_cases ag:a[k].af=b[k].af
 case neg=>
  refine ax 44 (.b true) rfl (by rw[zat.2 ag];rfl) (I ?_);exact au rfl (no (by unfold fV;rw[zac J,zac U,zad ag];rfl))
 refine ax 44 (.b false) rfl (by rw[ag,zbB];rfl) (aq 51 ?_);by_cases az:a[k].err=b[k].err
 case neg=>
  refine ax 51 (.b true) rfl (by rw[zat.2 az];rfl) (I ?_);exact au rfl (no (by unfold fV;rw[zac J,zac U,zac ag,zad az];rfl))
 refine ax 51 (.b false) rfl (by rw[az,zbB];rfl) (I ?_);refine aX aal (a[k].low,b[k].low) (ah.get aN).1 ?_;cases g1:ew hs a[k].low b[k].low with
 |false=>
  refine g3 58 g1 (I ?_);exact au rfl (no (by unfold fV;rw[zac J,zac U,zac ag,zac az,g1];rfl))
 |true=>
 refine g3 58 g1 (I ?_);refine aX aal (a[k].high,b[k].high) (ah.get aN).2 ?_;cases aM:ew hs a[k].high b[k].high with
 |false=>
  refine g3 66 aM (I ?_);exact au rfl (no (by unfold fV;rw[zac J,zac U,zac ag,zac az,g1,aM];rfl))
 |true=>
 refine g3 66 aM ?_;rw[show fV a[k] b[k]=true by unfold fV;rw[zac J,zac U,zac ag,zac az,g1,aM];rfl,zbk]at an;refine aq 18 ?_;refine e8 18 ((k+1:Nat):Int) ?_;refine dz 0 (.a6 6 ei e4 a) rfl .a6 ?_;refine dz 1 (.a6 6 ei e4 b) rfl .a6 ?_;refine I ?_;exact bf [] (k+1) ⟨by omega,aN,an⟩ dj
def JC:bD where
 L:=g4×g4
 args:=fun(x,y)=>[.agg (ig x),.agg (ig y)]
 pre:=fun(x,_)=>rr x
 res:=fun(x,y)=>.b (la x y)
def aaW:bl aT.ctx 8 JC.spec:=by
 refine bI [(37,O6.spec)] nO.1 ?_;intro⟨x,y⟩ (ah:iI 80 rq x.bZ) H aK;have ep:=tA ah.1;have IP:la x y=false->bS (.b false) (JC.res (x,y)):=fun h=>.of (bM h.symm);refine aq 12 ?_;by_cases J:x.aQ=y.aQ
 case neg=>
  refine ax 12 (.b true) rfl (by rw[zat.2 J];rfl) (I ?_);exact au rfl (IP (by unfold la;rw[zad J];rfl))
 refine ax 12 (.b false) rfl (by rw[J,zbB];rfl) (aq 18 ?_);by_cases U:x.af=y.af
 case neg=>
  refine ax 18 (.b true) rfl (by rw[zat.2 U];rfl) (I ?_);exact au rfl (IP (by unfold la;rw[zac J,zad U];rfl))
 refine ax 18 (.b false) rfl (by rw[U,zbB];rfl) (aq 25 ?_);by_cases ag:x.err=y.err
 case neg=>
  refine ax 25 (.b true) rfl (by rw[zat.2 ag];rfl) (I ?_);exact au rfl (IP (by unfold la;rw[zac J,zac U,zad ag];rfl))
 refine ax 25 (.b false) rfl (by rw[ag,zbB];rfl) (aq 34 ?_);by_cases hl:x.bZ.length=y.bZ.length
 case neg=>
  refine v1 34 (show(x.bZ.length:Int)≠(y.bZ.length:Int) by omega) (I ?_);exact au rfl (IP (by unfold la;rw[zac J,zac U,zac ag,rJ hl];rfl))
 refine v0 34 (fi (show(x.bZ.length:Int)=(y.bZ.length:Int) by omega)) ?_;have ja:la x y=ew fZ x.bZ y.bZ:=by unfold la;rw[zac J,zac U,zac ag];rfl
 clear J U ag;refine I ?_;refine cN (L:=Nat) (fun k=>k<=x.bZ.length∧ew fZ (x.bZ.drop k) (y.bZ.drop k)=ew fZ x.bZ y.bZ) (fun(k:Nat)=>⟨[.c 31 (ig x),.c 31 (ig y)],2,[(2,.p 0 0),(3,.p 1 0),(5,.i .i64 (k:Int))]⟩) (fun k=>x.bZ.length-k) [0,1] 0 ⟨zae _,rfl⟩ hF jS ?_;rintro(k:Nat) ⟨ab,an⟩;rw[<-ja]at an;refine aq 40 ?_;by_cases aN:k<x.bZ.length
 case neg=>
  refine v0 40 (show¬(k:Int)<(x.bZ.length:Int) by omega) ?_;rw[zan (by omega),zan (by omega)]at an;refine I ?_;exact au rfl (.of (bM an))
 have fe:k<y.bZ.length:=by omega
 rw[eX aN,eX fe]at an;have an:(fZ x.bZ[k] y.bZ[k]&&ew fZ (x.bZ.drop (k+1)) (y.bZ.drop (k+1)))=la x y:=an;have no:fZ x.bZ[k] y.bZ[k]=false->bS (.b false) (JC.res (x,y)):=fun h=>.of (bM (by rw[h]at an;exact an));refine v1 40 (show(k:Int)<(x.bZ.length:Int) by omega) (I ?_);refine eU x.bZ[k] (bm aN) ?_;refine I ?_;refine eU y.bZ[k] (bm fe) ?_;refine aq 57 ?_;by_cases J:x.bZ[k].kind=y.bZ[k].kind
 case neg=>
  refine v1 57 J (I ?_);exact au rfl (no (by unfold fZ;rw[zad J];rfl))
 refine v0 57 (fi J) (aq 63 ?_);by_cases U:x.bZ[k].oB=y.bZ[k].oB
 case neg=>
  refine v1 63 U (I ?_);exact au rfl (no (by unfold fZ;rw[zac J,zad U];rfl))
 refine v0 63 (fi U) (aq 70 ?_);by_cases ag:x.bZ[k].cut=y.bZ[k].cut
 case neg=>
  refine ax 70 (.b true) rfl (by rw[zat.2 ag];rfl) (I ?_);exact au rfl (no (by unfold fZ;rw[zac J,zac U,zad ag];rfl))
 refine ax 70 (.b false) rfl (by rw[ag,zbB];rfl) (I ?_);refine aX aai (x.bZ[k].c4,y.bZ[k].c4) (ah.get aN).1 ?_;cases g1:ew fV x.bZ[k].c4 y.bZ[k].c4 with
 |false=>
  refine g3 77 g1 (I ?_);exact au rfl (no (by unfold fZ;rw[zac J,zac U,zac ag,g1];rfl))
 |true=>
 refine g3 77 g1 (I ?_);refine aX aai (x.bZ[k].st,y.bZ[k].st) (ah.get aN).2 ?_;cases aM:ew fV x.bZ[k].st y.bZ[k].st with
 |false=>
  refine g3 85 aM (I ?_);exact au rfl (no (by unfold fZ;rw[zac J,zac U,zac ag,g1,aM];rfl))
 |true=>
 refine g3 85 aM ?_;rw[show fZ x.bZ[k] y.bZ[k]=true by unfold fZ;rw[zac J,zac U,zac ag,g1,aM];rfl,zbk,ja]at an;refine aq 42 ?_;refine e8 42 ((k+1:Nat):Int) (I ?_);exact bf [0,1] (k+1) ⟨by omega,aN,an⟩ jS
def Kl{own:ac bj}{p:Nat}(h:k5 [m] bL e)(al:∃bh,own[m]? =some bh∧gQ [m] o bh)(hp:pinned p [m] 0=true:=by rfl):Sub p [m] ⟨own,n,e⟩ ⟨[o],1,bL⟩:=⟨by simp,rfl,⟨al,trivial⟩,h,hp⟩
def auL{own:ac bj}{p:Nat}{q r:bj}(h:k5 [0,1,m] bL e)(al:∃bh,own[0]? =some bh∧gQ [0,1,m] o bh)(hq:∃bh,own[1]? =some bh∧gQ [0,1,m] q bh)(aE:∃bh,own[m]? =some bh∧gQ [0,1,m] r bh)(hm:1<m:=by decide)(hp:pinned p [0,1,m] 0=true:=by rfl):Sub p [0,1,m] ⟨own,n,e⟩ ⟨[o,q,r],3,bL⟩:=⟨by simp;omega,rfl,⟨al,hq,aE,trivial⟩,h,hp⟩
def FA{m:ac α}(ab:k<l.length)(an:m=l.take k):l.take (k+1)=m++[l[k]]:=by rw[zaY ab,an]
def aft(l:ac dx):Nat×ac dx->cz
 |(k,[])=>⟨[],0,[(2,.nl),(8,.a6 3 dx et l),(9,.i .i64 (l.length:Int)),(10,.i .i64 (k:Int))]⟩
 |(k,d::ds)=>⟨[.a 184 true 3 dx et (d::ds)],1,[(2,.a5 0 3 0 (ds.length+1) (ds.length+1)),(8,.a6 3 dx et l),(9,.i .i64 (l.length:Int)),(10,.i .i64 (k:Int))]⟩
def Sh:bD where
 L:=ac dx
 args:=fun l=>[.a6 3 dx et l]
 pre:=iI 48 pH
 res:=fun l=>.a6 3 dx et l
def agl(l:ac dx)(k:Nat)(s:dx):Nat×ac fm->cz
 |(j,[])=>⟨[.c 184 (et s)],1,[(2,.nl),(4,.p 0 0),(5,.nl),(8,.a6 3 dx et l),(9,.i .i64 (l.length:Int)),(10,.i .i64 (k:Int)),(15,.a6 2 fm fB s.cR),(16,.i .i64 (s.cR.length:Int)),(17,.i .i64 (j:Int))]⟩
 |(j,t::ts)=>⟨[.c 184 (et s),.a 73 true 2 fm fB (t::ts)],2,[(2,.nl),(4,.p 0 0),(5,.a5 1 2 0 (ts.length+1) (ts.length+1)),(8,.a6 3 dx et l),(9,.i .i64 (l.length:Int)),(10,.i .i64 (k:Int)),(15,.a6 2 fm fB s.cR),(16,.i .i64 (s.cR.length:Int)),(17,.i .i64 (j:Int))]⟩
def agn(l:ac dx)(k:Nat)(s:dx)(d:dx)(ds:ac dx):Nat×ac fm->cz
 |(j,[])=>⟨[.a 184 true 3 dx et (d::ds),.c 184 (et s)],2,[(2,.a5 0 3 0 (ds.length+1) (ds.length+1)),(4,.p 1 0),(5,.nl),(8,.a6 3 dx et l),(9,.i .i64 (l.length:Int)),(10,.i .i64 (k:Int)),(15,.a6 2 fm fB s.cR),(16,.i .i64 (s.cR.length:Int)),(17,.i .i64 (j:Int))]⟩
 |(j,t::ts)=>⟨[.a 184 true 3 dx et (d::ds),.c 184 (et s),.a 73 true 2 fm fB (t::ts)],3,[(2,.a5 0 3 0 (ds.length+1) (ds.length+1)),(4,.p 1 0),(5,.a5 2 2 0 (ts.length+1) (ts.length+1)),(8,.a6 3 dx et l),(9,.i .i64 (l.length:Int)),(10,.i .i64 (k:Int)),(15,.a6 2 fm fB s.cR),(16,.i .i64 (s.cR.length:Int)),(17,.i .i64 (j:Int))]⟩
def GD:bl aT.ctx 170 Sh.spec:=by
 refine bI [(148,LD.spec)] T5.1 ?_;intro(l:ac dx) (ah:iI 48 pH l) H aK;have lF:l.length*48<=140737488355328:=ah.1;refine I ?_;refine cN (L:=Nat×ac dx) (fun(k,m)=>k<=l.length∧m=l.take k) (aft l) (fun q=>l.length-q.1) [] (0,[]) ⟨zae _,rfl⟩ hF dj ?_;rintro⟨k,m⟩ ⟨ab,an⟩;have nR:m.length=k:=by rw[an,zao];omega
 by_cases aN:k<l.length
 case neg=>
  rw[zas (by omega)]at an;cases m with
  |nil=>
   refine aq 11 ?_;refine v0 11 (show¬(k:Int)<(l.length:Int) by omega) (I ?_);exact au rfl (bS.nl.trans (bS.a6.trans (.of (by show aj.a6 3 dx et []= .a6 3 dx et l;rw[<-an]))))
  |cons d ds=>
   refine aq 11 ?_;refine v0 11 (show¬(k:Int)<(l.length:Int) by omega) (aq 2 ?_);refine kb 2 ?_;refine I ?_;exact au rfl (bS.a6.trans (.of (by show aj.a6 3 dx et (d::ds)= .a6 3 dx et l;rw[<-an])))
 have eH:=FA aN an;have ix:pH l[k]:=ah.get aN;obtain⟨s,es⟩:∃s,s=l[k]:=⟨_,rfl⟩;rw[<-es]at eH ix;have jN:s.cR.length*40<=140737488355328:=ix.1;cases m with
 |nil=>
  refine aq 11 ?_;refine v1 11 (show(k:Int)<(l.length:Int) by omega) ?_;refine dz 8 (.cc 3 dx et l) rfl (.eG (ne_of_lt aN)) ?_;refine I ?_;refine dr s (by rw[es];exact bm aN) ?_;refine dz 8 (.a6 3 dx et l) rfl .a6 ?_;refine I ?_;refine cN (L:=Nat×ac fm) (fun(j,f)=>j<=s.cR.length∧f=s.cR.take j) (agl l k s) (fun q=>s.cR.length-q.1) [0] (0,[]) ⟨zae _,rfl⟩ hF dI ?_;rintro⟨j,f⟩ ⟨hj,ae⟩;have rT:f.length=j:=by rw[ae,zao];omega
  by_cases l5:j<s.cR.length
  case neg=>
   rw[zas (by omega)]at ae;cases f with
   |nil=>
    refine aq 18 ?_;refine v0 18 (show¬(j:Int)<(s.cR.length:Int) by omega) (aq 31 ?_);refine dz 31 (.a6 2 fm fB s.cR) rfl (by rw[<-ae];exact bS.nl.trans .a6) ?_;refine I ?_;refine vh et [s] (jj (R:=et) [s] rfl) ?_;refine aq 37 ?_;refine e8 37 ((k+1:Nat):Int) (I ?_);exact bf [2] (k+1,[s]) ⟨by show _-(k+1)<_-k;omega,aN,eH.symm⟩ dI
   |cons t ts=>
    refine aq 18 ?_;refine v0 18 (show¬(j:Int)<(s.cR.length:Int) by omega) (aq 31 ?_);refine kb 31 ?_;refine dz 31 (.a6 2 fm fB s.cR) rfl (by rw[<-ae];exact .a6) ?_;refine I ?_;refine vh et [s] (jj (R:=et) [s] rfl) ?_;refine aq 37 ?_;refine e8 37 ((k+1:Nat):Int) (I ?_);exact bf [3] (k+1,[s]) ⟨by show _-(k+1)<_-k;omega,aN,eH.symm⟩ dI
  have yn:=FA l5 ae;have ang:s.cR[j].ji.length*8<=140737488355328:=ix.2 _ (dy l5);cases f with
  |nil=>
   refine aq 18 ?_;refine v1 18 (show(j:Int)<(s.cR.length:Int) by omega) ?_;refine dz 15 (.cc 2 fm fB s.cR) rfl (.eG (ne_of_lt l5)) ?_;refine I ?_;refine dr s.cR[j] (bm l5) ?_;refine dz 15 (.a6 2 fm fB s.cR) rfl .a6 ?_;refine I ?_;refine bQ C2 s.cR[j].ji (by show _<=17592186044416;omega) ?_;refine dz 26 (.a6 1 Int eZ s.cR[j].ji) rfl .a6 ?_;refine I ?_;refine Sq fB [s.cR[j]] (jj (R:=fB) [s.cR[j]] rfl) ?_;refine aq 30 ?_;refine e8 30 ((j+1:Nat):Int) (I ?_);exact bf [0,3] (j+1,[s.cR[j]]) ⟨by show _-(j+1)<_-j;omega,l5,yn.symm⟩ jS
  |cons t ts=>
   have anP:ts.length+1=j:=rT;refine aq 18 ?_;refine v1 18 (show(j:Int)<(s.cR.length:Int) by omega) ?_;refine dz 15 (.cc 2 fm fB s.cR) rfl (.eG (ne_of_lt l5)) ?_;refine I ?_;refine dr s.cR[j] (bm l5) ?_;refine dz 15 (.a6 2 fm fB s.cR) rfl .a6 ?_;refine I ?_;refine bQ C2 s.cR[j].ji (by show _<=17592186044416;omega) ?_;refine dz 26 (.a6 1 Int eZ s.cR[j].ji) rfl .a6 ?_;refine I ?_;refine So (R:=fB) [s.cR[j]] (jj (R:=fB) [s.cR[j]] rfl) ?_;refine aq 30 ?_;refine e8 30 ((j+1:Nat):Int) (I ?_);exact bf [0,4] (j+1,t::(ts++[s.cR[j]])) ⟨by show _-(j+1)<_-j;omega,l5,yn.symm⟩ (acE ⟨rfl,rfl,congrArg (fun k=>some (aj.a5 4 2 0 k k)) (by simp),rfl,rfl,rfl,rfl,rfl,rfl,trivial⟩ ⟨_,rfl,rfl⟩ ⟨_,rfl,rfl,fun _=>rfl⟩)
 |cons d ds=>
  have iN:ds.length+1=k:=nR;refine aq 11 ?_;refine v1 11 (show(k:Int)<(l.length:Int) by omega) ?_;refine dz 8 (.cc 3 dx et l) rfl (.eG (ne_of_lt aN)) ?_;refine I ?_;refine dr s (by rw[es];exact bm aN) ?_;refine dz 8 (.a6 3 dx et l) rfl .a6 ?_;refine I ?_;refine cN (L:=Nat×ac fm) (fun(j,f)=>j<=s.cR.length∧f=s.cR.take j) (agn l k s d ds) (fun q=>s.cR.length-q.1) [0,1] (0,[]) ⟨zae _,rfl⟩ hF jS ?_;rintro⟨j,f⟩ ⟨hj,ae⟩;have rT:f.length=j:=by rw[ae,zao];omega
  by_cases l5:j<s.cR.length
  case neg=>
   rw[zas (by omega)]at ae;cases f with
   |nil=>
    refine aq 18 ?_;refine v0 18 (show¬(j:Int)<(s.cR.length:Int) by omega) (aq 31 ?_);refine dz 31 (.a6 2 fm fB s.cR) rfl (by rw[<-ae];exact bS.nl.trans .a6) ?_;refine I ?_;refine vg (R:=et) [s] (jj (R:=et) [s] rfl) ?_;refine aq 37 ?_;refine e8 37 ((k+1:Nat):Int) (I ?_);exact bf [3] (k+1,d::(ds++[s])) ⟨by show _-(k+1)<_-k;omega,aN,eH.symm⟩ (Kl ⟨congrArg (fun k=>some (aj.a5 3 3 0 k k)) (by simp),rfl,rfl,rfl,trivial⟩ ⟨_,rfl,rfl,fun _=>rfl⟩)
   |cons t ts=>
    refine aq 18 ?_;refine v0 18 (show¬(j:Int)<(s.cR.length:Int) by omega) (aq 31 ?_);refine kb 31 ?_;refine dz 31 (.a6 2 fm fB s.cR) rfl (by rw[<-ae];exact .a6) ?_;refine I ?_;refine vg (R:=et) [s] (jj (R:=et) [s] rfl) ?_;refine aq 37 ?_;refine e8 37 ((k+1:Nat):Int) (I ?_);exact bf [4] (k+1,d::(ds++[s])) ⟨by show _-(k+1)<_-k;omega,aN,eH.symm⟩ (Kl ⟨congrArg (fun k=>some (aj.a5 4 3 0 k k)) (by simp),rfl,rfl,rfl,trivial⟩ ⟨_,rfl,rfl,fun _=>rfl⟩)
  have yn:=FA l5 ae;have ang:s.cR[j].ji.length*8<=140737488355328:=ix.2 _ (dy l5);cases f with
  |nil=>
   refine aq 18 ?_;refine v1 18 (show(j:Int)<(s.cR.length:Int) by omega) ?_;refine dz 15 (.cc 2 fm fB s.cR) rfl (.eG (ne_of_lt l5)) ?_;refine I ?_;refine dr s.cR[j] (bm l5) ?_;refine dz 15 (.a6 2 fm fB s.cR) rfl .a6 ?_;refine I ?_;refine bQ C2 s.cR[j].ji (by show _<=17592186044416;omega) ?_;refine dz 26 (.a6 1 Int eZ s.cR[j].ji) rfl .a6 ?_;refine I ?_;refine Sq fB [s.cR[j]] (jj (R:=fB) [s.cR[j]] rfl) ?_;refine aq 30 ?_;refine e8 30 ((j+1:Nat):Int) (I ?_);exact bf [0,1,4] (j+1,[s.cR[j]]) ⟨by show _-(j+1)<_-j;omega,l5,yn.symm⟩ rh
  |cons t ts=>
   have anP:ts.length+1=j:=rT;refine aq 18 ?_;refine v1 18 (show(j:Int)<(s.cR.length:Int) by omega) ?_;refine dz 15 (.cc 2 fm fB s.cR) rfl (.eG (ne_of_lt l5)) ?_;refine I ?_;refine dr s.cR[j] (bm l5) ?_;refine dz 15 (.a6 2 fm fB s.cR) rfl .a6 ?_;refine I ?_;refine bQ C2 s.cR[j].ji (by show _<=17592186044416;omega) ?_;refine dz 26 (.a6 1 Int eZ s.cR[j].ji) rfl .a6 ?_;refine I ?_;refine So (R:=fB) [s.cR[j]] (jj (R:=fB) [s.cR[j]] rfl) ?_;refine aq 30 ?_;refine e8 30 ((j+1:Nat):Int) (I ?_);exact bf [0,1,5] (j+1,t::(ts++[s.cR[j]])) ⟨by show _-(j+1)<_-j;omega,l5,yn.symm⟩ (auL ⟨rfl,rfl,congrArg (fun k=>some (aj.a5 5 2 0 k k)) (by simp),rfl,rfl,rfl,rfl,rfl,rfl,trivial⟩ ⟨_,rfl,rfl,fun _=>rfl⟩ ⟨_,rfl,rfl⟩ ⟨_,rfl,rfl,fun _=>rfl⟩)
def ae7(l:ac ei):Nat×ac ei->cz
 |(k,[])=>⟨[],0,[(2,.nl),(5,.a6 6 ei e4 l),(6,.i .i64 (l.length:Int)),(7,.i .i64 (k:Int))]⟩
 |(k,d::ds)=>⟨[.a 56 true 6 ei e4 (d::ds)],1,[(2,.a5 0 6 0 (ds.length+1) (ds.length+1)),(5,.a6 6 ei e4 l),(6,.i .i64 (l.length:Int)),(7,.i .i64 (k:Int))]⟩
def RU:bD where
 L:=ac ei
 args:=fun l=>[.a6 6 ei e4 l]
 pre:=iI 104 pG
 res:=fun l=>.a6 6 ei e4 l
def Gh:bl aT.ctx 77 RU.spec:=by
 refine bI [(170,Sh.spec)] Wh.1 ?_;intro(l:ac ei) (ah:iI 104 pG l) H aK;have lF:l.length*104<=140737488355328:=ah.1;refine I ?_;refine cN (L:=Nat×ac ei) (fun(k,m)=>k<=l.length∧m=l.take k) (ae7 l) (fun q=>l.length-q.1) [] (0,[]) ⟨zae _,rfl⟩ hF dj ?_;rintro⟨k,m⟩ ⟨ab,an⟩;have nR:m.length=k:=by rw[an,zao];omega
 by_cases aN:k<l.length
 case neg=>
  rw[zas (by omega)]at an;cases m with
  |nil=>
   refine aq 8 ?_;refine v0 8 (show¬(k:Int)<(l.length:Int) by omega) (I ?_);exact au rfl (bS.nl.trans (bS.a6.trans (.of (by show aj.a6 6 ei e4 []= .a6 6 ei e4 l;rw[<-an]))))
  |cons d ds=>
   refine aq 8 ?_;refine v0 8 (show¬(k:Int)<(l.length:Int) by omega) (aq 2 ?_);refine kb 2 ?_;refine I ?_;exact au rfl (bS.a6.trans (.of (by show aj.a6 6 ei e4 (d::ds)= .a6 6 ei e4 l;rw[<-an])))
 have eH:=FA aN an;have ix:pG l[k]:=ah.get aN;obtain⟨s,es⟩:∃s,s=l[k]:=⟨_,rfl⟩;rw[<-es]at eH ix;cases m with
 |nil=>
  refine aq 8 ?_;refine v1 8 (show(k:Int)<(l.length:Int) by omega) ?_;refine dz 5 (.cc 6 ei e4 l) rfl (.eG (ne_of_lt aN)) ?_;refine I ?_;refine dr s (by rw[es];exact bm aN) ?_;refine dz 5 (.a6 6 ei e4 l) rfl .a6 ?_;refine I ?_;refine bQ GD s.low ix.1 (I ?_);refine bQ GD s.high ix.2 (I ?_);refine vh e4 [s] (jj (R:=e4) [s] rfl) ?_;refine aq 23 ?_;refine e8 23 ((k+1:Nat):Int) (I ?_);exact bf [2] (k+1,[s]) ⟨by show _-(k+1)<_-k;omega,aN,eH.symm⟩ dI
 |cons d ds=>
  have iN:ds.length+1=k:=nR;refine aq 8 ?_;refine v1 8 (show(k:Int)<(l.length:Int) by omega) ?_;refine dz 5 (.cc 6 ei e4 l) rfl (.eG (ne_of_lt aN)) ?_;refine I ?_;refine dr s (by rw[es];exact bm aN) ?_;refine dz 5 (.a6 6 ei e4 l) rfl .a6 ?_;refine I ?_;refine bQ GD s.low ix.1 (I ?_);refine bQ GD s.high ix.2 (I ?_);refine vg (R:=e4) [s] (jj (R:=e4) [s] rfl) ?_;refine aq 23 ?_;refine e8 23 ((k+1:Nat):Int) (I ?_);exact bf [3] (k+1,d::(ds++[s])) ⟨by show _-(k+1)<_-k;omega,aN,eH.symm⟩ (Kl ⟨congrArg (fun k=>some (aj.a5 3 6 0 k k)) (by simp),rfl,rfl,rfl,trivial⟩ ⟨_,rfl,rfl,fun _=>rfl⟩)
def afh(l:ac eS):Nat×ac eS->cz
 |(k,[])=>⟨[],0,[(2,.nl),(5,.a6 5 eS eO l),(6,.i .i64 (l.length:Int)),(7,.i .i64 (k:Int))]⟩
 |(k,d::ds)=>⟨[.a 47 true 5 eS eO (d::ds)],1,[(2,.a5 0 5 0 (ds.length+1) (ds.length+1)),(5,.a6 5 eS eO l),(6,.i .i64 (l.length:Int)),(7,.i .i64 (k:Int))]⟩
def R5:bD where
 L:=ac eS
 args:=fun l=>[.a6 5 eS eO l]
 pre:=iI 80 rq
 res:=fun l=>.cc 5 eS eO l
def Lz:bl aT.ctx 30 R5.spec:=by
 refine bI [(77,RU.spec)] U7.1 ?_;intro(l:ac eS) (ah:iI 80 rq l) H aK;have lF:l.length*80<=140737488355328:=ah.1;refine I ?_;refine cN (L:=Nat×ac eS) (fun(k,m)=>k<=l.length∧m=l.take k) (afh l) (fun q=>l.length-q.1) [] (0,[]) ⟨zae _,rfl⟩ hF dj ?_;rintro⟨k,m⟩ ⟨ab,an⟩;have nR:m.length=k:=by rw[an,zao];omega
 by_cases aN:k<l.length
 case neg=>
  rw[zas (by omega)]at an;cases m with
  |nil=>
   refine aq 8 ?_;refine v0 8 (show¬(k:Int)<(l.length:Int) by omega) (I ?_);exact au rfl (bS.nl.trans ((.of (by show aj.cc 5 eS eO []= .cc 5 eS eO l;rw[<-an]))))
  |cons d ds=>
   refine aq 8 ?_;refine v0 8 (show¬(k:Int)<(l.length:Int) by omega) (aq 2 ?_);refine kb 2 ?_;refine I ?_;exact au rfl ((.of (by show aj.cc 5 eS eO (d::ds)= .cc 5 eS eO l;rw[<-an])))
 have eH:=FA aN an;have ix:rq l[k]:=ah.get aN;obtain⟨s,es⟩:∃s,s=l[k]:=⟨_,rfl⟩;rw[<-es]at eH ix;cases m with
 |nil=>
  refine aq 8 ?_;refine v1 8 (show(k:Int)<(l.length:Int) by omega) ?_;refine dz 5 (.cc 5 eS eO l) rfl (.eG (ne_of_lt aN)) ?_;refine I ?_;refine dr s (by rw[es];exact bm aN) ?_;refine dz 5 (.a6 5 eS eO l) rfl .a6 ?_;refine I ?_;refine bQ Gh s.c4 ix.1 (I ?_);refine bQ Gh s.st ix.2 (I ?_);refine vh eO [s] (jj (R:=eO) [s] rfl) ?_;refine aq 23 ?_;refine e8 23 ((k+1:Nat):Int) (I ?_);exact bf [2] (k+1,[s]) ⟨by show _-(k+1)<_-k;omega,aN,eH.symm⟩ dI
 |cons d ds=>
  have iN:ds.length+1=k:=nR;refine aq 8 ?_;refine v1 8 (show(k:Int)<(l.length:Int) by omega) ?_;refine dz 5 (.cc 5 eS eO l) rfl (.eG (ne_of_lt aN)) ?_;refine I ?_;refine dr s (by rw[es];exact bm aN) ?_;refine dz 5 (.a6 5 eS eO l) rfl .a6 ?_;refine I ?_;refine bQ Gh s.c4 ix.1 (I ?_);refine bQ Gh s.st ix.2 (I ?_);refine vg (R:=eO) [s] (jj (R:=eO) [s] rfl) ?_;refine aq 23 ?_;refine e8 23 ((k+1:Nat):Int) (I ?_);exact bf [3] (k+1,d::(ds++[s])) ⟨by show _-(k+1)<_-k;omega,aN,eH.symm⟩ (Kl ⟨congrArg (fun k=>some (aj.a5 3 5 0 k k)) (by simp),rfl,rfl,rfl,trivial⟩ ⟨_,rfl,rfl,fun _=>rfl⟩)
section
variable{X:Ctx}{aZ:ao cM}{bY:ci->eY}{b4 n:Nat}{fn:ci}{b1:bC}{i0:ac Nat}{aK:ay}{Q:dv->cz->Prop}{K:ac eE}{own:ac bj}{aH:Nat}{e:bO}
def arT{N:Nat}(lB:N=n+3){g g1 f:ci}{t ts:Nat}(xf:cM)(aa:aZ.get f=some xf)(aR:aZ.get g=some (yQ g1 t))(AO:aZ.get g1=some (xn ts)){x:bi}{caps:ac aj}{d:am Tmp}{xs:ac bz}
 (k:∀H1 i1 s1,i1.length=own.length->du b1 H1->aU.ok ⟨b9 aZ (cg X bY) (n+1),n+1,f,H1,i1,s1,QI ⟨b9 aZ (cg X bY) N,b4,fn,b1,i0,aK,Q⟩ K xs d e ts⟩ ⟨[],.c xf.body,⟨own,aH,mA 0 caps⟩⟩)
 (gv:bu e x=some (.fn (.func f) [] caps):=by rfl) (aE:xf.res=[]:=by rfl) (hl:caps.length<=xf.aJ:=by exact jF rfl) (dw:bY f=eY.no:=by rfl) (Mw:bY g=eY.no:=by rfl) (Mv:bY g1=eY.no:=by rfl):
 aU.ok ⟨b9 aZ (cg X bY) N,b4,fn,b1,i0,aK,Q⟩ ⟨K,.o (⟨d,.call (.func g) [x],none⟩::xs),⟨own,aH,e⟩⟩:=by
 subst lB;exact arS xf aa aR AO k gv aE hl dw Mw Mv
end
section
variable{aB:fl}{K:ac eE}{own bF bA:ac bj}{aH bd ca:Nat}{e a3:bO}{d:Tmp}{xs:ac (bz×cw)}{x y:bi}
variable{el:ce}
def Ad{a2 cr k0 c:Nat}{a8:Bool}{R:α->ac aj}{m:ac α}(hm:m=[])(ah:m4 ⟨own,aH,e⟩ y R a2 m)(b5:aU.ok aB ⟨K,.d xs (bA.set k0 .x) (k9 d a3) (bd+1) aH,⟨own,aH,(d,.a5 k0 a2 0 n c)::e⟩⟩)(jf:n<=c)(hc:c<=l.length)(hb:(5*n+1792)*(cr+1)<=1125899906842624)(aa:bu e x=some (.a5 k0 a2 0 n c):=by rfl)(ab:own[k0]? =some (.a el a8 a2 α R l):=by rfl):
 aU.ok aB ⟨K,.d ((⟨some d,.app el a2 cr x y,none⟩,.dX)::xs) bA a3 bd ca,⟨own,aH,e⟩⟩:=by
 subst hm;exact agA ah b5 aa ab jf hc hb
def arJ(k0:Nat){z:Nat}{cs:ac aj}(R:α->ac aj)(l:ac α){p:dm}(k:aU.ok aB ⟨K,.c p,⟨bF,aH,e⟩⟩)(ab:own[k0]? =some (.c el cs):=by rfl)(an:∀w,(R w).length=z:=by exact fun _=>rfl)
 (al:jk own k0 (.a el false z α R l) some=some bF:=by rfl) (dR:cs=l.flatMap R:=by rfl):aU.ok aB ⟨K,.c p,⟨own,aH,e⟩⟩:=by
 have J:=kc al;cases J;exact arK k0 l ab dR an k
end
variable{r aQ af:ac bv}
def wu{z:Nat}{b:aj}{x y w:ac bv}:Ax k z n b [.a5 k z 0 n n,.s x,.s y,.s w]=[b,.s x,.s y,.s w]:=by
 show(match Nat.beq k k&&(Nat.beq z z&&(Nat.beq 0 0&&(Nat.beq n n&&Nat.beq n n)))with|true=>b|false=>aj.a5 k z 0 n n)::_=_;simp only[zaz];rfl
def aeW{e:Int}(he:e≠0)(h:kQ r aQ af e=0):m7 r aQ af e= .ret (.bP []):=by
 unfold kQ at h;unfold m7;cases aE:cJ r with
 |none=>rw[aE]at h;cases h
 |some x=>
 rw[aE]at h;cases ha:cJ aQ with
 |none=>rw[ha]at h;cases h
 |some a=>
 rw[ha]at h;by_cases J:a<x
 ·simp only[zab J]at h⊢;cases hb:cJ af with
  |none=>rw[hb]at h;cases h
  |some b=>
   rw[hb]at h;by_cases U:x<b
   ·simp only[zab U]
   ·simp only[zaa U]at h;exact absurd h he
 ·simp only[zaa J]at h;exact absurd h he
def aeV{e:Int}(h:kQ r aQ af e≠0):m7 r aQ af e= .a1 (jm (kQ r aQ af e)):=by
 revert h
 unfold kQ m7;cases aE:cJ r with
 |none=>intro _;rfl
 |some x=>
 cases ha:cJ aQ with
 |none=>intro _;rfl
 |some a=>
 by_cases J:a<x
 ·simp only[zab J];cases hb:cJ af with
  |none=>intro _;rfl
  |some b=>
   by_cases U:x<b
   ·simp only[zab U];intro h;exact absurd rfl h
   ·simp only[zaa U];intro _;trivial
 ·simp only[zaa J];intro _;trivial
abbrev KH:=dK×Int×ac bv×g4×g4
def KO(q:g4):Prop:=q.bZ.length<=20∧q.aQ.length<=2000∧q.af.length<=2000∧q.err.length<=2000
def KI:KH->Prop:=fun(p,_,cut,a,b)=>xL p∧cut.length<=2000∧(KO a∧rr a)∧KO b∧rr b
def uQ(r:g4×Int):aj:=.bP [.agg (ig r.1),.i .i64 r.2]
def E3:bD where
 L:=KH
 args:=fun(p,i,cut,a,b)=>[jQ p,.i .i64 i,.s cut,.agg (ig a),.agg (ig b)]
 pre:=KI
 res:=fun(p,i,cut,a,b)=>uQ (lj p i cut a b)
 hp:=fun H=>oZ H∧oX H
 hm:=fun h aG=>⟨aG.1.up h,aG.2.up h⟩
def Yo{c:Int}:bS (.bP [.agg [.nl,.s [],.s [],.s []],.i .i64 c]) (uQ (oY,c)):=.bP ⟨.agg ⟨.nl,.refl _,.refl _,.refl _,trivial⟩,.refl _,trivial⟩
def aqN:bl aT.ctx 6 E3.spec:=by
 refine sF [(22,Gj.spec),(23,L6.spec),(24,IK.spec),(25,RM.spec),(26,abu.spec),(27,Oz.spec),(28,ab2.spec),(29,Oi.spec),(17,abC.spec),(30,R5.spec)] ej.1 ?_;intro⟨p,i,cut,a,b⟩ ⟨hp,mD,⟨ha,lG⟩,hb,A2⟩ H aK ⟨Hp,alT⟩;have bad:∀{c:Int},lj p i cut a b=(oY,c)->bS (.bP [.agg [.nl,.s [],.s [],.s []],.i .i64 c]) (E3.res (p,i,cut,a,b)):=fun h=>Yo.trans (.of (by rw[<-h];rfl));refine I ?_;refine arT (n:=4611686018427387902) (by unfold bV;rfl) (g1:=66) (t:=38) (ts:=156) Uq.1 (by kernel_rfl) (by kernel_rfl) (by kernel_rfl) ?_;intro H1 i1 s1 awA hle;have alO:=Hp.up hle;have Mt:=alT.up hle;refine I ?_;refine aX afe p hp ?_ (hh:=alO);refine ax 14 (.bP [.i .i64 (dL p).1,.i .i64 (dL p).2.1,.i .i64 (dL p).2.2]) rfl rfl (I ?_);by_cases h0:(dL p).2.2=0
 case neg=>
  refine BV G7 (dL p).2.2 trivial (jm (dL p).2.2) (zaa h0) ?_;refine I ?_;refine eP (.inr ⟨(dL p).2.2,rfl,?_⟩);refine I ?_;exact au rfl (bad (Ya h0))
 refine BW G7 (dL p).2.2 trivial (.bP []) (zab h0) (aq 21 ?_);by_cases yo:0<=i
 case neg=>
  refine v0 21 yo (I ?_);refine BV u1 (false,7) trivial (jm 7) rfl ?_;refine I ?_;refine eP (.inr ⟨7,rfl,?_⟩);refine I ?_;exact au rfl (bad (Ij h0 fun h=>yo h.1))
 refine v1 21 yo (aq 27 ?_);by_cases l3:i<(p.ins.length:Int)
 case neg=>
  refine v0 27 l3 (I ?_);refine BV u1 (false,7) trivial (jm 7) rfl ?_;refine I ?_;refine eP (.inr ⟨7,rfl,?_⟩);refine I ?_;exact au rfl (bad (Ij h0 fun h=>l3 h.2))
 refine v1 27 l3 (I ?_);refine BW u1 (true,7) trivial (.bP []) rfl ?_;obtain⟨k,rfl⟩:∃k:Nat,i=(k:Int):=⟨i.toNat,by omega⟩;have ab:k<p.ins.length:=by omega
 have aa:p.ins[k]? =some p.ins[k]:=bm ab;obtain⟨x,ex⟩:∃x,x=p.ins[k]:=⟨_,rfl⟩;rw[<-ex]at aa;have ng:=hp.1 x (by rw[ex];exact dy ab);have qS:(tz p)[k]? =some (x.aQ,x.af):=by unfold tz;rw[zcs,aa];rfl
 refine I ?_;refine bQ asn p (ak9 h0) (I ?_);refine agC (x.aQ,x.af) qS ?_;refine I ?_;by_cases hc:kQ cut x.aQ x.af 7=0
 case neg=>
  refine rG RN (cut,x.aQ,x.af,7) ⟨mD,ng.1,ng.2⟩ (jm (kQ cut x.aQ x.af 7)) (aeV hc) ?_ ?_
  ·refine I ?_;refine eP (.inr ⟨kQ cut x.aQ x.af 7,rfl,?_⟩);refine I ?_;exact au rfl (bad (Ik h0 aa hc))
  ·refine I ?_;exact eP rfl
 refine sJ RN (cut,x.aQ,x.af,7) ⟨mD,ng.1,ng.2⟩ (.bP []) (aeW (by decide) hc) ?_;have od:(lW a=none∨lW b=none)->bS (.bP [.agg [.nl,.s [],.s [],.s []],.i .i64 6]) (E3.res (p,k,cut,a,b)):=fun h=>bad (Yb h0 aa hc h);refine I ?_;cases x6:cJ a.aQ with
 |none=>
  refine rG mQ a.aQ ha.2.1 (jm 6) (u4 x6) ?_ ?_
  ·refine I ?_;refine eP (.inr ⟨6,rfl,?_⟩);refine I ?_;exact au rfl (od (.inl (Gn x6)))
  ·refine I ?_;exact eP rfl
 |some g2=>
 refine sJ mQ a.aQ ha.2.1 (cO g2) (u5 x6) (I ?_);cases Aj:cJ a.af with
 |none=>
  refine rG mQ a.af ha.2.2.1 (jm 6) (u4 Aj) ?_ ?_
  ·refine I ?_;refine eP (.inr ⟨6,rfl,?_⟩);refine I ?_;exact au rfl (od (.inl (Gp x6 Aj)))
  ·refine I ?_;exact eP rfl
 |some fK=>
 refine sJ mQ a.af ha.2.2.1 (cO fK) (u5 Aj) (I ?_);cases Di:cJ a.err with
 |none=>
  refine rG mQ a.err ha.2.2.2 (jm 6) (u4 Di) ?_ ?_
  ·refine I ?_;refine eP (.inr ⟨6,rfl,?_⟩);refine I ?_;exact au rfl (od (.inl (Gq x6 Aj Di)))
  ·refine I ?_;exact eP rfl
 |some mg=>
 refine sJ mQ a.err ha.2.2.2 (cO mg) (u5 Di) (I ?_);cases x7:cJ b.aQ with
 |none=>
  refine rG mQ b.aQ hb.2.1 (jm 6) (u4 x7) ?_ ?_
  ·refine I ?_;refine eP (.inr ⟨6,rfl,?_⟩);refine I ?_;exact au rfl (od (.inr (Gn x7)))
  ·refine I ?_;exact eP rfl
 |some t1=>
 refine sJ mQ b.aQ hb.2.1 (cO t1) (u5 x7) (I ?_);cases Ak:cJ b.af with
 |none=>
  refine rG mQ b.af hb.2.2.1 (jm 6) (u4 Ak) ?_ ?_
  ·refine I ?_;refine eP (.inr ⟨6,rfl,?_⟩);refine I ?_;exact au rfl (od (.inr (Gp x7 Ak)))
  ·refine I ?_;exact eP rfl
 |some t2=>
 refine sJ mQ b.af hb.2.2.1 (cO t2) (u5 Ak) (I ?_);cases Dj:cJ b.err with
 |none=>
  refine rG mQ b.err hb.2.2.2 (jm 6) (u4 Dj) ?_ ?_
  ·refine I ?_;refine eP (.inr ⟨6,rfl,?_⟩);refine I ?_;exact au rfl (od (.inr (Gq x7 Ak Dj)))
  ·refine I ?_;exact eP rfl
 |some t3=>
 refine sJ mQ b.err hb.2.2.2 (cO t3) (u5 Dj) (aq 65 ?_);have lE:a.bZ.length<=20:=ha.1;have fe:b.bZ.length<=20:=hb.1;refine e8 65 ((a.bZ.length+b.bZ.length:Nat):Int) (aq 66 ?_);refine v1 66 (show((a.bZ.length+b.bZ.length:Nat):Int)<200 by omega) (I ?_);refine BW u1 (true,3) trivial (.bP []) rfl ?_;have kW:=q3 ha.2.1 x6;have fi:=q3 ha.2.2.1 Aj;have pk:=q3 ha.2.2.2 Di;have q0:=q3 hb.2.1 x7;have Br:=q3 hb.2.2.1 Ak;have Bs:=q3 hb.2.2.2 Dj;have eg:eF 250 (jA g2 t1):=by unfold jA;split<;>assumption
 have fh:eF 250 (ga fK t2):=by unfold ga;split<;>assumption
 have j9:eF 250 (ga mg t3):=by unfold ga;split<;>assumption
 have dY:lj p k cut a b=(yO k cut a b ((g2,fK),mg) ((t1,t2),t3),0):=Yc h0 aa hc (Gr x6 Aj Di) (Gr x7 Ak Dj);refine I ?_;refine bQ at7 ((g2,fK),(t1,t2)) ⟨kI kW (by decide),kI fi (by decide),kI q0 (by decide),kI Br (by decide)⟩ (I ?_);refine bQ YR (mg,t3) ⟨kI pk (by decide),kI Bs (by decide)⟩ (I ?_);refine bQ PS (jA g2 t1) (kI eg (by decide)) (I ?_) (hh:=Mt);refine bQ PS (ga fK t2) (kI fh (by decide)) (I ?_) (hh:=Mt);refine bQ PS (ga mg t3) (kI j9 (by decide)) (aq 94 ?_) (hh:=Mt);have fin:∀{l:ac eS},l=hr k cut::(a.bZ++b.bZ)->bS (.bP [.agg [.cc 5 eS eO l,.s (gp (jA g2 t1)),.s (gp (ga fK t2)),.s (gp (ga mg t3))],.i .i64 0]) (E3.res (p,k,cut,a,b)):=fun h=>.of (by subst h;show uQ (yO k cut a b ((g2,fK),mg) ((t1,t2),t3),0)=uQ (lj p k cut a b);rw[dY]);clear dY bad od
 iterate 3 refine gZ ?_
 refine arZ 9 (cs:=[.i .i64 2,.i .i64 (k:Int),.s cut,.nl,.nl]) [.i .i64 2,.i .i64 (k:Int),.s cut,.a6 6 ei e4 [],.a6 6 ei e4 []] ?_ ⟨.refl _,.refl _,.refl _,bS.nl.trans .a6,bS.nl.trans .a6,trivial⟩;refine arJ (z:=5) 9 eO [hr k cut] ?_;refine I ?_;refine bQ Lz a.bZ lG (I ?_) (he:=by exact⟨.a6,trivial⟩);by_cases rW:a.bZ=[]
 ·refine Ad (R:=eO) (k0:=9) (n:=1) (c:=1) (l:=[hr k cut]) rW (n3 rfl (fun _=>rfl) (fun _=>rfl)) ?_ (by decide) (by exact zaK _) (by decide);refine I ?_;refine bQ Lz b.bZ A2 (I ?_) (he:=by exact⟨.a6,trivial⟩);by_cases kU:b.bZ=[]
  ·refine Ad (R:=eO) (k0:=9) (n:=1) (c:=1) (l:=[hr k cut]) kU (n3 rfl (fun _=>rfl) (fun _=>rfl)) ?_ (by decide) (by exact zaK _) (by decide);refine I ?_;refine eP (.inl ⟨.inl rfl,?_⟩);refine xm 5 9 (cs':=[.cc 5 eS eO ([hr k cut]),.s (gp (jA g2 t1)),.s (gp (ga fK t2)),.s (gp (ga mg t3))]) ?_ (ha:=by exact wu);refine I ?_;exact au rfl (fin (by rw[rW,kU];rfl))
  ·refine GI (R:=eO) (k0:=9) (n:=1) (c:=1) (l:=[hr k cut]) b.bZ (hr k cut::(a.bZ++b.bZ)) (n3 rfl (fun _=>rfl) (fun _=>rfl)) ?_ kU (by have:=zaN.2 kU;omega) (by rw[rW];rfl) (by omega);refine I ?_;refine eP (.inl ⟨.inl rfl,?_⟩);refine xm 5 10 (cs':=[.cc 5 eS eO (hr k cut::(a.bZ++b.bZ)),.s (gp (jA g2 t1)),.s (gp (ga fK t2)),.s (gp (ga mg t3))]) ?_ (ha:=by exact wu);refine I ?_;exact au rfl (fin rfl)
 ·refine GI (R:=eO) (k0:=9) (n:=1) (c:=1) (l:=[hr k cut]) a.bZ (hr k cut::a.bZ) (n3 rfl (fun _=>rfl) (fun _=>rfl)) ?_ rW (by have:=zaN.2 rW;omega) rfl (by omega);refine I ?_;refine bQ Lz b.bZ A2 (I ?_) (he:=by exact⟨.a6,trivial⟩);by_cases kU:b.bZ=[]
  ·refine Ad (R:=eO) (k0:=10) (n:=(hr k cut::a.bZ).length) (c:=(hr k cut::a.bZ).length) (l:=hr k cut::a.bZ) kU (n3 rfl (fun _=>rfl) (fun _=>rfl)) ?_ (zaK _) (zaK _) (by rw[zaq];omega);refine I ?_;refine eP (.inl ⟨.inl rfl,?_⟩);refine xm 5 10 (cs':=[.cc 5 eS eO (hr k cut::a.bZ),.s (gp (jA g2 t1)),.s (gp (ga fK t2)),.s (gp (ga mg t3))]) ?_ (ha:=by exact wu);refine I ?_;exact au rfl (fin (by rw[kU,zcE]))
  ·refine Sp (R:=eO) (k0:=10) (l:=hr k cut::a.bZ) b.bZ (hr k cut::(a.bZ++b.bZ)) (n3 rfl (fun _=>rfl) (fun _=>rfl)) ?_ kU rfl (by rw[zaq];omega);refine I ?_;refine eP (.inl ⟨.inl rfl,?_⟩);refine xm 5 11 (cs':=[.cc 5 eS eO (hr k cut::(a.bZ++b.bZ)),.s (gp (jA g2 t1)),.s (gp (ga fK t2)),.s (gp (ga mg t3))]) ?_ (ha:=by exact wu);refine I ?_;exact au rfl (fin rfl)
section
open Sym
variable{aB:fl}{K:ac eE}{own bF g8 bA:ac bj}{aH bd ca back:Nat}{e a3:bO}{d:Tmp}{ts:ac Tmp}{x i:bi}
variable{z:Nat}
def lM{k0 o:Nat}{b5:d7}{xs:ac bz}(j:Nat)(k:aU.ok aB ⟨K,.o xs,⟨own,aH,(d,.p k0 (o+j*z))::e⟩⟩)(aa:bu e x=some (.p k0 o):=by rfl)(af:bu e i=some (.i b5 (j:Int)):=by rfl)(hj:j<n:=by decide):aU.ok aB ⟨K,.o (⟨some d,.qU n z x i,none⟩::xs),⟨own,aH,e⟩⟩:=
 fJ (wP (s:=⟨own,aH,e⟩) aa af hj) k
def nH{k0 o:Nat}{b5:d7}{xs:ac (bz×cw)}(j:Nat)(k:aU.ok aB ⟨K,.d xs bA ((d,.p k0 (o+j*z))::a3) bd ca,⟨own,aH,(d,.p k0 (o+j*z))::e⟩⟩)(aa:bu (ff ts a3) x=some (.p k0 o):=by rfl)(af:bu (ff ts a3) i=some (.i b5 (j:Int)):=by rfl)(hj:j<n:=by decide)(hb:back<bd:=by decide):aU.ok aB ⟨K,.d ((⟨some d,.qU n z x i,none⟩,.read back ts)::xs) bA a3 bd ca,⟨own,aH,e⟩⟩:=
 qx (d:=some d) hb (fun H ids st fr ae _ _=>by
  obtain⟨b,J,U⟩:=ae.ak aa;have ag:fr.ak i= .int b5 (j:Int):=ae.ak af;refine⟨.pointer (some ⟨b,o+j*z,none⟩),⟨b,J,rfl⟩,fun ch _ _=> ?_⟩;show th n z x i aB.call fr ch=_;unfold th;rw[U,n7,Sym.en,ag,nA,pn,gz (by omega),pJ];rfl) k
end
def aaK:bD where
 L:=Rat×Rat
 args:=fun(x,y)=>[cG x,cG y]
 pre:=fun(x,y)=>dW 268435456 x∧dW 268435456 y
 res:=fun(x,y)=>cG (jA x y)
def aaJ:bD where
 L:=Rat×Rat
 args:=fun(x,y)=>[cG x,cG y]
 pre:=fun(x,y)=>dW 268435456 x∧dW 268435456 y
 res:=fun(x,y)=>cG (ga x y)
def abh{x:Rat}(h:x<y):¬y<x:=zcD.2 (Rat.le_of_lt h)
def abi{x:Rat}(J:¬x<y)(U:¬y<x):x=y:=by
 have a:=zcD.1 J;have b:=zcD.1 U;exact Rat.le_antisymm b a
def Gv{x:Rat}:gd x y<=0↔¬y<x:=by
 unfold gd;by_cases h:x<y
 ·rw[zab h];exact⟨fun _ aG=>abh h aG,fun _=>by decide⟩
 ·rw[zaa h];by_cases aG:x=y
  ·rw[zab aG];exact⟨fun _=>aG▸Rat.lt_irrefl,fun _=>by decide⟩
  ·rw[zaa aG];exact⟨fun h=>absurd h (by decide),fun g=>absurd (abi h g) aG⟩
def Gu{x:Rat}:0<=gd x y↔¬x<y:=by
 unfold gd;by_cases h:x<y
 ·rw[zab h];exact⟨fun h=>absurd h (by decide),fun g=>absurd h g⟩
 ·rw[zaa h];by_cases aG:x=y
  ·rw[zab aG];exact⟨fun _=>h,fun _=>by decide⟩
  ·rw[zaa aG];exact⟨fun _=>h,fun _=>by decide⟩
def Jw:bl aT.ctx 35 aaK.spec:=by
 refine bI [(33,xg.spec)] Vj.1 ?_;intro⟨x,y⟩ hp H aK;refine I ?_;refine aX xh (x,y) hp (aq 8 ?_);by_cases h:y<x
 ·refine v0 8 (show¬gd x y<=0 from fun g=>Gv.1 g h) (I ?_);exact au rfl (.of (by show cG y=cG (jA x y);unfold jA;rw[zaa (abh h)]))
 ·refine v1 8 (show gd x y<=0 from Gv.2 h) (I ?_);exact au rfl (.of (by
   show cG x=cG (jA x y);unfold jA;by_cases g:x<y
   ·rw[zab g]
   ·rw[zaa g,abi g h]))
def xd:bl aT.ctx 36 aaJ.spec:=by
 refine bI [(33,xg.spec)] Vq.1 ?_;intro⟨x,y⟩ hp H aK;refine I ?_;refine aX xh (x,y) hp (aq 8 ?_);by_cases h:x<y
 ·refine v0 8 (show¬0<=gd x y from fun g=>Gu.1 g h) (I ?_);exact au rfl (.of (by show cG y=cG (ga x y);unfold ga;rw[zab h]))
 ·refine v1 8 (show 0<=gd x y from Gu.2 h) (I ?_);exact au rfl (.of (by show cG x=cG (ga x y);unfold ga;rw[zaa h]))
def apG(a b:g4):ac Rat->Prop
 |[]=>True
 |[cC]=>cJ a.aQ=some cC
 |[cC,fC]=>cJ a.aQ=some cC∧cJ a.af=some fC
 |[cC,fC,hD]=>cJ a.aQ=some cC∧cJ a.af=some fC∧cJ a.err=some hD
 |[cC,fC,hD,jn]=>cJ a.aQ=some cC∧cJ a.af=some fC∧cJ a.err=some hD∧cJ b.aQ=some jn
 |[cC,fC,hD,jn,k1]=>cJ a.aQ=some cC∧cJ a.af=some fC∧cJ a.err=some hD∧cJ b.aQ=some jn∧cJ b.af=some k1
 |[cC,fC,hD,jn,k1,n8]=>cJ a.aQ=some cC∧cJ a.af=some fC∧cJ a.err=some hD∧cJ b.aQ=some jn∧cJ b.af=some k1∧cJ b.err=some n8
 |_=>False
def zu(a b:g4):ac aj:=[.s a.aQ,.s a.af,.s a.err,.s b.aQ,.s b.af,.s b.err]
def apI(i:Int)(cut:ac bv)(a b:g4):ac Rat->cz
 |[]=>⟨[.c 31 (ig a),.c 31 (ig b),.c 31 [.nl,.s [],.s [],.s []],.c 97 ([aj.i .i64 0,.nl,.nl]++[aj.i .i64 0,.nl,.nl]++[aj.i .i64 0,.nl,.nl]++[aj.i .i64 0,.nl,.nl]++[aj.i .i64 0,.nl,.nl]++[aj.i .i64 0,.nl,.nl]),.c 98 (zu a b)],5,[(1,.i .i64 i),(2,.s cut),(8,.p 0 0),(9,.p 1 0),(10,.p 2 0),(18,.p 3 0),(19,.p 4 0),(20,.i .i64 0)]⟩
 |[cC]=>⟨[.c 31 (ig a),.c 31 (ig b),.c 31 [.nl,.s [],.s [],.s []],.c 97 (jR cC++[aj.i .i64 0,.nl,.nl]++[aj.i .i64 0,.nl,.nl]++[aj.i .i64 0,.nl,.nl]++[aj.i .i64 0,.nl,.nl]++[aj.i .i64 0,.nl,.nl]),.c 98 (zu a b)],5,[(1,.i .i64 i),(2,.s cut),(8,.p 0 0),(9,.p 1 0),(10,.p 2 0),(18,.p 3 0),(19,.p 4 0),(20,.i .i64 1)]⟩
 |[cC,fC]=>⟨[.c 31 (ig a),.c 31 (ig b),.c 31 [.nl,.s [],.s [],.s []],.c 97 (jR cC++jR fC++[aj.i .i64 0,.nl,.nl]++[aj.i .i64 0,.nl,.nl]++[aj.i .i64 0,.nl,.nl]++[aj.i .i64 0,.nl,.nl]),.c 98 (zu a b)],5,[(1,.i .i64 i),(2,.s cut),(8,.p 0 0),(9,.p 1 0),(10,.p 2 0),(18,.p 3 0),(19,.p 4 0),(20,.i .i64 2)]⟩
 |[cC,fC,hD]=>⟨[.c 31 (ig a),.c 31 (ig b),.c 31 [.nl,.s [],.s [],.s []],.c 97 (jR cC++jR fC++jR hD++[aj.i .i64 0,.nl,.nl]++[aj.i .i64 0,.nl,.nl]++[aj.i .i64 0,.nl,.nl]),.c 98 (zu a b)],5,[(1,.i .i64 i),(2,.s cut),(8,.p 0 0),(9,.p 1 0),(10,.p 2 0),(18,.p 3 0),(19,.p 4 0),(20,.i .i64 3)]⟩
 |[cC,fC,hD,jn]=>⟨[.c 31 (ig a),.c 31 (ig b),.c 31 [.nl,.s [],.s [],.s []],.c 97 (jR cC++jR fC++jR hD++jR jn++[aj.i .i64 0,.nl,.nl]++[aj.i .i64 0,.nl,.nl]),.c 98 (zu a b)],5,[(1,.i .i64 i),(2,.s cut),(8,.p 0 0),(9,.p 1 0),(10,.p 2 0),(18,.p 3 0),(19,.p 4 0),(20,.i .i64 4)]⟩
 |[cC,fC,hD,jn,k1]=>⟨[.c 31 (ig a),.c 31 (ig b),.c 31 [.nl,.s [],.s [],.s []],.c 97 (jR cC++jR fC++jR hD++jR jn++jR k1++[aj.i .i64 0,.nl,.nl]),.c 98 (zu a b)],5,[(1,.i .i64 i),(2,.s cut),(8,.p 0 0),(9,.p 1 0),(10,.p 2 0),(18,.p 3 0),(19,.p 4 0),(20,.i .i64 5)]⟩
 |[cC,fC,hD,jn,k1,n8]=>⟨[.c 31 (ig a),.c 31 (ig b),.c 31 [.nl,.s [],.s [],.s []],.c 97 (jR cC++jR fC++jR hD++jR jn++jR k1++jR n8),.c 98 (zu a b)],5,[(1,.i .i64 i),(2,.s cut),(8,.p 0 0),(9,.p 1 0),(10,.p 2 0),(18,.p 3 0),(19,.p 4 0),(20,.i .i64 6)]⟩
 |_=>⟨[],0,[]⟩
def E9:bD where
 L:=KH
 args:=fun(p,i,cut,a,b)=>[jQ p,.i .i64 i,.s cut,.agg (ig a),.agg (ig b)]
 pre:=KI
 res:=fun(p,i,cut,a,b)=>uQ (lj p i cut a b)
def arh:bl aT.ctx 7 E9.spec:=by
 refine bI [(31,Mn.spec),(32,BM.spec),(33,xg.spec),(35,aaK.spec),(36,aaJ.spec),(34,O9.spec)] gu.1 ?_;intro⟨p,i,cut,a,b⟩ ⟨hp,mD,⟨ha,lG⟩,hb,A2⟩ H aK;have bad:∀{c:Int},lj p i cut a b=(oY,c)->bS (.bP [.agg [.nl,.s [],.s [],.s []],.i .i64 c]) (E9.res (p,i,cut,a,b)):=fun h=>Yo.trans (.of (by rw[<-h];rfl));refine I ?_;refine aX WE p hp ?_;refine ax 25 (.i .i64 (dL p).2.2) rfl rfl (aq 27 ?_);by_cases h0:(dL p).2.2=0
 case neg=>
  refine v0 27 h0 (aq 40 ?_);refine v1 40 h0 (I ?_);exact au rfl (bad (Ya h0))
 refine v1 27 h0 (aq 30 ?_);by_cases yo:i<0
 ·refine v1 30 yo (I ?_);exact au rfl (bad (Ij h0 fun h=>by omega))
 refine v0 30 yo (aq 36 ?_);by_cases l3:(p.ins.length:Int)<=i
 ·refine v1 36 l3 (I ?_);exact au rfl (bad (Ij h0 fun h=>by omega))
 refine v0 36 l3 (aq 40 ?_);refine v0 40 (fi h0) ?_;obtain⟨k,rfl⟩:∃k:Nat,i=(k:Int):=⟨i.toNat,by omega⟩;have ab:k<p.ins.length:=by omega
 have aa:p.ins[k]? =some p.ins[k]:=bm ab;obtain⟨x,ex⟩:∃x,x=p.ins[k]:=⟨_,rfl⟩;rw[<-ex]at aa;have ng:=hp.1 x (by rw[ex];exact dy ab);obtain⟨h2,cT⟩:=aoh h0 aa;obtain⟨L,Dh⟩:=zcJ.1 h2;obtain⟨R,GV⟩:=zcJ.1 cT;refine I ?_;refine aX q8 cut mD ?_;cases ue:cJ cut with
 |none=>
  refine ax 45 (.bP [cG 0,.i .i64 6]) rfl (by show fI cut=_;unfold fI;rw[ue]) ?_;have a0:kQ cut x.aQ x.af 7=6:=by unfold kQ;rw[ue]
  refine I ?_;exact au rfl (bad (by rw[Ik h0 aa (by rw[a0];decide),a0]))
 |some c=>
 refine ax 45 (.bP [cG c,.i .i64 0]) rfl (by show fI cut=_;unfold fI;rw[ue]) (I ?_);refine dr x aa ?_;refine I ?_;refine aX q8 x.aQ ng.1 ?_;refine ax 59 (.bP [cG L,.i .i64 0]) rfl (by show fI x.aQ=_;unfold fI;rw[Dh]) (I ?_);refine dr x aa ?_;refine I ?_;refine aX q8 x.af ng.2 ?_;refine ax 69 (.bP [cG R,.i .i64 0]) rfl (by show fI x.af=_;unfold fI;rw[GV]) ?_;have dH:=eC (se mD ue) (show 300<=268435456 by decide);have ca:=eC (se ng.1 Dh) (show 300<=268435456 by decide);have apH:=eC (se ng.2 GV) (show 300<=268435456 by decide);refine I ?_;refine aX xh (c,L) ⟨dH,ca⟩ (aq 75 ?_);by_cases e0:L<c
 case neg=>
  refine v1 75 (show gd c L<=0 from Gv.2 e0) ?_;have a0:kQ cut x.aQ x.af 7=7:=by unfold kQ;rw[ue,Dh];exact zaa e0
  refine I ?_;exact au rfl (bad (by rw[Ik h0 aa (by rw[a0];decide),a0]))
 refine v0 75 (show¬gd c L<=0 from fun g=>Gv.1 g e0) (I ?_);refine aX xh (c,R) ⟨dH,apH⟩ (aq 80 ?_);by_cases fT:c<R
 case neg=>
  refine v1 80 (show 0<=gd c R from Gu.2 fT) ?_;have a0:kQ cut x.aQ x.af 7=7:=by unfold kQ;rw[ue,Dh];simp only[zab e0,GV,zaa fT]
  refine I ?_;exact au rfl (bad (by rw[Ik h0 aa (by rw[a0];decide),a0]))
 refine v0 80 (show¬0<=gd c R from fun g=>Gu.1 g fT) ?_;have hc:kQ cut x.aQ x.af 7=0:=by unfold kQ;rw[ue,Dh];simp only[zab e0,GV,zab fT]
 have od:(lW a=none∨lW b=none)->bS (.bP [.agg [.nl,.s [],.s [],.s []],.i .i64 6]) (E9.res (p,k,cut,a,b)):=fun h=>bad (Yb h0 aa hc h);refine I ?_;refine cN (L:=ac Rat) (apG a b) (apI k cut a b) (fun l=>6-l.length) [1,2,3,7,8] [] trivial (by show 6-0<bV+1;unfold bV;omega) ⟨by decide,rfl,⟨⟨_,rfl,rfl⟩,⟨_,rfl,rfl⟩,⟨_,rfl,rfl⟩,⟨_,rfl,rfl⟩,⟨_,rfl,rfl⟩,trivial⟩,⟨rfl,rfl,rfl,rfl,rfl,rfl,rfl,rfl,trivial⟩,rfl⟩ ?_;intro l hl
 match l,hl with
 |[],_=>
  refine I ?_;refine lM 0 ?_;refine I ?_;refine aX q8 a.aQ ha.2.1 ?_;cases iL:cJ a.aQ with
  |none=>
   refine ax 104 (.bP [cG 0,.i .i64 6]) rfl (by show fI a.aQ=_;unfold fI;rw[iL]) (I ?_);exact au rfl (od (.inl (Gn iL)))
  |some v=>
   refine ax 104 (.bP [cG v,.i .i64 0]) rfl (by show fI a.aQ=_;unfold fI;rw[iL]) (I ?_);refine lM 0 ?_;refine I ?_;exact bf [0,1,2,3,4] [v] ⟨by show 6-1<6-0;decide,iL⟩ ⟨by decide,rfl,⟨⟨_,rfl,rfl⟩,⟨_,rfl,rfl⟩,⟨_,rfl,rfl⟩,⟨_,rfl,rfl⟩,⟨_,rfl,rfl⟩,trivial⟩,⟨rfl,rfl,rfl,rfl,rfl,rfl,rfl,rfl,trivial⟩,rfl⟩
 |[cC],cv=>
  refine I ?_;refine lM 1 ?_;refine I ?_;refine aX q8 a.af ha.2.2.1 ?_;cases iL:cJ a.af with
  |none=>
   refine ax 104 (.bP [cG 0,.i .i64 6]) rfl (by show fI a.af=_;unfold fI;rw[iL]) (I ?_);exact au rfl (od (.inl (Gp cv iL)))
  |some v=>
   refine ax 104 (.bP [cG v,.i .i64 0]) rfl (by show fI a.af=_;unfold fI;rw[iL]) (I ?_);refine lM 1 ?_;refine I ?_;exact bf [0,1,2,3,4] [cC,v] ⟨by show 6-2<6-1;decide,⟨cv,iL⟩⟩ ⟨by decide,rfl,⟨⟨_,rfl,rfl⟩,⟨_,rfl,rfl⟩,⟨_,rfl,rfl⟩,⟨_,rfl,rfl⟩,⟨_,rfl,rfl⟩,trivial⟩,⟨rfl,rfl,rfl,rfl,rfl,rfl,rfl,rfl,trivial⟩,rfl⟩
 |[cC,fC],⟨cv,cF⟩=>
  refine I ?_;refine lM 2 ?_;refine I ?_;refine aX q8 a.err ha.2.2.2 ?_;cases iL:cJ a.err with
  |none=>
   refine ax 104 (.bP [cG 0,.i .i64 6]) rfl (by show fI a.err=_;unfold fI;rw[iL]) (I ?_);exact au rfl (od (.inl (Gq cv cF iL)))
  |some v=>
   refine ax 104 (.bP [cG v,.i .i64 0]) rfl (by show fI a.err=_;unfold fI;rw[iL]) (I ?_);refine lM 2 ?_;refine I ?_;exact bf [0,1,2,3,4] [cC,fC,v] ⟨by show 6-3<6-2;decide,⟨cv,cF,iL⟩⟩ ⟨by decide,rfl,⟨⟨_,rfl,rfl⟩,⟨_,rfl,rfl⟩,⟨_,rfl,rfl⟩,⟨_,rfl,rfl⟩,⟨_,rfl,rfl⟩,trivial⟩,⟨rfl,rfl,rfl,rfl,rfl,rfl,rfl,rfl,trivial⟩,rfl⟩
 |[cC,fC,hD],⟨cv,cF,dU⟩=>
  refine I ?_;refine lM 3 ?_;refine I ?_;refine aX q8 b.aQ hb.2.1 ?_;cases iL:cJ b.aQ with
  |none=>
   refine ax 104 (.bP [cG 0,.i .i64 6]) rfl (by show fI b.aQ=_;unfold fI;rw[iL]) (I ?_);exact au rfl (od (.inr (Gn iL)))
  |some v=>
   refine ax 104 (.bP [cG v,.i .i64 0]) rfl (by show fI b.aQ=_;unfold fI;rw[iL]) (I ?_);refine lM 3 ?_;refine I ?_;exact bf [0,1,2,3,4] [cC,fC,hD,v] ⟨by show 6-4<6-3;decide,⟨cv,cF,dU,iL⟩⟩ ⟨by decide,rfl,⟨⟨_,rfl,rfl⟩,⟨_,rfl,rfl⟩,⟨_,rfl,rfl⟩,⟨_,rfl,rfl⟩,⟨_,rfl,rfl⟩,trivial⟩,⟨rfl,rfl,rfl,rfl,rfl,rfl,rfl,rfl,trivial⟩,rfl⟩
 |[cC,fC,hD,jn],⟨cv,cF,dU,iE⟩=>
  refine I ?_;refine lM 4 ?_;refine I ?_;refine aX q8 b.af hb.2.2.1 ?_;cases iL:cJ b.af with
  |none=>
   refine ax 104 (.bP [cG 0,.i .i64 6]) rfl (by show fI b.af=_;unfold fI;rw[iL]) (I ?_);exact au rfl (od (.inr (Gp iE iL)))
  |some v=>
   refine ax 104 (.bP [cG v,.i .i64 0]) rfl (by show fI b.af=_;unfold fI;rw[iL]) (I ?_);refine lM 4 ?_;refine I ?_;exact bf [0,1,2,3,4] [cC,fC,hD,jn,v] ⟨by show 6-5<6-4;decide,⟨cv,cF,dU,iE,iL⟩⟩ ⟨by decide,rfl,⟨⟨_,rfl,rfl⟩,⟨_,rfl,rfl⟩,⟨_,rfl,rfl⟩,⟨_,rfl,rfl⟩,⟨_,rfl,rfl⟩,trivial⟩,⟨rfl,rfl,rfl,rfl,rfl,rfl,rfl,rfl,trivial⟩,rfl⟩
 |[cC,fC,hD,jn,k1],⟨cv,cF,dU,iE,vb⟩=>
  refine I ?_;refine lM 5 ?_;refine I ?_;refine aX q8 b.err hb.2.2.2 ?_;cases iL:cJ b.err with
  |none=>
   refine ax 104 (.bP [cG 0,.i .i64 6]) rfl (by show fI b.err=_;unfold fI;rw[iL]) (I ?_);exact au rfl (od (.inr (Gq iE vb iL)))
  |some v=>
   refine ax 104 (.bP [cG v,.i .i64 0]) rfl (by show fI b.err=_;unfold fI;rw[iL]) (I ?_);refine lM 5 ?_;refine I ?_;exact bf [0,1,2,3,4] [cC,fC,hD,jn,k1,v] ⟨by show 6-6<6-5;decide,⟨cv,cF,dU,iE,vb,iL⟩⟩ ⟨by decide,rfl,⟨⟨_,rfl,rfl⟩,⟨_,rfl,rfl⟩,⟨_,rfl,rfl⟩,⟨_,rfl,rfl⟩,⟨_,rfl,rfl⟩,trivial⟩,⟨rfl,rfl,rfl,rfl,rfl,rfl,rfl,rfl,trivial⟩,rfl⟩
 |[cC,fC,hD,jn,k1,n8],⟨cv,cF,dU,iE,vb,Jm⟩=>
 refine aq 120 ?_;have lE:a.bZ.length<=20:=ha.1;have fe:b.bZ.length<=20:=hb.1;refine e8 120 ((a.bZ.length+b.bZ.length:Nat):Int) (aq 121 ?_);refine e8 121 ((a.bZ.length+b.bZ.length+1:Nat):Int) (aq 122 ?_);refine v0 122 (show¬200<((a.bZ.length+b.bZ.length+1:Nat):Int) by omega) ?_;have kW:=se ha.2.1 cv;have fi:=se ha.2.2.1 cF;have pk:=se ha.2.2.2 dU;have q0:=se hb.2.1 iE;have Br:=se hb.2.2.1 vb;have Bs:=se hb.2.2.2 Jm;have eg:dW 300 (jA cC jn):=by unfold jA;split<;>assumption
 have fh:dW 300 (ga fC k1):=by unfold ga;split<;>assumption
 have j9:dW 300 (ga hD n8):=by unfold ga;split<;>assumption
 have dY:lj p k cut a b=(yO k cut a b ((cC,fC),hD) ((jn,k1),n8),0):=Yc h0 aa hc (Gr cv cF dU) (Gr iE vb Jm);have fin:∀{l:ac eS},l=hr k cut::(a.bZ++b.bZ)->bS (.bP [.agg [.cc 5 eS eO l,.s (gp (jA cC jn)),.s (gp (ga fC k1)),.s (gp (ga hD n8))],.i .i64 0]) (E9.res (p,k,cut,a,b)):=fun h=>.of (by subst h;show uQ (yO k cut a b ((cC,fC),hD) ((jn,k1),n8),0)=uQ (lj p k cut a b);rw[dY]);clear dY bad od;refine aq 128 ?_;refine arY 5 (cs:=[.i .i64 2,.i .i64 (k:Int),.s cut,.nl,.nl]) [.i .i64 2,.i .i64 (k:Int),.s cut,.a6 6 ei e4 [],.a6 6 ei e4 []] ?_ ⟨.refl _,.refl _,.refl _,bS.nl.trans .a6,bS.nl.trans .a6,trivial⟩;refine oN (z:=5) 5 eO [hr k cut] ?_;refine I ?_;by_cases rW:a.bZ=[]
 ·refine Ad (R:=eO) (k0:=5) (n:=1) (c:=1) (l:=[hr k cut]) rW (n3 rfl (fun _=>rfl) (fun _=>rfl)) ?_ (by decide) (by exact zaK _) (by decide);refine I ?_;by_cases kU:b.bZ=[]
  ·refine Ad (R:=eO) (k0:=5) (n:=1) (c:=1) (l:=[hr k cut]) kU (n3 rfl (fun _=>rfl) (fun _=>rfl)) ?_ (by decide) (by exact zaK _) (by decide)
   iterate 4 refine gZ ?_
   refine JT (xm 6 5 (cs':=[.cc 5 eS eO ([hr k cut]),.s [],.s [],.s []]) (xx rfl ?_) (ha:=by exact wu));refine I ?_;refine nH 0 ?_;refine I ?_;refine nH 3 ?_;refine I ?_;refine bQ Jw (cC,jn) ⟨eC kW (by decide),eC q0 (by decide)⟩ (I ?_);refine bQ qh (jA cC jn) (eC eg (by decide)) (I ?_);refine nH 1 ?_;refine I ?_;refine nH 4 ?_;refine I ?_;refine bQ xd (fC,k1) ⟨eC fi (by decide),eC Br (by decide)⟩ (I ?_);refine bQ qh (ga fC k1) (eC fh (by decide)) (I ?_);refine lM 2 ?_;refine I ?_;refine lM 5 ?_;refine I ?_;refine aX xd (hD,n8) ⟨eC pk (by decide),eC Bs (by decide)⟩ (I ?_);refine aX qh (ga hD n8) (eC j9 (by decide)) (I ?_);exact au rfl (fin (by rw[rW,kU];rfl))
  ·refine GI (R:=eO) (k0:=5) (n:=1) (c:=1) (l:=[hr k cut]) b.bZ (hr k cut::(a.bZ++b.bZ)) (n3 rfl (fun _=>rfl) (fun _=>rfl)) ?_ kU (by have:=zaN.2 kU;omega) (by rw[rW];rfl) (by omega)
   iterate 4 refine gZ ?_
   refine JT (xm 6 7 (cs':=[.cc 5 eS eO (hr k cut::(a.bZ++b.bZ)),.s [],.s [],.s []]) (xx rfl ?_) (ha:=by exact wu));refine I ?_;refine nH 0 ?_;refine I ?_;refine nH 3 ?_;refine I ?_;refine bQ Jw (cC,jn) ⟨eC kW (by decide),eC q0 (by decide)⟩ (I ?_);refine bQ qh (jA cC jn) (eC eg (by decide)) (I ?_);refine nH 1 ?_;refine I ?_;refine nH 4 ?_;refine I ?_;refine bQ xd (fC,k1) ⟨eC fi (by decide),eC Br (by decide)⟩ (I ?_);refine bQ qh (ga fC k1) (eC fh (by decide)) (I ?_);refine lM 2 ?_;refine I ?_;refine lM 5 ?_;refine I ?_;refine aX xd (hD,n8) ⟨eC pk (by decide),eC Bs (by decide)⟩ (I ?_);refine aX qh (ga hD n8) (eC j9 (by decide)) (I ?_);exact au rfl (fin rfl)
 ·refine GI (R:=eO) (k0:=5) (n:=1) (c:=1) (l:=[hr k cut]) a.bZ (hr k cut::a.bZ) (n3 rfl (fun _=>rfl) (fun _=>rfl)) ?_ rW (by have:=zaN.2 rW;omega) rfl (by omega);refine I ?_;by_cases kU:b.bZ=[]
  ·refine Ad (R:=eO) (k0:=7) (n:=(hr k cut::a.bZ).length) (c:=(hr k cut::a.bZ).length) (l:=hr k cut::a.bZ) kU (n3 rfl (fun _=>rfl) (fun _=>rfl)) ?_ (zaK _) (zaK _) (by rw[zaq];omega)
   iterate 4 refine gZ ?_
   refine JT (xm 6 7 (cs':=[.cc 5 eS eO (hr k cut::a.bZ),.s [],.s [],.s []]) (xx rfl ?_) (ha:=by exact wu));refine I ?_;refine nH 0 ?_;refine I ?_;refine nH 3 ?_;refine I ?_;refine bQ Jw (cC,jn) ⟨eC kW (by decide),eC q0 (by decide)⟩ (I ?_);refine bQ qh (jA cC jn) (eC eg (by decide)) (I ?_);refine nH 1 ?_;refine I ?_;refine nH 4 ?_;refine I ?_;refine bQ xd (fC,k1) ⟨eC fi (by decide),eC Br (by decide)⟩ (I ?_);refine bQ qh (ga fC k1) (eC fh (by decide)) (I ?_);refine lM 2 ?_;refine I ?_;refine lM 5 ?_;refine I ?_;refine aX xd (hD,n8) ⟨eC pk (by decide),eC Bs (by decide)⟩ (I ?_);refine aX qh (ga hD n8) (eC j9 (by decide)) (I ?_);exact au rfl (fin (by rw[kU,zcE]))
  ·refine Sp (R:=eO) (k0:=7) (l:=hr k cut::a.bZ) b.bZ (hr k cut::(a.bZ++b.bZ)) (n3 rfl (fun _=>rfl) (fun _=>rfl)) ?_ kU rfl (by rw[zaq];omega)
   iterate 4 refine gZ ?_
   refine JT (xm 6 8 (cs':=[.cc 5 eS eO (hr k cut::(a.bZ++b.bZ)),.s [],.s [],.s []]) (xx rfl ?_) (ha:=by exact wu));refine I ?_;refine nH 0 ?_;refine I ?_;refine nH 3 ?_;refine I ?_;refine bQ Jw (cC,jn) ⟨eC kW (by decide),eC q0 (by decide)⟩ (I ?_);refine bQ qh (jA cC jn) (eC eg (by decide)) (I ?_);refine nH 1 ?_;refine I ?_;refine nH 4 ?_;refine I ?_;refine bQ xd (fC,k1) ⟨eC fi (by decide),eC Br (by decide)⟩ (I ?_);refine bQ qh (ga fC k1) (eC fh (by decide)) (I ?_);refine lM 2 ?_;refine I ?_;refine lM 5 ?_;refine I ?_;refine aX xd (hD,n8) ⟨eC pk (by decide),eC Bs (by decide)⟩ (I ?_);refine aX qh (ga hD n8) (eC j9 (by decide)) (I ?_);exact au rfl (fin rfl)
