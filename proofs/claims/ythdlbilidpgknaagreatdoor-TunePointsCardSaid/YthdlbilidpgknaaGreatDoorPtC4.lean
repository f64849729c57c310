/- What the functions of the program and of the document compute, for every input (part 4); conditions as in the statements. -/
import Derived.Test.YthdlbilidpgknaaGreatDoorPtC3
import Derived.Test.YthdlbilidpgknaaGreatDoorPtS2
set_option linter.all false
namespace Go.ak.a2
open Go.ak
set_option maxRecDepth 100000
set_option maxHeartbeats 4000000
def OI:bc where
 L:=dN×Nat×gl
 args:=fun(p,i,n)=>[h8 p,.i .i64 (i:Int)]
 pre:=fun(p,i,n)=>p.bt[i]? =some n∧n.v.length<=2000
 res:=fun(p,i,n)=>.i .i64 (uv p i n)
def apC:a6 aS.ctx 137 OI.spec:=by
 refine bq [(236,zl.spec),(237,abU.spec),(139,s6.spec),(238,ZO.spec),(239,ZY.spec),(240,wL.spec)] SP.1 ?_;intro⟨p,i,n⟩ ⟨hj,aI⟩ H aH;have a7:∀{c:Int},uv p i n=c->bY (.i .i64 c) (OI.res (p,i,n)):=fun h=>.of (by rw[<-h];rfl);refine I ?_;refine ep n hj ?_;refine I ?_;refine aC zm n.op trivial (an 16 ?_);by_cases J:1<=n.op∧n.op<=15
 case neg=>
  refine v1 16 (show qN n.op<0 by unfold qN;rw[zaa J];decide) (I ?_);exact au rfl (a7 (zab (.inl J)))
 refine v0 16 (show¬qN n.op<0 by unfold qN;rw[zab J];omega) (I ?_);refine aC asL n J ?_;cases U:rh n with
 |false=>
  refine ag 19 (.b true) rfl (b2 (by rw[U];rfl)) (I ?_);exact au rfl (a7 (zab (.inr U)))
 |true=>
 refine ag 19 (.b false) rfl (b2 (by rw[U];rfl)) ?_;have aM:¬(¬(1<=n.op∧n.op<=15)∨rh n=false):=fun h=>h.elim (fun h=>h J) (fun h=>Bool.noConfusion (U.symm.trans h));refine I ?_;refine aC yG (n.f,(p.bG.length:Int)) trivial ?_;by_cases af:jd n.f p.bG.length
 case neg=>
  refine dW 26 af (I ?_);exact au rfl (a7 ((zaa aM).trans (zab af)))
 refine dG 26 af ?_;have aN:¬¬jd n.f p.bG.length:=fun h=>h af;have e2:=fun{c} h=> @a7 c ((zaa aM).trans ((zaa aN).trans h));have f2:=fun{c} h=>((zaa aM).trans ((zaa aN).trans h):uv p i n=c);refine an 29 ?_
 iterate 3 refine ha ?_
 refine m6 (L:=Unit) (fun _=>uv p i n=if(g8 n).all (fun k=>wK p i k)then 0 else 7) (fun _=>⟨[.c 27 (g2 p),.c 126 (kU n)],2,[(1,.i .i64 (i:Int)),(2,.p 0 0),(4,.i .i64 0),(5,.p 1 0)]⟩) ?_ ?_
 ·clear a7;refine an 31 ?_;by_cases hi:n.op=1
  ·refine v1 31 hi (I ?_);refine aC yG (n.a,(p.ins.length:Int)) trivial ?_;by_cases ax:jd n.a p.ins.length
   case neg=>
    refine dW 37 ax (I ?_);exact au rfl (e2 (zab ⟨hi,ax⟩))
   refine dG 37 ax ?_;have bf:¬(n.op=1∧¬jd n.a p.ins.length):=fun h=>h.2 ax;obtain⟨a,aY⟩:∃a:Nat,n.a=(a:Int):=⟨n.a.toNat,by have:=ax.1;omega⟩;have q1:n.a.toNat=a:=by omega
   have kO:a<p.ins.length:=by have:=ax.2;omega
   refine an 42 ?_;refine cm 42 (.i .i64 (a:Int)) rfl rfl (by rw[aY]) ?_;refine I ?_;refine hK p.ins[a] (bV kO) ?_;refine an 48 ?_;by_cases a0:(p.ins[a]).f=n.f
   case neg=>
    refine gX 48 a0 (I ?_);exact au rfl (e2 ((zaa bf).trans (zab ⟨hi,by rw[q1,bV kO];simpa using a0⟩)))
   refine iX 48 (gI a0) (I ?_);refine ba [0,1] () (f2 ((zaa bf).trans ((zaa ?_).trans ((zaa (by omega)).trans (zaa (by omega)))))) ji;rintro⟨_,h⟩;exact h (by rw[q1,bV kO];simp[a0])
  ·refine v0 31 hi ?_;have f3:=fun{c} h=> @f2 c ((zaa (fun h=>hi h.1)).trans ((zaa (fun h=>hi h.1)).trans h));have bW:=fun{c} h=> @e2 c ((zaa (fun h=>hi h.1)).trans ((zaa (fun h=>hi h.1)).trans h));refine an 50 ?_;by_cases ai:n.op=2
   ·refine v1 50 ai (an 54 ?_);by_cases ax:(i:Int)<p.head
    ·refine v1 54 ax (I ?_);exact au rfl (bW (zab ⟨ai,.inl ax⟩))
    refine v0 54 ax (I ?_);refine aC yG (n.a,(p.eX.length:Int)) trivial ?_;by_cases a0:jd n.a p.eX.length
    case neg=>
     refine dW 61 a0 (I ?_);exact au rfl (bW (zab ⟨ai,.inr a0⟩))
    refine dG 61 a0 (I ?_);exact ba [0,1] () (f3 ((zaa (fun h=>h.2.elim ax (fun h=>h a0))).trans (zaa (by omega)))) ji
   ·refine v0 50 ai ?_;have f4:=fun{c} h=> @f3 c ((zaa (fun h=>ai h.1)).trans h);have e6:=fun{c} h=> @bW c ((zaa (fun h=>ai h.1)).trans h);refine an 65 ?_;by_cases hc:n.op=3
    ·refine v1 65 hc (I ?_);refine aC apq n.v aI (I ?_);exact au rfl (e6 (zab hc))
    ·refine v0 65 hc (I ?_);exact ba [0,1] () (f4 (zaa hc)) ji
 intro _ iM;have ab:=Xy n;refine I ?_;refine aC apx n J (I ?_);refine df (L:=Nat) (fun k=>k<=(g8 n).length∧((g8 n).take k).all (fun k=>wK p i k)=true) (fun(k:Nat)=>⟨[.c 27 (g2 p),.c 126 (kU n)],2,[(1,.i .i64 (i:Int)),(2,.p 0 0),(4,.i .i64 0),(6,.c5 1 Int hH (g8 n)),(7,.i .i64 (k:Int))]⟩) (fun k=>(g8 n).length-k) [0,1] 0 ⟨zaf _,rfl⟩ mV ji ?_;rintro(k:Nat) ⟨jq,aJ⟩;refine an 74 ?_;by_cases hl:k<(g8 n).length
 ·refine v1 74 (show(k:Int)<((g8 n).length:Int) by omega) (I ?_);refine hK (g8 n)[k] (bV hl) ?_;refine I ?_;refine aZ apK (p,(i:Int),(g8 n)[k]) trivial ?_;cases ai:wK p i (g8 n)[k]with
  |false=>
   refine ag 83 (.b false) rfl (b2 ai) (I ?_);refine au rfl (a7 (iM.trans (zaa ?_)));intro h;rw[zbn]at h;have:=h _ (ea hl);rw[ai]at this;cases this
  |true=>
   refine ag 83 (.b true) rfl (b2 ai) (an 76 ?_);refine nh 76 ((k+1:Nat):Int) (I ?_);exact ba [0,1] (k+1) ⟨by omega,hl,by rw[zbs hl,zeK,aJ];simp[ai]⟩ ji
 ·refine v0 74 (show¬(k:Int)<((g8 n).length:Int) by omega) (I ?_);exact au rfl (a7 (iM.trans (zab (by rw[zaF (by omega)]at aJ;exact aJ))))
def adu{α:Type}{l:ac α}{q:α->Bool}{k:Nat}(ab:k<l.length)(h:(l.take k).any q=false)(U:q l[k]=false):(l.take (k+1)).any q=false:=by
 rw[zbs ab,List.any_append,h];simp[U]
def apL:a6 aS.ctx 138 uQ.spec:=by
 refine bq [(139,s6.spec)] SQ.1 ?_;intro⟨p,i,s⟩ ⟨hj,hh,aV,hl⟩ H aH;have a7:∀{c:Int},Bw p i s=c->bY (.i .i64 c) (uQ.res (p,i,s)):=fun h=>.of (by rw[<-h];rfl);refine I ?_;refine ep s hj ?_;refine I ?_;refine aC yG (s.i,p.head) trivial ?_;by_cases J:0<=s.i∧s.i<p.head
 case neg=>
  refine dW 18 J (I ?_);exact au rfl (a7 (zab (.inl J)))
 refine dG 18 J (I ?_);refine aC yG (s.n,p.tail) trivial ?_;by_cases U:0<=s.n∧s.n<p.tail
 case neg=>
  refine dW 25 U (I ?_);exact au rfl (a7 (zab (.inr U)))
 refine dG 25 U ?_;obtain⟨a,aY⟩:∃a:Nat,s.i=(a:Int):=⟨s.i.toNat,by omega⟩;obtain⟨b,hb⟩:∃b:Nat,s.n=(b:Int):=⟨s.n.toNat,by omega⟩;have q1:s.i.toNat=a:=by omega
 have gR:s.n.toNat=b:=by omega
 have kO:a<p.bt.length:=by omega
 have nA:b<p.bt.length:=by omega
 have aw:∀{c:Int},(if(p.bt[b]).f≠(p.bt[a]).f∨p.bt.any (jt i (p.bt[a]).f)=true then 143 else 0)=c->bY (.i .i64 c) (uQ.res (p,i,s)):=fun h=>a7 (by
  unfold Bw;rw[zaa (fun h=>h.elim (fun h=>h J) (fun h=>h U)),q1,gR,bV kO,bV nA];exact h)
 refine an 31 ?_;refine ag 31 (.i .i64 (a:Int)) rfl (by rw[aY]) ?_;refine ep p.bt[a] (bV kO) ?_;refine an 38 ?_;refine ag 38 (.i .i64 (b:Int)) rfl (by rw[hb]) ?_;refine ep p.bt[b] (bV nA) ?_;refine an 43 ?_;by_cases af:(p.bt[b]).f≠(p.bt[a]).f
 ·refine v1 43 af (I ?_);exact au rfl (aw (zab (.inl af)))
 refine v0 43 af (I ?_);refine df (L:=Nat) (fun k=>k<=p.bt.length∧(p.bt.take k).any (jt i (p.bt[a]).f)=false) (fun(k:Nat)=>⟨[.c 27 (g2 p)],1,[(1,.i .i64 (i:Int)),(2,.p 0 0),(6,.i .i64 (p.bt[a]).f),(7,.i .i64 (k:Int))]⟩) (fun k=>p.bt.length-k) [0] 0 ⟨zaf _,rfl⟩ mV du ?_;rintro(k:Nat) ⟨jq,aJ⟩;refine an 48 ?_;by_cases ab:k<p.bt.length
 ·refine v1 48 (show(k:Int)<(p.bt.length:Int) by omega) (I ?_);refine ep p.bt[k] (bV ab) ?_;have WE:jt i (p.bt[a]).f p.bt[k]=true->bY (.i .i64 143) (uQ.res (p,i,s)):=fun h=>aw (zab (.inr (zek.2 ⟨_,ea ab,h⟩)));have uw:jt i (p.bt[a]).f p.bt[k]=false->k+1<=p.bt.length∧(p.bt.take (k+1)).any (jt i (p.bt[a]).f)=false:=fun h=>⟨ab,adu ab aJ h⟩;refine an 58 ?_;by_cases cP:(p.bt[k]).op=2
  case neg=>
   refine v0 58 cP (an 50 ?_);refine nh 50 ((k+1:Nat):Int) (I ?_);exact ba [0] (k+1) ⟨by omega,uw (by unfold jt;rw[zac cP];rfl)⟩ du
  refine v1 58 cP (an 63 ?_);by_cases cT:(p.bt[k]).a=(i:Int)
  case neg=>
   refine v0 63 cT (an 50 ?_);refine nh 50 ((k+1:Nat):Int) (I ?_);exact ba [0] (k+1) ⟨by omega,uw (by unfold jt;rw[zad cP,zac cT];rfl)⟩ du
  refine v1 63 cT (an 69 ?_);by_cases ek:(p.bt[k]).f≠(p.bt[a]).f
  ·refine v1 69 ek (I ?_);exact au rfl (WE (by unfold jt;rw[zad cP,zad cT,zad ek];rfl))
  ·refine v0 69 ek (an 50 ?_);refine nh 50 ((k+1:Nat):Int) (I ?_);exact ba [0] (k+1) ⟨by omega,uw (by unfold jt;rw[zad cP,zad cT,zac ek];rfl)⟩ du
 ·refine v0 48 (show¬(k:Int)<(p.bt.length:Int) by omega) ?_;rw[zaF (by omega)]at aJ;refine I ?_;exact au rfl (aw (zaa (fun h=>h.elim af (fun h=>Bool.noConfusion (aJ.symm.trans h)))))
def II:bc where
 L:=dN
 args:=fun p=>[h8 p]
 pre:=oO
 res:=fun p=>zu (eM p)
def apk:a6 aS.ctx 67 II.spec:=by
 refine bq [(134,zU.spec),(135,yE.spec),(136,En.spec),(137,OI.spec),(138,uQ.spec),(139,s6.spec),(140,wJ.spec)] Vs.1 ?_;intro(p:dN) ⟨b8,iM⟩ H aH;have a7:∀{c:Int×Int×Int},eM p=c->bY (zu c) (II.res p):=fun h=>.of (by rw[<-h];rfl);refine I ?_;refine aC atQ p trivial ?_;refine ag 15 (.i .i64 (o4 p)) rfl rfl (an 17 ?_);by_cases aO:o4 p=0
 case neg=>
  refine v1 17 aO (I ?_);exact au rfl (a7 (zaa aO))
 refine v0 17 (gI aO) ?_;have aw:∀{c:Int×Int×Int},l7 p=c->bY (zu c) (II.res p):=fun h=>a7 ((zab aO).trans h);obtain⟨eW,g1,rk,anj,Nc,Nd,ank⟩:=LO aO;refine I ?_;refine df (L:=Nat) (fun j=>j<=p.bG.length∧fg (mP p) (p.bG.drop j) j=fg (mP p) p.bG 0) (fun(j:Nat)=>⟨[.c 27 (g2 p)],1,[(1,.p 0 0),(6,.i .i64 (j:Int))]⟩) (fun j=>p.bG.length-j) [0] 0 ⟨zaf _,rfl⟩ mV du ?_;rintro(j:Nat) ⟨hO,aJ⟩;refine an 23 ?_;by_cases hj:j<p.bG.length
 ·refine v1 23 (show(j:Int)<(p.bG.length:Int) by omega) (I ?_);rw[vt hj]at aJ;refine ep p.bG[j] (bV hj) ?_;refine I ?_;refine aC El p.bG[j] trivial ?_;refine ag 31 (.i .i64 (mP p j p.bG[j])) rfl rfl (an 33 ?_);by_cases he:mP p j p.bG[j]=0
  ·rw[zab he]at aJ;refine v0 33 (gI he) (an 25 ?_);refine nh 25 ((j+1:Nat):Int) (I ?_);exact ba [0] (j+1) ⟨by omega,hj,aJ⟩ du
  ·rw[zaa he]at aJ;refine v1 33 he (I ?_);refine au rfl (aw (c:=(1,(j:Int),mP p j p.bG[j])) ?_);unfold l7;simp only[<-aJ]
 refine v0 23 (show¬(j:Int)<(p.bG.length:Int) by omega) ?_;have J:fg (mP p) p.bG 0=none:=by rw[<-aJ,zbj (by omega)];rfl
 clear aJ hj hO;refine I ?_;refine df (L:=Nat) (fun j=>j<=p.ins.length∧fg (mQ p) (p.ins.drop j) j=fg (mQ p) p.ins 0) (fun(j:Nat)=>⟨[.c 27 (g2 p)],1,[(1,.p 0 0),(8,.i .i64 (j:Int))]⟩) (fun j=>p.ins.length-j) [0] 0 ⟨zaf _,rfl⟩ mV du ?_;rintro(j:Nat) ⟨hO,aJ⟩;refine an 40 ?_;by_cases hj:j<p.ins.length
 ·refine v1 40 (show(j:Int)<(p.ins.length:Int) by omega) (I ?_);rw[vt hj]at aJ;refine hK p.ins[j] (bV hj) ?_;refine I ?_;refine aZ apu (p,p.ins[j]) (b8 _ (ea hj)) ?_;refine ag 49 (.i .i64 (mQ p j p.ins[j])) rfl rfl (an 51 ?_);by_cases he:mQ p j p.ins[j]=0
  ·rw[zab he]at aJ;refine v0 51 (gI he) (an 42 ?_);refine nh 42 ((j+1:Nat):Int) (I ?_);exact ba [0] (j+1) ⟨by omega,hj,aJ⟩ du
  ·rw[zaa he]at aJ;refine v1 51 he (I ?_);refine au rfl (aw (c:=(2,(j:Int),mQ p j p.ins[j])) ?_);unfold l7;simp only[J,<-aJ]
 refine v0 40 (show¬(j:Int)<(p.ins.length:Int) by omega) ?_;have U:fg (mQ p) p.ins 0=none:=by rw[<-aJ,zbj (by omega)];rfl
 clear aJ hj hO;refine I ?_;refine df (L:=Nat) (fun j=>j<=p.bt.length∧fg (nr p) (p.bt.drop j) j=fg (nr p) p.bt 0) (fun(j:Nat)=>⟨[.c 27 (g2 p)],1,[(1,.p 0 0),(10,.i .i64 (j:Int))]⟩) (fun j=>p.bt.length-j) [0] 0 ⟨zaf _,rfl⟩ mV du ?_;rintro(j:Nat) ⟨hO,aJ⟩;refine an 58 ?_;by_cases hj:j<p.bt.length
 ·refine v1 58 (show(j:Int)<(p.bt.length:Int) by omega) (I ?_);rw[vt hj]at aJ;refine aC apC (p,j,p.bt[j]) ⟨bV hj,iM _ (ea hj)⟩ ?_;refine ag 63 (.i .i64 (nr p j p.bt[j])) rfl rfl (an 65 ?_);by_cases he:nr p j p.bt[j]=0
  ·rw[zab he]at aJ;refine v0 65 (gI he) (an 60 ?_);refine nh 60 ((j+1:Nat):Int) (I ?_);exact ba [0] (j+1) ⟨by omega,hj,aJ⟩ du
  ·rw[zaa he]at aJ;refine v1 65 he (I ?_);refine au rfl (aw (c:=(3,(j:Int),nr p j p.bt[j])) ?_);unfold l7;simp only[J,U,<-aJ]
 refine v0 58 (show¬(j:Int)<(p.bt.length:Int) by omega) ?_;have af:fg (nr p) p.bt 0=none:=by rw[<-aJ,zbj (by omega)];rfl
 clear aJ hj hO;refine I ?_;refine df (L:=Nat) (fun j=>j<=p.eX.length∧fg (ns p) (p.eX.drop j) j=fg (ns p) p.eX 0) (fun(j:Nat)=>⟨[.c 27 (g2 p)],1,[(1,.p 0 0),(12,.i .i64 (j:Int))]⟩) (fun j=>p.eX.length-j) [0] 0 ⟨zaf _,rfl⟩ mV du ?_;rintro(j:Nat) ⟨hO,aJ⟩;refine an 72 ?_;by_cases hj:j<p.eX.length
 ·refine v1 72 (show(j:Int)<(p.eX.length:Int) by omega) (I ?_);rw[vt hj]at aJ;refine aC apL (p,j,p.eX[j]) ⟨bV hj,by omega,Nc,by omega⟩ ?_;refine ag 77 (.i .i64 (ns p j p.eX[j])) rfl rfl (an 79 ?_);by_cases he:ns p j p.eX[j]=0
  ·rw[zab he]at aJ;refine v0 79 (gI he) (an 74 ?_);refine nh 74 ((j+1:Nat):Int) (I ?_);exact ba [0] (j+1) ⟨by omega,hj,aJ⟩ du
  ·rw[zaa he]at aJ;refine v1 79 he (I ?_);refine au rfl (aw (c:=(4,(j:Int),ns p j p.eX[j])) ?_);unfold l7;simp only[J,U,af,<-aJ]
 refine v0 72 (show¬(j:Int)<(p.eX.length:Int) by omega) ?_;have ax:fg (ns p) p.eX 0=none:=by rw[<-aJ,zbj (by omega)];rfl
 clear aJ hj hO;have dm:l7 p=if¬jd p.out p.bt.length∨gp p p.out=1 then(5,0,7)else(0,0,0):=by unfold l7;simp only[J,U,af,ax]
 refine I ?_;refine aC yG (p.out,(p.bt.length:Int)) trivial ?_;by_cases cP:jd p.out p.bt.length
 case neg=>
  refine dW 87 cP (I ?_);exact au rfl (aw (c:=(5,0,7)) (dm.trans (zab (.inl cP))))
 refine dG 87 cP (I ?_);refine aC IY (p,p.out) trivial ?_;refine ag 93 (.i .i64 (gp p p.out)) rfl rfl (an 94 ?_);by_cases cT:gp p p.out=1
 ·refine v1 94 cT (I ?_);exact au rfl (aw (c:=(5,0,7)) (dm.trans (zab (.inr cT))))
 ·refine v0 94 cT (I ?_);exact au rfl (aw (c:=(0,0,0)) (dm.trans (zaa (fun h=>h.elim (fun h=>h cP) cT))))
def LP:bc where
 L:=dN
 args:=fun p=>[h8 p]
 pre:=oO
 res:=fun p=>.i .i64 (eM p).2.2
def V2:a6 aS.ctx 23 LP.spec:=by
 refine bq [(67,II.spec)] TF.1 ?_;intro(p:dN) hp H aH;refine I ?_;refine aC apk p hp ?_;refine ag 8 (.bu [.i .i64 (eM p).1,.i .i64 (eM p).2.1,.i .i64 (eM p).2.2]) rfl rfl (I ?_);exact au rfl (.of rfl)
def nX(l:ac jZ):Nat:=(l.map fun x=>x.aL.length+x.hi.length).sum
def l4(l:ac gl):Nat:=(l.map fun n=>n.v.length).sum
def ve(p:dN):Prop:=100<(p.bG.length:Int)∨100<(p.ins.length:Int)∨100<(p.bt.length:Int)∨100<(p.eX.length:Int)∨2000<((nX p.ins+l4 p.bt:Nat):Int)
instance(p:dN):Decidable (ve p):=by unfold ve;infer_instance
def va(p:dN):Prop:=(∀x∈p.ins,x.aL.length<=140737488355328∧x.hi.length<=140737488355328)∧∀n∈p.bt,n.v.length<=140737488355328
def GC:bc where
 L:=dN
 args:=fun p=>[h8 p]
 pre:=va
 res:=fun p=>.b (decide (ve p))
def ajD:a6 aS.ctx 51 GC.spec:=by
 refine bq [] Vj.1 ?_;intro(p:dN) ⟨b8,iM⟩ H aH;have yes:ve p->bY (.b true) (GC.res p):=fun h=>.of (b2 (zad h).symm);have no:¬ve p->bY (.b false) (GC.res p):=fun h=>.of (b2 (zac h).symm);refine an 9 ?_;by_cases J:100<(p.bG.length:Int)
 ·refine v1 9 J (I ?_);exact au rfl (yes (.inl J))
 refine v0 9 J (an 14 ?_);by_cases U:100<(p.ins.length:Int)
 ·refine v1 14 U (I ?_);exact au rfl (yes (.inr (.inl U)))
 refine v0 14 U (an 20 ?_);by_cases af:100<(p.bt.length:Int)
 ·refine v1 20 af (I ?_);exact au rfl (yes (.inr (.inr (.inl af))))
 refine v0 20 af (an 26 ?_);by_cases ax:100<(p.eX.length:Int)
 ·refine v1 26 ax (I ?_);exact au rfl (yes (.inr (.inr (.inr (.inl ax)))))
 refine v0 26 ax (I ?_);refine df (L:=Nat×Nat) (fun(k,a)=>k<=p.ins.length∧a<=300000000000000*k∧a+nX (p.ins.drop k)=nX p.ins) (fun(k,a)=>⟨[.c 27 (g2 p)],1,[(1,.p 0 0),(3,.i .i64 (a:Int)),(4,.i .i64 (k:Int))]⟩) (fun q=>p.ins.length-q.1) [0] (0,0) ⟨zaf _,zaf _,zav _⟩ mV du ?_;rintro⟨k,a⟩ ⟨ab,hb,aJ⟩;refine an 32 ?_;by_cases a4:k<p.ins.length
 ·refine v1 32 (show(k:Int)<(p.ins.length:Int) by omega) ?_;obtain⟨cD,db⟩:=b8 _ (ea a4);rw[hk a4]at aJ;have aJ:a+((p.ins[k].aL.length+p.ins[k].hi.length)+nX (p.ins.drop (k+1)))=nX p.ins:=aJ;refine I ?_;refine hK p.ins[k] (bV a4) ?_;refine an 43 ?_;refine ww 43 ((a+p.ins[k].aL.length:Nat):Int) ?_;refine I ?_;refine hK p.ins[k] (bV a4) ?_;refine an 51 ?_;refine ww 51 ((a+p.ins[k].aL.length+p.ins[k].hi.length:Nat):Int) ?_;refine an 34 ?_;refine nh 34 ((k+1:Nat):Int) (I ?_);exact ba [0] (k+1,a+p.ins[k].aL.length+p.ins[k].hi.length) ⟨by show _-(k+1)<_-k;omega,a4,by omega,by omega⟩ du
 refine v0 32 (show¬(k:Int)<(p.ins.length:Int) by omega) ?_;rw[zbj (by omega)]at aJ;have aJ:a=nX p.ins:=aJ;have fY:nX p.ins<=30000000000000000:=by omega
 rw[aJ];refine I ?_;refine df (L:=Nat×Nat) (fun(k,a)=>k<=p.bt.length∧a<=30000000000000000+300000000000000*k∧a+l4 (p.bt.drop k)=nX p.ins+l4 p.bt) (fun(k,a)=>⟨[.c 27 (g2 p)],1,[(1,.p 0 0),(3,.i .i64 (a:Int)),(5,.i .i64 (k:Int))]⟩) (fun q=>p.bt.length-q.1) [0] (0,nX p.ins) ⟨zaf _,by omega,rfl⟩ mV du ?_;rintro⟨k,a⟩ ⟨ab,hb,aJ⟩;refine an 56 ?_;by_cases a4:k<p.bt.length
 ·refine v1 56 (show(k:Int)<(p.bt.length:Int) by omega) ?_;have cD:=iM _ (ea a4);rw[hk a4]at aJ;have aJ:a+(p.bt[k].v.length+l4 (p.bt.drop (k+1)))=nX p.ins+l4 p.bt:=aJ;refine I ?_;refine ep p.bt[k] (bV a4) ?_;refine an 67 ?_;refine nh 67 ((a+p.bt[k].v.length:Nat):Int) (an 58 ?_);refine nh 58 ((k+1:Nat):Int) (I ?_);exact ba [0] (k+1,a+p.bt[k].v.length) ⟨by show _-(k+1)<_-k;omega,a4,by omega,by omega⟩ du
 refine v0 56 (show¬(k:Int)<(p.bt.length:Int) by omega) ?_;rw[zbj (by omega)]at aJ;have aJ:a=nX p.ins+l4 p.bt:=aJ;rw[aJ];refine an 69 ?_;by_cases a0:2000<((nX p.ins+l4 p.bt:Nat):Int)
 ·refine v1 69 a0 (I ?_);exact au rfl (yes (.inr (.inr (.inr (.inr a0)))))
 ·refine v0 69 a0 (I ?_);exact au rfl (no (fun h=>h.elim J fun h=>h.elim U fun h=>h.elim af fun h=>h.elim ax a0))
theorem acj:∀{l:ac jZ} {x:jZ},x∈l->x.aL.length+x.hi.length<=nX l
 |y::l,x,h=>by
  show _<=(y.aL.length+y.hi.length)+nX l;rcases zar.1 h with rfl|h
  ·omega
  ·have:=acj h;omega
theorem ack:∀{l:ac gl} {x:gl},x∈l->x.v.length<=l4 l
 |y::l,x,h=>by
  show _<=y.v.length+l4 l;rcases zar.1 h with rfl|h
  ·omega
  ·have:=ack h;omega
def abo{p:dN}(h:¬ve p):oO p:=by
 have a0:¬2000<((nX p.ins+l4 p.bt:Nat):Int):=fun aB=>h (.inr (.inr (.inr (.inr aB))));exact⟨fun x aa=>by have:=acj aa;omega,fun n hn=>by have:=ack hn;omega⟩
def vi(p:dN):Int:=if(eM p).2.2=0 then 7 else(eM p).2.2
def RA:bc where
 L:=dN
 args:=fun p=>[h8 p,.i .i64 (-1)]
 pre:=oO
 res:=fun p=>.bu [.i .i64 0,.i .i64 (vi p)]
def aeB:a6 aS.ctx 52 RA.spec:=by
 refine bq [(23,LP.spec)] Vk.1 ?_;intro(p:dN) hp H aH;refine I ?_;refine aC V2 p hp ?_;refine ag 8 (.i .i64 (eM p).2.2) rfl rfl (an 10 ?_);by_cases h0:(eM p).2.2=0
 ·refine v1 10 h0 (an 13 ?_);refine v1 13 (show(-1:Int)<0 by decide) (an 20 ?_);refine v1 20 (show(7:Int)≠0 by decide) (I ?_);exact au rfl (.of (by show _=ah.bu [.i .i64 0,.i .i64 (vi p)];unfold vi;rw[zab h0]))
 ·refine v0 10 h0 (an 20 ?_);refine v1 20 h0 (I ?_);exact au rfl (.of (by show _=ah.bu [.i .i64 0,.i .i64 (vi p)];unfold vi;rw[zaa h0]))
def w8(p:dN):Prop:=ve p∨400<(l4 p.bt:Int)
variable{P:Nat}{r e p s:Int}{d:Nat}{n:Int}{x:Rat}
instance(p:dN):Decidable (w8 p):=by unfold w8;infer_instance
def GD:bc where
 L:=dN
 args:=fun p=>[.agg (g2 p++[.nl,.i .i64 (-1)])]
 pre:=va
 res:=fun p=>.b (decide (w8 p))
def ajE:a6 aS.ctx 15 GD.spec:=by
 refine bq [(51,GC.spec),(52,RA.spec)] S4.1 ?_;intro(p:dN) hp H aH;have yes:w8 p->bY (.b true) (GD.res p):=fun h=>.of (b2 (zad h).symm);have no:¬w8 p->bY (.b false) (GD.res p):=fun h=>.of (b2 (zac h).symm);refine I ?_;refine aC ajD p hp ?_;by_cases J:ve p
 ·refine dG 10 J (I ?_);exact au rfl (yes (.inl J))
 refine dW 10 J ?_;have pa:=abo J;have hl:¬100<(p.bt.length:Int):=fun h=>J (.inr (.inr (.inl h)));refine an 15 ?_;refine v0 15 (show¬(20:Int)<0 by decide) (I ?_);refine df (L:=Nat×Nat) (fun(k,a)=>k<=p.bt.length∧a<=2000*k∧a+l4 (p.bt.drop k)=l4 p.bt) (fun(k,a)=>⟨[.c 54 (g2 p++[ah.nl,ah.i .i64 (-1)])],1,[(1,.p 0 0),(3,.i .i64 (a:Int)),(4,.i .i64 (k:Int))]⟩) (fun q=>p.bt.length-q.1) [0] (0,0) ⟨zaf _,zaf _,zav _⟩ mV du ?_;rintro⟨k,a⟩ ⟨ab,hb,aJ⟩;refine an 22 ?_;by_cases a4:k<p.bt.length
 ·refine v1 22 (show(k:Int)<(p.bt.length:Int) by omega) ?_;have cD:=pa.2 _ (ea a4);rw[hk a4]at aJ;have aJ:a+(p.bt[k].v.length+l4 (p.bt.drop (k+1)))=l4 p.bt:=aJ;refine I ?_;refine ep p.bt[k] (bV a4) ?_;refine an 34 ?_;refine nh 34 ((a+p.bt[k].v.length:Nat):Int) (an 24 ?_);refine nh 24 ((k+1:Nat):Int) (I ?_);exact ba [0] (k+1,a+p.bt[k].v.length) ⟨by show _-(k+1)<_-k;omega,a4,by omega,by omega⟩ du
 refine v0 22 (show¬(k:Int)<(p.bt.length:Int) by omega) ?_;rw[zbj (by omega)]at aJ;have aJ:a=l4 p.bt:=aJ;rw[aJ];refine I ?_;refine df (L:=Unit) (fun _=>True) (fun _=>⟨[.c 54 (g2 p++[ah.nl,ah.i .i64 (-1)])],1,[(1,.p 0 0),(3,.i .i64 (l4 p.bt:Int)),(5,.i .i64 0)]⟩) (fun _=>0) [0] () trivial mV du ?_;intro _ _;refine an 39 ?_;refine v0 39 (show¬(0:Int)<0 by decide) (an 50 ?_);by_cases ck:400<(l4 p.bt:Int)
 ·refine v1 50 ck (I ?_);exact au rfl (yes (.inr ck))
 refine v0 50 ck ?_;have hc:¬vi p=0:=by
  unfold vi;split
  ·decide
  ·assumption
 refine I ?_;refine aC aeB p pa ?_;refine ag 56 (.bu [.i .i64 0,.i .i64 (vi p)]) rfl rfl (an 60 ?_);refine v0 60 hc (I ?_);exact au rfl (no (fun h=>h.elim J ck))
def XF:bc where
 L:=dN
 args:=fun p=>[h8 p]
 pre:=va
 res:=fun p=>.b (decide (w8 p))
def ano:a6 aS.ctx 5 XF.spec:=by
 refine bq [(15,GD.spec)] cQ.1 ?_;intro(p:dN) hp H aH;refine I ?_;refine aC ajE p hp (I ?_);exact au rfl (.refl _)
def g4(P r:Nat):Nat:=if r<2^P then r else(2^P+r%2^P)*2^(r/2^P-1)
def m4{n j:Nat}(J:n<=2*2^P)(U:2^P<=n∨j=0):g4 P (n+j*2^P)=n*2^j:=by
 have hp:=zag P;unfold g4;generalize 2^P=z at *;rcases(show n<z∨(z<=n∧n<2*z)∨n=2*z by omega)with h|h|h
 ·have:j=0:=by omega
  subst this;rw[zab (by omega)];simp
 ·rw[zaa (by have:=zaf (j*z);omega)];have e:n+j*z=(n-z)+z*(j+1):=by rw[zaz,zai z j];omega
  rw[e,zdf,dH (by omega),zcK _ _ hp,zaX (by omega),show z+(n-z)=n by omega,show 0+(j+1)-1=j by omega]
 ·rw[zaa (by have:=zaf (j*z);omega)];have e:n+j*z=0+z*(j+2):=by rw[zaz,zai z j];omega
  rw[e,zdf,Nat.zero_mod,zcK _ _ hp,zdg,show 0+(j+2)-1=j+1 by omega,h,zak,zaJ,zai 2 z,zat,zai (2^j) 2]
def Nw(P r:Nat):∃n j,r=n+j*2^P∧n<2*2^P∧(2^P<=n∨j=0):=by
 have hp:=zag P;generalize 2^P=z at *;by_cases h:r<z
 ·exact⟨r,0,by simp,by omega,.inr rfl⟩
 ·refine⟨z+r%z,r/z-1,?_,?_,.inl (by omega)⟩
  ·have J:=zaN r z;have U:1<=r/z:=(zbM hp).2 (by omega);obtain⟨k,ab⟩:∃k,r/z=k+1:=⟨_,(Nat.sub_add_cancel U).symm⟩;rw[ab,zaz]at J;rw[ab,Nat.add_sub_cancel,zai k];omega
  ·have:=zae r hp;omega
def X9(P r:Nat):g4 P r<g4 P (r+1):=by
 obtain⟨n,j,rfl,J,U⟩:=Nw P r;rw[m4 (by omega) U,show n+j*2^P+1=(n+1)+j*2^P by omega,m4 (by omega) (by omega)];exact zcv (by omega) (zag _)
def yh{r s:Nat}(h:r<s):g4 P r<g4 P s:=by
 induction s with
 |zero=>omega
 |succ s a8=>
  rcases(show r<s∨r=s by omega)with h|h
  ·exact zcO (a8 h) (X9 P s)
  ·subst h;exact X9 P r
def Av{r s:Nat}(h:r<=s):g4 P r<=g4 P s:=by
 rcases(show r<s∨r=s by omega)with h|h
 ·exact zbf (yh h)
 ·subst h;exact b5 _
def DR(P:Nat):g4 P 0=0:=zab (zag P)
def aW(p:Int):Nat:=(p-1).toNat
def cF(e p:Int):Nat:=(ch e+p-2).toNat
def In(e p:Int):Nat:=(2*ch e+1).toNat*2^aW p
def kY(P:Nat)(r:Int):Int:=r.sign*(g4 P r.natAbs:Nat)
def cv(e p r:Int):Rat:=mkRat (kY (aW p) r) (2^cF e p)
def B7(h:2<=e):ch e+1=((2^(e-1).toNat:Nat):Int):=by unfold ch;simp
def MZ(h:b0 e p):2^(e+p-1).toNat=In e p+2^aW p:=by
 obtain⟨J,U,af,ax,a0⟩:=h;have hb:=B7 J;have aw:(2*ch e+1).toNat+1=2^e.toNat:=by
  rw[show e.toNat=(e-1).toNat+1 by omega,zak];have aJ:=zag (e-1).toNat;generalize 2^(e-1).toNat=z at *;omega
 unfold In;rw[<-zbZ,Nat.succ_eq_add_one,aw,<-zal];congr 1;unfold aW;omega
def nL(h:b0 e p):3*2^aW p<=In e p:=by
 have:=ia h.1 h.2.1;exact fq _ (by omega)
def lk(h:0<=r):kY P r=(g4 P r.natAbs:Nat):=by
 unfold kY;rcases(show r=0∨0<r by omega)with h|h
 ·subst h;rw[show(0:Int).natAbs=0 from rfl,DR];rfl
 ·rw[zby h,zaZ]
def rK(h:r<=0):kY P r= -((g4 P r.natAbs:Nat):Int):=by
 unfold kY;rcases(show r=0∨r<0 by omega)with h|h
 ·subst h;rw[show(0:Int).natAbs=0 from rfl,DR];rfl
 ·rw[zbx h];omega
def Pg(h:r<s):kY P r<kY P s:=by
 rcases(show 0<=r∨r<0 by omega)with J|J
 ·rw[lk J,lk (by omega)];have:=yh (P:=P) (show r.natAbs<s.natAbs by omega);omega
 ·rw[rK (r:=r) (by omega)];have h0:=yh (P:=P) (show 0<r.natAbs by omega);rcases(show 0<=s∨s<0 by omega)with U|U
  ·rw[lk U];omega
  ·rw[rK (by omega)];have:=yh (P:=P) (show s.natAbs<r.natAbs by omega);omega
def aqB:kY P r<=kY P s↔r<=s:=by
 constructor
 ·intro h;exact zcl.1 fun aB=>by have:=Pg (P:=P) aB;omega
 ·intro h;rcases(show r<s∨r=s by omega)with h|h
  ·exact zcP (Pg h)
  ·subst h;exact zdp _
def yj(n:Int)(h:d≠0):(mkRat n d).num*(d:Int)=n*((mkRat n d).den:Int):=(zcw (mkRat n d).den_nz h).1 (zcL _)
def DW{a b c:Int}(h:0<c):a*c<=b*c↔a<=b:=⟨fun aB=>Int.le_of_mul_le_mul_right aB h,fun aB=>Int.mul_le_mul_of_nonneg_right aB (zcP h)⟩
def XJ(h:d≠0):x<=mkRat n d↔x.num*(d:Int)<=n*(x.den:Int):=by
 rw[Rat.le_iff];have c:=yj n h;have A5:=(mkRat n d).den_nz;generalize mkRat n d=y at *;rw[<-DW (show(0:Int)<d by omega),show x.num*(y.den:Int)*(d:Int)=x.num*(d:Int)*(y.den:Int) by ac_rfl,show y.num*(x.den:Int)*(d:Int)=y.num*(d:Int)*(x.den:Int) by ac_rfl,c,show n*(y.den:Int)*(x.den:Int)=n*(x.den:Int)*(y.den:Int) by ac_rfl];exact DW (by omega)
def mk_le(h:d≠0):mkRat n d<=x↔n*(x.den:Int)<=x.num*(d:Int):=by
 rw[Rat.le_iff];have c:=yj n h;have A5:=(mkRat n d).den_nz;generalize mkRat n d=y at *;rw[<-DW (show(0:Int)<d by omega),show y.num*(x.den:Int)*(d:Int)=y.num*(d:Int)*(x.den:Int) by ac_rfl,show x.num*(y.den:Int)*(d:Int)=x.num*(d:Int)*(y.den:Int) by ac_rfl,c,show n*(y.den:Int)*(x.den:Int)=n*(x.den:Int)*(y.den:Int) by ac_rfl];exact DW (by omega)
def Yi{m:Int}(h:d≠0):mkRat n d<=mkRat m d↔n<=m:=by
 rw[XJ h];have c:=yj n h;have A5:=(mkRat n d).den_nz;rw[c];exact DW (by omega)
def r4(e p:Int):(2:Nat)^cF e p≠0:=by have:=zag (cF e p);omega
def PO:cv e p r<=cv e p s↔r<=s:=(Yi (r4 e p)).trans aqB
def E3:cv e p r<cv e p s↔r<s:=by
 rw[<-Rat.not_le,PO];omega
def wR(e p:Int):cv e p 0=0:=by
 unfold cv;rw[lk (by decide),show(0:Int).natAbs=0 from rfl,DR];exact zcy _
def uV(e p r:Int):cv e p (-r)= -cv e p r:=by
 unfold cv kY;rw[zbp,Int.sign_neg,zaT,zeM]
def GA{p q u v:Nat}{k:Int}(h:(u:Int)-v=k):mc p q k↔q*2^u<=p*2^v:=by
 unfold mc;rcases(show 0<=k∨k<0 by omega)with h0|h0
 ·rw[show u=k.toNat+v by omega,show(-k).toNat=0 by omega,zal,<-zat,zbi,zaE];exact⟨fun h=>fq _ h,fun h=>zcm h (zag v)⟩
 ·rw[show v=(-k).toNat+u by omega,show k.toNat=0 by omega,zal,<-zat,zbi,zaE];exact⟨fun h=>fq _ h,fun h=>zcm h (zag u)⟩
def ev(e:Int)(x:Rat):Nat:=(max (gf x.num.natAbs x.den) (1-ch e)+ch e-1).toNat
def M6(e:Int)(x:Rat):(ev e x:Int)=max (gf x.num.natAbs x.den) (1-ch e)+ch e-1:=by unfold ev;omega
def fe(e p:Int)(x:Rat):Nat:=x.num.natAbs*2^cF e p/(x.den*2^ev e x)
def kz(e p:Int)(x:Rat):Prop:=x.den*2^ev e x∣x.num.natAbs*2^cF e p
instance(e p:Int)(x:Rat):Decidable (kz e p x):=by unfold kz;infer_instance
def ou(e p:Int)(x:Rat):Nat:=if kz e p x then fe e p x else fe e p x+1
def l0(e p:Int)(x:Rat):Nat:=min (fe e p x+ev e x*2^aW p) (In e p-1)
def m8(e p:Int)(x:Rat):Nat:=min (ou e p x+ev e x*2^aW p) (In e p)
def pX(h:b0 e p):(cF e p:Int)=ch e+p-2:=by
 have:=ia h.1 h.2.1;have:=h.2.2.1;unfold cF;omega
def qt(h:b0 e p):(aW p:Int)=p-1:=by
 have:=h.2.2.1;unfold aW;omega
def Cu(e:Int)(x:Rat):0<x.den*2^ev e x:=zbe (zaV x.den_nz) (zag _)
def ym(h:b0 e p)(aa:x.num≠0):fe e p x<2*2^aW p∧(2^aW p<=fe e p x∨ev e x=0):=by
 have iM:x.num.natAbs≠0:=by omega
 have pF:=(DO iM x.den_nz (gf x.num.natAbs x.den)).1 (zdp _);have ac5:∀k,gf x.num.natAbs x.den<k->¬mc x.num.natAbs x.den k:=fun k ab h=>by
  have:=(DO iM x.den_nz k).2 h;omega
 have d1:=pX h;have gU:=qt h;have Xu:=M6 e x;have hp:=Cu e x;unfold fe;constructor
 ·rw[zbd hp];have:=mt (GA (p:=x.num.natAbs) (q:=x.den) (u:=ev e x+aW p+1) (v:=cF e p) (k:=max (gf x.num.natAbs x.den) (1-ch e)+1) (by omega)).2 (ac5 _ (by omega));rw[Nat.not_le,zak,zal]at this;refine Nat.lt_of_lt_of_eq this ?_
  ac_rfl
 ·by_cases hj:ev e x=0
  ·exact .inr hj
  ·left;rw[zbM hp];have:=(GA (p:=x.num.natAbs) (q:=x.den) (u:=ev e x+aW p) (v:=cF e p) (k:=gf x.num.natAbs x.den) (by omega)).1 pF;rw[zal]at this;refine zaj (zcZ ?_) this
   ac_rfl
def anW(h:b0 e p)(aa:x.num≠0):ou e p x<=2*2^aW p∧(2^aW p<=ou e p x∨ev e x=0):=by
 have:=ym h aa;unfold ou;split<;>omega
def HY(e p:Int)(x:Rat):fe e p x*2^ev e x*x.den<=x.num.natAbs*2^cF e p∧x.num.natAbs*2^cF e p<(fe e p x+1)*2^ev e x*x.den∧(kz e p x->fe e p x*2^ev e x*x.den=x.num.natAbs*2^cF e p)∧(¬kz e p x->fe e p x*2^ev e x*x.den<x.num.natAbs*2^cF e p):=by
 have hp:=Cu e x;have aw:∀n:Nat,n*2^ev e x*x.den=n*(x.den*2^ev e x):=fun n=>by ac_rfl
 rw[aw,aw];unfold fe kz;generalize x.den*2^ev e x=q at *;generalize x.num.natAbs*2^cF e p=T;have J:=zaN T q;have U:=zae T hp;rw[zai q]at J;have af:=Nat.dvd_iff_mod_eq_zero (n:=q) (m:=T);refine⟨by omega,by rw[zbZ];omega,fun h=> ?_,fun h=> ?_⟩
 ·have:=Nat.mod_eq_zero_of_dvd h;omega
 ·have:T%q≠0:=fun aB=>h (Nat.dvd_of_mod_eq_zero aB);omega
def aaO(h:b0 e p)(aa:x.num≠0){s:Nat}(ai:s<In e p):s<=l0 e p x↔g4 (aW p) s*x.den<=x.num.natAbs*2^cF e p:=by
 obtain⟨cD,db⟩:=ym h aa;obtain⟨f1,f2,_⟩:=HY e p x;have fc:=m4 (P:=aW p) (n:=fe e p x) (j:=ev e x) (by omega) db;have hQ:=m4 (P:=aW p) (n:=fe e p x+1) (j:=ev e x) (by omega) (by omega);have J:s<=l0 e p x↔s<=fe e p x+ev e x*2^aW p:=by unfold l0;omega
 rw[J];constructor
 ·intro hl;have:=Av (P:=aW p) hl;rw[fc]at this;exact zaj (fq _ this) f1
 ·intro hl;refine zcx fun cn=> ?_;have:=Av (P:=aW p) (show fe e p x+1+ev e x*2^aW p<=s by omega);rw[hQ]at this;have:=fq x.den this;omega
def aaP(h:b0 e p)(aa:x.num≠0){s:Nat}(ai:s<In e p):m8 e p x<=s↔x.num.natAbs*2^cF e p<=g4 (aW p) s*x.den:=by
 obtain⟨cD,db⟩:=ym h aa;obtain⟨f1,f2,f3,f4⟩:=HY e p x;have fc:=m4 (P:=aW p) (n:=fe e p x) (j:=ev e x) (by omega) db;have hQ:=m4 (P:=aW p) (n:=fe e p x+1) (j:=ev e x) (by omega) (by omega);have J:m8 e p x<=s↔ou e p x+ev e x*2^aW p<=s:=by unfold m8;omega
 rw[J];unfold ou;by_cases hn:kz e p x
 ·rw[zab hn];have f3:=f3 hn;constructor
  ·intro hl;have:=Av (P:=aW p) hl;rw[fc]at this;rw[<-f3];exact fq _ this
  ·intro hl;refine zcx fun cn=> ?_;have:=yh (P:=aW p) cn;rw[fc]at this;have:=zcv this (zaV x.den_nz);omega
 ·rw[zaa hn];have f4:=f4 hn;constructor
  ·intro hl;have:=Av (P:=aW p) hl;rw[hQ]at this;exact zaj (zbf f2) (fq _ this)
  ·intro hl;refine zcx fun cn=> ?_;have:=Av (P:=aW p) (show s<=fe e p x+ev e x*2^aW p by omega);rw[fc]at this;have:=fq x.den this;omega
def cO(e p:Int)(up:Bool)(x:Rat):Int:=
 if x.num=0 then 0 else if x.num<0 then -((if up then l0 e p x else m8 e p x:Nat):Int)else((if up then m8 e p x else l0 e p x:Nat):Int)
def HF(e:Int)(x:Rat):ev e (-x)=ev e x:=by unfold ev;rw[zbN,zci,zbp]
def Yp(e p:Int)(x:Rat):fe e p (-x)=fe e p x:=by unfold fe;rw[HF,zbN,zci,zbp]
def anY(e p:Int)(x:Rat):kz e p (-x)↔kz e p x:=by unfold kz;rw[HF,zbN,zci,zbp]
def anX(e p:Int)(x:Rat):ou e p (-x)=ou e p x:=by unfold ou;rw[Yp];simp only[anY]
def aqm(e p:Int)(x:Rat):l0 e p (-x)=l0 e p x:=by unfold l0;rw[Yp,HF]
def aqn(e p:Int)(x:Rat):m8 e p (-x)=m8 e p x:=by unfold m8;rw[anX,HF]
def Rc(e p:Int)(up:Bool)(x:Rat):cO e p up (-x)= -cO e p (!up) x:=by
 unfold cO;rw[aqm,aqn,zbN];rcases(show x.num=0∨x.num<0∨0<x.num by omega)with h|h|h
 ·rw[zab (show -x.num=0 by omega),zab h];rfl
 ·rw[zaa (show¬-x.num=0 by omega),zaa (show¬-x.num<0 by omega),zaa (show¬x.num=0 by omega),zab h,zdS];cases up<;>rfl
 ·rw[zaa (show¬-x.num=0 by omega),zab (show -x.num<0 by omega),zaa (show¬x.num=0 by omega),zaa (show¬x.num<0 by omega)];cases up<;>rfl
def xa(h:b0 e p)(hr:r.natAbs<In e p):r<=cO e p false x↔cv e p r<=x:=by
 unfold cv;rw[mk_le (r4 e p)];have uz:(0:Int)<x.den:=by have:=x.den_nz;omega
 have gV:(0:Int)<((2^cF e p:Nat):Int):=Int.natCast_pos.2 (zag _);unfold cO;rcases(show x.num=0∨x.num<0∨0<x.num by omega)with h0|h0|h0
 ·rw[zab h0,h0,Int.zero_mul];rcases(show 0<r∨r<=0 by omega)with J|J
  ·have:=Int.mul_pos (show 0<kY (aW p) r by have:=Pg (P:=aW p) J;rw[lk (by decide:(0:Int)<=0),show(0:Int).natAbs=0 from rfl,DR]at this;omega) uz;omega
  ·have:=zbP (show 0<= -kY (aW p) r by rw[rK J];omega) (zcP uz);rw[zaT]at this;omega
 ·rw[zaa (by omega),zab h0,zaa (by decide)];have aa:x.num≠0:=by omega
  have e2:x.num*((2^cF e p:Nat):Int)= -((x.num.natAbs*2^cF e p:Nat):Int):=by
   rw[zam,<-zaT];congr 1;omega
  rw[e2];have aug:0<x.num.natAbs*2^cF e p:=zbe (by omega) (by have:=r4 e p;omega);rcases(show 0<=r∨r<0 by omega)with J|J
  ·rw[lk J];have:=aaP h aa (s:=0) (by omega);rw[DR,zas]at this;have af:=zbP (show(0:Int)<=((g4 (aW p) r.natAbs:Nat):Int) by omega) (zcP uz);omega
  ·rw[rK (by omega),zaT];have:=aaP h aa hr;have bW:((g4 (aW p) r.natAbs:Nat):Int)*(x.den:Int)=((g4 (aW p) r.natAbs*x.den:Nat):Int):=(zam _ _).symm;rw[bW];omega
 ·rw[zaa (by omega),zaa (by omega),zaa (by decide)];have aa:x.num≠0:=by omega
  have e2:x.num*((2^cF e p:Nat):Int)=((x.num.natAbs*2^cF e p:Nat):Int):=by
   rw[zam];congr 1;omega
  rw[e2];rcases(show 0<=r∨r<0 by omega)with J|J
  ·rw[lk J];have:=aaO h aa hr;have bW:((g4 (aW p) r.natAbs:Nat):Int)*(x.den:Int)=((g4 (aW p) r.natAbs*x.den:Nat):Int):=(zam _ _).symm;rw[bW];omega
  ·rw[rK (by omega),zaT];have af:=zbP (show(0:Int)<=((g4 (aW p) r.natAbs:Nat):Int) by omega) (zcP uz);omega
def Rd(h:b0 e p)(hr:r.natAbs<In e p):cO e p true x<=r↔x<=cv e p r:=by
 have:=xa (x:= -x) h (r:= -r) (by omega);rw[Rc,uV,Rat.neg_le_neg_iff]at this;rw[<-this];show cO e p true x<=r↔-r<= -cO e p true x;omega
def oT(h:b0 e p): -(In e p:Int)<=cO e p false x∧cO e p false x<In e p∧-(In e p:Int)<cO e p true x∧cO e p true x<=In e p:=by
 have J:=nL h;have U:=zag (aW p);have af:l0 e p x<=In e p-1:=by unfold l0;omega
 have ax:m8 e p x<=In e p:=by unfold m8;omega
 unfold cO;split
 ·omega
 split<;>simp<;>omega
def aec(h:b0 e p)(hr:r.natAbs<In e p)(up:Bool):cO e p up (cv e p r)=r:=by
 obtain⟨aM,aN,bf,cb⟩:=oT (x:=cv e p r) h;have J:=nL h;have U:=zag (aW p);cases up with
 |false=>
  have a:=(xa (x:=cv e p r) h hr).2 Rat.le_refl;refine Int.le_antisymm (zcl.1 fun hl=> ?_) a;have:=(xa (x:=cv e p r) h (r:=cO e p false (cv e p r)) (by omega)).1 (zdp _);have:=PO.1 this;omega
 |true=>
  have a:=(Rd (x:=cv e p r) h hr).2 Rat.le_refl;refine Int.le_antisymm a (zcl.1 fun hl=> ?_);have:=(Rd (x:=cv e p r) h (r:=cO e p true (cv e p r)) (by omega)).1 (zdp _);have:=PO.1 this;omega
def JJ(h:b0 e p)(x:Rat):jU e p x=(ev e x:Int)-cF e p:=by
 have:=M6 e x;have:=pX h;unfold jU;omega
def m9{k:Int}{u v:Nat}(h:(u:Int)-v=k):b9 x k=mkRat (x.num*((2^u:Nat):Int)) (x.den*2^v):=by
 have aI:x.den*2^v≠0:=zaO x.den_nz (by have:=zag v;omega);unfold b9;split
 ·rw[zcw (zaO x.den_nz (by have:=zag (-k).toNat;omega)) aI,show v=(-k).toNat+u by omega];simp only[zal,zam]
  ac_rfl
 ·rw[zcw x.den_nz aI,show u=k.toNat+v by omega];have e:((2^k.toNat:Nat):Int)=2^k.toNat:=by simp
  rw[<-e];simp only[zal,zam]
  ac_rfl
def Yh(h:d≠0):(mkRat n d).den=1↔d∣n.natAbs:=by
 rw[(sz n d h).2];have aO:0<n.natAbs.gcd d:=zeW _ (by omega);constructor
 ·intro J;obtain⟨c,hc⟩:=Nat.gcd_dvd_right n.natAbs d;have U:=zdl n.natAbs d;generalize n.natAbs.gcd d=g at *;subst hc;rw[zeC _ aO]at J;subst J;rw[zaE];exact U
 ·intro J;rw[Nat.gcd_eq_right J,Nat.div_self (by omega)]
def Xr(h:b0 e p)(x:Rat):(b9 x (-jU e p x)).den=1↔kz e p x:=by
 rw[m9 (u:=cF e p) (v:=ev e x) (by rw[JJ h];omega),Yh (by have:=Cu e x;omega),zbq,zaq];exact Iff.rfl
def anR(h:b0 e p):g4 (aW p) (In e p-1)=(2*2^aW p-1)*2^(2*ch e-1).toNat:=by
 have hb:=ia h.1 h.2.1;have hp:=zag (aW p);rw[<-m4 (P:=aW p) (n:=2*2^aW p-1) (j:=(2*ch e-1).toNat) (by omega) (by omega)];congr 1;unfold In;rw[show(2*ch e+1).toNat=(2*ch e-1).toNat+2 by omega,zan];omega
def CR(h:b0 e p):ib e p=cv e p ((In e p:Int)-1):=by
 obtain⟨J,U,af,ax,a0⟩:=id h;have hb:=ia J U;have hp:=zag (aW p);have hi:=nL h;have aq:=pX h;have k7:=qt h;have aw:b9 (mkRat 1 1) p-mkRat 1 1=mkRat ((2*2^aW p-1:Nat):Int) 1:=by
  rw[m9 (u:=p.toNat) (v:=0) (by omega),show p.toNat=aW p+1 by omega,zak];generalize 2^aW p=z at *;show mkRat (1*((z*2:Nat):Int)) (1*1)-mkRat 1 1=_;rw[zcM,zeM,Rat.mkRat_add_mkRat _ _ (by decide) (by decide)];congr 1;omega
 unfold ib;rw[aw];have e2:∀n:Nat,(mkRat (n:Int) 1).num=n∧(mkRat (n:Int) 1).den=1:=fun n=>by
  obtain⟨a,b⟩:=sz (n:Int) 1 (by decide);rw[a,b];simp
 obtain⟨a,b⟩:=e2 (2*2^aW p-1);rw[m9 (u:=(2*ch e-1).toNat) (v:=cF e p) (by omega),a,b];unfold cv;rw[lk (by omega),show((In e p:Int)-1).natAbs=In e p-1 by omega,anR h,zam,zaw]
def Qj(h:b0 e p)(x:Rat):¬ib e p<fD x↔x.num.natAbs*2^cF e p<=g4 (aW p) (In e p-1)*x.den:=by
 have hi:=nL h;have hp:=zag (aW p);rw[zbO,CR h];unfold cv;rw[XJ (r4 e p),(mN x).1,(mN x).2,lk (by omega),show((In e p:Int)-1).natAbs=In e p-1 by omega,<-zam,<-zam];omega
def ath{r:Nat}(h:g4 (aW p) r*x.den=x.num.natAbs*2^cF e p):x=cv e p (if x.num<0 then -(r:Int)else r):=by
 unfold cv
 conv=>lhs;rw[<-zcL x]
 rw[zcw x.den_nz (r4 e p)];have aB:((g4 (aW p) r*x.den:Nat):Int)=((x.num.natAbs*2^cF e p:Nat):Int):=by rw[h]
 rw[zam,zam]at aB;split
 ·rw[rK (by omega),zbp,zaq,zaT,aB,<-zaT];congr 1;omega
 ·rw[lk (by omega),zaq,aB];congr 1;omega
def ako(ae:b0 e p):hU e p x↔∃r:Int,r.natAbs<In e p∧x=cv e p r:=by
 have hi:=nL ae;have hp:=zag (aW p);constructor
 ·rintro⟨_,h0|⟨J,U⟩⟩
  ·refine⟨0,by omega,?_⟩;rw[wR];have:=zcL x;rw[h0,zcy]at this;exact this.symm
  ·by_cases h0:x.num=0
   ·refine⟨0,by omega,?_⟩;rw[wR];have:=zcL x;rw[h0,zcy]at this;exact this.symm
   rw[Xr ae]at J;rw[Qj ae]at U;obtain⟨cD,db⟩:=ym ae h0;obtain⟨f1,f2,f3,f4⟩:=HY e p x;have f3:=f3 J;have fc:=m4 (P:=aW p) (n:=fe e p x) (j:=ev e x) (by omega) db;rw[<-fc]at f3;refine⟨_,?_,ath f3⟩;rw[<-f3]at U;have af:=zcm U (zaV x.den_nz);have ax:fe e p x+ev e x*2^aW p<=In e p-1:=zcx fun h=>by have:=yh (P:=aW p) h;omega
   split<;>omega
 ·rintro⟨r,hr,rfl⟩;refine⟨ae,?_⟩;by_cases h0:(cv e p r).num=0
  ·exact .inl h0
  right;obtain⟨cD,db⟩:=ym ae h0;obtain⟨f1,f2,f3,f4⟩:=HY e p (cv e p r);have fc:=m4 (P:=aW p) (n:=fe e p (cv e p r)) (j:=ev e (cv e p r)) (by omega) db;have c:=yj (kY (aW p) r) (r4 e p);have fY:(cv e p r).num.natAbs*2^cF e p=g4 (aW p) r.natAbs*(cv e p r).den:=by
   have:=congrArg Int.natAbs c;rw[zbq,zbq,zaq,zaq]at this;have bW:(kY (aW p) r).natAbs=g4 (aW p) r.natAbs:=by
    rcases(show 0<=r∨r<=0 by omega)with h|h
    ·rw[lk h];omega
    ·rw[rK h];omega
   rw[bW]at this;exact this
  have aM:=(aaO ae h0 hr).2 (by rw[fY];exact b5 _);have uz:=zaV (cv e p r).den_nz;rw[fY,<-fc]at f1;have aN:=zcm f1 uz;have bf:fe e p (cv e p r)+ev e (cv e p r)*2^aW p<=r.natAbs:=zcx fun h=>by have:=yh (P:=aW p) h;omega
  have cb:l0 e p (cv e p r)<=fe e p (cv e p r)+ev e (cv e p r)*2^aW p:=by unfold l0;omega
  have cQ:fe e p (cv e p r)+ev e (cv e p r)*2^aW p=r.natAbs:=by omega
  refine⟨(Xr ae _).2 (Decidable.byContradiction fun hn=> ?_),(Qj ae _).2 ?_⟩
  ·have:=f4 hn;rw[fY,<-fc,cQ]at this;omega
  ·rw[fY];exact fq _ (Av (by omega))
def Yl(h:b0 e p){r:Nat}(hr:r<=In e p):∃k:Nat,k<=2200∧g4 (aW p) r<2^k:=by
 obtain⟨J,U,af,ax,a0⟩:=id h;have hb:=ia J U;have k7:=qt h;obtain⟨n,j,rfl,a,b⟩:=Nw (aW p) r;rw[m4 (by omega) b];have hj:j<=2047:=by
  have ck:j*2^aW p<=(2*ch e+1).toNat*2^aW p:=by unfold In at hr;omega
  have:=zcm ck (zag _);omega
 have aw:2*2^aW p=2^(aW p+1):=by rw[zak,zai]
 rw[aw]at a;refine⟨aW p+1+j,by omega,?_⟩;rw[zal];exact Nat.mul_lt_mul_of_lt_of_le a (b5 _) (zag j)
def anp{n m k:Nat}(h:n<2^m)(ab:m<=32*k):dI k n:=rl (by rw[show(4294967296:Nat)=2^32 from rfl,<-zbD];exact zbG h (zax (by decide) ab))
def F6(h:b0 e p):cF e p<=1134:=by
 have:=pX h;have:=ia h.1 h.2.1;have:=h.2.2.2.1;omega
def an1(h:b0 e p)(hr:r.natAbs<=In e p):cK 70 (cv e p r):=by
 refine uq ?_ (cH (A4 _) (by have:=F6 h;omega)) (r4 e p);have:(kY (aW p) r).natAbs=g4 (aW p) r.natAbs:=by
  rcases(show 0<=r∨r<=0 by omega)with h|h
  ·rw[lk h];omega
  ·rw[rK h];omega
 rw[this];obtain⟨k,ab,hm⟩:=Yl h hr;exact anp hm (by omega)
abbrev bh:Nat:=18446744073709551616
variable{k j a b w:Nat}
def BJ(h:k<=64):bh=2^k*2^(64-k):=by rw[<-zal,show k+(64-k)=64 by omega]
def atH(w:Nat)(h:64<=k):w*2^k%(bh*bh)/bh=w%bh*2^(k-64)%bh∧w*2^k%(bh*bh)%bh=0:=by
 have e:w*2^k=bh*(w*2^(k-64)):=by
  rw[show k=(k-64)+64 by omega,zal,show k-64+64-64=k-64 by omega,show(2:Nat)^64=bh from rfl]
  ac_rfl
 rw[zez,zey,e,zeC _ (by decide),Nat.mul_mod_right,Nat.mod_mul_mod];exact⟨rfl,rfl⟩
def Is(h:b<2^k):2^k*a|||b=2^k*a+b:=(zev h a).symm
def Oa{H q:Nat}(ab:k<=64)(hq:q<2^k):H*2^k%bh|||q=(H*2^k+q)%bh:=by
 have aw:H*2^k%bh=2^k*(H%2^(64-k)):=by rw[BJ ab,zai H,Nat.mul_mod_mul_left]
 have U:H%2^(64-k)<2^(64-k):=zae _ (zag _);have af:2^k*(H%2^(64-k))+q<bh:=by
  rw[BJ ab];have:=lp (2^k) (show H%2^(64-k)+1<=2^(64-k)from U);rw[zaz]at this;omega
 rw[aw,Is hq,Nat.add_mod,aw,dH (a:=q) (by omega),dH af]
def atG(w:Nat)(h:k<64):w*2^k%(bh*bh)/bh=w/bh*2^k%bh|||w%bh/2^(64-k)∧w*2^k%(bh*bh)%bh=w%bh*2^k%bh:=by
 have jF:w%bh<bh:=zae _ (by decide);have hq:w%bh/2^(64-k)<2^k:=(zbd (zag _)).2 (by rw[<-BJ (by omega)];exact jF);have aw:w%bh*2^k/bh=w%bh/2^(64-k):=by
  have:(w%bh*2^k)/(2^(64-k)*2^k)=w%bh/2^(64-k):=Nat.mul_div_mul_right _ _ (zag k);rw[<-this,zai (2^(64-k)),<-BJ (by omega)]
 have e2:w*2^k/bh=w/bh*2^k+w%bh/2^(64-k):=by
  rw[<-aw]
  conv=>lhs;rw[<-zaN w bh]
  rw[zan,zat,zde (by decide)]
 rw[zez,zey,e2,Oa (by omega) hq,Nat.mod_mul_mod];exact⟨rfl,rfl⟩
def atJ(hw:w<bh*bh)(h:64<=k):w/2^k/bh=0∧w/2^k%bh=w/bh/2^(k-64):=by
 have e:w/2^k=w/bh/2^(k-64):=by
  rw[zaY,show k=64+(k-64) by omega,zal,show 64+(k-64)-64=k-64 by omega]
 have J:w/bh<bh:=(zbd (by decide)).2 hw;have U:w/bh/2^(k-64)<=w/bh:=zau _ _;rw[e];exact⟨zaX (by omega),dH (by omega)⟩
def atI(w:Nat)(h:k<64):w/2^k/bh=w/bh/2^k∧w/2^k%bh=w%bh/2^k|||w/bh*2^(64-k)%bh:=by
 have jF:w%bh<bh:=zae _ (by decide);have hq:w%bh/2^k<2^(64-k):=(zbd (zag _)).2 (by rw[zai,<-BJ (by omega)];exact jF);have e2:w/2^k=w/bh*2^(64-k)+w%bh/2^k:=by
  conv=>lhs;rw[<-zaN w bh]
  conv=>lhs;lhs;lhs;lhs;rw[BJ (k:=k) (by omega)]
  rw[zat,zde (zag _),zai (2^(64-k))]
 refine⟨by rw[zaY,zaY,zai],?_⟩;rw[zcI,Oa (by omega) hq,<-e2]
def atA(a b:Nat):(a|||b)/bh=a/bh|||b/bh∧(a|||b)%bh=a%bh|||b%bh:=by
 refine⟨?_,?_⟩
 ·have:=Nat.shiftRight_or_distrib (a:=a) (b:=b) (i:=64);simpa[Nat.shiftRight_eq_div_pow]using this
 ·have:=Nat.or_mod_two_pow (a:=a) (b:=b) (n:=64);simpa using this
def atv(w:Nat)(h:k<=128):w*2^(128-k)%(bh*bh)/2^(128-k)=w%2^k:=by
 have e:bh*bh=2^k*2^(128-k):=by rw[<-zal,show k+(128-k)=128 by omega];rfl
 rw[e,Nat.mul_mod_mul_right,zdi _ (zag _)]
def aA(n:Int):Rat:=mkRat n 1
def fu(n:Int):(aA n).num=n∧(aA n).den=1:=by
 obtain⟨a,b⟩:=sz n 1 (by decide);unfold aA;rw[a,b];simp
def ni(a b:Int):aA a+aA b=aA (a+b):=by
 unfold aA;rw[Rat.mkRat_add_mkRat _ _ (by decide) (by decide)];simp
def Fe(a:Int): -aA a=aA (-a):=by unfold aA;rw[zeM]
def y9(a b:Int):aA a-aA b=aA (a-b):=by rw[zcM,Fe,ni,Int.sub_eq_add_neg]
def oH(a:Int)(k:Nat):b9 (aA a) (k:Int)=aA (a*((2^k:Nat):Int)):=by
 rw[m9 (u:=k) (v:=0) (by omega),(fu a).1,(fu a).2];rfl
def j5(x:Rat):Int:=x.num/(x.den:Int)
def vu(h:d≠0):j5 (mkRat n d)=n/(d:Int):=by
 have c:=yj n h;have A5:=(mkRat n d).den_nz;unfold j5;generalize mkRat n d=y at *;have J:y.num/(y.den:Int)=y.num*(d:Int)/((y.den:Int)*d):=(zeX _ _ (by omega)).symm;have U:n/(d:Int)=n*(y.den:Int)/((d:Int)*y.den):=(zeX _ _ (by omega)).symm;rw[J,U,c,zdT (y.den:Int)]
def P2(a:Int)(k:Nat):j5 (b9 (aA a) (-(k:Int)))=a/((2^k:Nat):Int):=by
 rw[m9 (u:=0) (v:=k) (by omega),(fu a).1,(fu a).2,zaw,vu (by have:=zag k;omega)];simp
def lT(h:n.natAbs<4294967296^(k+1)):cK (k+1) (aA n):=by
 unfold cK;rw[(fu n).1,(fu n).2];exact⟨rl h,rl (Nat.one_lt_pow (by omega) (by decide))⟩
def aqO(h:d≠0){k:Int}{u v:Nat}(ab:(u:Int)-v=k):b9 (mkRat n d) k=mkRat (n*((2^u:Nat):Int)) (d*2^v):=by
 have U:=zag v;have c:=yj n h;have A5:=(mkRat n d).den_nz;rw[m9 ab];generalize mkRat n d=y at *;rw[zcw (zaO A5 (by omega)) (zaO h (by omega)),zam,zam];rw[show y.num*((2^u:Nat):Int)*((d:Int)*((2^v:Nat):Int))=(y.num*(d:Int))*(((2^u:Nat):Int)*((2^v:Nat):Int)) by ac_rfl,c]
 ac_rfl
def anP{c:Nat}(aq:d≠0)(hc:c≠0):mkRat (n*(c:Int)) (d*c)=mkRat n d:=by
 rw[zcw (zaO aq hc) aq,zam]
 ac_rfl
def ati(h:kY (aW p) r=n*((2^j:Nat):Int)):b9 (cv e p r) ((cF e p:Int)-j)=aA n:=by
 have J:=zag j;have U:=r4 e p;unfold cv;rw[aqO U (u:=cF e p) (v:=j) rfl,h,show n*((2^j:Nat):Int)*((2^cF e p:Nat):Int)=n*((2^cF e p*2^j:Nat):Int) by rw[zam];ac_rfl];have:=anP (n:=n) (d:=1) (c:=2^cF e p*2^j) (by decide) (zaO U (by omega));rw[zaw]at this;exact this
def atg:(cv e p r).num.natAbs*2^cF e p=g4 (aW p) r.natAbs*(cv e p r).den:=by
 have c:=yj (kY (aW p) r) (r4 e p);have:=congrArg Int.natAbs c;rw[zbq,zbq,zaq,zaq]at this;have bW:(kY (aW p) r).natAbs=g4 (aW p) r.natAbs:=by
  rcases(show 0<=r∨r<=0 by omega)with h|h
  ·rw[lk h];omega
  ·rw[rK h];omega
 rw[bW]at this;exact this
def anG(h:b0 e p){n:Nat}(J:2^aW p<=n)(U:n<2*2^aW p)(aa:x.num.natAbs*2^cF e p=n*2^j*x.den):gf x.num.natAbs x.den=(aW p:Int)+j-cF e p:=by
 have hp:=zag (aW p);have hj:=zag j;have uz:=zaV x.den_nz;have iM:x.num.natAbs≠0:=fun a7=>by
  rw[a7,zas]at aa;have:=zbe (zbe (show 0<n by omega) hj) uz;omega
 have fC:=(DO iM x.den_nz ((aW p:Int)+j-cF e p)).2 ((GA (u:=aW p+j) (v:=cF e p) (by omega)).2 (by
  rw[aa,zal,zai x.den];exact fq _ (fq _ J)))
 have gO:=mt (DO iM x.den_nz ((aW p:Int)+j-cF e p+1)).1 (fun aO=>by
  have:=(GA (u:=aW p+1+j) (v:=cF e p) (by omega)).1 aO;rw[aa,zal,zai x.den,zak]at this;have:=zcm (zcm this uz) hj;omega)
 omega
def aoe:b9 (mkRat 1 1) (1-ch e)=cv e p ((2^aW p:Nat):Int)∨¬b0 e p:=by
 by_cases h:b0 e p
 ·left;have aq:=pX h;have hp:=qt h;rw[m9 (u:=aW p) (v:=cF e p) (by omega)];unfold cv;have hm:=m4 (P:=aW p) (n:=2^aW p) (j:=0) (by omega) (.inr rfl);rw[zas,zaJ,zbi,zaE]at hm;rw[lk (by omega),zaq,hm];show mkRat (1*_) (1*_)=_;rw[zaZ,zaw]
 ·exact .inr h
def NO:x.num<0↔x<0:=by rw[<-Int.not_le,<-Rat.not_le,Rat.num_nonneg]
def acx(e p r:Int):fD (cv e p r)=cv e p (r.natAbs:Int):=by
 unfold fD;rcases(show 0<=r∨r<0 by omega)with h|h
 ·rw[zaa (by rw[NO,<-wR e p,E3];omega)];congr 1;omega
 ·rw[zab (by rw[NO,<-wR e p,E3];omega),<-uV];congr 1;omega
def QP(h:b0 e p)(r:Int):fD (cv e p r)<b9 (mkRat 1 1) (1-ch e)↔r.natAbs<2^aW p:=by
 rw[(aoe (e:=e) (p:=p)).resolve_right (fun f=>f h),acx,E3];omega
def JI(h:b0 e p)(x:Rat):hS e p x=if x.num=0 then -(cF e p:Int)else(ev e x:Int)-cF e p:=by
 split
 ·rename_i h0;have:=pX h;unfold hS;rw[zab (abs_zero h0 _)];omega
 ·rename_i h0;rw[<-Pv h0,<-JJ h];unfold EP jU;rw[zaa h0]
def Sm(h:d≠0):(-n)/(d:Int)= -(if(d:Int)∣n then n/(d:Int)else n/(d:Int)+1):=by
 have h0:(0:Int)<d:=by omega
 have J:=Int.mul_ediv_add_emod n d;have U:=Int.emod_nonneg n (show(d:Int)≠0 by omega);have af:=Int.emod_lt_of_pos n h0;have hu:∀q r:Int,r+(d:Int)*q= -n->0<=r->r<d->(-n)/(d:Int)=q:=fun q r a b c=>((Int.ediv_emod_unique h0).2 ⟨a,b,c⟩).1;split
 ·rename_i aq;have:=Int.emod_eq_zero_of_dvd aq;exact hu _ 0 (by rw[zcS];omega) (by omega) h0
 ·rename_i aq;have ax:n%(d:Int)≠0:=fun h=>aq (Int.dvd_of_emod_eq_zero h);refine hu _ ((d:Int)-n%d) ?_ (by omega) (by omega);rw[zcS,Int.mul_add];omega
def agU(h:b0 e p)(h0:x.num≠0):j5 (b9 x (-hS e p x))=if x.num<0 then -(ou e p x:Int)else(fe e p x:Int):=by
 have hq:=Cu e x;rw[JI h,zaa h0,m9 (u:=cF e p) (v:=ev e x) (by omega),vu (by omega)];have aw:((x.num.natAbs*2^cF e p:Nat):Int)/((x.den*2^ev e x:Nat):Int)=(fe e p x:Int):=by unfold fe;rw[zcz]
 split
 ·have e2:x.num*((2^cF e p:Nat):Int)= -((x.num.natAbs*2^cF e p:Nat):Int):=by
   rw[zam,<-zaT];congr 1;omega
  rw[e2,Sm (by omega),aw];have hi:((x.den*2^ev e x:Nat):Int)∣((x.num.natAbs*2^cF e p:Nat):Int)↔kz e p x:=zeY;unfold ou;by_cases aq:kz e p x
  ·rw[zab aq,zab (hi.2 aq)]
  ·rw[zaa aq,zaa (fun h=>aq (hi.1 h))];rfl
 ·have e2:x.num*((2^cF e p:Nat):Int)=((x.num.natAbs*2^cF e p:Nat):Int):=by
   rw[zam];congr 1;omega
  rw[e2,aw]
def P6{k:Int}{D:Nat}(h:k=(j:Int)-D):aA n*b9 (mkRat 1 1) k=mkRat (n*((2^j:Nat):Int)) (2^D):=by
 have U:=zag D;rw[m9 (u:=j) (v:=D) (by omega)];unfold aA;rw[Rat.mkRat_mul_mkRat];show mkRat (n*(1*_)) (1*(1*_))=_;rw[zaZ,zaw,zaw]
def anU(h:b0 e p)(x:Rat):aA (j5 (b9 x (-hS e p x)))*b9 (mkRat 1 1) (hS e p x)=cv e p (if x.num=0 then 0 else if x.num<0 then -((ou e p x+ev e x*2^aW p:Nat):Int)else((fe e p x+ev e x*2^aW p:Nat):Int)):=by
 by_cases h0:x.num=0
 ·rw[zab h0,wR];have:j5 (b9 x (-hS e p x))=0:=by
   rw[JI h,zab h0,m9 (u:=cF e p) (v:=0) (by omega),vu (by have:=x.den_nz;simp;omega),h0,Int.zero_mul,Int.zero_ediv]
  rw[this,P6 (j:=0) (D:=cF e p) (by rw[JI h,zab h0];omega),Int.zero_mul];exact zcy _
 rw[zaa h0,agU h h0,P6 (j:=ev e x) (D:=cF e p) (by rw[JI h,zaa h0])];obtain⟨cD,db⟩:=ym h h0;obtain⟨ee,fa⟩:=anW h h0;unfold cv;congr 1;split
 ·rw[rK (by omega),zbp,zaq,m4 ee fa,zam,zaT]
 ·rw[lk (by omega),zaq,m4 (by omega) db,zam]
def aea(h:b0 e p)(x:Rat):cO e p false x=if¬x<ib e p then(In e p:Int)-1 else if x< -ib e p then -((In e p:Int)-1)-1 else(if x.num=0 then 0 else if x.num<0 then -((ou e p x+ev e x*2^aW p:Nat):Int)else((fe e p x+ev e x*2^aW p:Nat):Int)):=by
 have hi:=nL h;have hp:=zag (aW p);obtain⟨aM,aN,_,_⟩:=oT (x:=x) h;have top:=xa (x:=x) h (r:=(In e p:Int)-1) (by omega);have bot:=xa (x:=x) h (r:= -((In e p:Int)-1)) (by omega);rw[CR h,<-uV];split
 ·rename_i J;have:=top.2 (zbO.1 J);omega
 rename_i J;have t1:¬(In e p:Int)-1<=cO e p false x:=fun aB=>J (fun U=>absurd U (zbO.2 (top.1 aB)));split
 ·rename_i U;have:¬-((In e p:Int)-1)<=cO e p false x:=fun aB=>absurd U (zbO.2 (bot.1 aB));omega
 rename_i U;have cD:=bot.2 (zbO.1 U);unfold cO at cD t1⊢;split
 ·rfl
 rename_i h0;rw[zaa h0]at cD t1;split
 ·rename_i hn;rw[zab hn]at cD t1;simp only[zaU,if_false]at cD t1⊢;unfold m8 at *;omega
 ·rename_i hn;rw[zaa hn]at cD t1;simp only[zaU,if_false]at cD t1⊢;unfold l0 at *;omega
def aaR:bc where
 L:=Rat×Rat
 args:=fun(x,y)=>[bN x,bN y]
 pre:=fun(x,y)=>cK 268435456 x∧cK 268435456 y
 res:=fun(x,y)=>bN (x*y)
def abf(n m:Bool)(a b:Nat):ca (n != m) (a*b)=ca n a*ca m b:=by cases n<;>cases m<;>simp[ca,zaT,zcS]
def aaS:a6 aS.ctx 61 aaR.spec:=by
 refine bq [(41,tk.spec),(40,AE.spec),(31,v8.spec)] Vm.1 ?_;intro⟨x,y⟩ ⟨(aa:cK _ x),(aF:cK _ y)⟩ H aH;refine I ?_;refine aZ sA (x.num.natAbs,y.num.natAbs) ⟨cH aa.1 (by decide),cH aF.1 (by decide)⟩ (I ?_);refine aZ np x trivial (I ?_);refine aZ np y trivial (I ?_);refine aZ sA (x.den,y.den) ⟨cH aa.2 (by decide),cH aF.2 (by decide)⟩ (I ?_);refine aZ ph (decide (x.num<0) != decide (y.num<0),x.num.natAbs*y.num.natAbs,x.den*y.den) ⟨cH (ld aa.1 aF.1) (by decide),cH (ld aa.2 aF.2) (by decide),zaO x.den_nz y.den_nz⟩ (I ?_);refine au rfl (.of (congrArg bN ?_));show mkRat (ca _ _) _=x*y;rw[abf,<-AN,<-AN,Rat.mul_def']
def aa0:bc where
 L:=Rat×Rat
 args:=fun(x,y)=>[bN x,bN y]
 pre:=fun(x,y)=>cK 268435456 x∧cK 268435456 y∧0<y.num
 res:=fun(x,y)=>.bu [bN (mkRat (x.num*(y.den:Int)) (x.den*y.num.natAbs)),.i .i64 0]
def aa1:a6 aS.ctx 62 aa0.spec:=by
 refine bq [(39,uP.spec),(41,tk.spec),(40,AE.spec),(31,v8.spec)] Vn.1 ?_;intro⟨x,y⟩ ⟨(aa:cK _ x),(aF:cK _ y),(h0:0<y.num)⟩ H aH;refine I ?_;refine aC sU y trivial (I ?_);refine cf (fun h=> ?_) (fun h=> ?_)
 ·have h:y.num=0:=zbF.1 h;omega
 refine I ?_;refine aZ np y trivial (I ?_);refine aZ sA (x.num.natAbs,y.den) ⟨cH aa.1 (by decide),cH aF.2 (by decide)⟩ (I ?_);refine aZ np x trivial (I ?_);refine aZ sA (x.den,y.num.natAbs) ⟨cH aa.2 (by decide),cH aF.1 (by decide)⟩ (I ?_);refine aZ ph (decide (x.num<0) != decide (y.num<0),x.num.natAbs*y.den,x.den*y.num.natAbs) ⟨cH (ld aa.1 aF.2) (by decide),cH (ld aa.2 aF.1) (by decide),zaO x.den_nz (by omega)⟩ (I ?_);refine au rfl (.of (congrArg (fun q=>ah.bu [bN q,.i .i64 0]) ?_));show mkRat (ca (decide (x.num<0) != decide (y.num<0)) _) _=_;rw[zac (show¬y.num<0 by omega),abf,<-AN];rfl
def Pf:bc where
 L:=Rat×Bool
 args:=fun(x,a)=>[bN x,.b a]
 pre:=fun(x,_)=>cK 268435456 x
 res:=fun(x,a)=>bN (aA (ca (decide (x.num<0)) (x.num.natAbs/x.den+(if a=true∧x.num.natAbs%x.den≠0 then 1 else 0))))
def aqy:a6 aS.ctx 125 Pf.spec:=by
 refine bq [(41,tk.spec),(82,F4.spec),(32,wg.spec),(88,Fu.spec),(31,v8.spec)] SE.1 ?_;intro⟨x,a⟩ (aa:cK _ x) H aH;have eW:dI 268435456 (x.num.natAbs/x.den):=sw aa.1 (zau _ _);have DK:dI 2 1:=nN (by decide);have aw:∀v:Nat,v=x.num.natAbs/x.den+(if a=true∧x.num.natAbs%x.den≠0 then 1 else 0)->bY (bN (mkRat (ca (decide (x.num<0)) v) 1)) (Pf.res (x,a)):=fun v h=>.of (by subst h;rfl);refine I ?_;refine aZ np x trivial (I ?_);refine aZ F5 (x.num.natAbs,x.den) ⟨cH aa.1 (by decide),cH aa.2 (by decide),x.den_nz⟩ ?_;refine ag 12 (.bu [c3 (x.num.natAbs/x.den),c3 (x.num.natAbs%x.den)]) rfl rfl ?_;generalize x.num.natAbs/x.den=q at *;generalize x.num.natAbs%x.den=r at *;cases a with
 |false=>
  refine I ?_;refine aZ ow (1:Nat) (by show 1<_;decide) (I ?_);refine aZ ph (decide (x.num<0),q,1) ⟨cH eW (by decide),cH DK (by decide),by show 1≠0;decide⟩ (I ?_);exact au rfl (aw q (by rw[zaa (fun h=>absurd h.1 (by decide))];rfl))
 |true=>
  refine I ?_;refine cf (fun h=> ?_) (fun h=> ?_)
  ·have h0:r≠0:=fun e=>by subst e;rw[ft]at h;simp at h
   refine I ?_;refine aC ow (1:Nat) (by show 1<_;decide) ?_;refine aC Kw (q,1) ⟨cH eW (by decide),cH DK (by decide)⟩ (I ?_);refine aZ ow (1:Nat) (by show 1<_;decide) (I ?_);refine aZ ph (decide (x.num<0),q+1,1) ⟨cH (Kx eW (cH DK (by decide))) (by decide),cH DK (by decide),by show 1≠0;decide⟩ (I ?_);exact au rfl (aw (q+1) (by rw[zab ⟨rfl,h0⟩]))
  ·have h0:r=0:=Decidable.byContradiction fun e=>h (by have:(aT 4294967296 r).length≠0:=fun cy=>e (rm.1 cy);omega);refine I ?_;refine aZ ow (1:Nat) (by show 1<_;decide) (I ?_);refine aZ ph (decide (x.num<0),q,1) ⟨cH eW (by decide),cH DK (by decide),by show 1≠0;decide⟩ (I ?_);exact au rfl (aw q (by rw[zaa (fun h=>h.2 h0)];rfl))
def Gp:bc where
 L:=Rat
 args:=fun x=>[bN x]
 pre:=fun x=>cK 268435456 x
 res:=fun x=>bN (aA (j5 x))
def LA(x:Rat):ca (decide (x.num<0)) (x.num.natAbs/x.den+(if decide (x.num<0)=true∧x.num.natAbs%x.den≠0 then 1 else 0))=j5 x:=by
 unfold j5 ca;by_cases h:x.num<0
 ·rw[zad h,zab rfl];have e:x.num= -(x.num.natAbs:Int):=by omega
  generalize x.num.natAbs=N at *;rw[e,Sm x.den_nz,<-zcz];have aq:(x.den:Int)∣(N:Int)↔x.den∣N:=zeY;by_cases hm:N%x.den=0
  ·rw[zaa (fun h=>h.2 hm),zab (aq.2 (Nat.dvd_of_mod_eq_zero hm))];rfl
  ·rw[zab ⟨rfl,hm⟩,zaa (fun h=>hm (Nat.mod_eq_zero_of_dvd (aq.1 h)))];rfl
 ·rw[zac h,zaa (by decide),zaa (fun h=>absurd h.1 (by decide)),zaJ,zcz];congr 1;omega
def Gq:a6 aS.ctx 63 Gp.spec:=by
 refine bq [(125,Pf.spec)] Vo.1 ?_;intro(x:Rat) (aa:cK _ x) H aH;refine I ?_;refine aC aqy (x,decide (x.num<0)) aa (I ?_);exact au rfl (.of (by show bN (aA _)=bN (aA _);rw[LA]))
def acU(n:Int):bN (aA n)= .agg [.b (decide (n<0)),c3 n.natAbs,.ih 1 Nat eS []]:=by
 unfold bN nm;rw[(fu n).1,(fu n).2];rfl
def HA:bc where
 L:=Int
 args:=fun n=>[bN (aA n)]
 pre:=fun n=> -9223372036854775808<=n∧n<9223372036854775808
 res:=fun n=>.bu [.i .i64 n,.i .i64 0]
def aev:0<hJ a b↔b<a:=by
 unfold hJ;split
 ·exact⟨fun h=>by omega,fun h=>by omega⟩
 ·split<;>omega
def HB:a6 aS.ctx 64 HA.spec:=by
 refine bq [(126,HD.spec),(32,wg.spec),(42,xd.spec)] Vp.1 ?_;intro(n:Int) ⟨(J:_<=n),(U:n<_)⟩ H aH;have hl:(aT 4294967296 n.natAbs).length<=2:=hL (by decide) (by omega);have bE:=fW (b:=4294967296) (by decide) n.natAbs;have aI:=fE (b:=4294967296) (by decide) n.natAbs;have loop:∀(own:ac bp),True:=fun _=>trivial;refine ag 0 (.agg [.b (decide (n<0)),c3 n.natAbs,.ih 1 Nat eS []]) rfl (acU n) (I ?_);refine aC M3 (aA n) trivial ?_ (he:=by exact⟨.of (acU n).symm,trivial⟩);refine ag 9 (.b true) rfl (b2 (zad (fu n).2)) (I ?_);have anl:dI 2 n.natAbs:=nN (by omega);refine fK (L:=Unit) (fun _=>True) (fun _=>⟨[.c 42 [.b (decide (n<0)),c3 n.natAbs,.ih 1 Nat eS []]],1,[(1,.p 0 0),(4,.i .u64 ((if n<0 then 9223372036854775808 else 9223372036854775807:Nat):Int))]⟩) ?_ ?_
 ·refine cf (fun h=> ?_) (fun h=> ?_)
  ·refine I ?_;exact ba [0] () trivial (dK ⟨rfl,by rw[zab h];rfl,trivial⟩ ⟨_,rfl,rfl⟩)
  ·refine I ?_;exact ba [0] () trivial (dK ⟨rfl,by rw[zaa h];rfl,trivial⟩ ⟨_,rfl,rfl⟩)
 intro _ _;have hm:(if n<0 then 9223372036854775808 else 9223372036854775807:Nat)<18446744073709551616∧n.natAbs<=(if n<0 then 9223372036854775808 else 9223372036854775807:Nat):=by split<;>omega
 generalize(if n<0 then 9223372036854775808 else 9223372036854775807:Nat)=m at *;obtain⟨Mo,Ha⟩:=hm;refine I ?_;refine aZ ow m Mo (I ?_);refine aZ Ci (n.natAbs,m) ⟨cH anl (by decide),cH (nN Mo) (by decide)⟩ (I ?_);refine cf (fun h=> ?_) (fun h=> ?_)
 ·have:=aev.1 h;omega
 refine I ?_;obtain⟨ds,ga⟩:∃ds,ds=aT 4294967296 n.natAbs:=⟨_,rfl⟩;rw[<-ga]at hl bE aI;refine m6 (L:=Unit) (fun _=>True) (fun _=>⟨[.c 42 [.b (decide (n<0)),cU ds,.ih 1 Nat eS []]],1,[(1,.p 0 0),(5,.i .u64 (n.natAbs:Nat))]⟩) ?_ ?_
 ·refine df (L:=Nat) (fun k=>k<=ds.length) (fun(k:Nat)=>⟨[.c 42 [.b (decide (n<0)),cU ds,.ih 1 Nat eS []]],1,[(1,.p 0 0),(5,.i .u64 (val 4294967296 (ds.take k):Nat)),(22,cU ds),(23,.i .i64 (ds.length:Nat)),(24,.i .i64 (k:Nat))]⟩) (fun k=>ds.length-k) [0] 0 (zaf _) (by show ds.length-0<bT+1;unfold bT;omega) (dK ⟨rfl,rfl,by rw[ga];rfl,by rw[ga];rfl,rfl,trivial⟩ ⟨_,rfl,by rw[ga];rfl⟩) ?_;intro(k:Nat) ab;refine an 25 ?_;by_cases a4:k<ds.length
  ·refine v1 25 (show(k:Int)<(ds.length:Nat) by omega) (I ?_);refine ep ds[k] (bV a4) ?_;have aq:ds[k]<4294967296:=bE _ (ea a4);have W6:=hF (b:=4294967296) a4;have x1:val 4294967296 (ds.take k)<4294967296^k:=by
    have:=jW (b:=4294967296) (ds:=ds.take k) (fun d aq=>bE d (zbL aq))
    rwa [zay,zaB (by omega)]at this
   have au4:val 4294967296 (ds.take (k+1))<=n.natAbs:=by
    rw[<-aI]
    conv=>rhs;rw[<-zbh (k+1) ds,k0]
    omega
   generalize ds[k]=d at *;generalize val 4294967296 (ds.take k)=V at *;have agk:(4294967296:Nat)^k=2^(32*k):=(zbD 2 32 k).symm;rw[agk]at x1 W6;refine an 31 ?_;refine ag 31 (.i .u64 (d:Nat)) rfl dY (an 33 ?_);refine ag 33 (.i .i64 ((32*k:Nat):Int)) rfl bo (an 35 ?_);have vJ:=Oa (H:=d) (q:=V) (k:=32*k) (by omega) x1;have G9:d*2^(32*k)+V<18446744073709551616:=by
    rw[zai d];omega
   rw[dH G9,zcI]at vJ;have a0:V<18446744073709551616:=by omega
   refine ag 35 (.i .u64 ((d*2^(32*k)+V:Nat):Int)) rfl (dY (congrArg Int.ofNat (by rw[zdM,dH a0];exact vJ))) (an 36 ?_);refine ag 36 (.i .i64 ((k+1:Nat):Int)) rfl bo (I ?_);exact ba [0] (k+1) ⟨by show ds.length-(k+1)<ds.length-k;omega,a4⟩ (dK ⟨rfl,congrArg (fun v:Nat=>some (ah.i .u64 (v:Int))) (by rw[W6,zai d];omega),rfl,rfl,rfl,trivial⟩ ⟨_,rfl,rfl⟩)
  ·refine v0 25 (show¬(k:Int)<(ds.length:Nat) by omega) (I ?_);exact ba [0] () trivial (dK ⟨rfl,congrArg (fun v:Nat=>some (ah.i .u64 (v:Int))) (by rw[jv (by omega),aI]),trivial⟩ ⟨_,rfl,rfl⟩)
 intro _ _;refine I ?_;refine fK (L:=Unit) (fun _=>True) (fun _=>⟨[],0,[(5,.i .u64 (IntKind.u64.wrap n))]⟩) ?_ ?_
 ·refine cf (fun h=> ?_) (fun h=> ?_)
  ·refine I ?_;exact ba [] () trivial (iC ⟨congrArg (fun v:Int=>some (ah.i .u64 (IntKind.u64.wrap v))) (by omega),trivial⟩)
  ·refine I ?_;exact ba [] () trivial (iC ⟨congrArg (fun v:Int=>some (ah.i .u64 v)) (by rw[J3];omega),trivial⟩)
 intro _ _;refine an 42 ?_;refine ag 42 (.i .i64 n) rfl (dY (by
  rw[J3,<-ki];show wU 18446744073709551616 9223372036854775808 _=_;rw[wV _ _ _ (by decide)];split<;>omega)) ?_
 refine I ?_;exact au rfl (.refl _)
def qE(w:Nat):ac ah:=[.i .u64 ((w/bh:Nat):Int),.i .u64 ((w%bh:Nat):Int)]
def cN(w:Nat):ah:=.agg (qE w)
def y4(J:w/bh=a)(U:w%bh=b):bY (.agg [.i .u64 (a:Int),.i .u64 (b:Int)]) (cN w):=.of (by unfold cN qE;rw[J,U])
def E8:bc where
 L:=Nat×Nat
 args:=fun(w,k)=>[cN w,.i .i64 (k:Nat)]
 pre:=fun(w,k)=>k<=128
 res:=fun(w,k)=>cN (w*2^k%(bh*bh))
def J4:a6 aS.ctx 327 E8.spec:=by
 refine bq [] UB.1 ?_;intro⟨w,k⟩ (ab:k<=128) H aH;refine I ?_;refine cf (fun h=> ?_) (fun h=> ?_)
 ·have h:64<=k:=by omega
  obtain⟨aw,e2⟩:=atH w h;refine an 10 ?_;refine ag 10 (.i .i64 ((k-64:Nat):Int)) rfl bo (I ?_);exact au rfl (y4 aw e2)
 ·have h:k<64:=by omega
  obtain⟨aw,e2⟩:=atG w h;have af:w/bh*2^k%bh<bh:=zae _ (by decide);have ax:w%bh/2^(64-k)<bh:=zaG (zau _ _) (zae _ (by decide));refine an 20 ?_;refine cm 20 (.i .i64 ((64-k:Nat):Int)) rfl rfl bo ?_;refine Le ?_;refine I ?_;exact au rfl (y4 (by rw[aw,dH (a:=_%18446744073709551616) af,dH (a:=_/_) ax]) e2)
def E9:bc where
 L:=Nat×Nat
 args:=fun(w,k)=>[cN w,.i .i64 (k:Nat)]
 pre:=fun(w,k)=>w<bh*bh∧k<=128
 res:=fun(w,k)=>cN (w/2^k)
def Fa:a6 aS.ctx 227 E9.spec:=by
 refine bq [] TC.1 ?_;intro⟨w,k⟩ ⟨(hw:w<_),(ab:k<=128)⟩ H aH;refine I ?_;refine cf (fun h=> ?_) (fun h=> ?_)
 ·have h:64<=k:=by omega
  obtain⟨aw,e2⟩:=atJ hw h;refine an 10 ?_;refine ag 10 (.i .i64 ((k-64:Nat):Int)) rfl bo ?_;refine aaC ?_;refine I ?_;exact au rfl (y4 aw e2)
 ·have h:k<64:=by omega
  obtain⟨aw,e2⟩:=atI w h;have af:w/bh*2^(64-k)%bh<bh:=zae _ (by decide);have ax:w%bh/2^k<bh:=zaG (zau _ _) (zae _ (by decide));refine I ?_;refine Le ?_;refine I ?_;refine Le ?_;refine an 24 ?_;refine cm 24 (.i .i64 ((64-k:Nat):Int)) rfl rfl bo ?_;refine I ?_;exact au rfl (y4 aw (by rw[e2,dH (a:=_/_) ax,dH (a:=_%18446744073709551616) af]))
def BK:bc where
 L:=Nat×Nat
 args:=fun(a,b)=>[cN a,cN b]
 pre:=fun(a,b)=>a<bh*bh∧b<bh*bh
 res:=fun(a,b)=>cN (a|||b)
def E7:a6 aS.ctx 325 BK.spec:=by
 refine bq [] Uz.1 ?_;intro⟨a,b⟩ ⟨(aY:a<_),(hb:b<_)⟩ H aH;obtain⟨aw,e2⟩:=atA a b;have q1:a/bh<bh:=(zbd (by decide)).2 aY;have gR:b/bh<bh:=(zbd (by decide)).2 hb;refine I ?_;exact au rfl (y4 (by rw[aw,dH q1,dH gR]) (by rw[e2,zdM,zdM]))
def PW:bc where
 L:=Nat×Nat
 args:=fun(w,k)=>[cN w,.i .i64 (k:Nat)]
 pre:=fun(w,k)=>k<=128
 res:=fun(w,k)=>cN (w%2^k)
def PX:a6 aS.ctx 324 PW.spec:=by
 refine bq [(327,E8.spec),(227,E9.spec)] Uy.1 ?_;intro⟨w,k⟩ (ab:k<=128) H aH;refine an 7 ?_;refine ag 7 (.i .i64 ((128-k:Nat):Int)) rfl bo ?_;refine aC J4 (w,128-k) (by show 128-k<=128;omega) (an 10 ?_);refine ag 10 (.i .i64 ((128-k:Nat):Int)) rfl bo ?_;refine aC Fa (w*2^(128-k)%(bh*bh),128-k) ⟨zae _ (by decide),by show 128-k<=128;omega⟩ (I ?_);exact au rfl (.of (by show cN _=cN _;rw[atv w ab]))
def anv{g:ci}:bY (.v (.func (.func g) #[] #[])) (.fn (.func g) [] []):=fun _ _ _ d=>⟨[],[],d,rfl,rfl⟩
def acF:bc where
 L:=Nat
 args:=fun n=>[.i .u64 (n:Nat)]
 pre:=fun n=>n<bh
 res:=fun n=>bN (aA n)
def acG:a6 aS.ctx 384 acF.spec:=by
 refine bq [(10,sr.spec),(177,r8.spec),(129,wE.spec)] UZ.1 ?_;intro(n:Nat) (hn:n<bh) H aH;have hn:n<18446744073709551616:=hn;have cD:cK 2 (aA ((n/4294967296:Nat):Int)):=lT (by rw[zaq];omega);have db:cK 2 (aA ((n%4294967296:Nat):Int)):=lT (by rw[zaq];omega);have hV:cK 2 (aA ((n/4294967296*4294967296:Nat):Int)):=lT (by rw[zaq];omega);refine an 5 ?_;refine ag 5 (.i .i64 ((n/4294967296:Nat):Int)) rfl (bo (n:=((n/4294967296:Nat):Int)) rfl (by omega) (by omega)) ?_;refine aC lM ((n/4294967296:Nat):Int) ⟨by show(-9223372036854775808:Int)<=((n/4294967296:Nat):Int);omega,by show((n/4294967296:Nat):Int)<_;omega⟩ ?_;refine aC p0 (aA ((n/4294967296:Nat):Int),32) ⟨dO cD (by decide),by decide,by decide⟩ ?_;refine ag 7 (bN (aA ((n/4294967296*4294967296:Nat):Int))) rfl (by show bN (b9 (aA _) ((32:Nat):Int))=_;rw[oH,<-zam]) (an 10 ?_);have hand:n%18446744073709551616&&&4294967295%18446744073709551616=n%4294967296:=by
  rw[dH hn];exact Nat.and_two_pow_sub_one_eq_mod n 32
 refine ag 10 (.i .i64 ((n%4294967296:Nat):Int)) rfl (by
  refine Eq.trans (congrArg (fun v:Nat=>ah.i .i64 (IntKind.i64.wrap (v:Int))) hand) ?_;exact bo rfl (by omega) (by omega)) ?_
 refine aC lM ((n%4294967296:Nat):Int) ⟨by show(-9223372036854775808:Int)<=((n%4294967296:Nat):Int);omega,by show((n%4294967296:Nat):Int)<_;omega⟩ ?_;refine aC wF (aA ((n/4294967296*4294967296:Nat):Int),aA ((n%4294967296:Nat):Int)) ⟨dO hV (by decide),dO db (by decide)⟩ (I ?_);exact au rfl (.of (congrArg bN (by rw[ni];congr 1;omega)))
def PS:bc where
 L:=Nat
 args:=fun w=>[cN w]
 pre:=fun w=>w<bh*bh
 res:=fun w=>bN (aA w)
def PT:a6 aS.ctx 323 PS.spec:=by
 refine bq [(384,acF.spec),(177,r8.spec),(129,wE.spec)] Ux.1 ?_;intro(w:Nat) (hw:w<_) H aH;have J:w/bh<bh:=(zbd (by decide)).2 hw;have U:w%bh<bh:=zae _ (by decide);have cD:cK 2 (aA ((w/bh:Nat):Int)):=lT (by rw[zaq];exact J);have db:cK 2 (aA ((w%bh:Nat):Int)):=lT (by rw[zaq];exact U);have mX:=zaN w bh;have W7:bh=18446744073709551616:=rfl;refine ag 0 (.agg [.i .u64 ((w/bh:Nat):Int),.i .u64 ((w%bh:Nat):Int)]) rfl rfl ?_;generalize w/bh=a at *;generalize w%bh=b at *;have hV:cK 4 (aA ((a*2^64:Nat):Int)):=lT (by rw[zaq];have:a<18446744073709551616:=J;omega);refine an 3 ?_;refine Bj 3 (.fn (.func 384) [] []) rfl anv ?_;refine I ?_;refine RH acG a J ?_;refine I ?_;refine aZ p0 (aA (a:Int),64) ⟨dO cD (by decide),by decide,by decide⟩ ?_;refine ag 8 (bN (aA ((a*2^64:Nat):Int))) rfl (by show bN (b9 (aA _) ((64:Nat):Int))=_;rw[oH,<-zam]) (I ?_);refine RH acG b U ?_;refine I ?_;refine aZ wF (aA ((a*2^64:Nat):Int),aA (b:Int)) ⟨dO hV (by decide),dO db (by decide)⟩ (I ?_);exact au rfl (.of (congrArg bN (by rw[ni,<-zbU];congr 2;show a*18446744073709551616+b=w;rw[<-mX,W7,zai])))
def Of:bc where
 L:=Nat
 args:=fun n=>[bN (aA n)]
 pre:=fun n=>n<bh*bh
 res:=fun n=>cN n
def ao0{n:Nat}(ab:k<4):(n%2^(32*k)*2^(128-32*k))/2^32|||(n/2^(32*k)%2^32)*2^32*bh=n%2^(32*(k+1))*2^(128-32*(k+1)):=by
 have aw:2^(128-32*k)=2^(96-32*k)*2^32:=by rw[<-zal];congr 1;omega
 have e2:128-32*(k+1)=96-32*k:=by omega
 have bW:n%2^(32*(k+1))=n%2^(32*k)+2^(32*k)*(n/2^(32*k)%2^32):=by
  rw[show 32*(k+1)=32*k+32 by omega,zal];exact Nat.mod_mul
 have e6:(2:Nat)^96=2^(32*k)*2^(96-32*k):=by rw[<-zal];congr 1;omega
 have J:n%2^(32*k)<2^(32*k):=zae _ (zag _);generalize n/2^(32*k)%2^32=d at *;generalize n%2^(32*k)=r at *;have U:r*2^(96-32*k)<2^96:=by rw[e6];exact zcv J (zag _)
 rw[aw,<-zat,zdi _ (by decide),zcI,show d*2^32*bh=2^96*d by rw[zat,zai];rfl,Is U,e2,bW,zan];rw[e6];generalize 2^(32*k)=A;generalize 2^(96-32*k)=B;rw[show A*B*d=A*d*B by ac_rfl];omega
def Zo:a6 aS.ctx 328 Of.spec:=by
 refine bq [(177,r8.spec),(63,Gp.spec),(116,Bn.spec),(64,HA.spec),(227,E9.spec),(325,BK.spec)] UC.1 ?_;intro(n:Nat) (hn:n<bh*bh) H aH;have qn:∀m:Nat,m<=n->cK 4 (aA (m:Int)):=fun m hm=>lT (by rw[zaq];have:n<340282366920938463463374607431768211456:=hn;omega);refine I ?_;refine df (L:=Nat) (fun k=>k<=4) (fun(k:Nat)=>⟨[.c 42 (nm (aA ((n/2^(32*k):Nat):Int))),.c 148 [.i .u64 0,.i .u64 0],.c 148 (qE (n%2^(32*k)*2^(128-32*k)))],3,[(1,.p 0 0),(2,.p 1 0),(3,.p 2 0),(7,.i .i64 (k:Nat))]⟩) (fun k=>4-k) [0,1,2] 0 (zaf _) (by show 4-0<bT+1;unfold bT;omega) (Pw ⟨rfl,rfl,rfl,rfl,trivial⟩ ⟨_,rfl,by rw[zbw,zbi,zbV];rfl⟩ ⟨_,rfl,rfl⟩ ⟨_,rfl,by rw[zbw,zbi,Nat.mod_one,zas];rfl⟩) ?_;intro(k:Nat) ab;refine an 8 ?_;by_cases a4:k<4
 ·refine v1 8 (show(k:Int)<4 by omega) ?_;have hw:n%2^(32*k)*2^(128-32*k)<bh*bh:=by
   have:bh*bh=2^(32*k)*2^(128-32*k):=by rw[<-zal,show 32*k+(128-32*k)=128 by omega];rfl
   rw[this];exact zcv (zae _ (zag _)) (zag _)
  have e0:=ao0 (n:=n) a4;have vH:n/2^(32*k)<=n:=zau _ _;have hq:n/2^(32*(k+1))=n/2^(32*k)/4294967296:=by rw[show(4294967296:Nat)=2^32 from rfl,zaY,<-zal];congr 1
  generalize n/2^(32*k)=m at *;generalize n%2^(32*k)*2^(128-32*k)=w at *;have mX:=zaN m (4294967296);have aq:m%4294967296<4294967296:=zae _ (by decide);rw[<-hq]at mX;obtain⟨q,Hh⟩:∃q,q=n/2^(32*(k+1)):=⟨_,rfl⟩;rw[<-Hh]at mX hq;generalize m%4294967296=d at *;have alN:q<=n:=by omega
  refine I ?_;refine aC p0 (aA (m:Int),-32) ⟨dO (qn m vH) (by decide),by decide,by decide⟩ ?_;refine aC Gq (b9 (aA (m:Int)) (-32)) (dO (ur 2 (qn m vH) (by decide) (by decide)) (by decide)) ?_;refine ag 11 (bN (aA (q:Int))) rfl (by show bN (aA (j5 (b9 (aA (m:Int)) (-((32:Nat):Int)))))=_;rw[P2,<-zcz,<-hq]) (I ?_);refine aZ p0 (aA (q:Int),32) ⟨dO (qn q alN) (by decide),by decide,by decide⟩ ?_;refine ag 15 (bN (aA ((q*4294967296:Nat):Int))) rfl (by show bN (b9 (aA _) ((32:Nat):Int))=_;rw[oH,<-zam]) (I ?_);refine aZ EI (aA (m:Int),aA ((q*4294967296:Nat):Int)) ⟨dO (qn m vH) (by decide),dO (qn (q*4294967296) (by omega)) (by decide)⟩ ?_;refine ag 16 (bN (aA (d:Int))) rfl (by show bN (aA _-aA _)=_;rw[y9];congr 2;omega) (I ?_);refine aZ HB (d:Int) ⟨by show(-9223372036854775808:Int)<=(d:Int);omega,by show(d:Int)<9223372036854775808;omega⟩ (I ?_);refine aC Fa (w,32) ⟨hw,by decide⟩ (an 24 ?_);have akG:d*4294967296%18446744073709551616=d*4294967296:=dH (by omega);refine ag 24 (.i .u64 ((d*4294967296:Nat):Int)) rfl (dY (congrArg Int.ofNat (by rw[dH (a:=d) (by omega)];exact akG))) (an 25 ?_);have L8:(d*4294967296*bh)/bh=d*4294967296∧(d*4294967296*bh)%bh=0:=⟨zdi _ (by decide),zem _ _⟩;refine ag 25 (cN (d*4294967296*bh)) rfl (by unfold cN qE;rw[L8.1,L8.2];rfl) ?_;refine aC E7 (w/4294967296,d*4294967296*bh) ⟨zaG (zau _ _) hw,by show _<bh*bh;exact zcv (by show d*4294967296<18446744073709551616;omega) (by decide)⟩ ?_;refine ag 26 (cN (n%2^(32*(k+1))*2^(128-32*(k+1)))) rfl (by show cN _=_;rw[e0]) (an 28 ?_);refine ag 28 (.i .i64 ((k+1:Nat):Int)) rfl bo (I ?_);exact ba [0,1,2] (k+1) ⟨by show 4-(k+1)<4-k;omega,a4⟩ (Pw ⟨rfl,rfl,rfl,rfl,trivial⟩ ⟨_,rfl,by rw[<-Hh];rfl⟩ ⟨_,rfl,rfl⟩ ⟨_,rfl,rfl⟩)
 ·refine v0 8 (show¬(k:Int)<4 by omega) ?_;have C8:k=4:=by omega
  subst C8;refine I ?_;exact au rfl (.of (by show cN _=cN n;rw[show n%2^(32*4)*2^(128-32*4)=n by rw[zaE];exact dH hn]))
def eK(e p:Int)(neg:Bool):Nat:=if neg then 2^(e+p-1).toNat else 0
def Fb:bc where
 L:=Int×Int×Int×Int×Bool
 args:=fun(e,p,m,b,neg)=>[je e p m b,.b neg]
 pre:=fun(e,p,m,b,neg)=>b0 e p
 res:=fun(e,p,m,b,neg)=>cN (eK e p neg)
def sX(h:b0 e p):(e+p-1).toNat<=123∧((e+p-1).toNat:Int)=e+p-1:=by
 obtain⟨J,U,af,ax,a0⟩:=h;omega
def J5:a6 aS.ctx 326 Fb.spec:=by
 refine bq [(327,E8.spec)] UA.1 ?_;intro⟨e,p,m,b,neg⟩ (h:b0 e p) H aH;obtain⟨t1,t2⟩:=sX h;obtain⟨J,U,af,ax,a0⟩:=id h;cases neg with
 |false=>
  refine I ?_;exact au rfl (y4 (w:=0) rfl rfl)
 |true=>
  refine an 15 ?_;refine ag 15 (.i .i64 (e+p)) rfl (bo rfl (by omega) (by omega)) (an 16 ?_);refine ag 16 (.i .i64 ((e+p-1).toNat:Nat)) rfl (bo (by omega) (by omega) (by omega)) ?_;refine aC J4 (1,(e+p-1).toNat) (by show _<=128;omega) (I ?_) (he:=by exact⟨.of rfl,.refl _,trivial⟩);have a4:2^(e+p-1).toNat<bh*bh:=zaG (zax (by decide) t1) (by decide);exact au rfl (.of (by show cN _=cN _;rw[zaw,dH a4];rfl))
def acP:bc where
 L:=Int×Int×Int×Int×Bool
 args:=fun(e,p,m,b,neg)=>[je e p m b,.b neg]
 pre:=fun(e,p,m,b,neg)=>b0 e p
 res:=fun(e,p,m,b,neg)=>cN (eK e p neg)
def at2:a6 aS.ctx 321 acP.spec:=by
 refine bq [(326,Fb.spec)] Uv.1 ?_;intro⟨e,p,m,b,neg⟩ (h:b0 e p) H aH;refine I ?_;refine aC J5 (e,p,m,b,neg) h (I ?_);exact au rfl (.refl _)
def kR(h:b0 e p):In e p<2^(e+p-1).toNat∧2^(e+p-1).toNat*2<bh*bh:=by
 have J:=MZ h;have U:=zag (aW p);obtain⟨t1,t2⟩:=sX h;refine⟨by omega,?_⟩;rw[<-zak];exact zaG (zax (by decide) (show _<=124 by omega)) (by decide)
def Pk{r:Nat}(neg:Bool)(hr:r<2^(e+p-1).toNat):eK e p neg|||r=eK e p neg+r:=by
 unfold eK;cases neg
 ·simp
 ·have:=Is (a:=1) hr;rw[zaE]at this;exact this
def EM(h:b0 e p)(neg:Bool):eK e p neg<bh*bh:=by
 have:=(kR h).2;have h0:bh*bh=340282366920938463463374607431768211456:=rfl;unfold eK;generalize 2^(e+p-1).toNat=T at *;split<;>omega
def PU:bc where
 L:=Int×Int×Int×Int×Bool
 args:=fun(e,p,m,b,neg)=>[je e p m b,.b neg]
 pre:=fun(e,p,m,b,neg)=>b0 e p
 res:=fun(e,p,m,b,neg)=>cN (eK e p neg+In e p)
def MY(h:b0 e p):(2^e.toNat-1)*2^aW p=In e p:=by
 obtain⟨J,U,af,ax,a0⟩:=h;have hb:=B7 J;have aw:(2*ch e+1).toNat+1=2^e.toNat:=by
  rw[show e.toNat=(e-1).toNat+1 by omega,zak];have aJ:=zag (e-1).toNat;generalize 2^(e-1).toNat=z at *;omega
 unfold In;congr 1;omega
def acJ:a6 aS.ctx 232 PU.spec:=by
 refine bq [(326,Fb.spec),(327,E8.spec),(325,BK.spec)] TI.1 ?_;intro⟨e,p,m,b,neg⟩ (h:b0 e p) H aH;obtain⟨i1,i2⟩:=kR h;have cw:=MY h;have hp:=qt h;have ai:=EM h neg;obtain⟨J,U,af,ax,a0⟩:=id h;obtain⟨E,rfl⟩:∃E:Nat,e=(E:Int):=⟨e.toNat,by omega⟩;rw[show((E:Int)).toNat=E by omega]at cw;have g0:2^E<=2^11:=zax (by decide) (by omega);have GJ:=zag E;refine I ?_;refine aZ J5 ((E:Int),p,m,b,neg) h (an 11 ?_);refine cm 11 (.i .u64 ((2^E:Nat):Int)) rfl rfl (dY (congrArg Int.ofNat (by rw[zaw];exact dH (by omega)))) ?_;refine an 12 ?_;refine cm 12 (.i .u64 ((2^E-1:Nat):Int)) rfl rfl (dY (congrArg Int.ofNat (JP (by omega) (by omega)))) ?_;refine an 13 ?_;refine cm 13 (cN (2^E-1)) rfl rfl (by
  have:2^E-1<bh:=by show _<18446744073709551616;omega
  unfold cN qE;rw[zaX this,dH this];rfl) ?_
 refine an 17 ?_;refine cm 17 (.i .i64 (aW p:Nat)) rfl rfl (bo (by omega) (by omega) (by omega)) ?_;refine I ?_;refine aZ J4 (2^E-1,aW p) (by show aW p<=128;omega) ?_;refine ag 18 (cN (In E p)) rfl (by show cN ((2^E-1)*2^aW p%(bh*bh))=_;rw[cw,dH (by omega)]) (I ?_);refine aZ E7 (eK E p neg,In E p) ⟨ai,by show In E p<bh*bh;omega⟩ (I ?_);exact au rfl (.of (by show cN _=cN _;rw[Pk neg i1]))
def M7(h:b0 e p){n:Nat}(hr:n+j*2^aW p<=In e p):j<=2047:=by
 have hb:=ia h.1 h.2.1;have ck:j*2^aW p<=(2*ch e+1).toNat*2^aW p:=by unfold In at hr;omega
 have:=zcm ck (zag _);omega
def acN:bc where
 L:=Int×Int×Int×Bool×Nat×Nat
 args:=fun(e,p,m,neg,n,j)=>[je e p m (ch e),.b neg,bN (aA (n:Int)),.i .i64 ((j:Int)-cF e p)]
 pre:=fun(e,p,m,neg,n,j)=>b0 e p∧n+j*2^aW p<=In e p
 res:=fun(e,p,m,neg,n,j)=>cN (eK e p neg+(n+j*2^aW p))
def acO:a6 aS.ctx 383 acN.spec:=by
 refine bq [(330,Nj.spec),(10,sr.spec),(177,r8.spec),(129,wE.spec),(326,Fb.spec),(328,Of.spec),(325,BK.spec)] UY.1 ?_;intro⟨e,p,m,neg,n,j⟩ ⟨(h:b0 e p),(hr:n+j*2^aW p<=In e p)⟩ H aH;have hj:=M7 h hr;obtain⟨i1,i2⟩:=kR h;have aq:=pX h;have hp:=qt h;have ai:=EM h neg;obtain⟨J,U,af,ax,a0⟩:=id h;have hb:=ia J U;have qn:∀q:Nat,q<=In e p->cK 4 (aA (q:Int)):=fun q hq=>lT (by rw[zaq];have:bh*bh=340282366920938463463374607431768211456:=rfl;omega);have alb:cK 4 (aA (j:Int)):=lT (by rw[zaq];omega);refine I ?_;refine aC Nk (e,p,m) h (an 14 ?_);refine ag 14 (.i .i64 (j:Int)) rfl (bo (by omega) (by omega) (by omega)) (I ?_);refine aZ lM (j:Int) ⟨by show(-9223372036854775808:Int)<=(j:Int);omega,by show(j:Int)<9223372036854775808;omega⟩ (an 21 ?_);refine cm 21 (.i .i64 (aW p:Nat)) rfl rfl (bo (by omega) (by omega) (by omega)) ?_;refine I ?_;refine aZ p0 (aA (j:Int),(aW p:Int)) ⟨dO alb (by decide),by show(-20000:Int)<=(aW p:Int);omega,by show(aW p:Int)<=20000;omega⟩ ?_;refine ag 22 (bN (aA ((j*2^aW p:Nat):Int))) rfl (by show bN (b9 (aA _) _)=_;rw[oH,<-zam]) (I ?_);refine aZ wF (aA (n:Int),aA ((j*2^aW p:Nat):Int)) ⟨dO (qn n (by omega)) (by decide),dO (qn (j*2^aW p) (by omega)) (by decide)⟩ ?_;refine ag 23 (bN (aA ((n+j*2^aW p:Nat):Int))) rfl (by show bN (aA _+aA _)=_;rw[ni,<-zbU]) ?_;obtain⟨r,lI⟩:∃r,r=n+j*2^aW p:=⟨_,rfl⟩;rw[<-lI]at hr⊢;refine I ?_;refine aZ J5 (e,p,m,ch e,neg) h (I ?_);refine aZ Zo r (by show r<bh*bh;omega) (I ?_);refine aZ E7 (eK e p neg,r) ⟨ai,by show r<bh*bh;omega⟩ (I ?_);exact au rfl (.of (by show cN _=cN (_+(n+j*2^aW p));rw[<-lI,Pk neg (by omega)]))
def At(e p:Int)(neg:Bool)(r:Nat):Rat:=if r=In e p then 0 else cv e p (if neg then -(r:Int)else r)
def uh(e p:Int)(neg:Bool)(r:Nat):ac ah:=.i .i64 (if r=In e p then 3 else if r=0 then 1 else 2):: .b neg::nm (At e p neg r)
def DP:bc where
 L:=Int×Int×Int×Bool×Nat
 args:=fun(e,p,m,neg,r)=>[je e p m (ch e),cN (eK e p neg+r)]
 pre:=fun(e,p,m,neg,r)=>b0 e p∧r<=In e p
 res:=fun(e,p,m,neg,r)=>.agg (uh e p neg r)
def XK{a b:ah}(h:x=0):bY (.agg [a,b,.b false,.nl,.nl]) (.agg (a::b::nm x)):=by
 subst h;exact bY.agg ⟨.refl _,.refl _,.refl _,bY.nl.trans (.of (by show cU []=cU (aT _ 0);rw[ft])),bY.D1,trivial⟩
def RZ{s A B r:Nat}(er:0<A)(hr:r<B*A):(s*(B*A)+r)/A%B=r/A:=by
 have e:s*(B*A)+r=r+A*(s*B):=by rw[zbt];congr 1;ac_rfl
 rw[e,zcK _ _ er,zdP];exact dH ((zbd er).2 hr)
def Hx{E:Nat}(h:2^E<9223372036854775808):IntKind.i64.wrap (2^E)=((2^E:Nat):Int):=by
 have e:(2:Int)^E=((2^E:Nat):Int):=by simp
 rw[e];generalize 2^E=n at *;exact gd (by omega) (by omega)
def XR:a6 aS.ctx 234 DP.spec:=by
 refine bq [(227,E9.spec),(324,PW.spec),(327,E8.spec),(325,BK.spec),(323,PS.spec),(330,Nj.spec),(177,r8.spec),(123,H4.spec)] TK.1 ?_;intro⟨e,p,m,neg,r⟩ ⟨(h:b0 e p),(hr:r<=In e p)⟩ H aH;obtain⟨i1,i2⟩:=kR h;have it:=MZ h;have cw:=MY h;have aq:=pX h;have hp:=qt h;have ai:=EM h neg;obtain⟨t1,t2⟩:=sX h;obtain⟨J,U,af,ax,a0⟩:=id h;have hb:=ia J U;have fP:=zag (aW p);obtain⟨E,rfl⟩:∃E:Nat,e=(E:Int):=⟨e.toNat,by omega⟩;rw[show((E:Int)).toNat=E by omega]at cw;have g0:2^E<=2^11:=zax (by decide) (by omega);have GJ:=zag E;have xA:2^((E:Int)+p-1).toNat=2^E*2^aW p:=by rw[<-zal];congr 1;omega
 obtain⟨s,k9,k8⟩:∃s:Nat,eK E p neg=s*(2^E*2^aW p)∧s=(if neg then 1 else 0):=by
  unfold eK;rw[xA];cases neg
  ·exact⟨0,by simp,rfl⟩
  ·exact⟨1,by simp,rfl⟩
 have kx:s<=1:=by rw[k8];split<;>omega
 rw[xA]at i1 i2 it;have vM:r<2^E*2^aW p:=by omega
 have hw:s*(2^E*2^aW p)+r<bh*bh:=by
  have:=fq (2^E*2^aW p) kx;omega
 have az:(s*(2^E*2^aW p)+r)/2^aW p%2^E=r/2^aW p:=RZ fP vM;have ae:(s*(2^E*2^aW p)+r)%2^aW p=r%2^aW p:=by rw[<-zat,zbt,zdP]
 have cr:(s*(2^E*2^aW p)+r)/2^((E:Int)+p-1).toNat=s:=by
  rw[xA,zai s,zde (by exact zbe GJ fP),zaX vM,zaJ]
 have Hp:∀x,x<bh->cN x= .agg [.i .u64 0,.i .u64 (x:Nat)]:=fun x aa=>by unfold cN qE;rw[zaX aa,dH aa];rfl
 refine ag 1 (cN (s*(2^E*2^aW p)+r)) rfl (by rw[k9]) ?_;generalize amf:s*(2^E*2^aW p)+r=w at *;have Wc:r/2^aW p<=2^E-1:=by
  have:r/2^aW p<2^E:=(zbd fP).2 vM;omega
 have akO:r%2^aW p<2^aW p:=zae _ fP;have mX:=zaN r (2^aW p);have hIn:r=In E p↔r/2^aW p=2^E-1:=by
  rw[<-cw]at hr⊢;constructor
  ·intro h;rw[h,zdi _ fP]
  ·intro h;rw[h,zai]at mX;omega
 have Wf:2^aW p<=2^112:=zax (by decide) (by omega);have j8:g4 (aW p) r=(if r/2^aW p=0 then r%2^aW p else 2^aW p+r%2^aW p)*2^(max (r/2^aW p) 1-1):=by
  unfold g4;by_cases h0:r/2^aW p=0
  ·rw[h0,zbw,zav]at mX;rw[zab (by omega),h0,zab rfl];simp[mX]
  ·rw[zaa (fun hl=>h0 (zaX hl)),zaa h0];congr 2;omega
 have hj:max (r/2^aW p) 1-1<=2047:=by omega
 generalize aj5:r/2^aW p=F at *;generalize akR:r%2^aW p=f at *;refine an 12 ?_;refine cm 12 (.i .i64 (aW p:Nat)) rfl rfl (bo (by omega) (by omega) (by omega)) ?_;refine I ?_;refine aZ Fa (w,aW p) ⟨hw,by show aW p<=128;omega⟩ (I ?_);refine aZ PX (w/2^aW p,E) (by show E<=128;omega) ?_;refine ag 17 (.agg [.i .u64 0,.i .u64 (F:Nat)]) rfl (by show cN _=_;rw[az];exact Hp F (by show F<18446744073709551616;omega)) (an 19 ?_);refine ag 19 (.i .i64 (F:Nat)) rfl (bo rfl (by omega) (by omega)) (an 24 ?_);refine ag 24 (.i .i64 (aW p:Nat)) rfl (bo (by omega) (by omega) (by omega)) ?_;refine aC PX (w,aW p) (by show aW p<=128;omega) ?_;refine ag 25 (cN f) rfl (by show cN _=_;rw[ae]) (an 33 ?_);refine ag 33 (.i .i64 ((E:Int)+p)) rfl (bo rfl (by omega) (by omega)) (an 34 ?_);refine ag 34 (.i .i64 (((E:Int)+p-1).toNat:Nat)) rfl (bo (by omega) (by omega) (by omega)) ?_;refine aC Fa (w,((E:Int)+p-1).toNat) ⟨hw,by show _<=128;omega⟩ ?_;refine ag 35 (.agg [.i .u64 0,.i .u64 (s:Nat)]) rfl (by show cN _=_;rw[cr];exact Hp s (by show s<18446744073709551616;omega)) (I ?_);refine EA neg ?_ (hr:=by rw[k8];cases neg<;>rfl);refine I ?_;refine aaA ((2^E:Nat):Int) ?_ (by rw[zaZ];exact Hx (by omega));refine an 71 ?_;refine ag 71 (.i .i64 ((2^E-1:Nat):Int)) rfl (bo (by omega) (by omega) (by omega)) (an 72 ?_);by_cases hi:F=2^E-1
 ·have vN:=hIn.2 hi;have mY:f=0:=by
   have:In E p%2^aW p=0:=by rw[<-cw];exact zem _ _
   rw[<-akR,vN,this]
  subst mY;refine ag 72 (.b true) rfl (b2 (zad (by omega))) (an 74 ?_);refine ag 74 (.agg [.i .u64 0,.i .u64 0]) rfl rfl (I ?_);refine EA true ?_;refine I ?_;exact au rfl ((XK (x:=At E p neg r) (zab vN)).trans (.of (by show ah.agg (_::_::_)=ah.agg (uh _ _ _ _);unfold uh;rw[zab vN])))
 have vN:r≠In E p:=fun h=>hi (hIn.1 h);refine ag 72 (.b false) rfl (b2 (zac (by omega))) (I ?_);refine RJ ((2^E:Nat):Int) ?_ (by rw[zaZ];exact Hx (by omega));refine an 85 ?_;refine cm 85 (.i .i64 ((2^E-1:Nat):Int)) rfl rfl (bo (by omega) (by omega) (by omega)) ?_;refine an 86 ?_;refine cm 86 (.b false) rfl rfl (b2 (zac (by omega))) ?_;refine I ?_;refine aaA ((2^E:Nat):Int) ?_ (by rw[zaZ];exact Hx (by omega));refine an 111 ?_;refine ag 111 (.i .i64 ((2^E-1:Nat):Int)) rfl (bo (by omega) (by omega) (by omega)) (an 112 ?_);refine ag 112 (.b false) rfl (b2 (zac (by omega))) (an 119 ?_);have lJ:∀{cs},uh E p neg r=cs->ah.agg cs=DP.res (E,p,m,neg,r):=fun h=>by rw[<-h];rfl
 have agL:r=0->bY (.agg [.i .i64 1,.b neg,.b false,.nl,.nl]) (DP.res (E,p,m,neg,r)):=fun h0=>by
  refine(XK (x:=At E p neg r) ?_).trans (.of (lJ (by unfold uh;rw[zaa vN,zab h0])));unfold At;rw[zaa vN,h0];cases neg<;>exact wR _ _
 have vX:r≠0->uh E p neg r= .i .i64 2:: .b neg::nm (cv E p (if neg then -(r:Int)else r)):=fun h0=>by
  unfold uh At;rw[zaa vN,zaa h0,zaa vN]
 have tail:∀n:Nat,n=(if F=0 then f else 2^aW p+f)->b9 (aA (n:Int)) (((max F 1-1:Nat):Int)-cF E p)=cv E p (r:Int):=fun n hn=>by
  rw[m9 (u:=max F 1-1) (v:=cF E p) rfl,(fu _).1,(fu _).2,zaw,<-zam];unfold cv;rw[lk (by omega),zaq,j8,<-hn]
 have W7:bh*bh=340282366920938463463374607431768211456:=rfl;obtain⟨n,hn⟩:∃n,n=(if F=0 then f else 2^aW p+f):=⟨_,rfl⟩;have Ms:n<2^113:=by rw[hn];split<;>omega
 have WQ:n<bh*bh:=by omega
 have tail:=tail n hn;by_cases kq:F=0
 ·refine ag 119 (.b true) rfl (b2 (zad (by omega))) ?_;have fG:f=n:=by rw[hn,zab kq]
  rw[fG]at mX⊢;clear hn fG;rw[kq,zbw,zav]at mX;refine I ?_;by_cases kb:n=0
  ·refine EA true ?_ (hr:=by rw[kb];rfl);refine I ?_;exact au rfl (agL (by omega))
  refine EA false ?_ (hr:=by
   have J:=zaN n bh;show((((n/bh:Nat):Int)==0)&&(((n%bh:Nat):Int)==0))=false;rw[Bool.and_eq_false_iff,zaS,zaS];by_cases aJ:n/bh=0
   ·right;rw[aJ,zbw,zav]at J;rw[J];omega
   ·exact .inl fun h=>aJ (Int.ofNat_eq_zero.1 h))
  have vX:=vX (by omega);refine an 40 ?_;refine ag 40 (.b false) rfl (b2 (zac (by omega))) (I ?_);refine aZ PT n WQ (I ?_);refine aZ Nk (E,p,m) h (an 52 ?_);refine cm 52 (.i .i64 (max F 1:Nat)) rfl rfl (dY (by omega)) ?_;refine an 53 ?_;refine cm 53 (.i .i64 (max F 1-1:Nat)) rfl rfl (bo (by omega) (by omega) (by omega)) ?_;refine an 56 ?_;refine ag 56 (.i .i64 ((max F 1-1:Nat)-(cF E p:Int))) rfl (bo (by omega) (by omega) (by omega)) ?_;refine aZ p0 (aA (n:Int),(max F 1-1:Nat)-(cF E p:Int)) ⟨dO (lT (k:=3) (by rw[zaq];omega)) (by decide),by show(-20000:Int)<=((max F 1-1:Nat):Int)-cF E p;omega,by show((max F 1-1:Nat):Int)-cF E p<=20000;omega⟩ ?_;refine ag 57 (bN (cv E p (r:Int))) rfl (by show bN (b9 _ _)=_;rw[tail]) ?_;cases neg with
  |false=>
   refine I ?_;exact au rfl (.of (lJ vX))
  |true=>
   refine I ?_;refine aC H6 (cv E p (r:Int)) trivial (I ?_);exact au rfl (.of (lJ (vX.trans (by rw[zab rfl,uV];rfl))))
 ·refine ag 119 (.b false) rfl (b2 (zac (by omega))) ?_;have fG:2^aW p+f=n:=by rw[hn,zaa kq]
  have vJ:f|||2^aW p=n:=by
   have:=Is (a:=1) (k:=aW p) (b:=f) (by omega);rw[zaE]at this;rw[zcI,this,fG]
  have vX:=vX (fun h=>by rw[h,zdg]at aj5;omega);refine an 40 ?_;refine ag 40 (.b true) rfl (b2 (zad (by omega))) (an 46 ?_);refine cm 46 (.i .i64 (aW p:Nat)) rfl rfl (bo (by omega) (by omega) (by omega)) ?_;refine I ?_;refine aZ J4 (1,aW p) (by show aW p<=128;omega) ?_ (he:=by exact⟨.of rfl,.refl _,trivial⟩);refine ag 47 (cN (2^aW p)) rfl (by show cN _=_;rw[zaw,dH (by omega)]) (I ?_);refine aZ E7 (f,2^aW p) ⟨by show f<bh*bh;omega,by show 2^aW p<bh*bh;omega⟩ ?_;refine ag 48 (cN n) rfl (by show cN _=_;rw[vJ]) (I ?_);refine aZ PT n WQ (I ?_);refine aZ Nk (E,p,m) h (an 52 ?_);refine cm 52 (.i .i64 (max F 1:Nat)) rfl rfl (dY (by omega)) ?_;refine an 53 ?_;refine cm 53 (.i .i64 (max F 1-1:Nat)) rfl rfl (bo (by omega) (by omega) (by omega)) ?_;refine an 56 ?_;refine ag 56 (.i .i64 ((max F 1-1:Nat)-(cF E p:Int))) rfl (bo (by omega) (by omega) (by omega)) ?_;refine aZ p0 (aA (n:Int),(max F 1-1:Nat)-(cF E p:Int)) ⟨dO (lT (k:=3) (by rw[zaq];omega)) (by decide),by show(-20000:Int)<=((max F 1-1:Nat):Int)-cF E p;omega,by show((max F 1-1:Nat):Int)-cF E p<=20000;omega⟩ ?_;refine ag 57 (bN (cv E p (r:Int))) rfl (by show bN (b9 _ _)=_;rw[tail]) ?_;cases neg with
  |false=>
   refine I ?_;exact au rfl (.of (lJ vX))
  |true=>
   refine I ?_;refine aC H6 (cv E p (r:Int)) trivial (I ?_);exact au rfl (.of (lJ (vX.trans (by rw[zab rfl,uV];rfl))))
def mH(neg:Bool)(r:Nat):Int:=if neg then -(r:Int)else r
def O4:bc where
 L:=Int×Int×Int×Bool×Nat
 args:=fun(e,p,m,neg,r)=>[je e p m (ch e),cN (eK e p neg+r)]
 pre:=fun(e,p,m,neg,r)=>b0 e p∧r<=In e p
 res:=fun(e,p,m,neg,r)=>bN (aA (mH neg r))
def aaE:a6 aS.ctx 229 O4.spec:=by
 refine bq [(324,PW.spec),(323,PS.spec),(234,DP.spec),(123,H4.spec)] TE.1 ?_;intro⟨e,p,m,neg,r⟩ ⟨(h:b0 e p),(hr:r<=In e p)⟩ H aH;obtain⟨i1,i2⟩:=kR h;obtain⟨t1,t2⟩:=sX h;obtain⟨J,U,af,ax,a0⟩:=id h;have xM:(eK e p neg+r)%2^(e+p-1).toNat=r:=by
  unfold eK;cases neg
  ·simp only[zaU,if_false,zav];exact dH (by omega)
  ·simp only[if_true,Nat.add_mod_left];exact dH (by omega)
 refine an 13 ?_;refine ag 13 (.i .i64 (e+p)) rfl (bo rfl (by omega) (by omega)) (an 14 ?_);refine ag 14 (.i .i64 ((e+p-1).toNat:Nat)) rfl (bo (by omega) (by omega) (by omega)) ?_;refine aC PX (eK e p neg+r,(e+p-1).toNat) (by show _<=128;omega) ?_;refine ag 15 (cN r) rfl (by show cN _=_;rw[xM]) ?_;refine aC PT r (by show r<bh*bh;omega) (I ?_);refine aC XR (e,p,m,neg,r) ⟨h,hr⟩ ?_;cases neg with
 |false=>
  refine I ?_;exact au rfl (.refl _)
 |true=>
  refine I ?_;refine aC H6 (aA (r:Int)) trivial (I ?_);exact au rfl (.of (congrArg bN (Fe _)))
def aaF:bc where
 L:=Int×Int×Int×Int
 args:=fun(e,p,m,n)=>[je e p m (ch e),bN (aA n)]
 pre:=fun(e,p,m,n)=>b0 e p∧n.natAbs<2^(e+p-1).toNat
 res:=fun(e,p,m,n)=>cN (eK e p (decide (n<0))+n.natAbs)
def acT(n:Int):fD (aA n)=aA (n.natAbs:Int):=by
 unfold fD;rw[(fu n).1];split
 ·rw[Fe];congr 1;omega
 ·congr 1;omega
def aqc:a6 aS.ctx 233 aaF.spec:=by
 refine bq [(39,uP.spec),(326,Fb.spec),(117,Ft.spec),(328,Of.spec),(325,BK.spec)] TJ.1 ?_;intro⟨e,p,m,n⟩ ⟨(h:b0 e p),(hn:n.natAbs<_)⟩ H aH;obtain⟨i1,i2⟩:=kR h;refine I ?_;refine aZ sU (aA n) trivial (an 8 ?_);refine ag 8 (.b (decide (n<0))) rfl (b2 (decide_eq_decide.2 (by show(aA n).num.sign<0↔n<0;rw[(fu n).1];exact zeI))) (I ?_);refine aZ J5 (e,p,m,ch e,decide (n<0)) h (I ?_);refine aZ Ku (aA n) trivial ?_;refine ag 11 (bN (aA (n.natAbs:Int))) rfl (by show bN (fD _)=_;rw[acT]) (I ?_);refine aZ Zo n.natAbs (by show n.natAbs<bh*bh;omega) (I ?_);refine aZ E7 (eK e p (decide (n<0)),n.natAbs) ⟨EM h _,by show n.natAbs<bh*bh;omega⟩ (I ?_);exact au rfl (.of (by show cN _=cN _;rw[Pk _ hn]))
def acK:bc where
 L:=Int×Int×Nat
 args:=fun(e,p,w)=>[hz e p,.i .i64 0,.c5 2 Nat qE [w]]
 pre:=fun(e,p,w)=>b0 e p∧w<2^(e+p).toNat
 res:=fun(e,p,w)=>.bu [je e p 0 (ch e),.i .i64 0]
def atW:a6 aS.ctx 127 acK.spec:=by
 refine bq [(92,CG.spec),(227,E9.spec)] LH.1 ?_;intro⟨e,p,w⟩ ⟨(h:b0 e p),(hw:w<_)⟩ H aH;obtain⟨J,U,af,ax,a0⟩:=id h;have hb:=ia J U;have amg:w<bh*bh:=zbG hw (show 2^(e+p).toNat<=2^128 from zax (by decide) (by omega));refine I ?_;refine aC Lw (e,p) trivial ?_;refine ag 20 (.i .i64 0) rfl (by show ah.i .i64 (if _ then _ else _)=_;rw[zab h]) (an 28 ?_);refine cm 28 (.i .i64 ((e-1).toNat:Nat)) rfl rfl (bo (by omega) (by omega) (by omega)) ?_;have g0:(2:Nat)^(e-1).toNat<=2^11:=zax (by decide) (by omega);refine RJ ((2^(e-1).toNat:Nat):Int) ?_ (by rw[zaZ];exact Hx (by omega));refine an 30 ?_;refine cm 30 (.i .i64 (ch e)) rfl rfl (bo (by rw[<-B7 J];omega) (by rw[<-B7 J];omega) (by rw[<-B7 J];omega)) ?_;refine I ?_;refine df (L:=Nat) (fun k=>k<=1) (fun(k:Nat)=>⟨[.c 76 [.i .i64 e,.i .i64 p],.c 234 [.i .i64 0,.i .i64 0,.i .i64 0,.i .i64 0],.c 234 [.i .i64 e,.i .i64 p,.i .i64 0,.i .i64 (ch e)]],3,[(3,.p 0 0),(6,.p 1 0),(7,.i .i64 0),(8,.p 2 0),(32,.c5 2 Nat qE [w]),(33,.i .i64 1),(34,.i .i64 (k:Nat))]⟩) (fun k=>1-k) [0,1,2] 0 (zaf _) (by show 1-0<bT+1;unfold bT;omega) kf ?_;intro(k:Nat) ab;rcases(show k=0∨k=1 by omega)with rfl|rfl
 ·refine I ?_;refine ep (j:=0) w rfl ?_;refine an 43 ?_;refine ag 43 (.i .i64 ((e+p).toNat:Nat)) rfl (bo (by omega) (by omega) (by omega)) ?_;refine aC Fa (w,(e+p).toNat) ⟨amg,by show _<=128;omega⟩ ?_;refine ag 44 (.agg [.i .u64 0,.i .u64 0]) rfl (by show cN (w/2^_)=_;rw[zaX hw];rfl) (I ?_);refine EA false ?_;refine I ?_;exact ba [0,1,2] 1 ⟨by decide,by decide⟩ kf
 ·refine I ?_;exact au rfl (.refl _)
def zD:ac Nat:=[0,1,28,2,29,14,24,3,30,22,20,15,25,17,4,8,31,27,13,23,21,19,16,7,26,12,18,6,11,5,10,9]
def xi:ac ah:=zD.map fun t:Nat=>.i .u8 (t:Int)
def qG(H:bJ):Prop:=∃vs el bd a3,H 9=some (.cells vs el bd a3)∧∀bF,dj bF xi [] vs
def qG.up{H bF:bJ}(h:dp H bF):qG H->qG bF:=fun⟨vs,el,bd,a3,J,U⟩=>⟨vs,el,bd,a3,h _ _ J,U⟩
def BC(x:Nat):Nat:=(x&&&(4294967296-x))*125613361%4294967296/134217728
def EZ(x:Nat):Nat:=zD.getD (BC x) 0
def as5(x:Nat):BC x<32:=by
 have:=zae ((x&&&(4294967296-x))*125613361) (show 0<4294967296 by decide);unfold BC;omega
def afB(h:j<32):xi.drop j= .i .u8 (zD.getD j 0:Nat)::xi.drop (j+1):=by
 have hl:j<xi.length:=by unfold xi;rw[zbA];exact h
 rw[hk hl];congr 1;have U:j<zD.length:=h;rw[zeZ,bV U];simp[xi]
def afC:∀j,j<32->zD.getD j 0<32:=by decide
def acn:bc where
 L:=Nat
 args:=fun x=>[.i .u32 (x:Nat)]
 pre:=fun x=>0<x∧x<4294967296
 res:=fun x=>.i .i64 (EZ x:Nat)
 hp:=qG
 hm:=qG.up
def as4:a6 aS.ctx 421 acn.spec:=by
 refine kn [] Vb.1 ?_;intro(x:Nat) ⟨(h0:0<x),(J:x<4294967296)⟩ H aH ⟨vs,el,bd,a3,aO,aq⟩;have hl:=as5 x;have hb:=afC _ hl;refine an 4 ?_;refine ag 4 (.b false) rfl (b2 (zac (by omega))) (an 7 ?_);refine ag 7 (.i .u32 ((4294967296-x:Nat):Int)) rfl (dY (at0 (by omega))) (an 10 ?_);refine ag 10 (.i .u32 (BC x:Nat)) rfl (dY (congrArg Int.ofNat (by
  show(x%4294967296&&&(4294967296-x)%4294967296)*125613361%4294967296/2^27=_;rw[dH J,dH (a:=4294967296-x) (by omega)];rfl))) ?_
 refine EB aO aq (j:=BC x) ?_;refine ag 11 (.ip (.i .u8 (EZ x:Nat)::xi.drop (BC x+1))) rfl (by rw[zaE,afB hl];rfl) (an 13 ?_);have hb:EZ x<32:=hb;refine ag 13 (.i .i64 (EZ x:Nat)) rfl (bo rfl (by omega) (by omega)) (I ?_);exact au rfl (.refl _)
def EY(l:ac Nat):Int:=IntKind.i64.wrap (IntKind.i64.wrap (32*((l.takeWhile (· ==0)).length:Int))+(EZ (l.getD (l.takeWhile (· ==0)).length 0):Nat))
theorem acg:∀{l:ac Nat} {k:Nat},(∀i,i<k->l[i]? =some 0)->(∃d,l[k]? =some d∧d≠0)->(l.takeWhile (· ==0)).length=k
 |[],k,_,⟨d,h,_⟩=>by simp at h
 |x::l,0,_,⟨d,h,aq⟩=>by
  simp at h;subst h;rw[List.takeWhile_cons_of_neg (by simpa using aq)];rfl
 |x::l,k+1,h,⟨d,U,aq⟩=>by
  have h0:=h 0 (by omega);simp at h0;subst h0;rw[List.takeWhile_cons_of_pos (by simp),zaD,acg (k:=k) (fun i hi=>by have:=h (i+1) (by omega);simpa using this) ⟨d,by simpa using U,aq⟩]
def YK:bc where
 L:=Nat
 args:=fun n=>[c3 n]
 pre:=fun n=>n≠0∧dI 1073741823 n
 res:=fun n=>.i .i64 (EY (aT 4294967296 n))
 hp:=qG
 hm:=qG.up
def YL:a6 aS.ctx 411 YK.spec:=by
 refine kn [(421,acn.spec)] U9.1 ?_;intro(n:Nat) ⟨(h0:n≠0),(hn:dI _ n)⟩ H aH eB;have hn:(aT 4294967296 n).length<=1073741823:=hn;have bE:=fW (b:=4294967296) (by decide) n;have aV:=tw (b:=4294967296) (by decide) n;obtain⟨ds,ga⟩:∃ds,ds=aT 4294967296 n:=⟨_,rfl⟩;have cx:ds≠[]:=fun e=>h0 ((nu (b:=4294967296) (by decide)).1 (by rw[<-ga];exact e));have ale:∃(j:Nat) (d:Nat),ds[j]? =some d∧d≠0:=by
  rw[<-ga]at aV;rcases zcg ds with h|⟨c2,d,h⟩
  ·exact absurd h cx
  ·rw[zch]at h;rw[h]at aV⊢;exact⟨c2.length,d,by simp,(AI (b:=4294967296) aV).2⟩
 rw[<-ga]at hn bE;refine ag 0 (cU ds) rfl (by rw[ga];rfl) (I ?_);refine m6 (L:=Nat) (fun k=>k<ds.length∧(∀i,i<k->ds[i]? =some 0)∧∃d,ds[k]? =some d∧d≠0) (fun(k:Nat)=>⟨[],0,[(0,cU ds),(3,.i .i64 (k:Nat))]⟩) ?_ ?_
 ·refine df (L:=Nat) (fun k=>k<ds.length∧∀i,i<k->ds[i]? =some 0) (fun(k:Nat)=>⟨[],0,[(0,cU ds),(3,.i .i64 (k:Nat))]⟩) (fun k=>ds.length-k) [] 0 ⟨zbg.2 cx,fun i hi=>by omega⟩ (by show ds.length-0<bT+1;unfold bT;omega) ew ?_;rintro(k:Nat) ⟨ab,aJ⟩;refine I ?_;refine ep ds[k] (bV ab) ?_;refine an 8 ?_;by_cases aq:ds[k]=0
  ·refine ag 8 (.b true) rfl (b2 (zad (by omega))) ?_;have vE:k+1<ds.length:=by
    obtain⟨j,d,J,U⟩:=ale;have hj:=(zah.1 J).1;rcases(show j<k∨j=k∨k<j by omega)with h|h|h
    ·have:=aJ j h;rw[J]at this;cases this;exact absurd rfl U
    ·subst h;rw[bV ab,aq]at J;cases J;exact absurd rfl U
    ·omega
   refine an 10 ?_;refine ag 10 (.i .i64 ((k+1:Nat):Int)) rfl bo (I ?_);exact ba [] (k+1) ⟨by show ds.length-(k+1)<ds.length-k;omega,vE,fun i hi=>by
    rcases(show i<k∨i=k by omega)with h|h
    ·exact aJ i h
    ·subst h;rw[bV ab,aq]⟩ ew
  ·refine ag 8 (.b false) rfl (b2 (zac (by omega))) (I ?_);exact ba [] k ⟨ab,aJ,_,bV ab,aq⟩ ew
 rintro(k:Nat) ⟨ab,aJ,d,aq,tG⟩;have tH:=bE d (zaA aq);refine I ?_;refine ep d aq ?_;refine I ?_;refine aC as4 d ⟨by show 0<d;omega,tH⟩ (I ?_) (hh:=eB);refine au rfl (.of ?_);show ah.i _ _=ah.i .i64 (EY _);rw[<-ga];unfold EY;rw[acg aJ ⟨d,aq,tG⟩,zeZ,aq];rfl
def PD(x:Rat):Int:=IntKind.i64.wrap (EY (aT 4294967296 x.num.natAbs)-EY (aT 4294967296 x.den))
def aci:bc where
 L:=Rat
 args:=fun x=>[bN x]
 pre:=fun x=>x.num≠0∧cK 268435456 x
 res:=fun x=>.i .i64 (PD x)
 hp:=qG
 hm:=qG.up
def as1:a6 aS.ctx 382 aci.spec:=by
 refine kn [(39,uP.spec),(411,YK.spec),(41,tk.spec)] UX.1 ?_;intro(x:Rat) ⟨(h0:x.num≠0),(aa:cK _ x)⟩ H aH eB;refine I ?_;refine aC sU x trivial (I ?_);refine cf (fun h=> ?_) (fun h=> ?_)
 ·have h:x.num=0:=zbF.1 h;exact absurd h h0
 refine I ?_;refine aZ YL x.num.natAbs ⟨by show x.num.natAbs≠0;omega,cH aa.1 (by decide)⟩ (I ?_) (hh:=eB);refine aZ np x trivial (I ?_);refine aZ YL x.den ⟨x.den_nz,cH aa.2 (by decide)⟩ (I ?_) (hh:=eB);exact au rfl (.refl _)
def kS(up:Bool):Int:=if up then 3 else 4
def acq:bc where
 L:=Bool×Bool×Int
 args:=fun(up,o,c)=>[.i .i64 (kS up),.b o,.i .i64 c]
 pre:=fun _=>True
 res:=fun(up,o,c)=>.b up
def acr:a6 aS.ctx 381 acq.spec:=by
 refine bq [] UW.1 ?_;intro⟨up,o,c⟩ _ H aH;cases up with
 |true=>
  refine I ?_;exact au rfl (.refl _)
 |false=>
  refine I ?_;exact au rfl (.refl _)
def anN:ac ah:=[.i .i64 0,.i .i64 1,.i .i64 2,.i .i64 4,.i .i64 3]
def BN(H:bJ):Prop:=∃vs el bd a3,H 5=some (.cells vs el bd a3)∧∀bF,dj bF anN [] vs
def BN.up{H bF:bJ}(h:dp H bF):BN H->BN bF:=fun⟨vs,el,bd,a3,J,U⟩=>⟨vs,el,bd,a3,h _ _ J,U⟩
def n3(H:bJ):Prop:=qG H∧BN H
def n3.up{H bF:bJ}(h:dp H bF):n3 H->n3 bF:=fun⟨a,b⟩=>⟨a.up h,b.up h⟩
def qV(up is:Bool)(n:Nat):Nat:=if is=false∧up=true then n+1 else n
def zK(e p:Int)(up:Bool)(r:Nat):Nat:=if r<In e p then r else if up then In e p else In e p-1
def Cz(e p:Int)(is pD:Bool)(r:Nat):Int:=if r<In e p then(if is then 0 else if pD then 24 else 16)else 20
structure zb where
 e:Int
 p:Int
 up:Bool
 neg:Bool
 n:Nat
 j:Nat
 is:Bool
 c:Int
 pD:Bool
def zb.ED(x:zb):Nat:=qV x.up x.is x.n+x.j*2^aW x.p
def Ln:bc where
 L:=zb
 args:=fun x=>[je x.e x.p (kS (x.up != x.neg)) (ch x.e),.b x.neg,bN (aA (x.n:Int)),.i .i64 ((x.j:Int)-cF x.e x.p),.b x.is,.i .i64 x.c,.b x.pD]
 pre:=fun x=>b0 x.e x.p∧x.n<2*2^aW x.p∧(2^aW x.p<=x.n∨x.j=0)∧x.j<=10000
 res:=fun x=>.bu [cN (eK x.e x.p x.neg+zK x.e x.p x.up x.ED),.i .i64 (Cz x.e x.p x.is x.pD x.ED)]
 hp:=n3
 hm:=n3.up
def V3(h:b0 e p){n:Nat}(J:n<=2*2^aW p)(U:2^aW p<=n∨j=0):b9 (aA (n:Int)) ((j:Int)-cF e p)=cv e p ((n+j*2^aW p:Nat):Int)∧(ho (cv e p ((n+j*2^aW p:Nat):Int)) (ib e p)<=0↔n+j*2^aW p<In e p):=by
 have hi:=nL h;have hp:=zag (aW p);constructor
 ·rw[m9 (u:=j) (v:=cF e p) rfl,(fu _).1,(fu _).2,zaw,<-zam];unfold cv;rw[lk (by omega),zaq,m4 J U]
 ·rw[CR h,<-zcl,n7,E3];omega
def agf:a6 aS.ctx 322 Ln.spec:=by
 refine kn [(39,uP.spec),(382,aci.spec),(381,acq.spec),(10,sr.spec),(129,wE.spec),(177,r8.spec),(180,Nz.spec),(12,wG.spec),(383,acN.spec),(130,Gs.spec),(116,Bn.spec),(232,PU.spec)] Uw.1 ?_;intro⟨e,p,up,neg,n,j,is,c,pD⟩ ⟨(h:b0 e p),(o9:n<2*2^aW p),(Ms:2^aW p<=n∨j=0),(hj:j<=10000)⟩ H aH ⟨akB,vs,el,bd,a3,aO,aq⟩;obtain⟨J,U,af,ax,a0⟩:=id h;have hb:=ia J U;have k7:=qt h;have GW:=pX h;have Wf:2^aW p<=2^112:=zax (by decide) (by omega);have nC:=nL h;have aut:=zag (aW p);have v9:∀m:Nat,m<=2*2^aW p->cK 4 (aA (m:Int)):=fun m hm=>lT (k:=3) (by rw[zaq];omega);refine I ?_;refine fK (L:=Unit) (fun _=>True) (fun _=>⟨[.c 234 [.i .i64 e,.i .i64 p,.i .i64 (kS (up != neg)),.i .i64 (ch e)],.c 42 (nm (aA (n:Int))),.c 148 [.i .u64 0,.i .u64 0]],3,[(1,.b neg),(3,.i .i64 ((j:Int)-cF e p)),(4,.b is),(5,.i .i64 c),(6,.b pD),(7,.p 0 0),(9,.p 1 0),(14,.p 2 0),(15,.i .i64 0),(16,.i .i64 (kS up))]⟩) ?_ ?_
 ·cases neg with
  |false=>
   refine I ?_;exact ba [0,1,2] () trivial (Pw ⟨rfl,rfl,rfl,rfl,rfl,rfl,rfl,rfl,rfl,by cases up<;>rfl,trivial⟩ ⟨_,rfl,rfl⟩ ⟨_,rfl,rfl⟩ ⟨_,rfl,rfl⟩)
  |true=>
   cases up with
   |false=>
    refine I ?_;refine EB aO aq (j:=3) ?_ (hi:=by rfl);refine ag 22 (.ip [.i .i64 4,.i .i64 3]) rfl rfl (I ?_);exact ba [0,1,2] () trivial kf
   |true=>
    refine I ?_;refine EB aO aq (j:=4) ?_ (hi:=by rfl);refine ag 22 (.ip [.i .i64 3]) rfl rfl (I ?_);exact ba [0,1,2] () trivial kf
 intro _ _;refine I ?_;refine fK (L:=Nat×Int) (fun(cc,f)=>cc=qV up is n∧f=if is then 0 else if pD then 24 else 16) (fun((cc:Nat),f)=>⟨[.c 234 [.i .i64 e,.i .i64 p,.i .i64 (kS (up != neg)),.i .i64 (ch e)],.c 42 (nm (aA (cc:Int))),.c 148 [.i .u64 0,.i .u64 0]],3,[(1,.b neg),(3,.i .i64 ((j:Int)-cF e p)),(7,.p 0 0),(9,.p 1 0),(14,.p 2 0),(15,.i .i64 0),(16,.i .i64 (kS up)),(17,.i .i64 f)]⟩) ?_ ?_
 ·cases is with
  |true=>
   refine I ?_;exact ba [0,1,2] (n,0) ⟨by unfold qV;rw[zaa (fun h=>by cases h.1)],rfl⟩ kf
  |false=>
   refine I ?_;refine fK (L:=Int) (fun f=>f=if pD then 24 else 16) (fun f=>⟨[.c 234 [.i .i64 e,.i .i64 p,.i .i64 (kS (up != neg)),.i .i64 (ch e)],.c 42 (nm (aA (n:Int))),.c 148 [.i .u64 0,.i .u64 0]],3,[(1,.b neg),(3,.i .i64 ((j:Int)-cF e p)),(5,.i .i64 c),(7,.p 0 0),(9,.p 1 0),(14,.p 2 0),(15,.i .i64 0),(16,.i .i64 (kS up)),(17,.i .i64 f)]⟩) ?_ ?_
   ·cases pD with
    |false=>
     refine I ?_;exact ba [0,1,2] 16 rfl kf
    |true=>
     refine I ?_;exact ba [0,1,2] 24 rfl kf
   intro f ae;refine I ?_;refine aC sU (aA (n:Int)) trivial ?_;have last:∀cc,cc=(if up=true then n+1 else n)->cc=qV up false n:=fun cc h=>by
    rw[h];unfold qV;cases up<;>rfl
   have Mx:(aA (n:Int)).num=(n:Int):=(fu _).1;refine an 32 ?_;by_cases ka:n=0
   ·refine ag 32 (.b false) rfl (b2 (zac (fun h=>h (by rw[Mx,ka];rfl)))) (I ?_);refine aC acr (up,false,c) trivial ?_;cases up with
    |false=>
     refine I ?_;exact ba [0,1,2] (n,f) ⟨last n rfl,ae⟩ kf
    |true=>
     refine I ?_;refine aZ lM (1:Int) ⟨by decide,by decide⟩ (I ?_);refine aZ wF (aA (n:Int),aA 1) ⟨dO (v9 n (by omega)) (by decide),dO (v9 1 (by omega)) (by decide)⟩ ?_;refine ag 42 (bN (aA ((n+1:Nat):Int))) rfl (by show bN (aA _+aA _)=_;rw[ni];rfl) (I ?_);exact ba [0,1,2] (n+1,f) ⟨last (n+1) rfl,ae⟩ kf
   ·refine ag 32 (.b true) rfl (b2 (zad (fun h=>ka (by have:=zbF.1 h;omega)))) (I ?_);refine aC as1 (aA (n:Int)) ⟨by omega,dO (v9 n (by omega)) (by decide)⟩ ?_ (hh:=akB);refine ag 35 (.i .i64 (PD (aA (n:Int)))) rfl rfl (I ?_);refine aC acr (up,decide (PD (aA (n:Int))=0),c) trivial ?_;cases up with
    |false=>
     refine I ?_;exact ba [0,1,2] (n,f) ⟨last n rfl,ae⟩ kf
    |true=>
     refine I ?_;refine aZ lM (1:Int) ⟨by decide,by decide⟩ (I ?_);refine aZ wF (aA (n:Int),aA 1) ⟨dO (v9 n (by omega)) (by decide),dO (v9 1 (by omega)) (by decide)⟩ ?_;refine ag 42 (bN (aA ((n+1:Nat):Int))) rfl (by show bN (aA _+aA _)=_;rw[ni];rfl) (I ?_);exact ba [0,1,2] (n+1,f) ⟨last (n+1) rfl,ae⟩ kf
 rintro⟨cc,f⟩ ⟨jI,ae⟩;have a5:cc<=2*2^aW p:=by rw[jI];unfold qV;split<;>omega
 have bD:2^aW p<=cc∨j=0:=by rw[jI];unfold qV;split<;>omega
 obtain⟨cP,cT⟩:=V3 h a5 bD;have hr:zb.ED ⟨e,p,up,neg,n,j,is,c,pD⟩=cc+j*2^aW p:=by rw[jI];rfl
 have aw:∀{w:Nat} {g:Int},zK e p up (cc+j*2^aW p)=w->Cz e p is pD (cc+j*2^aW p)=g->bY (.bu [cN (eK e p neg+w),.i .i64 g]) (Ln.res ⟨e,p,up,neg,n,j,is,c,pD⟩):=fun J U=>.of (by
  show _=ah.bu [cN (eK e p neg+zK e p up (zb.ED _)),.i .i64 (Cz e p is pD (zb.ED _))];rw[hr,J,U])
 refine I ?_;refine aZ p0 (aA (cc:Int),(j:Int)-cF e p) ⟨dO (v9 cc a5) (by decide),by show(-20000:Int)<=(j:Int)-cF e p;omega,by show(j:Int)-cF e p<=20000;omega⟩ (I ?_);refine aZ Yd (e,p,kS (up != neg)) h (I ?_);refine aZ yL (b9 (aA (cc:Int)) ((j:Int)-cF e p),ib e p) ⟨dO (ur 400 (v9 cc a5) (by omega) (by omega)) (by decide),dO (Yr h) (by decide)⟩ (an 49 ?_);rw[<-cP]at cT;by_cases a4:cc+j*2^aW p<In e p
 ·refine ag 49 (.b true) rfl (b2 (zad (cT.2 a4))) (I ?_);refine aC acO (e,p,kS (up != neg),neg,cc,j) ⟨h,by show cc+j*2^aW p<=In e p;omega⟩ (I ?_);exact au rfl (aw (zab a4) ((zab a4).trans ae.symm))
 ·refine ag 49 (.b false) rfl (b2 (zac (fun h=>a4 (cT.1 h)))) ?_;have hm:b9 (mkRat 1 1) p-aA 1=aA ((2*2^aW p-1:Nat):Int):=by
   rw[m9 (u:=p.toNat) (v:=0) (by omega),show p.toNat=aW p+1 by omega,zak];generalize 2^aW p=z at *;show aA (1*((z*2:Nat):Int))-aA 1=_;rw[y9];congr 1;omega
  have C7:(2*2^aW p-1)+(2*ch e-1).toNat*2^aW p=In e p-1:=by
   unfold In;rw[show(2*ch e+1).toNat=(2*ch e-1).toNat+2 by omega,zan];omega
  cases up with
  |true=>
   refine I ?_;refine aC acJ (e,p,kS (true != neg),ch e,neg) h (I ?_);exact au rfl (aw (zaa a4) (zaa a4))
  |false=>
   refine I ?_;refine aZ LG p ⟨by omega,by omega⟩ (I ?_);refine aZ lM (1:Int) ⟨by decide,by decide⟩ (I ?_);refine aZ EI (b9 (mkRat 1 1) p,aA 1) ⟨dO (ur 4 (H0 1 (by decide) (by decide)) (by omega) (by omega)) (by decide),dO (v9 1 (by omega)) (by decide)⟩ ?_;refine ag 69 (bN (aA ((2*2^aW p-1:Nat):Int))) rfl (by show bN (_-_)=_;rw[hm]) (an 75 ?_);refine cm 75 (.i .i64 (ch e-p)) rfl rfl (bo rfl (by omega) (by omega)) ?_;refine an 76 ?_;refine cm 76 (.i .i64 (((2*ch e-1).toNat:Int)-cF e p)) rfl rfl (bo (by omega) (by omega) (by omega)) ?_;refine I ?_;refine aZ acO (e,p,kS (false != neg),neg,2*2^aW p-1,(2*ch e-1).toNat) ⟨h,by show 2*2^aW p-1+(2*ch e-1).toNat*2^aW p<=In e p;omega⟩ ?_;refine ag 77 (cN (eK e p neg+(In e p-1))) rfl (by show cN (eK e p neg+(2*2^aW p-1+(2*ch e-1).toNat*2^aW p))=_;rw[C7]) (I ?_);exact au rfl (aw (zaa a4) (zaa a4))
def uJ(e p:Int)(gi:Bool)(x:Rat):Nat:=if x.num=0 then 0 else if(gi != decide (x.num<0))then m8 e p x else l0 e p x
def EE(e p:Int)(gi:Bool)(x:Rat):Int:=if x.num=0 then 0 else Cz e p (decide (kz e p x)) (decide (gf x.num.natAbs x.den<1-ch e)) (qV (gi != decide (x.num<0)) (decide (kz e p x)) (fe e p x)+ev e x*2^aW p)
def acL:bc where
 L:=Int×Int×Bool×Rat
 args:=fun(e,p,gi,x)=>[je e p (kS gi) (ch e),bN x]
 pre:=fun(e,p,gi,x)=>b0 e p∧cK 250 x
 res:=fun(e,p,gi,x)=>.bu [cN (eK e p (decide (x.num<0))+uJ e p gi x),.i .i64 (EE e p gi x)]
 hp:=n3
 hm:=n3.up
def asN(h:b0 e p)(x:Rat):b9 (fD x) (-jU e p x)=mkRat ((x.num.natAbs*2^cF e p:Nat):Int) (x.den*2^ev e x):=by
 rw[m9 (u:=cF e p) (v:=ev e x) (by rw[JJ h];omega),(mN x).1,(mN x).2,zam]
def agh(e p:Int)(up:Bool)(x:Rat):zK e p up (qV up (decide (kz e p x)) (fe e p x)+ev e x*2^aW p)=if up then m8 e p x else l0 e p x:=by
 unfold zK qV m8 l0 ou;cases up
 ·simp only[zaU,if_false,and_false];split<;>omega
 ·by_cases hn:kz e p x
  ·rw[zad hn,zab hn];simp only[if_true,Bool.true_eq_false,false_and,if_false];split<;>omega
  ·rw[zac hn,zaa hn];simp only[if_true,and_self];split<;>omega
def atY:a6 aS.ctx 228 acL.spec:=by
 refine kn [(39,uP.spec),(321,acP.spec),(117,Ft.spec),(179,LC.spec),(178,NC.spec),(177,r8.spec),(63,Gp.spec),(126,HD.spec),(116,Bn.spec),(10,sr.spec),(12,wG.spec),(274,NL.spec),(322,Ln.spec)] TD.1 ?_;intro⟨e,p,gi,x⟩ ⟨(h:b0 e p),(aa:cK 250 x)⟩ H aH eB;obtain⟨J,U,af,ax,a0⟩:=id h;have hb:=ia J U;refine I ?_;refine aC sU x trivial (I ?_);refine cf (fun h0=> ?_) (fun h0=> ?_)
 ·have h0:x.num=0:=zbF.1 h0;refine I ?_;refine aC at2 (e,p,kS gi,ch e,false) h (I ?_);exact au rfl (.of (by show _=ah.bu [cN (eK e p (decide (x.num<0))+uJ e p gi x),.i .i64 (EE e p gi x)];unfold uJ EE;rw[zab h0,zab h0,h0];rfl))
 have h0:x.num≠0:=fun e=>h0 (by rw[e];rfl);obtain⟨fC,gO⟩:=mN x;have cD:=DN x.num.natAbs x.den;have db:=vY aa.1;have hV:=vY aa.2;obtain⟨s1,s2⟩:=abG h aa;have hj:=JJ h x;have mZ:=M6 e x;have aq:=pX h;have aV:=asN h x;have hq:=Cu e x;have CZ:=ym h h0;refine I ?_;refine aC Ku x trivial (I ?_);refine aC So (fD x) ⟨dO (HZ aa) (by decide),by rw[fC];omega⟩ ?_;refine ag 19 (.i .i64 (gf x.num.natAbs x.den)) rfl (by show ah.i .i64 (gf (fD x).num.natAbs (fD x).den)=_;rw[fC,gO,zaq]) (I ?_);refine aC Ym (e,p,gf x.num.natAbs x.den,kS gi) ⟨h,by show _<=gf _ _;omega,by show gf _ _<=_;omega⟩ ?_;refine ag 22 (.i .i64 (jU e p x)) rfl rfl (an 25 ?_);refine ag 25 (.i .i64 (-jU e p x)) rfl (bo rfl (by omega) (by omega)) ?_;refine aC p0 (fD x,-jU e p x) ⟨dO (HZ aa) (by decide),by show _<= -jU e p x;omega,by show -jU e p x<=_;omega⟩ ?_;have aQ:cK 650 (b9 (fD x) (-jU e p x)):=ur 400 (HZ aa) (by omega) (by omega);obtain⟨t,Hm⟩:∃t,t=b9 (fD x) (-jU e p x):=⟨_,rfl⟩;refine ag 26 (bN t) rfl (by rw[Hm];rfl) ?_;rw[<-Hm]at aQ aV;have tM:j5 t=(fe e p x:Int):=by
  rw[aV,vu (by omega)];unfold fe;rw[zcz]
 have akD:t.den=1↔kz e p x:=by
  rw[aV,Yh (by omega),zaq];exact Iff.rfl
 have Wf:2^aW p<=2^112:=zax (by decide) (by have:=qt h;omega);have aP:cK 4 (aA (fe e p x:Int)):=lT (k:=3) (by rw[zaq];omega);refine I ?_;refine aC Gq t (dO aQ (by decide)) ?_;refine ag 28 (bN (aA (fe e p x:Int))) rfl (by show bN (aA (j5 t))=_;rw[tM]) (I ?_);refine aZ sU x trivial (I ?_);refine aZ M3 t trivial (I ?_);refine aZ EI (t,aA (fe e p x:Int)) ⟨dO aQ (by decide),dO aP (by decide)⟩ (I ?_);refine aZ p0 (t-aA (fe e p x:Int),1) ⟨dO (H2 aQ aP) (by decide),by decide,by decide⟩ (I ?_);refine aZ lM (1:Int) ⟨by decide,by decide⟩ (I ?_);refine aZ yL (b9 (t-aA (fe e p x:Int)) 1,aA 1) ⟨dO (ur 1 (H2 aQ aP) (by decide) (by decide)) (by decide),dO (H0 1 (by decide) (by decide)) (by decide)⟩ (I ?_);refine aZ Yy (e,p,kS gi) h (I ?_);refine aZ agf ⟨e,p,gi != decide (x.num<0),decide (x.num<0),fe e p x,ev e x,decide (kz e p x),ho (b9 (t-aA (fe e p x:Int)) 1) (aA 1),decide (gf x.num.natAbs x.den<1-ch e)⟩ ⟨h,CZ.1,CZ.2,by show ev e x<=10000;omega⟩ (I ?_) (hh:=eB) (he:=by exact⟨.of (by show je e p (kS gi) (ch e)=je e p (kS ((gi != decide (x.num<0)) != decide (x.num<0))) (ch e);congr 2;cases gi<;>cases decide (x.num<0)<;>rfl),.of (b2 (decide_eq_decide.2 zeI)),.refl _,.of (by rw[hj]),.of (b2 (decide_eq_decide.2 akD)),.refl _,.refl _,trivial⟩);refine au rfl (.of ?_);show ah.bu [cN (eK e p (decide (x.num<0))+zK e p (gi != decide (x.num<0)) (qV (gi != decide (x.num<0)) (decide (kz e p x)) (fe e p x)+ev e x*2^aW p)),.i .i64 (Cz e p (decide (kz e p x)) _ _)]=ah.bu [cN (_+uJ e p gi x),.i .i64 (EE e p gi x)];unfold uJ EE;rw[zaa h0,zaa h0,agh];rfl
def KY:bc where
 L:=Int×Int×Int×Bool×Rat
 args:=fun(e,p,m,gi,x)=>[je e p m (ch e),bN x,.i .i64 (kS gi)]
 pre:=fun(e,p,m,gi,x)=>b0 e p∧cK 250 x
 res:=fun(e,p,m,gi,x)=>bN (aA (cO e p gi x))
 hp:=n3
 hm:=n3.up
def aeb(h:b0 e p)(gi:Bool)(x:Rat):uJ e p gi x<=In e p∧mH (decide (x.num<0)) (uJ e p gi x)=cO e p gi x:=by
 have g5:l0 e p x<=In e p:=by unfold l0;omega
 have GM:m8 e p x<=In e p:=by unfold m8;omega
 unfold uJ cO mH;by_cases h0:x.num=0
 ·rw[zab h0,zab h0,h0];exact⟨zaf _,rfl⟩
 rw[zaa h0,zaa h0];by_cases hn:x.num<0
 ·rw[zad hn,zab hn];cases gi<;>simp[g5,GM]
 ·rw[zac hn,zaa hn];cases gi<;>simp[g5,GM]
def KZ:a6 aS.ctx 128 KY.spec:=by
 refine kn [(228,acL.spec),(229,O4.spec)] SG.1 ?_;intro⟨e,p,m,gi,x⟩ ⟨(h:b0 e p),(aa:cK 250 x)⟩ H aH eB;obtain⟨cP,cT⟩:=aeb h gi x;refine I ?_;refine aC atY (e,p,gi,x) ⟨h,aa⟩ (I ?_) (hh:=eB);refine aC aaE (e,p,kS gi,decide (x.num<0),uJ e p gi x) ⟨h,cP⟩ (I ?_);exact au rfl (.of (by show bN (aA _)=bN (aA _);rw[cT]))
def pR{y:Rat}:ho x y<0↔x<y:=by
 unfold ho;by_cases h:x<y
 ·rw[zab h];exact⟨fun _=>h,fun _=>by decide⟩
 ·rw[zaa h];by_cases aB:x=y
  ·rw[zab aB];exact⟨fun h=>absurd h (by decide),fun g=>absurd g h⟩
  ·rw[zaa aB];exact⟨fun h=>absurd h (by decide),fun g=>absurd g h⟩
def oG{a b:Int}:aA a<aA b↔a<b:=by
 rw[<-Rat.not_le,<-Int.not_le];exact not_congr (Yi (by decide))
def acX:bc where
 L:=Int×Int
 args:=fun(a,b)=>[bN (aA a),bN (aA b)]
 pre:=fun(a,b)=>cK 268435456 (aA a)∧cK 268435456 (aA b)
 res:=fun(a,b)=>bN (aA (max a b))
def aue:a6 aS.ctx 131 acX.spec:=by
 refine bq [(12,wG.spec)] SJ.1 ?_;intro⟨a,b⟩ hp H aH;refine I ?_;refine aC yL (aA a,aA b) hp (an 8 ?_);by_cases h:a<b
 ·refine v1 8 (show ho (aA a) (aA b)<0 from pR.2 (oG.2 h)) (I ?_);exact au rfl (.of (by show bN (aA b)=bN (aA (max a b));congr 2;omega))
 ·refine v0 8 (show¬ho (aA a) (aA b)<0 from fun g=>h (oG.1 (pR.1 g))) (I ?_);exact au rfl (.of (by show bN (aA a)=bN (aA (max a b));congr 2;omega))
def eb(e p:Int)(aL hi:Rat):Int:=cO e p false hi-cO e p true aL+1
def K9:bc where
 L:=Int×Int×Rat×Rat
 args:=fun(e,p,aL,hi)=>[hz e p,bN aL,bN hi]
 pre:=fun(e,p,aL,hi)=>b0 e p∧cK 250 aL∧cK 250 hi
 res:=fun(e,p,aL,hi)=>if 4611686018427387904<eb e p aL hi then .bu [.i .i64 0,.i .i64 3]else .bu [.i .i64 (max (eb e p aL hi) 0),.i .i64 0]
 hp:=n3
 hm:=n3.up
def ru(h:b0 e p)(hn:n.natAbs<=4*In e p+4):cK 5 (aA n):=lT (k:=4) (by
 have:=(kR h).1;have:=(kR h).2;have:bh*bh=340282366920938463463374607431768211456:=rfl;omega)
def aex:a6 aS.ctx 65 K9.spec:=by
 refine kn [(127,BL.spec),(128,KY.spec),(116,Bn.spec),(10,sr.spec),(129,wE.spec),(130,Gs.spec),(12,wG.spec),(131,acX.spec),(64,HA.spec)] Vq.1 ?_;intro⟨e,p,aL,hi⟩ ⟨(h:b0 e p),(hl:cK 250 aL),(hh:cK 250 hi)⟩ H aH eB;obtain⟨oB,oC,_,_⟩:=oT (x:=hi) h;obtain⟨_,_,nT,sQ⟩:=oT (x:=aL) h;have WD:=nL h;have oo:=zag (aW p);refine I ?_;refine aC PV (e,p) trivial ?_;refine ag 15 (.bu [je e p 0 (ch e),.i .i64 0]) rfl (zab h) (I ?_);refine aZ KZ (e,p,0,false,hi) ⟨h,hh⟩ (I ?_) (hh:=eB);refine aZ KZ (e,p,0,true,aL) ⟨h,hl⟩ (I ?_) (hh:=eB);refine aZ EI (aA (cO e p false hi),aA (cO e p true aL)) ⟨dO (ru h (by omega)) (by decide),dO (ru h (by omega)) (by decide)⟩ ?_;refine ag 27 (bN (aA (cO e p false hi-cO e p true aL))) rfl (by show bN (aA _-aA _)=_;rw[y9]) (I ?_);refine aZ lM (1:Int) ⟨by decide,by decide⟩ (I ?_);refine aZ wF (aA (cO e p false hi-cO e p true aL),aA 1) ⟨dO (ru h (by omega)) (by decide),dO (ru h (by omega)) (by decide)⟩ ?_;refine ag 29 (bN (aA (eb e p aL hi))) rfl (by show bN (aA _+aA _)=_;rw[ni];rfl) ?_;have hc:(eb e p aL hi).natAbs<=4*In e p+4:=by unfold eb;omega
 have res:∀{r},(4611686018427387904<eb e p aL hi->bY r (.bu [.i .i64 0,.i .i64 3]))->(¬4611686018427387904<eb e p aL hi->bY r (.bu [.i .i64 (max (eb e p aL hi) 0),.i .i64 0]))->bY r (K9.res (e,p,aL,hi)):=fun J U=>by
  show bY _ (if _ then _ else _);split
  ·exact J (by assumption)
  ·exact U (by assumption)
 generalize eb e p aL hi=n at *;refine I ?_;refine aZ LG (62:Int) ⟨by decide,by decide⟩ ?_;refine ag 31 (bN (aA 4611686018427387904)) rfl (by show bN (b9 (aA 1) ((62:Nat):Int))=_;rw[oH];rfl) (I ?_);refine aZ yL (aA n,aA 4611686018427387904) ⟨dO (ru h hc) (by decide),dO (lT (k:=1) (by decide)) (by decide)⟩ (I ?_);refine cf (fun aO=> ?_) (fun aO=> ?_)
 ·have aO:=oG.1 (n7.1 aO);refine I ?_;exact au rfl (res (fun _=>.refl _) (fun hn=>absurd aO hn))
 ·have aO:¬4611686018427387904<n:=fun h=>aO (n7.2 (oG.2 h));refine I ?_;refine aZ lM (0:Int) ⟨by decide,by decide⟩ (I ?_);refine aZ aue (n,0) ⟨dO (ru h hc) (by decide),dO (ru h (by omega)) (by decide)⟩ (I ?_);refine aZ HB (max n 0:Int) ⟨by show -9223372036854775808<=max n 0;omega,by show max n 0<9223372036854775808;omega⟩ (I ?_);exact au rfl (res (fun h=>absurd h aO) (fun _=>.refl _))
def YJ:bc where
 L:=Int×Int×Rat×Int
 args:=fun(e,p,aL,n)=>[hz e p,bN aL,.i .i64 n]
 pre:=fun(e,p,aL,n)=>b0 e p∧cK 250 aL∧0<=n∧n<9223372036854775808∧cO e p true aL+n<In e p
 res:=fun(e,p,aL,n)=>.bu [cN (eK e p (decide (cO e p true aL+n<0))+(cO e p true aL+n).natAbs),.i .i64 0]
 hp:=n3
 hm:=n3.up
def aon:a6 aS.ctx 132 YJ.spec:=by
 refine kn [(127,BL.spec),(128,KY.spec),(10,sr.spec),(129,wE.spec),(232,PU.spec),(229,O4.spec),(12,wG.spec),(233,aaF.spec)] SK.1 ?_;intro⟨e,p,aL,n⟩ ⟨(h:b0 e p),(hl:cK 250 aL),(h0:0<=n),(J:n<9223372036854775808),(U:cO e p true aL+n<In e p)⟩ H aH eB;obtain⟨_,_,nT,sQ⟩:=oT (x:=aL) h;obtain⟨i1,i2⟩:=kR h;refine I ?_;refine aC PV (e,p) trivial ?_;refine ag 13 (.bu [je e p 0 (ch e),.i .i64 0]) rfl (zab h) (an 23 ?_);refine v0 23 (show¬n<0 by omega) (I ?_);refine aC KZ (e,p,0,true,aL) ⟨h,hl⟩ (I ?_) (hh:=eB);refine aC lM n ⟨by show -9223372036854775808<=n;omega,J⟩ ?_;refine aC wF (aA (cO e p true aL),aA n) ⟨dO (ru h (by omega)) (by decide),dO (ru h (by omega)) (by decide)⟩ ?_;refine ag 30 (bN (aA (cO e p true aL+n))) rfl (by show bN (aA _+aA _)=_;rw[ni]) ?_;obtain⟨a,aY⟩:∃a,a=cO e p true aL+n:=⟨_,rfl⟩;rw[<-aY]at U⊢;have akj:a.natAbs<In e p:=by omega
 refine I ?_;refine aZ acJ (e,p,0,ch e,false) h (I ?_);refine aZ aaE (e,p,0,false,In e p) ⟨h,by show In e p<=In e p;omega⟩ (I ?_);refine aZ yL (aA a,aA (In e p:Int)) ⟨dO (ru h (by omega)) (by decide),dO (ru h (by omega)) (by decide)⟩ (an 37 ?_);refine v0 37 (show¬0<=ho (aA a) (aA (In e p:Int))from fun aO=>by have:=pR.2 (oG.2 U);omega) (I ?_);refine aC aqc (e,p,0,a) ⟨h,by show a.natAbs<_;omega⟩ (I ?_);exact au rfl (.of (by show _=ah.bu [cN (eK e p (decide (cO e p true aL+n<0))+(cO e p true aL+n).natAbs),.i .i64 0];rw[<-aY];rfl))
def acz:bc where
 L:=Int×Int×Bool×Nat
 args:=fun(e,p,neg,r)=>[hz e p,cN (eK e p neg+r)]
 pre:=fun(e,p,neg,r)=>b0 e p∧r<In e p
 res:=fun(e,p,neg,r)=>.bu [bN (cv e p (mH neg r)),.i .i64 0]
def atj:a6 aS.ctx 133 acz.spec:=by
 refine bq [(127,acK.spec),(234,DP.spec)] SL.1 ?_;intro⟨e,p,neg,r⟩ ⟨(h:b0 e p),(hr:r<In e p)⟩ H aH;obtain⟨i1,i2⟩:=kR h;obtain⟨t1,t2⟩:=sX h;have hw:eK e p neg+r<2^(e+p).toNat:=by
  rw[show(e+p).toNat=(e+p-1).toNat+1 by have:=h.2.2.2.2;omega,zak];unfold eK;split<;>omega
 refine an 12 ?_;refine mD 3 (z:=2) qE [eK e p neg+r] ?_;refine jh 12 ?_;refine I ?_;refine aC atW (e,p,eK e p neg+r) ⟨h,hw⟩ (I ?_);refine aC XR (e,p,0,neg,r) ⟨h,by show r<=In e p;omega⟩ ?_;have cx:r≠In e p:=by omega
 refine ag 22 (.agg (.i .i64 (if r=0 then 1 else 2):: .b neg::nm (cv e p (mH neg r)))) rfl (by show ah.agg (uh e p neg r)=_;unfold uh At;rw[zaa cx,zaa cx];rfl) (an 25 ?_);refine v0 25 (show¬(2:Int)<(if r=0 then 1 else 2) by split<;>decide) (I ?_);exact au rfl (.refl _)
