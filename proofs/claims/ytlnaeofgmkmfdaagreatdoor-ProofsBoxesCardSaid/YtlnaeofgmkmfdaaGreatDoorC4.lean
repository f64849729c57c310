/- What the functions of the program and of the document compute, for every input (part 4); conditions as in the statements. -/
import Derived.Test.YtlnaeofgmkmfdaaGreatDoorC3
import Derived.Test.YtlnaeofgmkmfdaaGreatDoorS2
noncomputable section
set_option linter.all false
namespace Go.an.a7
open Go.an
set_option maxRecDepth 100000
set_option maxHeartbeats 4000000
instance:Coe C4 eE:=⟨C4.K⟩
def PH:bU where
 L:=cz×Nat×gM
 args:=fun(p,i,n)=>[jc p,.i .i64 (i:Int)]
 pre:=fun(p,i,n)=>p.bs[i]? =some n∧n.v.length<=2000
 res:=fun(p,i,n)=>.i .i64 (vl p i n)
def arY:bD aX.ctx 148 PH.spec:=by
 refine b3 [(261,Ao.spec),(262,ac7.spec),(150,tW.spec),(263,aaV.spec),(264,aa5.spec),(265,xK.spec)] Ur.1 ?_;intro⟨p,i,n⟩ ⟨hj,aE⟩ H aN;have a6:∀{c:Int},vl p i n=c->b7 (.i .i64 c) (PH.res (p,i,n)):=fun h=>.of (by rw[<-h];rfl);refine J ?_;refine dv n hj ?_;refine J ?_;refine a9 Ap n.op trivial (av 16 ?_);by_cases I:1<=n.op∧n.op<=15
 case neg=>
  refine v1 16 (show rM n.op<0 by unfold rM;rw[zaa I];decide) (J ?_);exact aA rfl (a6 (zab (.inl I)))
 refine v0 16 (show¬rM n.op<0 by unfold rM;rw[zab I];omega) (J ?_);refine a9 au8 n I ?_;cases U:sa n with
 |false=>
  refine aB 19 (.b true) rfl (cA (by rw[U];rfl)) (J ?_);exact aA rfl (a6 (zab (.inr U)))
 |true=>
 refine aB 19 (.b false) rfl (cA (by rw[U];rfl)) ?_;have g1:¬(¬(1<=n.op∧n.op<=15)∨sa n=false):=fun h=>h.elim (fun h=>h I) (fun h=>Bool.noConfusion (U.symm.trans h));refine J ?_;refine a9 zH (n.f,(p.bJ.length:Int)) trivial ?_;by_cases ag:ka n.f p.bJ.length
 case neg=>
  refine ep 26 ag (J ?_);exact aA rfl (a6 ((zaa g1).trans (zab ag)))
 refine dS 26 ag ?_;have aP:¬¬ka n.f p.bJ.length:=fun h=>h ag;have e2:=fun{c} h=> @a6 c ((zaa g1).trans ((zaa aP).trans h));have f2:=fun{c} h=>((zaa g1).trans ((zaa aP).trans h):vl p i n=c);refine av 29 ?_
 iterate 3 refine iL ?_
 refine nH (L:=Unit) (fun _=>vl p i n=if(hT n).all (fun k=>xJ p i k)then 0 else 7) (fun _=>⟨[.c 27 (eS p),.c 137 (lV n)],2,[(1,.i .i64 (i:Int)),(2,.p 0 0),(4,.i .i64 0),(5,.p 1 0)]⟩) ?_ ?_
 ·clear a6;refine av 31 ?_;by_cases ae:n.op=1
  ·refine v1 31 ae (J ?_);refine a9 zH (n.a,(p.ins.length:Int)) trivial ?_;by_cases au:ka n.a p.ins.length
   case neg=>
    refine ep 37 au (J ?_);exact aA rfl (e2 (zab ⟨ae,au⟩))
   refine dS 37 au ?_;have bd:¬(n.op=1∧¬ka n.a p.ins.length):=fun h=>h.2 au;obtain⟨a,ha⟩:∃a:Nat,n.a=(a:Int):=⟨n.a.toNat,by have:=au.1;omega⟩;have uE:n.a.toNat=a:=by omega
   have lQ:a<p.ins.length:=by have:=au.2;omega
   refine av 42 ?_;refine eU 42 (.i .i64 (a:Int)) rfl rfl (by rw[ha]) ?_;refine J ?_;refine e3 p.ins[a] (bg lQ) ?_;refine av 48 ?_;by_cases a0:(p.ins[a]).f=n.f
   case neg=>
    refine dT 48 a0 (J ?_);exact aA rfl (e2 ((zaa bd).trans (zab ⟨ae,by rw[uE,bg lQ];simpa using a0⟩)))
   refine fi 48 (gH a0) (J ?_);refine br [0,1] () (f2 ((zaa bd).trans ((zaa ?_).trans ((zaa (by omega)).trans (zaa (by omega)))))) lj;rintro⟨_,h⟩;exact h (by rw[uE,bg lQ];simp[a0])
  ·refine v0 31 ae ?_;have f3:=fun{c} h=> @f2 c ((zaa (fun h=>ae h.1)).trans ((zaa (fun h=>ae h.1)).trans h));have b8:=fun{c} h=> @e2 c ((zaa (fun h=>ae h.1)).trans ((zaa (fun h=>ae h.1)).trans h));refine av 50 ?_;by_cases ah:n.op=2
   ·refine v1 50 ah (av 54 ?_);by_cases au:(i:Int)<p.head
    ·refine v1 54 au (J ?_);exact aA rfl (b8 (zab ⟨ah,.inl au⟩))
    refine v0 54 au (J ?_);refine a9 zH (n.a,(p.eX.length:Int)) trivial ?_;by_cases a0:ka n.a p.eX.length
    case neg=>
     refine ep 61 a0 (J ?_);exact aA rfl (b8 (zab ⟨ah,.inr a0⟩))
    refine dS 61 a0 (J ?_);exact br [0,1] () (f3 ((zaa (fun h=>h.2.elim au (fun h=>h a0))).trans (zaa (by omega)))) lj
   ·refine v0 50 ah ?_;have f4:=fun{c} h=> @f3 c ((zaa (fun h=>ah h.1)).trans h);have fa:=fun{c} h=> @b8 c ((zaa (fun h=>ah h.1)).trans h);refine av 65 ?_;by_cases hc:n.op=3
    ·refine v1 65 hc (J ?_);refine a9 arH n.v aE (J ?_);exact aA rfl (fa (zab hc))
    ·refine v0 65 hc (J ?_);exact br [0,1] () (f4 (zaa hc)) lj
 intro _ gP;have ab:=YB n;refine J ?_;refine a9 arR n I (J ?_);refine df (L:=Nat) (fun k=>k<=(hT n).length∧((hT n).take k).all (fun k=>xJ p i k)=true) (fun(k:Nat)=>⟨[.c 27 (eS p),.c 137 (lV n)],2,[(1,.i .i64 (i:Int)),(2,.p 0 0),(4,.i .i64 0),(6,.bq 1 Int ie (hT n)),(7,.i .i64 (k:Int))]⟩) (fun k=>(hT n).length-k) [0,1] 0 ⟨zaf _,rfl⟩ jk lj ?_;rintro(k:Nat) ⟨hI,ax⟩;refine av 74 ?_;by_cases hl:k<(hT n).length
 ·refine v1 74 (show(k:Int)<((hT n).length:Int) by omega) (J ?_);refine e3 (hT n)[k] (bg hl) ?_;refine J ?_;refine cq ar7 (p,(i:Int),(hT n)[k]) trivial ?_;cases ah:xJ p i (hT n)[k]with
  |false=>
   refine aB 83 (.b false) rfl (cA ah) (J ?_);refine aA rfl (a6 (gP.trans (zaa ?_)));intro h;rw[zaN]at h;have:=h _ (dp hl);rw[ah]at this;cases this
  |true=>
   refine aB 83 (.b true) rfl (cA ah) (av 76 ?_);refine eY 76 ((k+1:Nat):Int) (J ?_);exact br [0,1] (k+1) ⟨by omega,hl,by rw[zaP hl,zev,ax];simp[ah]⟩ lj
 ·refine v0 74 (show¬(k:Int)<((hT n).length:Int) by omega) (J ?_);exact aA rfl (a6 (gP.trans (zab (by rw[zau (by omega)]at ax;exact ax))))
def aeq{α:Type}{l:ac α}{q:α->Bool}{k:Nat}(ab:k<l.length)(h:(l.take k).any q=false)(U:q l[k]=false):(l.take (k+1)).any q=false:=by
 rw[zaP ab,List.any_append,h];simp[U]
def ar9:bD aX.ctx 149 vD.spec:=by
 refine b3 [(150,tW.spec)] Us.1 ?_;intro⟨p,i,s⟩ ⟨hj,hh,aV,hl⟩ H aN;have a6:∀{c:Int},CE p i s=c->b7 (.i .i64 c) (vD.res (p,i,s)):=fun h=>.of (by rw[<-h];rfl);refine J ?_;refine dv s hj ?_;refine J ?_;refine a9 zH (s.i,p.head) trivial ?_;by_cases I:0<=s.i∧s.i<p.head
 case neg=>
  refine ep 18 I (J ?_);exact aA rfl (a6 (zab (.inl I)))
 refine dS 18 I (J ?_);refine a9 zH (s.n,p.tail) trivial ?_;by_cases U:0<=s.n∧s.n<p.tail
 case neg=>
  refine ep 25 U (J ?_);exact aA rfl (a6 (zab (.inr U)))
 refine dS 25 U ?_;obtain⟨a,ha⟩:∃a:Nat,s.i=(a:Int):=⟨s.i.toNat,by omega⟩;obtain⟨b,hb⟩:∃b:Nat,s.n=(b:Int):=⟨s.n.toNat,by omega⟩;have uE:s.i.toNat=a:=by omega
 have jn:s.n.toNat=b:=by omega
 have lQ:a<p.bs.length:=by omega
 have n3:b<p.bs.length:=by omega
 have az:∀{c:Int},(if(p.bs[b]).f≠(p.bs[a]).f∨p.bs.any (kq i (p.bs[a]).f)=true then 143 else 0)=c->b7 (.i .i64 c) (vD.res (p,i,s)):=fun h=>a6 (by
  unfold CE;rw[zaa (fun h=>h.elim (fun h=>h I) (fun h=>h U)),uE,jn,bg lQ,bg n3];exact h)
 refine av 31 ?_;refine aB 31 (.i .i64 (a:Int)) rfl (by rw[ha]) ?_;refine dv p.bs[a] (bg lQ) ?_;refine av 38 ?_;refine aB 38 (.i .i64 (b:Int)) rfl (by rw[hb]) ?_;refine dv p.bs[b] (bg n3) ?_;refine av 43 ?_;by_cases ag:(p.bs[b]).f≠(p.bs[a]).f
 ·refine v1 43 ag (J ?_);exact aA rfl (az (zab (.inl ag)))
 refine v0 43 ag (J ?_);refine df (L:=Nat) (fun k=>k<=p.bs.length∧(p.bs.take k).any (kq i (p.bs[a]).f)=false) (fun(k:Nat)=>⟨[.c 27 (eS p)],1,[(1,.i .i64 (i:Int)),(2,.p 0 0),(6,.i .i64 (p.bs[a]).f),(7,.i .i64 (k:Int))]⟩) (fun k=>p.bs.length-k) [0] 0 ⟨zaf _,rfl⟩ jk dX ?_;rintro(k:Nat) ⟨hI,ax⟩;refine av 48 ?_;by_cases ab:k<p.bs.length
 ·refine v1 48 (show(k:Int)<(p.bs.length:Int) by omega) (J ?_);refine dv p.bs[k] (bg ab) ?_;have yO:kq i (p.bs[a]).f p.bs[k]=true->b7 (.i .i64 143) (vD.res (p,i,s)):=fun h=>az (zab (.inr (zcP.2 ⟨_,dp ab,h⟩)));have ri:kq i (p.bs[a]).f p.bs[k]=false->k+1<=p.bs.length∧(p.bs.take (k+1)).any (kq i (p.bs[a]).f)=false:=fun h=>⟨ab,aeq ab ax h⟩;refine av 58 ?_;by_cases cO:(p.bs[k]).op=2
  case neg=>
   refine v0 58 cO (av 50 ?_);refine eY 50 ((k+1:Nat):Int) (J ?_);exact br [0] (k+1) ⟨by omega,ri (by unfold kq;rw[zad cO];rfl)⟩ dX
  refine v1 58 cO (av 63 ?_);by_cases cS:(p.bs[k]).a=(i:Int)
  case neg=>
   refine v0 63 cS (av 50 ?_);refine eY 50 ((k+1:Nat):Int) (J ?_);exact br [0] (k+1) ⟨by omega,ri (by unfold kq;rw[zae cO,zad cS];rfl)⟩ dX
  refine v1 63 cS (av 69 ?_);by_cases et:(p.bs[k]).f≠(p.bs[a]).f
  ·refine v1 69 et (J ?_);exact aA rfl (yO (by unfold kq;rw[zae cO,zae cS,zae et];rfl))
  ·refine v0 69 et (av 50 ?_);refine eY 50 ((k+1:Nat):Int) (J ?_);exact br [0] (k+1) ⟨by omega,ri (by unfold kq;rw[zae cO,zae cS,zad et];rfl)⟩ dX
 ·refine v0 48 (show¬(k:Int)<(p.bs.length:Int) by omega) ?_;rw[zau (by omega)]at ax;refine J ?_;exact aA rfl (az (zaa (fun h=>h.elim ag (fun h=>Bool.noConfusion (ax.symm.trans h)))))
def JI:bU where
 L:=cz
 args:=fun p=>[jc p]
 pre:=sN
 res:=fun p=>Ax (dU p)
def arD:bD aX.ctx 67 JI.spec:=by
 refine b3 [(145,A4.spec),(146,JH.spec),(147,FE.spec),(148,PH.spec),(149,vD.spec),(150,tW.spec),(151,xI.spec)] Wu.1 ?_;intro(p:cz) ⟨cj,gP⟩ H aN;have a6:∀{c:Int×Int×Int},dU p=c->b7 (Ax c) (JI.res p):=fun h=>.of (by rw[<-h];rfl);refine J ?_;refine a9 av9 p trivial ?_;refine aB 15 (.i .i64 (qW p)) rfl rfl (av 17 ?_);by_cases aM:qW p=0
 case neg=>
  refine v1 17 aM (J ?_);exact aA rfl (a6 (zaa aM))
 refine v0 17 (gH aM) ?_;have az:∀{c:Int×Int×Int},ni p=c->b7 (Ax c) (JI.res p):=fun h=>a6 ((zab aM).trans h);obtain⟨fO,ja,se,EY,zc,Oi,apw⟩:=MH aM;refine J ?_;refine df (L:=Nat) (fun j=>j<=p.bJ.length∧fz (nV p) (p.bJ.drop j) j=fz (nV p) p.bJ 0) (fun(j:Nat)=>⟨[.c 27 (eS p)],1,[(1,.p 0 0),(6,.i .i64 (j:Int))]⟩) (fun j=>p.bJ.length-j) [0] 0 ⟨zaf _,rfl⟩ jk dX ?_;rintro(j:Nat) ⟨hR,ax⟩;refine av 23 ?_;by_cases hj:j<p.bJ.length
 ·refine v1 23 (show(j:Int)<(p.bJ.length:Int) by omega) (J ?_);rw[wH hj]at ax;refine dv p.bJ[j] (bg hj) ?_;refine J ?_;refine a9 aaU p.bJ[j] trivial ?_;refine aB 31 (.i .i64 (nV p j p.bJ[j])) rfl rfl (av 33 ?_);by_cases he:nV p j p.bJ[j]=0
  ·rw[zab he]at ax;refine v0 33 (gH he) (av 25 ?_);refine eY 25 ((j+1:Nat):Int) (J ?_);exact br [0] (j+1) ⟨by omega,hj,ax⟩ dX
  ·rw[zaa he]at ax;refine v1 33 he (J ?_);refine aA rfl (az (c:=(1,(j:Int),nV p j p.bJ[j])) ?_);unfold ni;simp only[<-ax]
 refine v0 23 (show¬(j:Int)<(p.bJ.length:Int) by omega) ?_;have I:fz (nV p) p.bJ 0=none:=by rw[<-ax,zaH (by omega)];rfl
 clear ax hj hR;refine J ?_;refine df (L:=Nat) (fun j=>j<=p.ins.length∧fz (nW p) (p.ins.drop j) j=fz (nW p) p.ins 0) (fun(j:Nat)=>⟨[.c 27 (eS p)],1,[(1,.p 0 0),(8,.i .i64 (j:Int))]⟩) (fun j=>p.ins.length-j) [0] 0 ⟨zaf _,rfl⟩ jk dX ?_;rintro(j:Nat) ⟨hR,ax⟩;refine av 40 ?_;by_cases hj:j<p.ins.length
 ·refine v1 40 (show(j:Int)<(p.ins.length:Int) by omega) (J ?_);rw[wH hj]at ax;refine e3 p.ins[j] (bg hj) ?_;refine J ?_;refine cq arN (p,p.ins[j]) (cj _ (dp hj)) ?_;refine aB 49 (.i .i64 (nW p j p.ins[j])) rfl rfl (av 51 ?_);by_cases he:nW p j p.ins[j]=0
  ·rw[zab he]at ax;refine v0 51 (gH he) (av 42 ?_);refine eY 42 ((j+1:Nat):Int) (J ?_);exact br [0] (j+1) ⟨by omega,hj,ax⟩ dX
  ·rw[zaa he]at ax;refine v1 51 he (J ?_);refine aA rfl (az (c:=(2,(j:Int),nW p j p.ins[j])) ?_);unfold ni;simp only[I,<-ax]
 refine v0 40 (show¬(j:Int)<(p.ins.length:Int) by omega) ?_;have U:fz (nW p) p.ins 0=none:=by rw[<-ax,zaH (by omega)];rfl
 clear ax hj hR;refine J ?_;refine df (L:=Nat) (fun j=>j<=p.bs.length∧fz (ox p) (p.bs.drop j) j=fz (ox p) p.bs 0) (fun(j:Nat)=>⟨[.c 27 (eS p)],1,[(1,.p 0 0),(10,.i .i64 (j:Int))]⟩) (fun j=>p.bs.length-j) [0] 0 ⟨zaf _,rfl⟩ jk dX ?_;rintro(j:Nat) ⟨hR,ax⟩;refine av 58 ?_;by_cases hj:j<p.bs.length
 ·refine v1 58 (show(j:Int)<(p.bs.length:Int) by omega) (J ?_);rw[wH hj]at ax;refine a9 arY (p,j,p.bs[j]) ⟨bg hj,gP _ (dp hj)⟩ ?_;refine aB 63 (.i .i64 (ox p j p.bs[j])) rfl rfl (av 65 ?_);by_cases he:ox p j p.bs[j]=0
  ·rw[zab he]at ax;refine v0 65 (gH he) (av 60 ?_);refine eY 60 ((j+1:Nat):Int) (J ?_);exact br [0] (j+1) ⟨by omega,hj,ax⟩ dX
  ·rw[zaa he]at ax;refine v1 65 he (J ?_);refine aA rfl (az (c:=(3,(j:Int),ox p j p.bs[j])) ?_);unfold ni;simp only[I,U,<-ax]
 refine v0 58 (show¬(j:Int)<(p.bs.length:Int) by omega) ?_;have ag:fz (ox p) p.bs 0=none:=by rw[<-ax,zaH (by omega)];rfl
 clear ax hj hR;refine J ?_;refine df (L:=Nat) (fun j=>j<=p.eX.length∧fz (oy p) (p.eX.drop j) j=fz (oy p) p.eX 0) (fun(j:Nat)=>⟨[.c 27 (eS p)],1,[(1,.p 0 0),(12,.i .i64 (j:Int))]⟩) (fun j=>p.eX.length-j) [0] 0 ⟨zaf _,rfl⟩ jk dX ?_;rintro(j:Nat) ⟨hR,ax⟩;refine av 72 ?_;by_cases hj:j<p.eX.length
 ·refine v1 72 (show(j:Int)<(p.eX.length:Int) by omega) (J ?_);rw[wH hj]at ax;refine a9 ar9 (p,j,p.eX[j]) ⟨bg hj,by omega,zc,by omega⟩ ?_;refine aB 77 (.i .i64 (oy p j p.eX[j])) rfl rfl (av 79 ?_);by_cases he:oy p j p.eX[j]=0
  ·rw[zab he]at ax;refine v0 79 (gH he) (av 74 ?_);refine eY 74 ((j+1:Nat):Int) (J ?_);exact br [0] (j+1) ⟨by omega,hj,ax⟩ dX
  ·rw[zaa he]at ax;refine v1 79 he (J ?_);refine aA rfl (az (c:=(4,(j:Int),oy p j p.eX[j])) ?_);unfold ni;simp only[I,U,ag,<-ax]
 refine v0 72 (show¬(j:Int)<(p.eX.length:Int) by omega) ?_;have au:fz (oy p) p.eX 0=none:=by rw[<-ax,zaH (by omega)];rfl
 clear ax hj hR;have cZ:ni p=if¬ka p.out p.bs.length∨gU p p.out=1 then(5,0,7)else(0,0,0):=by unfold ni;simp only[I,U,ag,au]
 refine J ?_;refine a9 zH (p.out,(p.bs.length:Int)) trivial ?_;by_cases cO:ka p.out p.bs.length
 case neg=>
  refine ep 87 cO (J ?_);exact aA rfl (az (c:=(5,0,7)) (cZ.trans (zab (.inl cO))))
 refine dS 87 cO (J ?_);refine a9 JN (p,p.out) trivial ?_;refine aB 93 (.i .i64 (gU p p.out)) rfl rfl (av 94 ?_);by_cases cS:gU p p.out=1
 ·refine v1 94 cS (J ?_);exact aA rfl (az (c:=(5,0,7)) (cZ.trans (zab (.inr cS))))
 ·refine v0 94 cS (J ?_);exact aA rfl (az (c:=(0,0,0)) (cZ.trans (zaa (fun h=>h.elim (fun h=>h cO) cS))))
def MJ:bU where
 L:=cz
 args:=fun p=>[jc p]
 pre:=sN
 res:=fun p=>.i .i64 (dU p).2.2
def WS:bD aX.ctx 26 MJ.spec:=by
 refine b3 [(67,JI.spec)] U9.1 ?_;intro(p:cz) hp H aN;refine J ?_;refine a9 arD p hp ?_;refine aB 8 (.bn [.i .i64 (dU p).1,.i .i64 (dU p).2.1,.i .i64 (dU p).2.2]) rfl rfl (J ?_);exact aA rfl (.of rfl)
def o6(l:ac nb):Nat:=(l.map fun x=>x.aK.length+x.ae.length).sum
def m7(l:ac gM):Nat:=(l.map fun n=>n.v.length).sum
def wb(p:cz):Prop:=100<(p.bJ.length:Int)∨100<(p.ins.length:Int)∨100<(p.bs.length:Int)∨100<(p.eX.length:Int)∨2000<((o6 p.ins+m7 p.bs:Nat):Int)
instance(p:cz):Decidable (wb p):=by unfold wb;infer_instance
def Ak(p:cz):Prop:=(∀x∈p.ins,x.aK.length<=140737488355328∧x.ae.length<=140737488355328)∧∀n∈p.bs,n.v.length<=140737488355328
def HM:bU where
 L:=cz
 args:=fun p=>[jc p]
 pre:=Ak
 res:=fun p=>.b (decide (wb p))
def alX:bD aX.ctx 78 HM.spec:=by
 refine b3 [] WG.1 ?_;intro(p:cz) ⟨cj,gP⟩ H aN;have yes:wb p->b7 (.b true) (HM.res p):=fun h=>.of (cA (zae h).symm);have no:¬wb p->b7 (.b false) (HM.res p):=fun h=>.of (cA (zad h).symm);refine av 9 ?_;by_cases I:100<(p.bJ.length:Int)
 ·refine v1 9 I (J ?_);exact aA rfl (yes (.inl I))
 refine v0 9 I (av 14 ?_);by_cases U:100<(p.ins.length:Int)
 ·refine v1 14 U (J ?_);exact aA rfl (yes (.inr (.inl U)))
 refine v0 14 U (av 20 ?_);by_cases ag:100<(p.bs.length:Int)
 ·refine v1 20 ag (J ?_);exact aA rfl (yes (.inr (.inr (.inl ag))))
 refine v0 20 ag (av 26 ?_);by_cases au:100<(p.eX.length:Int)
 ·refine v1 26 au (J ?_);exact aA rfl (yes (.inr (.inr (.inr (.inl au)))))
 refine v0 26 au (J ?_);refine df (L:=Nat×Nat) (fun(k,a)=>k<=p.ins.length∧a<=300000000000000*k∧a+o6 (p.ins.drop k)=o6 p.ins) (fun(k,a)=>⟨[.c 27 (eS p)],1,[(1,.p 0 0),(3,.i .i64 (a:Int)),(4,.i .i64 (k:Int))]⟩) (fun q=>p.ins.length-q.1) [0] (0,0) ⟨zaf _,zaf _,zas _⟩ jk dX ?_;rintro⟨k,a⟩ ⟨ab,hb,ax⟩;refine av 32 ?_;by_cases aT:k<p.ins.length
 ·refine v1 32 (show(k:Int)<(p.ins.length:Int) by omega) ?_;obtain⟨c1,dx⟩:=cj _ (dp aT);rw[hx aT]at ax;have ax:a+((p.ins[k].aK.length+p.ins[k].ae.length)+o6 (p.ins.drop (k+1)))=o6 p.ins:=ax;refine J ?_;refine e3 p.ins[k] (bg aT) ?_;refine av 43 ?_;refine ww 43 ((a+p.ins[k].aK.length:Nat):Int) ?_;refine J ?_;refine e3 p.ins[k] (bg aT) ?_;refine av 51 ?_;refine ww 51 ((a+p.ins[k].aK.length+p.ins[k].ae.length:Nat):Int) ?_;refine av 34 ?_;refine eY 34 ((k+1:Nat):Int) (J ?_);exact br [0] (k+1,a+p.ins[k].aK.length+p.ins[k].ae.length) ⟨by show _-(k+1)<_-k;omega,aT,by omega,by omega⟩ dX
 refine v0 32 (show¬(k:Int)<(p.ins.length:Int) by omega) ?_;rw[zaH (by omega)]at ax;have ax:a=o6 p.ins:=ax;have jm:o6 p.ins<=30000000000000000:=by omega
 rw[ax];refine J ?_;refine df (L:=Nat×Nat) (fun(k,a)=>k<=p.bs.length∧a<=30000000000000000+300000000000000*k∧a+m7 (p.bs.drop k)=o6 p.ins+m7 p.bs) (fun(k,a)=>⟨[.c 27 (eS p)],1,[(1,.p 0 0),(3,.i .i64 (a:Int)),(5,.i .i64 (k:Int))]⟩) (fun q=>p.bs.length-q.1) [0] (0,o6 p.ins) ⟨zaf _,by omega,rfl⟩ jk dX ?_;rintro⟨k,a⟩ ⟨ab,hb,ax⟩;refine av 56 ?_;by_cases aT:k<p.bs.length
 ·refine v1 56 (show(k:Int)<(p.bs.length:Int) by omega) ?_;have c1:=gP _ (dp aT);rw[hx aT]at ax;have ax:a+(p.bs[k].v.length+m7 (p.bs.drop (k+1)))=o6 p.ins+m7 p.bs:=ax;refine J ?_;refine dv p.bs[k] (bg aT) ?_;refine av 67 ?_;refine eY 67 ((a+p.bs[k].v.length:Nat):Int) (av 58 ?_);refine eY 58 ((k+1:Nat):Int) (J ?_);exact br [0] (k+1,a+p.bs[k].v.length) ⟨by show _-(k+1)<_-k;omega,aT,by omega,by omega⟩ dX
 refine v0 56 (show¬(k:Int)<(p.bs.length:Int) by omega) ?_;rw[zaH (by omega)]at ax;have ax:a=o6 p.ins+m7 p.bs:=ax;rw[ax];refine av 69 ?_;by_cases a0:2000<((o6 p.ins+m7 p.bs:Nat):Int)
 ·refine v1 69 a0 (J ?_);exact aA rfl (yes (.inr (.inr (.inr (.inr a0)))))
 ·refine v0 69 a0 (J ?_);exact aA rfl (no (fun h=>h.elim I fun h=>h.elim U fun h=>h.elim ag fun h=>h.elim au a0))
theorem adC:∀{l:ac nb} {x:nb},x∈l->x.aK.length+x.ae.length<=o6 l
 |y::l,x,h=>by
  show _<=(y.aK.length+y.ae.length)+o6 l;rcases zah.1 h with rfl|h
  ·omega
  ·have:=adC h;omega
theorem adD:∀{l:ac gM} {x:gM},x∈l->x.v.length<=m7 l
 |y::l,x,h=>by
  show _<=y.v.length+m7 l;rcases zah.1 h with rfl|h
  ·omega
  ·have:=adD h;omega
def acq{p:cz}(h:¬wb p):sN p:=by
 have a0:¬2000<((o6 p.ins+m7 p.bs:Nat):Int):=fun aG=>h (.inr (.inr (.inr (.inr aG))));exact⟨fun x aa=>by have:=adC aa;omega,fun n hn=>by have:=adD hn;omega⟩
def wo(p:cz):Int:=if(dU p).2.2=0 then 7 else(dU p).2.2
def SV:bU where
 L:=cz
 args:=fun p=>[jc p,.i .i64 (-1)]
 pre:=sN
 res:=fun p=>.bn [.i .i64 0,.i .i64 (wo p)]
def afX:bD aX.ctx 79 SV.spec:=by
 refine b3 [(26,MJ.spec)] WH.1 ?_;intro(p:cz) hp H aN;refine J ?_;refine a9 WS p hp ?_;refine aB 8 (.i .i64 (dU p).2.2) rfl rfl (av 10 ?_);by_cases h0:(dU p).2.2=0
 ·refine v1 10 h0 (av 13 ?_);refine v1 13 (show(-1:Int)<0 by decide) (av 20 ?_);refine v1 20 (show(7:Int)≠0 by decide) (J ?_);exact aA rfl (.of (by show _=aj.bn [.i .i64 0,.i .i64 (wo p)];unfold wo;rw[zab h0]))
 ·refine v0 10 h0 (av 20 ?_);refine v1 20 h0 (J ?_);exact aA rfl (.of (by show _=aj.bn [.i .i64 0,.i .i64 (wo p)];unfold wo;rw[zaa h0]))
def wc(p:cz):Prop:=wb p∨400<(m7 p.bs:Int)
instance(p:cz):Decidable (wc p):=by unfold wc;infer_instance
def HN:bU where
 L:=cz
 args:=fun p=>[.agg (eS p++[.nl,.i .i64 (-1)])]
 pre:=Ak
 res:=fun p=>.b (decide (wc p))
def alY:bD aX.ctx 37 HN.spec:=by
 refine b3 [(78,HM.spec),(79,SV.spec)] V1.1 ?_;intro(p:cz) hp H aN;have yes:wc p->b7 (.b true) (HN.res p):=fun h=>.of (cA (zae h).symm);have no:¬wc p->b7 (.b false) (HN.res p):=fun h=>.of (cA (zad h).symm);refine J ?_;refine a9 alX p hp ?_;by_cases I:wb p
 ·refine dS 10 I (J ?_);exact aA rfl (yes (.inl I))
 refine ep 10 I ?_;have Bs:=acq I;have hl:¬100<(p.bs.length:Int):=fun h=>I (.inr (.inr (.inl h)));refine av 15 ?_;refine v0 15 (show¬(20:Int)<0 by decide) (J ?_);refine df (L:=Nat×Nat) (fun(k,a)=>k<=p.bs.length∧a<=2000*k∧a+m7 (p.bs.drop k)=m7 p.bs) (fun(k,a)=>⟨[.c 109 (eS p++[aj.nl,aj.i .i64 (-1)])],1,[(1,.p 0 0),(3,.i .i64 (a:Int)),(4,.i .i64 (k:Int))]⟩) (fun q=>p.bs.length-q.1) [0] (0,0) ⟨zaf _,zaf _,zas _⟩ jk dX ?_;rintro⟨k,a⟩ ⟨ab,hb,ax⟩;refine av 22 ?_;by_cases aT:k<p.bs.length
 ·refine v1 22 (show(k:Int)<(p.bs.length:Int) by omega) ?_;have c1:=Bs.2 _ (dp aT);rw[hx aT]at ax;have ax:a+(p.bs[k].v.length+m7 (p.bs.drop (k+1)))=m7 p.bs:=ax;refine J ?_;refine dv p.bs[k] (bg aT) ?_;refine av 34 ?_;refine eY 34 ((a+p.bs[k].v.length:Nat):Int) (av 24 ?_);refine eY 24 ((k+1:Nat):Int) (J ?_);exact br [0] (k+1,a+p.bs[k].v.length) ⟨by show _-(k+1)<_-k;omega,aT,by omega,by omega⟩ dX
 refine v0 22 (show¬(k:Int)<(p.bs.length:Int) by omega) ?_;rw[zaH (by omega)]at ax;have ax:a=m7 p.bs:=ax;rw[ax];refine J ?_;refine df (L:=Unit) (fun _=>True) (fun _=>⟨[.c 109 (eS p++[aj.nl,aj.i .i64 (-1)])],1,[(1,.p 0 0),(3,.i .i64 (m7 p.bs:Int)),(5,.i .i64 0)]⟩) (fun _=>0) [0] () trivial jk dX ?_;intro _ _;refine av 39 ?_;refine v0 39 (show¬(0:Int)<0 by decide) (av 50 ?_);by_cases b5:400<(m7 p.bs:Int)
 ·refine v1 50 b5 (J ?_);exact aA rfl (yes (.inr b5))
 refine v0 50 b5 ?_;have hc:¬wo p=0:=by
  unfold wo;split
  ·decide
  ·assumption
 refine J ?_;refine a9 afX p Bs ?_;refine aB 56 (.bn [.i .i64 0,.i .i64 (wo p)]) rfl rfl (av 60 ?_);refine v0 60 hc (J ?_);exact aA rfl (no (fun h=>h.elim I b5))
def YI:bU where
 L:=cz
 args:=fun p=>[jc p]
 pre:=Ak
 res:=fun p=>.b (decide (wc p))
def apC:bD aX.ctx 12 YI.spec:=by
 refine b3 [(37,HN.spec)] T8.1 ?_;intro(p:cz) hp H aN;refine J ?_;refine a9 alY p hp (J ?_);exact aA rfl (.refl _)
structure ud where
 sT:ac ce
 FB:ac Int
def KC(t:ud):ac aj:=[.s t.sT,.cw 1 Int ie t.FB]
structure jN where
 sT:ac ce
 dy:Int
 lX:ac ud
def qq(s:jN):ac aj:=[.s s.sT,.i .i64 s.dy,.cw 2 ud KC s.lX]
structure kY where
 Qh:Int
 aK:ac ce
 ae:ac ce
 err:ac ce
 low:ac jN
 high:ac jN
def qL(c:kY):ac aj:=[.i .i64 c.Qh,.s c.aK,.s c.ae,.s c.err,.cw 3 jN qq c.low,.cw 3 jN qq c.high]
structure gX where
 kind:Int
 dy:Int
 cut:ac ce
 bI:ac kY
 st:ac kY
def sd(x:gX):ac aj:=[.i .i64 x.kind,.i .i64 x.dy,.s x.cut,.cw 6 kY qL x.bI,.cw 6 kY qL x.st]
structure ew where
 bt:ac gX
 aK:ac ce
 ae:ac ce
 err:ac ce
def h8(q:ew):ac aj:=[.bq 5 gX sd q.bt,.s q.aK,.s q.ae,.s q.err]
def wr(n:Int):Int:=IntKind.i64.wrap n
def CH(n:Int)(t:ud):Int:=wr (wr (wr (n+t.sT.length)+t.FB.length)+1)
def rA(n:Int)(s:jN):Int:=(s.lX.take 1000).foldl CH (wr (wr (n+s.sT.length)+1))
def xL(l:ac jN):Int:=(l.take 1000).foldl rA 0
def AA(n:Int)(c:kY):Int:=wr (wr (wr (wr (wr (wr (n+c.aK.length)+c.ae.length)+c.err.length)+1)+xL c.low)+xL c.high)
def sS(l:ac kY):Int:=(l.take 1000).foldl AA 0
def tF(s:jN):Bool:=decide (60<(s.lX.length:Int))
def rU(l:ac jN):Bool:= !((l.take 31).any tF)&&decide ((l.length:Int)<=30)
def qh(c:kY):Bool:= !rU c.low|| !rU c.high
def BD(x:gX):Prop:=100<(x.bI.length:Int)∨100<(x.st.length:Int)∨300<(x.cut.length:Int)∨6000<wr (sS x.bI+sS x.st)∨x.bI.any qh=true
instance(x:gX):Decidable (BD x):=by unfold BD;infer_instance
def tn(x:gX):Bool:=decide (BD x)
def u7(n:Int)(x:gX):Int:=wr (n+sS x.bI)
def uc:Nat:=140737488355328
def sO{α:Type}(w:Nat)(Q:α->Prop)(l:ac α):Prop:=l.length*w<=uc∧∀x∈l,Q x
def Ri(t:ud):Prop:=t.FB.length*8<=uc
def K6(s:jN):Prop:=sO 40 Ri s.lX
def K5(c:kY):Prop:=sO 48 K6 c.low∧sO 48 K6 c.high
def Rh(x:gX):Prop:=sO 104 K5 x.bI∧sO 104 K5 x.st
def aed(q:ew):Prop:=sO 80 Rh q.bt
variable{α:Type}{k:Nat}{q:ew}{x:Rat}{w:Nat}{y:Rat}{p:cz}{n:Nat}{l:ac α}{Q:α->Prop}
def sO.len(h:sO w Q l)(hw:1<=w:=by decide):l.length<=uc:=zag (zdL _ hw) h.1
def sO.get(h:sO w Q l)(ab:k<l.length):Q l[k]:=h.2 _ (dp ab)
def yv{α:Type}(f:α->α->Bool):ac α->ac α->Bool
 |[],[]=>true
 |x::a,y::b=>f x y&&yv f a b
 |_,_=>false
def ah7(m n:Int):Bool:=decide (m=n)
def Hs(s t:ud):Bool:=decide (s.sT=t.sT)&&yv ah7 s.FB t.FB
def Ty(s t:jN):Bool:=decide (s.sT=t.sT)&&(decide (s.dy=t.dy)&&yv Hs s.lX t.lX)
def Tw(x y:kY):Bool:=decide (x.Qh=y.Qh)&&(decide (x.aK=y.aK)&&(decide (x.ae=y.ae)&&(decide (x.err=y.err)&&(yv Ty x.low y.low&&yv Ty x.high y.high))))
def wE(x y:gX):Bool:=decide (x.kind=y.kind)&&(decide (x.dy=y.dy)&&(decide (x.cut=y.cut)&&(yv Tw x.bI y.bI&&yv Tw x.st y.st)))
def k1(r aK ae:ac ce)(e:Int):Int:=
 match cF r with
 |none=>6
 |some x=>match cF aK with
  |none=>6
  |some a=>if a<x then(match cF ae with
   |none=>6
   |some b=>if x<b then 0 else e)else e
def pS(q:ew):am ((Rat×Rat)×Rat):=
 match cF q.aK with
 |none=>none
 |some x=>match cF q.ae with
  |none=>none
  |some y=>match cF q.err with
   |none=>none
   |some z=>some ((x,y),z)
def afM(h:cF q.aK=none):pS q=none:=by unfold pS;rw[h]
def afN(I:cF q.aK=some x)(h:cF q.ae=none):pS q=none:=by unfold pS;rw[I,h]
def afO(I:cF q.aK=some x)(U:cF q.ae=some y)(h:cF q.err=none):pS q=none:=by unfold pS;rw[I,U,h]
def afP{z:Rat}(I:cF q.aK=some x)(U:cF q.ae=some y)(h:cF q.err=some z):pS q=some ((x,y),z):=by unfold pS;rw[I,U,h]
def aoQ(h:(dU p).2.2=0){x:nb}(aa:p.ins[k]? =some x):(cF x.aK).isSome=true∧(cF x.ae).isSome=true:=by
 have h:=SA h;unfold dU at h;split at h
 case isFalse aM=>exact absurd (congrArg (fun x:Int×Int×Int=>x.2.2) h) aM
 unfold ni at h;have z:∀{x y:Int×Int×Int},x=y->x.1=y.1:=fun h=>by rw[h]
 cases az:fz (nV p) p.bJ 0 with
 |some x=>rw[az]at h;have:=z h;simp at this
 |none=>
 rw[az]at h;cases e2:fz (nW p) p.ins 0 with
 |some x=>rw[e2]at h;have:=z h;simp at this
 |none=>
 have g:u3 p x=0:=TO e2 k x aa;unfold u3 at g;split at g
 ·split at g
  ·unfold rb at g;cases ha:cF x.aK with
   |none=>rw[ha]at g;cases g
   |some a=>
    cases hb:cF x.ae with
    |none=>rw[ha,hb]at g;cases g
    |some b=>exact⟨rfl,rfl⟩
  ·cases g
 ·cases g
def MI(h:(dU p).2.2=0):p.ins.length<=1000:=by
 have h:=SA h;unfold dU at h;split at h
 case isFalse aM=>exact absurd (congrArg (fun x:Int×Int×Int=>x.2.2) h) aM
 rename_i aM;have:=(MH aM).2.1;omega
def Dt(K:ac (Nat×eE)){f:co}(xf:cJ){S:PP}(h:∀l,S.pre l->∀H aN,S.hp H->aW.ok ⟨bH aS (bO aX.ctx (cn K)) (b0+1),b0+1,f,H,[],aN,Gw S l xf.res⟩ ⟨[],.c xf.body,⟨[],0,jB 0 (S.args l)⟩⟩)
 (aa:aS.get f=some xf:=by kernel_rfl) (hl:∀l,(S.args l).length<=xf.aI:=by exact fun _=>jw rfl):ou aX.ctx f S.spec:=agY aX.ek eM (cn K) aa hl h
def dL(c:Int):bi:=.iface 152 (.agg #[.int .i64 c])
def aqh(b:Bool)(c:Int):x4:=if b=true then .ret (.bn [])else .aQ (dL c)
def BV:PP where
 L:=Bool×Int
 args:=fun(b,c)=>[.b b,.i .i64 c]
 pre:=fun _=>True
 out:=fun(b,c)=>aqh b c
def gj:ou aX.ctx 30 BV.spec:=by
 refine Dt [] VC.1 ?_;rintro⟨b,c⟩ _ H aN _;cases b with
 |true=>
  refine J ?_;exact c8 (DV rfl rfl rfl (b7.refl _))
 |false=>
  refine J ?_;refine asq (.agg #[.int .i64 c]) ?_;refine ast ?_;refine J ?_;exact c8 (p2 rfl)
def aiN(c:Int):x4:=if c=0 then .ret (.bn [])else .aQ (dL c)
def Mp:PP where
 L:=Int
 args:=fun c=>[.i .i64 c]
 pre:=fun _=>True
 out:=aiN
def HA:ou aX.ctx 58 Mp.spec:=by
 refine Dt [(30,BV.spec)] Wr.1 ?_;intro(c:Int) _ H aN _;by_cases h:c=0
 ·refine J ?_;refine dS 3 h (J ?_);refine xE gj (true,c) trivial (.bn []) rfl (J ?_);exact c8 (DV rfl rfl (zab h) (b7.refl _))
 ·refine J ?_;refine ep 3 h (J ?_);refine tN gj (false,c) trivial (dL c) rfl ?_;refine J ?_;exact c8 (p2 (zaa h))
def vm(s:ac ce):x4:=match cF s with
 |some x=>.ret (dz x)
 |none=>.aQ (dL 6)
def Ff:PP where
 L:=ac ce
 args:=fun s=>[.s s]
 pre:=fun s=>s.length<=2000
 out:=vm
def m1:ou aX.ctx 31 Ff.spec:=by
 refine Dt [(71,Cy.spec),(58,Mp.spec)] VD.1 ?_;intro(s:ac ce) (ah:s.length<=2000) H aN _;cases h:cF s with
 |some x=>
  refine J ?_;refine a9 FU s ah ?_;refine aB 7 (.bn [dz x,.i .i64 0]) rfl (by show nC s=_;unfold nC;rw[h]) (J ?_);refine xE HA (0:Int) trivial (.bn []) rfl (J ?_);exact c8 (DV rfl rfl (show vm s= .ret (dz x) by unfold vm;rw[h]) (b7.refl _))
 |none=>
  refine J ?_;refine a9 FU s ah ?_;refine aB 7 (.bn [dz 0,.i .i64 6]) rfl (by show nC s=_;unfold nC;rw[h]) (J ?_);refine tN HA (6:Int) trivial (dL 6) rfl ?_;refine J ?_;exact c8 (p2 (show vm s= .aQ (dL 6) by unfold vm;rw[h]))
def KD(h:k<l.length)(hn:k<n):(l.take n).drop k=l[k]::(l.take n).drop (k+1):=by
 have aG:k<(l.take n).length:=by rw[zao];omega
 rw[zcI aG,zdG]
def xQ(h:¬(k<l.length∧k<n)):(l.take n).drop k=[]:=zaH (by rw[zao];omega)
def ne_of_lt(h:k<l.length):l≠[]:=fun e=>by rw[e]at h;exact zcr _ h
def TH:bU where
 L:=ac jN
 args:=fun l=>[.cw 3 jN qq l]
 pre:=fun _=>True
 res:=fun l=>.b (rU l)
def TI:bD aX.ctx 38 TH.spec:=by
 refine b3 [] V4.1 ?_;intro(l:ac jN) _ H aN;refine J ?_;refine df (L:=Nat) (fun k=>((l.take 31).drop k).any tF=(l.take 31).any tF) (fun(k:Nat)=>⟨[],0,[(0,.cw 3 jN qq l),(3,.i .i64 (k:Int))]⟩) (fun k=>31-k) [] 0 rfl (by show 31-0<b0+1;unfold b0;omega) dW ?_;rintro(k:Nat) ax;refine av 7 ?_;by_cases aT:k<l.length
 ·refine v1 7 (show(k:Int)<(l.length:Int) by omega) (av 10 ?_);by_cases aml:k<31
  ·refine v1 10 (show(k:Int)<31 by omega) ?_;rw[KD aT aml]at ax;have ax:(tF l[k]||((l.take 31).drop (k+1)).any tF)=(l.take 31).any tF:=ax;refine J ?_;refine pF 14 (.bq 3 jN qq l) rfl (.iQ (ne_of_lt aT)) ?_;refine dv l[k] (bg aT) ?_;refine av 20 ?_;by_cases hp:60<(l[k].lX.length:Int)
   ·refine v1 20 hp ?_;have hq:tF l[k]=true:=zae hp;rw[hq,zcO]at ax;refine J ?_;exact aA rfl (.of (by show aj.b false= .b (rU l);unfold rU;rw[<-ax];rfl))
   ·refine v0 20 hp ?_;have hq:tF l[k]=false:=zad hp;rw[hq,zew]at ax;refine av 13 ?_;refine eY 13 ((k+1:Nat):Int) (J ?_);exact br [] (k+1) ⟨by show 31-(k+1)<31-k;omega,ax⟩ dW
  ·refine v0 10 (show¬(k:Int)<31 by omega) ?_;rw[xQ (by omega)]at ax;have ax:false=(l.take 31).any tF:=ax;refine J ?_;exact aA rfl (.of (by show aj.b (decide ((l.length:Int)<=30))= .b (rU l);unfold rU;rw[<-ax];rfl))
 ·refine v0 7 (show¬(k:Int)<(l.length:Int) by omega) ?_;rw[xQ (by omega)]at ax;have ax:false=(l.take 31).any tF:=ax;refine J ?_;exact aA rfl (.of (by show aj.b (decide ((l.length:Int)<=30))= .b (rU l);unfold rU;rw[<-ax];rfl))
def acI:bU where
 L:=ac jN
 args:=fun l=>[.cw 3 jN qq l]
 pre:=fun _=>True
 res:=fun l=>.i .i64 (xL l)
def acJ:bD aX.ctx 39 acI.spec:=by
 refine b3 [] V6.1 ?_;intro(l:ac jN) _ H aN;refine J ?_;refine df (L:=Nat×Int) (fun(k,n)=>((l.take 1000).drop k).foldl rA n=xL l) (fun(k,n)=>⟨[],0,[(0,.cw 3 jN qq l),(3,.i .i64 n),(4,.i .i64 (k:Int))]⟩) (fun q=>1000-q.1) [] (0,0) rfl (by show 1000-0<b0+1;unfold b0;omega) dW ?_;rintro⟨k,n⟩ ax;have fin:((l.take 1000).drop k=[])->n=xL l:=fun h=>by
  have ax:((l.take 1000).drop k).foldl rA n=xL l:=ax;rw[h]at ax;exact ax
 refine av 9 ?_;by_cases aT:k<l.length
 ·refine v1 9 (show(k:Int)<(l.length:Int) by omega) (av 12 ?_);by_cases NQ:k<1000
  ·refine v1 12 (show(k:Int)<1000 by omega) ?_;have ax:((l.take 1000).drop k).foldl rA n=xL l:=ax;rw[KD aT NQ]at ax;have ax:((l.take 1000).drop (k+1)).foldl rA (rA n l[k])=xL l:=ax;refine J ?_;refine pF 17 (.bq 3 jN qq l) rfl (.iQ (ne_of_lt aT)) ?_;refine dv l[k] (bg aT) ?_;refine J ?_;refine df (L:=Nat×Int) (fun(j,m)=>((l[k].lX.take 1000).drop j).foldl CH m=rA n l[k]) (fun(j,m)=>⟨[],0,[(0,.cw 3 jN qq l),(3,.i .i64 m),(4,.i .i64 (k:Int)),(5,.i .i64 (j:Int))]⟩) (fun q=>1000-q.1) [] (0,wr (wr (n+l[k].sT.length)+1)) rfl (by show 1000-0<b0+1;unfold b0;omega) dW ?_;rintro⟨j,m⟩ hj;have hj:((l[k].lX.take 1000).drop j).foldl CH m=rA n l[k]:=hj;have up:((l[k].lX.take 1000).drop j=[])->m=rA n l[k]:=fun h=>by rw[h]at hj;exact hj
   refine J ?_;refine pF 26 (.bq 3 jN qq l) rfl (.iQ (ne_of_lt aT)) ?_;refine dv l[k] (bg aT) ?_;refine av 32 ?_;by_cases hR:j<l[k].lX.length
   ·refine v1 32 (show(j:Int)<(l[k].lX.length:Int) by omega) (av 35 ?_);by_cases ano:j<1000
    ·refine v1 35 (show(j:Int)<1000 by omega) ?_;rw[KD hR ano]at hj;have hj:((l[k].lX.take 1000).drop (j+1)).foldl CH (CH m l[k].lX[j])=rA n l[k]:=hj;refine J ?_;refine uq 40 (.bq 3 jN qq l) rfl rfl (.iQ (ne_of_lt aT)) ?_;refine e3 l[k] (bg aT) ?_;refine J ?_;refine uq 44 (.bq 2 ud KC l[k].lX) rfl rfl (.iQ (ne_of_lt hR)) ?_;refine e3 l[k].lX[j] (bg hR) ?_;refine J ?_;refine uq 51 (.bq 3 jN qq l) rfl rfl (.iQ (ne_of_lt aT)) ?_;refine e3 l[k] (bg aT) ?_;refine J ?_;refine uq 55 (.bq 2 ud KC l[k].lX) rfl rfl (.iQ (ne_of_lt hR)) ?_;refine e3 l[k].lX[j] (bg hR) ?_;refine av 38 ?_;refine eY 38 ((j+1:Nat):Int) (J ?_);exact br [] (j+1,CH m l[k].lX[j]) ⟨by show 1000-(j+1)<1000-j;omega,hj⟩ dW
    ·refine v0 35 (show¬(j:Int)<1000 by omega) ?_;rw[up (xQ (by omega))];refine av 15 ?_;refine eY 15 ((k+1:Nat):Int) (J ?_);exact br [] (k+1,rA n l[k]) ⟨by show 1000-(k+1)<1000-k;omega,ax⟩ dW
   ·refine v0 32 (show¬(j:Int)<(l[k].lX.length:Int) by omega) ?_;rw[up (xQ (by omega))];refine av 15 ?_;refine eY 15 ((k+1:Nat):Int) (J ?_);exact br [] (k+1,rA n l[k]) ⟨by show 1000-(k+1)<1000-k;omega,ax⟩ dW
  ·refine v0 12 (show¬(k:Int)<1000 by omega) ?_;rw[fin (xQ (by omega))];refine J ?_;exact aA rfl (.refl _)
 ·refine v0 9 (show¬(k:Int)<(l.length:Int) by omega) ?_;rw[fin (xQ (by omega))];refine J ?_;exact aA rfl (.refl _)
def LV:bU where
 L:=ac kY
 args:=fun l=>[.cw 6 kY qL l]
 pre:=fun _=>True
 res:=fun l=>.i .i64 (sS l)
def LW:bD aX.ctx 14 LV.spec:=by
 refine b3 [(39,acI.spec)] Uj.1 ?_;intro(l:ac kY) _ H aN;refine J ?_;refine df (L:=Nat×Int) (fun(k,n)=>((l.take 1000).drop k).foldl AA n=sS l) (fun(k,n)=>⟨[],0,[(0,.cw 6 kY qL l),(3,.i .i64 n),(4,.i .i64 (k:Int))]⟩) (fun q=>1000-q.1) [] (0,0) rfl (by show 1000-0<b0+1;unfold b0;omega) dW ?_;rintro⟨k,n⟩ ax;have ax:((l.take 1000).drop k).foldl AA n=sS l:=ax;have fin:((l.take 1000).drop k=[])->n=sS l:=fun h=>by rw[h]at ax;exact ax
 refine av 8 ?_;by_cases aT:k<l.length
 ·refine v1 8 (show(k:Int)<(l.length:Int) by omega) (av 11 ?_);by_cases NQ:k<1000
  ·refine v1 11 (show(k:Int)<1000 by omega) ?_;rw[KD aT NQ]at ax;have ax:((l.take 1000).drop (k+1)).foldl AA (AA n l[k])=sS l:=ax;refine J ?_;refine uq 38 (.bq 6 kY qL l) rfl rfl (.iQ (ne_of_lt aT)) ?_;refine e3 l[k] (bg aT) ?_;refine J ?_;refine cq acJ l[k].low trivial (J ?_);refine uq 45 (.bq 6 kY qL l) rfl rfl (.iQ (ne_of_lt aT)) ?_;refine e3 l[k] (bg aT) ?_;refine J ?_;refine cq acJ l[k].high trivial (J ?_);refine uq 16 (.bq 6 kY qL l) rfl rfl (.iQ (ne_of_lt aT)) ?_;refine e3 l[k] (bg aT) ?_;refine J ?_;refine uq 23 (.bq 6 kY qL l) rfl rfl (.iQ (ne_of_lt aT)) ?_;refine e3 l[k] (bg aT) ?_;refine J ?_;refine uq 30 (.bq 6 kY qL l) rfl rfl (.iQ (ne_of_lt aT)) ?_;refine e3 l[k] (bg aT) ?_;refine av 14 ?_;refine eY 14 ((k+1:Nat):Int) (J ?_);exact br [] (k+1,AA n l[k]) ⟨by show 1000-(k+1)<1000-k;omega,ax⟩ dW
  ·refine v0 11 (show¬(k:Int)<1000 by omega) ?_;rw[fin (xQ (by omega))];refine J ?_;exact aA rfl (.refl _)
 ·refine v0 8 (show¬(k:Int)<(l.length:Int) by omega) ?_;rw[fin (xQ (by omega))];refine J ?_;exact aA rfl (.refl _)
def HO:bU where
 L:=gX
 args:=fun x=>[.agg (sd x)]
 pre:=fun _=>True
 res:=fun x=>.b (tn x)
def alZ:bD aX.ctx 13 HO.spec:=by
 refine b3 [(14,LV.spec),(38,TH.spec)] Ue.1 ?_;intro(x:gX) _ H aN;have yes:BD x->b7 (.b true) (HO.res x):=fun h=>.of (cA (zae h).symm);have no:¬BD x->b7 (.b false) (HO.res x):=fun h=>.of (cA (zad h).symm);refine av 7 ?_;by_cases I:100<(x.bI.length:Int)
 ·refine dT 7 I (J ?_);exact aA rfl (yes (.inl I))
 refine fi 7 I (av 12 ?_);by_cases U:100<(x.st.length:Int)
 ·refine dT 12 U (J ?_);exact aA rfl (yes (.inr (.inl U)))
 refine fi 12 U (av 18 ?_);by_cases ag:300<(x.cut.length:Int)
 ·refine dT 18 ag (J ?_);exact aA rfl (yes (.inr (.inr (.inl ag))))
 refine fi 18 ag (J ?_);refine cq LW x.bI trivial (J ?_);refine cq LW x.st trivial (av 28 ?_);by_cases au:6000<wr (sS x.bI+sS x.st)
 ·refine v1 28 au (J ?_);exact aA rfl (yes (.inr (.inr (.inr (.inl au)))))
 refine v0 28 au (J ?_);refine df (L:=Nat) (fun k=>k<=x.bI.length∧(x.bI.drop k).any qh=x.bI.any qh) (fun(k:Nat)=>⟨[.c 51 (sd x)],1,[(1,.p 0 0),(3,.i .i64 (k:Int))]⟩) (fun k=>x.bI.length-k) [0] 0 ⟨zaf _,rfl⟩ jk dX ?_;rintro(k:Nat) ⟨ab,ax⟩;refine av 34 ?_;by_cases aT:k<x.bI.length
 ·refine v1 34 (show(k:Int)<(x.bI.length:Int) by omega) ?_;rw[hx aT]at ax;have ax:(qh x.bI[k]||(x.bI.drop (k+1)).any qh)=x.bI.any qh:=ax;refine J ?_;refine pF 38 (.bq 6 kY qL x.bI) rfl (.iQ (ne_of_lt aT)) ?_;refine dv x.bI[k] (bg aT) ?_;refine J ?_;refine a9 TI x.bI[k].low trivial ?_;cases af:rU x.bI[k].low with
  |false=>
   refine aB 43 (.b false) rfl (cA af) ?_;have hm:qh x.bI[k]=true:=by unfold qh;rw[af];rfl
   rw[hm,zcO]at ax;refine J ?_;exact aA rfl (yes (.inr (.inr (.inr (.inr ax.symm)))))
  |true=>
   refine aB 43 (.b true) rfl (cA af) (J ?_);refine pF 47 (.bq 6 kY qL x.bI) rfl (.iQ (ne_of_lt aT)) ?_;refine dv x.bI[k] (bg aT) ?_;refine J ?_;refine a9 TI x.bI[k].high trivial ?_;cases aM:rU x.bI[k].high with
   |false=>
    refine aB 52 (.b false) rfl (cA aM) ?_;have hm:qh x.bI[k]=true:=by unfold qh;rw[af,aM];rfl
    rw[hm,zcO]at ax;refine J ?_;exact aA rfl (yes (.inr (.inr (.inr (.inr ax.symm)))))
   |true=>
    refine aB 52 (.b true) rfl (cA aM) ?_;have hm:qh x.bI[k]=false:=by unfold qh;rw[af,aM];rfl
    rw[hm,zew]at ax;refine av 36 ?_;refine eY 36 ((k+1:Nat):Int) (J ?_);exact br [0] (k+1) ⟨by show _-(k+1)<_-k;omega,aT,ax⟩ dX
 refine v0 34 (show¬(k:Int)<(x.bI.length:Int) by omega) ?_;rw[zaH (by omega)]at ax;have ax:false=x.bI.any qh:=ax;refine J ?_;exact aA rfl (no (fun h=>h.elim I fun h=>h.elim U fun h=>h.elim ag fun h=>h.elim au fun h=>by rw[<-ax]at h;cases h))
def zj(p:cz)(q:ew):Prop:=wc p∨20<(q.bt.length:Int)∨300<(q.aK.length:Int)∨300<(q.ae.length:Int)∨300<(q.err.length:Int)∨q.bt.any tn=true∨12000<q.bt.foldl u7 0
variable{s:ac ce}
instance(p:cz)(q:ew):Decidable (zj p q):=by unfold zj;infer_instance
def IN:bU where
 L:=cz×ew
 args:=fun(p,q)=>[.agg (eS p++h8 q)]
 pre:=fun(p,q)=>Ak p
 res:=fun(p,q)=>.b (decide (zj p q))
def apA:bD aX.ctx 4 IN.spec:=by
 refine b3 [(12,YI.spec),(13,HO.spec),(14,LV.spec)] cu.1 ?_;intro⟨p,q⟩ (hp:Ak p) H aN;have yes:zj p q->b7 (.b true) (IN.res (p,q)):=fun h=>.of (cA (zae h).symm);have no:¬zj p q->b7 (.b false) (IN.res (p,q)):=fun h=>.of (cA (zad h).symm);refine J ?_;refine a9 apC p hp ?_;by_cases I:wc p
 ·refine dS 7 I (J ?_);exact aA rfl (yes (.inl I))
 refine ep 7 I (av 13 ?_);by_cases U:20<(q.bt.length:Int)
 ·refine v1 13 U (J ?_);exact aA rfl (yes (.inr (.inl U)))
 refine v0 13 U (av 20 ?_);by_cases ag:300<(q.aK.length:Int)
 ·refine v1 20 ag (J ?_);exact aA rfl (yes (.inr (.inr (.inl ag))))
 refine v0 20 ag (av 27 ?_);by_cases au:300<(q.ae.length:Int)
 ·refine v1 27 au (J ?_);exact aA rfl (yes (.inr (.inr (.inr (.inl au)))))
 refine v0 27 au (av 34 ?_);by_cases a0:300<(q.err.length:Int)
 ·refine v1 34 a0 (J ?_);exact aA rfl (yes (.inr (.inr (.inr (.inr (.inl a0))))))
 refine v0 34 a0 (J ?_);refine df (L:=Nat×Int) (fun(k,n)=>k<=q.bt.length∧(q.bt.drop k).any tn=q.bt.any tn∧(q.bt.drop k).foldl u7 n=q.bt.foldl u7 0) (fun(k,n)=>⟨[.c 33 (eS p++h8 q)],1,[(1,.p 0 0),(3,.i .i64 n),(4,.i .i64 (k:Int))]⟩) (fun r=>q.bt.length-r.1) [0] (0,0) ⟨zaf _,rfl,rfl⟩ jk dX ?_;rintro⟨k,n⟩ ⟨ab,ax,hn⟩;refine av 41 ?_;by_cases aT:k<q.bt.length
 ·refine v1 41 (show(k:Int)<(q.bt.length:Int) by omega) ?_;rw[hx aT]at ax hn;have ax:(tn q.bt[k]||(q.bt.drop (k+1)).any tn)=q.bt.any tn:=ax;have hn:(q.bt.drop (k+1)).foldl u7 (u7 n q.bt[k])=q.bt.foldl u7 0:=hn;refine J ?_;refine dv q.bt[k] (bg aT) ?_;refine J ?_;refine a9 alZ q.bt[k] trivial ?_;cases aM:tn q.bt[k]with
  |true=>
   refine aB 50 (.b true) rfl (cA aM) ?_;rw[aM,zcO]at ax;refine J ?_;exact aA rfl (yes (.inr (.inr (.inr (.inr (.inr (.inl ax.symm)))))))
  |false=>
   refine aB 50 (.b false) rfl (cA aM) ?_;rw[aM,zew]at ax;refine J ?_;refine dv q.bt[k] (bg aT) ?_;refine J ?_;refine a9 LW q.bt[k].bI trivial (av 43 ?_);refine eY 43 ((k+1:Nat):Int) (J ?_);exact br [0] (k+1,u7 n q.bt[k]) ⟨by show _-(k+1)<_-k;omega,aT,ax,hn⟩ dX
 refine v0 41 (show¬(k:Int)<(q.bt.length:Int) by omega) ?_;rw[zaH (by omega)]at ax hn;have ax:false=q.bt.any tn:=ax;have hn:n=q.bt.foldl u7 0:=hn;rw[hn];refine av 62 ?_;by_cases b5:12000<q.bt.foldl u7 0
 ·refine v1 62 b5 (J ?_);exact aA rfl (yes (.inr (.inr (.inr (.inr (.inr (.inr b5)))))))
 ·refine v0 62 b5 (J ?_);exact aA rfl (no (fun h=>h.elim I fun h=>h.elim U fun h=>h.elim ag fun h=>h.elim au fun h=>h.elim a0 fun h=>h.elim (fun h=>by rw[<-ax]at h;cases h) b5))
def G2:ej x y<0↔x<y:=by
 unfold ej;by_cases h:x<y
 ·rw[zab h];exact⟨fun _=>h,fun _=>by decide⟩
 ·rw[zaa h];by_cases aG:x=y
  ·rw[zab aG];exact⟨fun h=>absurd h (by decide),fun g=>absurd g h⟩
  ·rw[zaa aG];exact⟨fun h=>absurd h (by decide),fun g=>absurd g h⟩
def tx(h:cF s=some x):vm s= .ret (dz x):=by unfold vm;rw[h]
def xl(h:cF s=none):vm s= .aQ (dL 6):=by unfold vm;rw[h]
def ng(r aK ae:ac ce)(e:Int):x4:=
 match cF r with
 |none=>.aQ (dL 6)
 |some x=>match cF aK with
  |none=>.aQ (dL 6)
  |some a=>if a<x then(match cF ae with
   |none=>.aQ (dL 6)
   |some b=>if x<b then .ret (.bn [])else .aQ (dL e))else .aQ (dL e)
def Sm:PP where
 L:=ac ce×ac ce×ac ce×Int
 args:=fun(r,aK,ae,e)=>[.s r,.agg [.s aK,.s ae],.i .i64 e]
 pre:=fun(r,aK,ae,e)=>r.length<=2000∧aK.length<=2000∧ae.length<=2000
 out:=fun(r,aK,ae,e)=>ng r aK ae e
def GV:ou aX.ctx 143 Sm.spec:=by
 refine Dt [(31,Ff.spec),(72,Cq.spec),(30,BV.spec)] Um.1 ?_;intro⟨r,aK,ae,e⟩ ⟨I,U,ag⟩ H aN _;cases aD:cF r with
 |none=>
  refine J ?_;refine tN m1 r I (dL 6) (xl aD) ?_;refine J ?_;exact c8 (p2 (by show ng r aK ae e=_;unfold ng;rw[aD]))
 |some x=>
 refine J ?_;refine xE m1 r I (dz x) (tx aD) (J ?_);cases ha:cF aK with
 |none=>
  refine ij m1 aK U (dL 6) (xl ha) ?_;refine J ?_;exact c8 (p2 (by show ng r aK ae e=_;unfold ng;rw[aD,ha]))
 |some a=>
 refine lM m1 aK U (dz a) (tx ha) (J ?_);refine cq zN (a,x) ⟨lU (so U ha),lU (so I aD)⟩ ?_;by_cases A9:a<x
 case neg=>
  refine J ?_;refine aB 15 (.b false) rfl (cA (zad (fun g=>A9 (G2.1 g)))) (J ?_);refine ij gj (false,e) trivial (dL e) rfl ?_;refine J ?_;exact c8 (p2 (by show ng r aK ae e=_;unfold ng;rw[aD,ha];exact zaa A9))
 refine J ?_;refine aB 15 (.b true) rfl (cA (zae (G2.2 A9))) (J ?_);cases hb:cF ae with
 |none=>
  refine ij m1 ae ag (dL 6) (xl hb) ?_;refine J ?_;exact c8 (p2 (by show ng r aK ae e=_;unfold ng;rw[aD,ha];simp only[zab A9,hb]))
 |some b=>
 refine lM m1 ae ag (dz b) (tx hb) (J ?_);refine cq zN (x,b) ⟨lU (so I aD),lU (so ag hb)⟩ ?_;by_cases Iw:x<b
 case neg=>
  refine J ?_;refine aB 22 (.b false) rfl (cA (zad (fun g=>Iw (G2.1 g)))) (J ?_);refine ij gj (false,e) trivial (dL e) rfl ?_;refine J ?_;exact c8 (p2 (by show ng r aK ae e=_;unfold ng;rw[aD,ha];simp only[zab A9,hb,zaa Iw]))
 refine J ?_;refine aB 22 (.b true) rfl (cA (zae (G2.2 Iw))) (J ?_);refine lM gj (true,e) trivial (.bn []) rfl (J ?_);exact c8 (DV rfl rfl (by show ng r aK ae e=_;unfold ng;rw[aD,ha];simp only[zab A9,hb,zab Iw]) (.refl _))
def au5{own:ac aY}{p:Nat}{e bS:bQ}{m:Nat}{o q:aY}(h:kZ [0,m] bS e)(al:∃a8,own[0]? =some a8∧gm [0,m] o a8)(hq:∃a8,own[m]? =some a8∧gm [0,m] q a8)(hm:0<m:=by decide)(hp:pinned p [0,m] 0=true:=by rfl):Sub p [0,m] ⟨own,n,e⟩ ⟨[o,q],2,bS⟩:=⟨by simp;omega,rfl,⟨al,hq,trivial⟩,h,hp⟩
abbrev bZ:=ac ce×ac ce
variable{r aK ae:ac ce}{e:Int}
def eu(x:bZ):ac aj:=[.s x.1,.s x.2]
def jJ(p:cz):ac bZ:=p.ins.map fun x=>(x.aK,x.ae)
def as5(p:cz):Nat×ac bZ->cB
 |(k,[])=>⟨[.c 27 (eS p)],1,[(1,.p 0 0),(2,.nl),(6,.bq 3 nb BC p.ins),(7,.i .i64 (p.ins.length:Int)),(8,.i .i64 (k:Int))]⟩
 |(k,d::ds)=>⟨[.c 27 (eS p),.a 68 true 2 bZ eu (d::ds)],2,[(1,.p 0 0),(2,.a5 1 2 0 (ds.length+1) (ds.length+1)),(6,.bq 3 nb BC p.ins),(7,.i .i64 (p.ins.length:Int)),(8,.i .i64 (k:Int))]⟩
def abX:bU where
 L:=cz
 args:=fun p=>[jc p]
 pre:=fun p=>p.ins.length<=1000
 res:=fun p=>.bq 2 bZ eu (jJ p)
def asT:bD aX.ctx 66 abX.spec:=by
 refine b3 [] Wt.1 ?_;intro(p:cz) (hl:p.ins.length<=1000) H aN;have q4:(jJ p).length=p.ins.length:=zbB ..;refine J ?_;refine df (L:=Nat×ac bZ) (fun(k,l)=>k<=p.ins.length∧l=(jJ p).take k) (as5 p) (fun l=>p.ins.length-l.1) [0] (0,[]) ⟨zaf _,rfl⟩ jk dX ?_;rintro⟨k,l⟩ ⟨ab,ax⟩;have q3:l.length=k:=by rw[ax,zao];omega
 by_cases aT:k<p.ins.length
 ·have r2:k<(jJ p).length:=q4.symm▸aT;have aM:(jJ p)[k]=(p.ins[k].aK,p.ins[k].ae):=zcp ..;have eJ:(jJ p).take (k+1)=l++[(p.ins[k].aK,p.ins[k].ae)]:=by rw[zaP r2,aM,<-ax]
  cases l with
  |nil=>
   refine av 9 ?_;refine v1 9 (show(k:Int)<(p.ins.length:Int) by omega) (J ?_);refine dv p.ins[k] (bg aT) ?_;refine J ?_;refine FL eu [(p.ins[k].aK,p.ins[k].ae)] (h9 (R:=eu) [(p.ins[k].aK,p.ins[k].ae)] rfl) ?_;refine av 20 ?_;refine eY 20 ((k+1:Nat):Int) (J ?_);exact br [0,3] (k+1,[(p.ins[k].aK,p.ins[k].ae)]) ⟨by show _-(k+1)<_-k;omega,aT,eJ.symm⟩ lj
  |cons d ds=>
   have iT:ds.length+1=k:=q3;refine av 9 ?_;refine v1 9 (show(k:Int)<(p.ins.length:Int) by omega) (J ?_);refine dv p.ins[k] (bg aT) ?_;refine J ?_;refine FK (R:=eu) [(p.ins[k].aK,p.ins[k].ae)] (h9 (R:=eu) [(p.ins[k].aK,p.ins[k].ae)] rfl) ?_;refine av 20 ?_;refine eY 20 ((k+1:Nat):Int) (J ?_);exact br [0,4] (k+1,d::(ds++[(p.ins[k].aK,p.ins[k].ae)])) ⟨by show _-(k+1)<_-k;omega,aT,eJ.symm⟩ (au5 ⟨rfl,congrArg (fun k=>some (aj.a5 4 2 0 k k)) (by simp),rfl,rfl,rfl,trivial⟩ ⟨_,rfl,rfl⟩ ⟨_,rfl,rfl,fun _=>rfl⟩)
 ·rw[zau (by omega)]at ax;cases l with
  |nil=>
   refine av 9 ?_;refine v0 9 (show¬(k:Int)<(p.ins.length:Int) by omega) (J ?_);exact aA rfl (b7.nl.trans (.of (by show aj.bq 2 bZ eu []=aj.bq 2 bZ eu (jJ p);rw[<-ax])))
  |cons d ds=>
   refine av 9 ?_;refine v0 9 (show¬(k:Int)<(p.ins.length:Int) by omega) (av 2 ?_);refine iw 2 ?_;refine J ?_;exact aA rfl (.of (by show aj.bq 2 bZ eu (d::ds)=aj.bq 2 bZ eu (jJ p);rw[<-ax]))
def So(he:e≠0)(h:k1 r aK ae e=0):ng r aK ae e= .ret (.bn []):=by
 unfold k1 at h;unfold ng;cases aD:cF r with
 |none=>rw[aD]at h;cases h
 |some x=>
 rw[aD]at h;cases ha:cF aK with
 |none=>rw[ha]at h;cases h
 |some a=>
 rw[ha]at h;by_cases I:a<x
 ·simp only[zab I]at h⊢;cases hb:cF ae with
  |none=>rw[hb]at h;cases h
  |some b=>
   rw[hb]at h;by_cases U:x<b
   ·simp only[zab U]
   ·simp only[zaa U]at h;exact absurd h he
 ·simp only[zaa I]at h;exact absurd h he
def Sn(h:k1 r aK ae e≠0):ng r aK ae e= .aQ (dL (k1 r aK ae e)):=by
 revert h
 unfold k1 ng;cases aD:cF r with
 |none=>intro _;rfl
 |some x=>
 cases ha:cF aK with
 |none=>intro _;rfl
 |some a=>
 by_cases I:a<x
 ·simp only[zab I];cases hb:cF ae with
  |none=>intro _;rfl
  |some b=>
   by_cases U:x<b
   ·simp only[zab U];intro h;exact absurd rfl h
   ·simp only[zaa U];intro _;trivial
 ·simp only[zaa I];intro _;trivial
def GC(q:ew):Prop:=q.bt.length<=20∧q.aK.length<=2000∧q.ae.length<=2000∧q.err.length<=2000
section
open Sym
variable{aC:fp}{K:ac eN}{own aZ eo bN:ac aY}{aL bj ck back:Nat}{e a6:bQ}{d:Tmp}{ts:ac Tmp}{x i:bv}
end
def asB(h:x<y):¬y<x:=zcF.2 (Rat.le_of_lt h)
def asC(I:¬x<y)(U:¬y<x):x=y:=by
 have a:=zcF.1 I;have b:=zcF.1 U;exact Rat.le_antisymm b a
def SK:ej x y<=0↔¬y<x:=by
 unfold ej;by_cases h:x<y
 ·rw[zab h];exact⟨fun _ aG=>asB h aG,fun _=>by decide⟩
 ·rw[zaa h];by_cases aG:x=y
  ·rw[zab aG];exact⟨fun _=>aG▸Rat.lt_irrefl,fun _=>by decide⟩
  ·rw[zaa aG];exact⟨fun h=>absurd h (by decide),fun g=>absurd (asC h g) aG⟩
def SJ:0<=ej x y↔¬x<y:=by
 unfold ej;by_cases h:x<y
 ·rw[zab h];exact⟨fun h=>absurd h (by decide),fun g=>absurd h g⟩
 ·rw[zaa h];by_cases aG:x=y
  ·rw[zab aG];exact⟨fun _=>h,fun _=>by decide⟩
  ·rw[zaa aG];exact⟨fun _=>h,fun _=>by decide⟩
inductive vZ(B:Type)where
 |c5 (c:Int)
 |ok (j:Nat) (a:List Nat) (b:List B)
section
variable{jy B:Type}(c5:jy->B->Int)(bE:jy->Bool)(aK up:jy->B->B)(bt:ac jy)
def kS:Nat->Nat->B->vZ B
 |0,_,_=>.c5 170
 |f+1,i,x=>match bt[i]? with
  |none=>.c5 170
  |some t=>if c5 t x=0 then(if bE t=true then .ok (i+1) [i] [x]else match kS f (i+1) (aK t x)with
   |.c5 c=>.c5 c
   |.ok j a b=>match kS f j (up t x)with
    |.c5 c=>.c5 c
    |.ok k a' eR=>.ok k (a++a') (b++eR))else .c5 (c5 t x)
def mb:Nat->Nat->ac B->ac Nat->ac B->vZ B
 |0,i,w,a,b=>if w.length=0 then .ok i a b else .c5 170
 |_+1,_,[],_,_=>.c5 170
 |m+1,i,x::w,a,b=>match bt[i]? with
  |none=>.c5 170
  |some t=>if c5 t x=0 then(if bE t=true then mb m (i+1) w (a++[i]) (b++[x])else mb m (i+1) (aK t x::up t x::w) a b)else .c5 (c5 t x)
variable{c5 bE aK up bt}
theorem CK:∀{f i:Nat} {x:B} {j:Nat} {a:ac Nat} {b:ac B},kS c5 bE aK up bt f i x= .ok j a b->i<j∧j<=bt.length
 |0,_,_,_,_,_,h=>by cases h
 |f+1,i,x,j,a,b,h=>by
  unfold kS at h;split at h
  ·cases h
  rename_i t aV;have ae:=(zac.1 aV).1;split at h
  ·split at h
   ·cases h;omega
   ·split at h
    ·cases h
    ·rename_i u9 eW c1 I;split at h
     ·cases h
     ·rename_i k eQ dx U;cases h;have:=CK I;have:=CK U;omega
  ·cases h
theorem MK:∀(f:Nat) {i m:Nat} {x:B} {w:ac B} {a:ac Nat} {b:ac B},i+m=bt.length->m<f->mb c5 bE aK up bt m i (x::w) a b=(match kS c5 bE aK up bt f i x with
 |.c5 c=>.c5 c
 |.ok j a' eR=>mb c5 bE aK up bt (bt.length-j) j w (a++a') (b++eR))
 |0,_,m,_,_,_,_,_,h=>absurd h (zcr _)
 |f+1,i,0,x,w,a,b,hm,_=>by
  have h:bt[i]? =none:=zbq (by omega);unfold kS;rw[h];rfl
 |f+1,i,m+1,x,w,a,b,hm,af=>by
  obtain⟨t,aV⟩:∃t,bt[i]? =some t:=⟨_,zcf (by omega)⟩;unfold kS;rw[mb,aV];by_cases he:c5 t x=0
  ·by_cases hl:bE t=true
   ·simp only[zab he,zab hl];have:bt.length-(i+1)=m:=by omega
    rw[this]
   ·simp only[zab he,zaa hl];rw[MK f (by omega) (by omega)];cases I:kS c5 bE aK up bt f (i+1) (aK t x)with
    |c5 c=>rfl
    |ok j eW c1=>
     have hj:=CK I;show mb c5 bE aK up bt (bt.length-j) j (up t x::w) (a++eW) (b++c1)=_;rw[MK f (by omega) (by omega)];cases U:kS c5 bE aK up bt f j (up t x)with
     |c5 c=>simp only[U]
     |ok k eQ dx=>
      simp only[U];show mb c5 bE aK up bt _ k w (a++eW++eQ) (b++c1++dx)=mb c5 bE aK up bt _ k w (a++(eW++eQ)) (b++(c1++dx));rw[zbF,zbF]
  ·simp only[zaa he]
def xd(c5:jy->B->Int)(bE:jy->Bool)(aK up:jy->B->B)(bt:ac jy)(x:B):vZ B:=match kS c5 bE aK up bt (bt.length+1) 0 x with
 |.c5 c=>.c5 c
 |.ok j a b=>if j=bt.length then .ok j a b else .c5 170
def al0(x:B):mb c5 bE aK up bt bt.length 0 [x] [] []=xd c5 bE aK up bt x:=by
 rw[MK (bt.length+1) (zas _) (zbJ _)];unfold xd;cases h:kS c5 bE aK up bt (bt.length+1) 0 x with
 |c5 c=>rfl
 |ok j a b=>
  have hj:=CK h;show mb c5 bE aK up bt (bt.length-j) j [] a b=_;by_cases e:j=bt.length
  ·rw[e,zbZ];show mb c5 bE aK up bt 0 bt.length [] a b=if bt.length=bt.length then _ else _;rw[zab rfl];rfl
  ·obtain⟨m,hm⟩:∃m,bt.length-j=m+1:=⟨bt.length-j-1,by omega⟩;rw[hm];show vZ.c5 170=if j=bt.length then _ else _;rw[zaa e]
theorem QC{P:B->Prop}(hi:∀t x,t∈bt->c5 t x=0->bE t≠true->P x->P (aK t x)∧P (up t x)):∀{f i:Nat} {x:B} {j:Nat} {a:ac Nat} {b:ac B},P x->kS c5 bE aK up bt f i x= .ok j a b->(∀y∈b,P y)∧a.length=b.length
 |0,_,_,_,_,_,_,h=>by cases h
 |f+1,i,x,j,a,b,aa,h=>by
  unfold kS at h;split at h
  ·cases h
  rename_i t aV;split at h
  ·rename_i he;split at h
   ·cases h;exact⟨fun y aJ=>by rw[zex.1 aJ];exact aa,rfl⟩
   ·rename_i hl;obtain⟨hL,fW⟩:=hi t x (zal aV) he hl aa;split at h
    ·cases h
    ·rename_i u9 eW c1 I;split at h
     ·cases h
     ·rename_i k eQ dx U;cases h;obtain⟨cO,cS⟩:=QC hi hL I;obtain⟨et,kr⟩:=QC hi fW U;refine⟨fun y aJ=>(zbl.1 aJ).elim (cO y) (et y),by rw[zap,zap,cS,kr]⟩
  ·cases h
end
def gz(p:cz)(x:gX)(b:ac bZ):Int:=
 if x.kind=1 then(if x.dy=0∧x.cut=[]∧x.bI.length=p.bs.length∧x.st.length=p.eX.length then 0 else 170)
 else if x.kind=2∧x.bI=[]∧x.st=[]∧0<=x.dy∧x.dy<(p.ins.length:Int)then(match b[x.dy.toNat]? with
  |some s=>k1 x.cut s.1 s.2 170
  |none=>170)else 170
def gQ(x:gX)(b:ac bZ):ac bZ:=b.set x.dy.toNat (((b[x.dy.toNat]?).getD ([],[])).1,x.cut)
def g5(x:gX)(b:ac bZ):ac bZ:=b.set x.dy.toNat (x.cut,((b[x.dy.toNat]?).getD ([],[])).2)
def lS(x:gX):Bool:=decide (x.kind=1)
def mi(p:cz)(bt:ac gX):vZ (ac bZ):=xd (gz p) lS gQ g5 bt (jJ p)
def Af(s:bZ):Prop:=(cF s.1).isSome=true∧(cF s.2).isSome=true∧s.1.length<=2000∧s.2.length<=2000
def mz(p:cz)(b:ac bZ):Prop:=b.length=p.ins.length∧∀s∈b,Af s
variable{aZ:ac aY}{f:ac Nat}{b:ac bZ}{t:Nat}
def ace{P:α->Prop}{x:α}(h:∀y∈l,P y)(aa:P x):∀y∈l.set k x,P y:=fun y aJ=>(List.mem_or_eq_of_mem_set aJ).elim (h y) fun e=>e▸aa
def afj(he:e≠0)(h:k1 r aK ae e=0):(cF r).isSome=true:=by
 unfold k1 at h;cases aD:cF r with
 |none=>rw[aD]at h;cases h
 |some x=>rfl
def Oc{x:gX}(hb:b.length=p.ins.length)(h:gz p x b=0)(hl:lS x≠true):(x.kind=2∧x.bI=[]∧x.st=[])∧∃k:Nat,x.dy=(k:Int)∧∃ab:k<b.length,k1 x.cut b[k].1 b[k].2 170=0:=by
 have ab:x.kind≠1:=fun e=>hl (zae e);unfold gz at h;rw[zaa ab]at h;split at h
 ·rename_i hc;obtain⟨k,ab⟩:∃k:Nat,x.dy=(k:Int):=⟨x.dy.toNat,by omega⟩;have p9:k<b.length:=by omega
  have ah:b[x.dy.toNat]? =some b[k]:=by rw[ab,zbb];exact bg p9
  rw[ah]at h;exact⟨⟨hc.1,hc.2.1,hc.2.2.1⟩,k,ab,p9,h⟩
 ·exact absurd h (by decide)
def D6{x:gX}(hc:x.cut.length<=2000)(h:gz p x b=0)(hl:lS x≠true)(hb:mz p b):mz p (gQ x b)∧mz p (g5 x b):=by
 obtain⟨_,k,ab,p9,he⟩:=Oc hb.1 h hl;have ah:b[x.dy.toNat]? =some b[k]:=by rw[ab,zbb];exact bg p9
 obtain⟨s1,s2,sz,Ql⟩:=hb.2 _ (dp p9);have hp:=afj (by decide) he;refine⟨⟨by unfold gQ;rw[zbv];exact hb.1,ace hb.2 ?_⟩,⟨by unfold g5;rw[zbv];exact hb.1,ace hb.2 ?_⟩⟩
 ·rw[ah];exact⟨s1,hp,sz,hc⟩
 ·rw[ah];exact⟨hp,s2,hc,Ql⟩
def Qb(h:(dU p).2.2=0)(ah:sN p):mz p (jJ p):=by
 refine⟨zbB ..,fun s hm=> ?_⟩;obtain⟨x,aa,rfl⟩:=zbc.1 hm;obtain⟨k,ab⟩:=zaS.1 aa;obtain⟨I,U⟩:=aoQ h ab;exact⟨I,U,ah.1 x aa⟩
def apN{bt:ac gX}{c:Int}(h:mi p bt= .c5 c):c≠0:=by
 have aV:∀(f i:Nat) (x:ac bZ) (c:Int),kS (gz p) lS gQ g5 bt f i x= .c5 c->c≠0:=by
  intro f
  induction f with
  |zero=>intro i x c h;cases h;decide
  |succ f ba=>
   intro i x c h;unfold kS at h;split at h
   ·cases h;decide
   ·split at h
    ·split at h
     ·cases h
     ·split at h
      ·rename_i I;cases h;exact ba _ _ _ I
      ·split at h
       ·rename_i I;cases h;exact ba _ _ _ I
       ·cases h
    ·rename_i hn;cases h;exact hn
 unfold mi xd at h;split at h
 ·rename_i I;cases h;exact aV _ _ _ _ I
 ·split at h
  ·cases h
  ·cases h;decide
def l2(q:ew):Int:=match pS q with
 |some ((aK,ae),e)=>if ej aK ae<=0∧0<=e.num.sign then 0 else 171
 |none=>6
def gZ(p:cz)(q:ew):ac Nat×ac (ac bZ)×Int:=
 if(dU p).2.2=0 then(if l2 q=0 then(match mi p q.bt with
  |.c5 c=>([],[],c)
  |.ok _ a b=>(a,b,0))else([],[],l2 q))else([],[],(dU p).2.2)
def u4(s:bZ)(x:Rat):Bool:=match cF s.1,cF s.2 with
 |some aK,some ae=>decide (0<=ej x aK)&&decide (ej x ae<=0)
 |_,_=>false
def n6:ac bZ->ac Rat->Bool
 |[],_=>true
 |_::_,[]=>false
 |s::b,x::xs=>u4 s x&&n6 b xs
def kN:ac (ac ce)->am (ac Rat)
 |[]=>some []
 |r::l=>match cF r,kN l with
  |some x,some xs=>some (x::xs)
  |_,_=>none
def jG(xs:ac Rat):ac (ac bZ)->Nat->Int
 |[],_=> -1
 |b::l,k=>if n6 b xs=true then k else jG xs l (k+1)
def nm(p:cz)(q:ew)(ins:ac (ac ce)):Int×Int:=
 if(gZ p q).2.2=0 then(if ins.length=p.ins.length then(match kN ins with
  |some xs=>(match(gZ p q).1[(jG xs (gZ p q).2.1 0).toNat]? with
   |some i=>if 0<=jG xs (gZ p q).2.1 0 then((i:Int),0)else(0,7)
   |none=>(0,7))
  |none=>(0,6))else(0,2))else(0,(gZ p q).2.2)
def lk{own os:ac aY}{p aI:Nat}{e bS:bQ}(hp:pinned p f 0=true:=by rfl)(I:uf f own f os:=by repeat first|exact trivial|refine⟨⟨_,rfl,rfl⟩,?_⟩|refine⟨⟨_,rfl,rfl,fun _=>rfl⟩,?_⟩|refine⟨⟨_,rfl,trivial⟩,?_⟩)(U:kZ f bS e:=by repeat first|exact trivial|refine⟨rfl,?_⟩)(ay:f.Nodup:=by decide)(hl:aI=f.length:=by rfl):Sub p f ⟨own,n,e⟩ ⟨os,aI,bS⟩:=⟨ay,hl,I,U,hp⟩
def SX:vV where
 L:=ac bZ
 args:=fun l=>[.bq 2 bZ eu l]
 pre:=fun l=>l≠[]∧l.length<=1000000
 new:=fun l=>[.a 68 true 2 bZ eu l]
 res:=fun l=>.a5 0 2 0 l.length l.length
def SY:bD aX.ctx 259 SX.spec:=by
 refine afp [] U8.1 ?_;intro(l:ac bZ) ⟨hne,hl⟩ H aN _;refine J ?_;refine abG ?_ (fun h=>absurd h hne);refine J ?_;refine oi (z:=2) 0 eu ([]:ac bZ) ?_;refine pF 5 (.a5 0 2 0 0 0) rfl IQ ?_;refine J8 (R:=eu) l (tS rfl (fun _=>rfl) (fun _=>rfl)) l ?_ (h0:=hne) (Bo:=by have:=zbi.2 hne;omega);refine aB 7 (.a5 1 2 0 l.length l.length) rfl (by rw[zas]) (J ?_);exact c8 ⟨.inr rfl,[1],_,rfl,rfl,⟨by simp,rfl,⟨⟨_,rfl,rfl,fun _=>rfl⟩,trivial⟩,trivial,rfl⟩⟩
def Xf:bU where
 L:=ac bZ×gX
 args:=fun(b,x)=>[.bq 2 bZ eu b,.agg (sd x)]
 pre:=fun(b,x)=>b.length<=1000000∧∃k:Nat,x.dy=(k:Int)∧k<b.length
 res:=fun(b,x)=>.bn [.bq 2 bZ eu (gQ x b),.bq 2 bZ eu (g5 x b)]
def Xg:bD aX.ctx 144 Xf.spec:=by
 refine b3 [(259,SX.spec)] Un.1 ?_;intro⟨b,⟨cM,dy,cut,bI,st⟩⟩ ⟨hb,k,uP,ab⟩ H aN;have uP:dy=(k:Int):=uP;subst uP;have hne:b≠[]:=ne_of_lt ab;have aM:b[k]? =some b[k]:=bg ab;have az:gQ ⟨cM,(k:Int),cut,bI,st⟩ b=b.set k (b[k].1,cut):=by
  unfold gQ;show b.set (k:Int).toNat (((b[(k:Int).toNat]?).getD ([],[])).1,cut)=_;rw[zbb,aM];rfl
 have e2:g5 ⟨cM,(k:Int),cut,bI,st⟩ b=b.set k (cut,b[k].2):=by
  unfold g5;show b.set (k:Int).toNat (cut,((b[(k:Int).toNat]?).getD ([],[])).2)=_;rw[zbb,aM];rfl
 refine J ?_;refine abB SY b ⟨hne,hb⟩ ?_;refine J ?_;refine abB SY b ⟨hne,hb⟩ ?_;refine J ?_;refine AJ ?_;refine J ?_;refine S8 (b[k].1,cut) aM ?_;refine J ?_;refine AJ ?_;refine J ?_;refine S8 (cut,b[k].2) aM ?_;refine av 25 ?_;refine iw 24 ?_;refine iw 25 ?_;refine J ?_;exact aA rfl (.of (by show _=aj.bn _;rw[az,e2]))
def pT(aK ae c5:ac ce):x4:=match cF aK with
 |none=>.aQ (dL 6)
 |some x=>match cF ae with
  |none=>.aQ (dL 6)
  |some y=>match cF c5 with
   |none=>.aQ (dL 6)
   |some z=>if ej x y<=0∧0<=z.num.sign then .ret (.agg (hN x++(hN y++hN z)))else .aQ (dL 171)
def aaE:PP where
 L:=ac ce×ac ce×ac ce
 args:=fun(aK,ae,c5)=>[.agg [.i .i64 0,.s aK,.s ae,.s c5,.nl,.nl]]
 pre:=fun(aK,ae,c5)=>aK.length<=2000∧ae.length<=2000∧c5.length<=2000
 out:=fun(aK,ae,c5)=>pT aK ae c5
def aaF:ou aX.ctx 63 aaE.spec:=by
 refine Dt [(31,Ff.spec),(72,Cq.spec),(142,F1.spec),(30,BV.spec)] Ws.1 ?_;intro⟨aK,ae,c5⟩ ⟨I,U,ag⟩ H aN _;refine J ?_;cases ha:cF aK with
 |none=>
  refine ij m1 aK I (dL 6) (xl ha) ?_;refine J ?_;exact c8 (p2 (by show pT aK ae c5=_;unfold pT;rw[ha]))
 |some x=>
 refine lM m1 aK I (dz x) (tx ha) (J ?_);cases hb:cF ae with
 |none=>
  refine ij m1 ae U (dL 6) (xl hb) ?_;refine J ?_;exact c8 (p2 (by show pT aK ae c5=_;unfold pT;rw[ha,hb]))
 |some y=>
 refine lM m1 ae U (dz y) (tx hb) (J ?_);cases hc:cF c5 with
 |none=>
  refine ij m1 c5 ag (dL 6) (xl hc) ?_;refine J ?_;exact c8 (p2 (by show pT aK ae c5=_;unfold pT;rw[ha,hb,hc]))
 |some z=>
 refine lM m1 c5 ag (dz z) (tx hc) ?_;have Mb:pT aK ae c5=if ej x y<=0∧0<=z.num.sign then .ret (.agg (hN x++(hN y++hN z)))else .aQ (dL 171):=by unfold pT;rw[ha,hb,hc]
 refine J ?_;refine a9 zN (x,y) ⟨lU (so I ha),lU (so U hb)⟩ (av 22 ?_);by_cases au:ej x y<=0
 case neg=>
  refine v0 22 au (J ?_);refine tN gj (false,171) trivial (dL 171) rfl ?_;refine J ?_;exact c8 (p2 (Mb.trans (zaa fun h=>au h.1)))
 refine v1 22 au (J ?_);refine a9 F2 z trivial (av 27 ?_);by_cases a0:0<=z.num.sign
 case neg=>
  refine v0 27 a0 (J ?_);refine tN gj (false,171) trivial (dL 171) rfl ?_;refine J ?_;exact c8 (p2 (Mb.trans (zaa fun h=>a0 h.2)))
 refine v1 27 a0 (J ?_);refine xE gj (true,171) trivial (.bn []) rfl (J ?_);exact c8 (DV rfl rfl (Mb.trans (zab ⟨au,a0⟩)) (b7.refl _))
def Gu(own aZ:ac aY):ac Nat->Prop
 |[]=>True
 |j::r=>aZ[j]? =own[j]? ∧Gu own aZ r
def CU(g:ac Nat)(aZ:ac aY):ac Nat->ac aY->Prop
 |[],[]=>True
 |k::c2,o::os=>(∃a8,aZ[k]? =some a8∧qx g o a8)∧CU g aZ c2 os
 |_,_=>False
def Gu.get{own:ac aY}:∀{r:ac Nat} {j:Nat},Gu own aZ r->j∈r->aZ[j]? =own[j]?
 |k::r,j,⟨h,aG⟩,hj=>by
  rcases zah.1 hj with rfl|hj
  ·exact h
  ·exact aG.get hj
def CU.get{g:ac Nat}:∀{c2:ac Nat} {os:ac aY} {i k:Nat} {a8:aY},CU g aZ c2 os->c2[i]? =some k->aZ[k]? =some a8->∃o,os[i]? =some o∧qx g o a8
 |[],_,_,_,_,_,h,_=>by simp at h
 |_::_,[],_,_,_,h,_,_=>h.elim
 |k::c2,o::os,0,j,a8,⟨⟨q,I,U⟩,_⟩,ab,al=>by
  simp at ab;subst ab;rw[I]at al;cases al;exact⟨o,rfl,U⟩
 |k::c2,o::os,i+1,j,a8,⟨_,h⟩,ab,al=>CU.get (i:=i) h (by simpa using ab) al
def Ar{f own aZ os}(N:Nat)(g r:ac Nat)(U:Gu own aZ r)(ag:CU g aZ g os)(I:aZ.length+f.length=own.length+os.length:=by rfl)(hn:own.length=N:=by rfl)(aD:∀j,j<N->j∉f->j∈r:=by decide)(aM:p4 f N (os.length-f.length)=g:=by rfl):x3 f own aZ os:=by
 subst hn;subst aM;exact⟨I,fun j hj af=>U.get (aD j hj af),fun i k a8 ab al=>ag.get ab al⟩
def aat{o:ac aY}{s t:ci}{a b:aj}(I:o[0]? =some (aY.c s [a]))(U:o[1]? =some (aY.c t [b])):∀(i:Nat) (u:ci),[s,t][i]? =some u->∃a,o[i]? =some (aY.c u [a])
 |0,_,h=>by cases h;exact⟨_,I⟩
 |1,_,h=>by cases h;exact⟨_,U⟩
 |i+2,_,h=>by cases h
def Fx{s:Nat}{own:ac aY}(h:x6 [s,t] f own aZ)(ab:f[0]? =some k:=by rfl):∃w,aZ[k]? =some (aY.c s [.v w]):=(h.2.2 0 k ab).1 s rfl
def Fy{s:Nat}{own:ac aY}(h:x6 [s,t] f own aZ)(ab:f[1]? =some k:=by rfl):∃w,aZ[k]? =some (aY.c t [.v w]):=(h.2.2 1 k ab).1 t rfl
def wj{T m:Nat}(h:m=n):aY.c T [.a5 k 1 0 m m]=aY.c T [.a5 k 1 0 n n]:=by rw[h]
section
variable{p:cz}{bt:ac gX}{k i:Nat}{b:ac bZ}{x:gX}
variable{c:Int}{j:Nat}{a:ac Nat}{bh:ac (ac bZ)}
def ib(p:cz)(bt:ac gX)(k i:Nat)(b:ac bZ):vZ (ac bZ):=kS (gz p) lS gQ g5 bt k i b
def adu(h:¬i<bt.length):ib p bt k i b= .c5 170:=by
 cases k with
 |zero=>rfl
 |succ k=>unfold ib kS;rw[zbq (by omega)]
def l1(aa:bt[i]? =some x)(h:gz p x b=c)(hc:c≠0):ib p bt (k+1) i b= .c5 c:=by
 subst h;unfold ib kS;rw[aa];exact zaa hc
def adt(aa:bt[i]? =some x)(h:gz p x b=0)(hl:lS x=true):ib p bt (k+1) i b= .ok (i+1) [i] [b]:=by
 unfold ib kS;rw[aa];show(if gz p x b=0 then(if lS x=true then _ else _)else _)=_;rw[zab h,zab hl]
def adw(aa:bt[i]? =some x)(h:gz p x b=0)(hl:lS x≠true)(I:ib p bt k (i+1) (gQ x b)= .c5 c):ib p bt (k+1) i b= .c5 c:=by
 unfold ib at I⊢;unfold kS;rw[aa];simp only[zab h,zaa hl,I]
def adx(aa:bt[i]? =some x)(h:gz p x b=0)(hl:lS x≠true)(I:ib p bt k (i+1) (gQ x b)= .ok j a bh)(U:ib p bt k j (g5 x b)= .c5 c):ib p bt (k+1) i b= .c5 c:=by
 unfold ib at I U⊢;unfold kS;rw[aa];simp only[zab h,zaa hl,I,U]
def ady(aa:bt[i]? =some x)(h:gz p x b=0)(hl:lS x≠true)(I:ib p bt k (i+1) (gQ x b)= .ok j a bh){BE:Nat}{a':ac Nat}{Sl:ac (ac bZ)}(U:ib p bt k j (g5 x b)= .ok BE a' Sl):ib p bt (k+1) i b= .ok BE (a++a') (bh++Sl):=by
 unfold ib at I U⊢;unfold kS;rw[aa];simp only[zab h,zaa hl,I,U]
def adv(h:ib p bt k i b= .ok j a bh):i<j∧j<=bt.length:=CK h
theorem Ge:∀{k i:Nat} {b:ac bZ} {j:Nat} {a:ac Nat} {bh:ac (ac bZ)},ib p bt k i b= .ok j a bh->(a≠[]∧bh≠[])∧a.length+i<=j∧bh.length+i<=j
 |0,_,_,_,_,_,h=>by cases h
 |k+1,i,b,j,a,bh,h=>by
  unfold ib kS at h;split at h
  ·cases h
  ·split at h
   ·split at h
    ·cases h;exact⟨⟨List.cons_ne_nil _ _,List.cons_ne_nil _ _⟩,by simp;omega,by simp;omega⟩
    ·split at h
     ·cases h
     ·rename_i I;split at h
      ·cases h
      ·rename_i U;cases h;obtain⟨⟨hL,fW⟩,lf,aar⟩:=Ge I;obtain⟨_,et,kr⟩:=Ge U;exact⟨⟨fun e=>hL (zdC.1 e).1,fun e=>fW (zdC.1 e).1⟩,by rw[zap];omega,by rw[zap];omega⟩
   ·cases h
end
def iA(n:Nat):ac aj:=[.i .i64 (n:Int)]
def eP(b:ac bZ):ac aj:=[.bq 2 bZ eu b]
def av3(p:cz)(q:ew)(i:Nat):ac aj:=eS p++(h8 q++[.i .i64 (i:Int),.i .i64 0])
def Au:du:=(C.q (C.R [C.m 3 9]) (C.R [C.m 4 10]))
def Av:du:=(C.K 1 (C.d [C.D (C.l 11 1) [1],C.D (C.m 12 3) [3],C.A (C.bh 13 3 1 [C.jy] [(0,1,12)]) [12],C.E (C.ap 14 3 1 8 11 13),C.CW (C.l 15 2) 1 [2],C.CW (C.m 16 4) 1 [4],C.A (C.bh 17 69 1 [C.N] [(0,1,16)]) [16],C.E (C.ap 18 69 1 24 15 17),C.E (C.st 1 1 14),C.E (C.st 1 2 18)] [15,16,17] [0,0,2,7,0,0,32,127,255,511]))
abbrev nT:co->eE:=cn [(30,BV.spec),(58,Mp.spec),(143,Sm.spec),(66,abX.spec),(144,Xf.spec),(63,aaE.spec),(57,GY.spec)]
abbrev yf(n k:Nat):aY:=.c 37 [.a5 k 1 0 n n]
abbrev ye(n k:Nat):aY:=.c 38 [.a5 k 1 0 n n]
abbrev yc(A:ac Nat):aY:=.a 3 true 1 Nat iA A
abbrev yb(B:ac (ac bZ)):aY:=.a 69 true 1 (ac bZ) eP B
abbrev pA(p:cz)(q:ew)(i:Nat):aY:=.c 79 (av3 p q i)
def Pg(p:cz)(q:ew)(i:Nat):ac aY:=[.c 37 [.nl],.c 38 [.nl],pA p q i]
def zA(p:cz)(q:ew)(i:Nat)(A:ac Nat)(B:ac (ac bZ)):ac aY:=[yf A.length 3,ye B.length 4,pA p q i,yc A,yb B]
def Mo(p:cz)(q:ew)(i:Nat)(A:ac Nat)(B:ac (ac bZ)):ac aY:=[yf A.length 5,ye B.length 6,pA p q i,.x,.x,yc A,yb B]
theorem Qy{p:cz}{q:ew}(hq:∀x∈q.bt,x.cut.length<=2000)(hp:p.ins.length<=1000)(hn:q.bt.length<=1000):∀(k:Nat) {m:Nat} {H:bm} {i1:ac Nat} {s1:ar} {l h2:Nat} {jK:aq bi} {i:Nat} {dO:ac bZ} {A:ac Nat} {B:ac (ac bZ)} {f:ac Nat} {own:ac aY} {N:aj->ac aY->Prop} {P:bi->ac aY->Prop},
 k+3<=m->rH l 23 jK [9,10] Au Av h2 [(1,.p 0 0),(2,.p 1 0)] H i1 s1->i1.length=5->q.bt.length<k+i->mz p dO->A≠[]->B≠[]->A.length<=i->B.length<=i->(∀j a b,ib p q.bt k i dO= .ok j a b->∃aZ,x3 f own aZ (Mo p q j (A++a) (B++b))∧N (.b true) aZ)->
 (∀c,ib p q.bt k i dO= .c5 c->∀aZ,x6 [37,38] f own aZ->P (dL c) aZ)->
 aW.ok ⟨bH aS (bO aX.ctx nT) m,m,65,H,i1,s1,ua [37,38] f own 5 [.tmp 6] N P⟩ ⟨[],.c wM.1.body,⟨zA p q i A B,5,jB 0 [.p 2 0,.bq 2 bZ eu dO,.v (.func (.yield l) #[] #[])]⟩⟩
 |k,m,H,i1,s1,l,h2,jK,i,dO,A,B,f,own,N,P,hm,ft,il,ab,hb,e6,a3,apx,apy,zb,EW=>by
  obtain⟨m,rfl⟩:∃n,m=n+2:=⟨m-2,by omega⟩;have aQ:∀{c:Int} {o:ac aY} {ch:Nat} {bS:bQ} {a b:aj},ib p q.bt k i dO= .c5 c->o[0]? =some (aY.c 37 [a])->o[1]? =some (aY.c 38 [b])->ua [37,38] f own 5 [.tmp 6] N P (.aQ (dL c)) ⟨o,ch,bS⟩:=fun h I U=>.inr ⟨_,rfl,aat I U,EW _ h⟩;refine av 20 ?_;by_cases ae:i<q.bt.length
  case neg=>
   refine fi 20 (show¬(i:Int)<(q.bt.length:Int) by omega) (J ?_);refine ij gj (false,170) trivial (dL 170) rfl ?_;refine J ?_;exact c8 (aQ (adu ae) rfl rfl)
  refine dT 20 (show(i:Int)<(q.bt.length:Int) by omega) (J ?_);refine lM gj (true,170) trivial (.bn []) rfl ?_;obtain⟨k,rfl⟩:∃n,k=n+1:=⟨k-1,by omega⟩;obtain⟨⟨cM,dy,cut,bI,st⟩,aa⟩:∃x,q.bt[i]? =some x:=⟨_,bg ae⟩;have iE:cut.length<=2000:=hq _ (zal aa);refine J ?_;refine e3 (gX.mk cM dy cut bI st) aa ?_;refine av 36 ?_;by_cases g8:cM=1
  ·refine v1 36 g8 ?_;have iC:¬(dy=0∧cut=[]∧bI.length=p.bs.length∧st.length=p.eX.length)->gz p ⟨cM,dy,cut,bI,st⟩ dO=170:=fun h=>(zab g8).trans (zaa h);refine av 39 ?_;by_cases I:dy=0
   case neg=>
    refine fi 39 I (J ?_);refine ij gj (false,170) trivial (dL 170) rfl ?_;refine J ?_;exact c8 (aQ (l1 aa (iC (fun h=>I h.1)) (by decide)) rfl rfl)
   refine dT 39 I (av 43 ?_);by_cases U:cut=[]
   case neg=>
    refine CQ 43 (show(cut==[])=false from zaM.2 U) ?_;refine J ?_;refine ij gj (false,170) trivial (dL 170) rfl ?_;refine J ?_;exact c8 (aQ (l1 aa (iC (fun h=>U h.2.1)) (by decide)) rfl rfl)
   refine CQ 43 (show(cut==[])=true from beq_iff_eq.2 U) ?_;refine av 55 ?_;by_cases ag:(bI.length:Int)=(p.bs.length:Int)
   case neg=>
    refine fi 55 ag (J ?_);refine ij gj (false,170) trivial (dL 170) rfl ?_;refine J ?_;exact c8 (aQ (l1 aa (iC (fun h=>ag (by rw[h.2.2.1]))) (by decide)) rfl rfl)
   refine dT 55 ag (av 67 ?_);by_cases au:(st.length:Int)=(p.eX.length:Int)
   case neg=>
    refine fi 67 au (J ?_);refine ij gj (false,170) trivial (dL 170) rfl ?_;refine J ?_;exact c8 (aQ (l1 aa (iC (fun h=>au (by rw[h.2.2.2]))) (by decide)) rfl rfl)
   refine dT 67 au ?_;have a6:gz p ⟨cM,dy,cut,bI,st⟩ dO=0:=(zab g8).trans (zab ⟨I,U,zcH.1 ag,zcH.1 au⟩);refine J ?_;refine lM gj (true,170) trivial (.bn []) rfl (J ?_);refine P5 ft (e2:=[(4,.bq 2 bZ eu dO),(3,.i .i64 (i:Int)),(10,.bq 2 bZ eu dO),(9,.i .i64 (i:Int)),(1,.p 0 0),(2,.p 1 0)]) ?_ ?_
   ·intro CX i5 FW;refine J ?_;exact c8 ⟨rfl,rfl⟩
   ·intro CX i5 FW H8 _;refine J ?_;refine wv (R:=iA) [i] (h9 (R:=iA) [i] rfl) ?_ (hb:=by show(5*(A.length+1)+1792)*9<=_;omega);refine J ?_;refine wv (R:=eP) [dO] (h9 (R:=eP) [dO] rfl) ?_ (hb:=by show(5*(B.length+1)+1792)*25<=_;omega);refine J ?_;refine c8 ⟨rfl,?_⟩;refine av 82 ?_;refine eY 82 ((i+1:Nat):Int) (J ?_);obtain⟨aZ,s7,gP⟩:=zb _ _ _ (adt aa a6 (zae g8));exact c8 (.inl ⟨.inr rfl,.b true,[0,1,2,3,4,7,9],Mo p q (i+1) (A++[i]) (B++[dO]),7,aZ,rfl,rfl,⟨by simp,rfl,⟨⟨_,rfl,wj (by rw[zap])⟩,⟨_,rfl,wj (by rw[zap])⟩,⟨_,rfl,rfl⟩,⟨_,rfl,trivial⟩,⟨_,rfl,trivial⟩,⟨_,rfl,rfl,fun _=>rfl⟩,⟨_,rfl,rfl,fun _=>rfl⟩,trivial⟩,trivial,rfl⟩,s7,gP⟩)
  refine v0 36 g8 ?_;have el:lS ⟨cM,dy,cut,bI,st⟩≠true:=fun h=>g8 (zbd h);refine av 86 ?_;by_cases hI:cM=2
  case neg=>
   refine v0 86 hI (J ?_);refine tN gj (false,170) trivial (dL 170) rfl ?_;refine J ?_;exact c8 (aQ (l1 aa ((zaa g8).trans (zaa fun h=>hI h.1)) (by decide)) rfl rfl)
  refine v1 86 hI ?_;have iC:¬(bI=[]∧st=[]∧0<=dy∧dy<(p.ins.length:Int))->gz p ⟨cM,dy,cut,bI,st⟩ dO=170:=fun h=>(zaa g8).trans (zaa fun g=>h g.2);refine av 90 ?_;by_cases I:(bI.length:Int)=0
  case neg=>
   refine fi 90 I (J ?_);refine ij gj (false,170) trivial (dL 170) rfl ?_;refine J ?_;exact c8 (aQ (l1 aa (iC (fun h=>I (by rw[h.1];rfl))) (by decide)) rfl rfl)
  refine dT 90 I (av 95 ?_);by_cases U:(st.length:Int)=0
  case neg=>
   refine fi 95 U (J ?_);refine ij gj (false,170) trivial (dL 170) rfl ?_;refine J ?_;exact c8 (aQ (l1 aa (iC (fun h=>U (by rw[h.2.1];rfl))) (by decide)) rfl rfl)
  refine dT 95 U (av 100 ?_);by_cases ag:0<=dy
  case neg=>
   refine fi 100 ag (J ?_);refine ij gj (false,170) trivial (dL 170) rfl ?_;refine J ?_;exact c8 (aQ (l1 aa (iC (fun h=>ag h.2.2.1)) (by decide)) rfl rfl)
  refine dT 100 ag (av 111 ?_);by_cases au:dy<(p.ins.length:Int)
  case neg=>
   refine fi 111 au (J ?_);refine ij gj (false,170) trivial (dL 170) rfl ?_;refine J ?_;exact c8 (aQ (l1 aa (iC (fun h=>au h.2.2.2)) (by decide)) rfl rfl)
  refine dT 111 au (J ?_);refine lM gj (true,170) trivial (.bn []) rfl ?_;obtain⟨j,rfl⟩:∃n:Nat,dy=(n:Int):=⟨dy.toNat,by omega⟩;have n5:bI=[]:=zaX (by omega);have eJ:st=[]:=zaX (by omega);have hj:j<dO.length:=by rw[hb.1];omega
  have mI:dO[j]? =some dO[j]:=bg hj;have wB:gz p ⟨cM,(j:Int),cut,bI,st⟩ dO=k1 cut dO[j].1 dO[j].2 170:=by
   unfold gz;rw[zaa g8,zab ⟨hI,n5,eJ,ag,au⟩];show(match dO[(j:Int).toNat]? with|some s=>k1 cut s.1 s.2 170|none=>170)=_;rw[zbb,mI]
  obtain⟨_,_,mm,lW⟩:=hb.2 _ (dp hj);refine J ?_;refine e3 dO[j] mI ?_;refine J ?_;by_cases hc:k1 cut dO[j].1 dO[j].2 170=0
  case neg=>
   refine ij GV (cut,dO[j].1,dO[j].2,170) ⟨iE,mm,lW⟩ (dL (k1 cut dO[j].1 dO[j].2 170)) (Sn hc) ?_;refine J ?_;exact c8 (aQ (l1 aa wB hc) rfl rfl)
  refine lM GV (cut,dO[j].1,dO[j].2,170) ⟨iE,mm,lW⟩ (.bn []) (So (by decide) hc) ?_;have a6:=wB.trans hc;obtain⟨uA,yC⟩:=D6 iE a6 el hb;refine J ?_;refine a9 Xg (dO,⟨cM,(j:Int),cut,bI,st⟩) ⟨by rw[hb.1];omega,j,rfl,hj⟩ (av 132 ?_);refine eY 132 ((i+1:Nat):Int) (J ?_);refine FO wM.1 (by kernel_rfl) [37,38] [0,1,2,3,4] (eo:=zA p q (i+1) A B) (nf:=[.p 2 0,.bq 2 bZ eu (gQ ⟨cM,(j:Int),cut,bI,st⟩ dO),.v (.func (.yield l) #[] #[])]) lk ?_;intro Ad i2 s2 s3 mQ q2;refine Qy hq hp hn k (by omega) (ft.frame s3 [0,1,2,3,4] ⟨rfl,rfl,trivial⟩ (by rw[mQ];show∀m∈([0,1,2,3,4]:ac Nat),m<6;decide)) q2 (by omega) uA e6 a3 (zbe apx) (zbe apy) (fun u9 a b g2=> ?_) (fun c g2 aZ fG=> ?_)
  case refine_2=>
   obtain⟨dT,j9⟩:=Fx fG;obtain⟨z2,oR⟩:=Fy fG;refine J ?_;exact c8 (aQ (adw aa a6 el g2) j9 oR)
  obtain⟨⟨Zi,Zk⟩,kn,mh⟩:=Ge g2;obtain⟨np,anm⟩:=adv g2;refine⟨[yf (A++a).length 6,ye (B++b).length 7,pA p q u9,.x,.x,.c 51 (sd ⟨cM,(j:Int),cut,bI,st⟩),yc (A++a),yb (B++b)],Ar 6 [0,1,2,3,4,6,7] [5] ⟨rfl,trivial⟩ ⟨⟨_,rfl,rfl⟩,⟨_,rfl,rfl⟩,⟨_,rfl,rfl⟩,⟨_,rfl,rfl⟩,⟨_,rfl,rfl⟩,⟨_,rfl,rfl,fun _=>rfl⟩,⟨_,rfl,rfl,fun _=>rfl⟩,trivial⟩,?_⟩;refine J ?_;refine FO wM.1 (by kernel_rfl) [37,38] [0,1,2,6,7] (eo:=zA p q u9 (A++a) (B++b)) (nf:=[.p 2 0,.bq 2 bZ eu (g5 ⟨cM,(j:Int),cut,bI,st⟩ dO),.v (.func (.yield l) #[] #[])]) lk ?_;intro iz i3 sz gr yT Nm;refine Qy hq hp hn k (by omega) (ft.frame gr [0,1,2,6,7] ⟨rfl,rfl,trivial⟩ (by rw[yT];show∀m∈([0,1,2,6,7]:ac Nat),m<8;decide)) Nm (by omega) yC (fun e=>e6 (zdC.1 e).1) (fun e=>a3 (zdC.1 e).1) (by rw[zap];omega) (by rw[zap];omega) (fun hs eQ dx kO=> ?_) (fun c kO aZ fG=> ?_)
  case refine_2=>
   obtain⟨dT,j9⟩:=Fx fG;obtain⟨z2,oR⟩:=Fy fG;refine J ?_;exact c8 (aQ (adx aa a6 el g2 kO) j9 oR)
  refine⟨[yf ((A++a)++eQ).length 8,ye ((B++b)++dx).length 9,pA p q hs,.x,.x,.c 51 (sd ⟨cM,(j:Int),cut,bI,st⟩),.x,.x,yc ((A++a)++eQ),yb ((B++b)++dx)],Ar 8 [0,1,2,6,7,8,9] [3,4,5] ⟨rfl,rfl,rfl,trivial⟩ ⟨⟨_,rfl,rfl⟩,⟨_,rfl,rfl⟩,⟨_,rfl,rfl⟩,⟨_,rfl,rfl⟩,⟨_,rfl,rfl⟩,⟨_,rfl,rfl,fun _=>rfl⟩,⟨_,rfl,rfl,fun _=>rfl⟩,trivial⟩,?_⟩;refine J ?_;obtain⟨aZ,s7,gP⟩:=zb _ _ _ (ady aa a6 el g2 kO);rw[<-zbF,<-zbF]at s7;exact c8 (.inl ⟨.inr rfl,.b true,[0,1,2,3,4,8,9],Mo p q hs ((A++a)++eQ) ((B++b)++dx),7,aZ,rfl,rfl,⟨by simp,rfl,⟨⟨_,rfl,wj (rfl)⟩,⟨_,rfl,wj (rfl)⟩,⟨_,rfl,rfl⟩,⟨_,rfl,trivial⟩,⟨_,rfl,trivial⟩,⟨_,rfl,rfl,fun _=>rfl⟩,⟨_,rfl,rfl,fun _=>rfl⟩,trivial⟩,trivial,rfl⟩,s7,gP⟩)
theorem ada{p:cz}{q:ew}(hq:∀x∈q.bt,x.cut.length<=2000)(hp:p.ins.length<=1000)(hn:q.bt.length<=1000):∀(k:Nat) {m:Nat} {H:bm} {i1:ac Nat} {s1:ar} {l h2:Nat} {jK:aq bi} {i:Nat} {dO:ac bZ} {f:ac Nat} {own:ac aY} {N:aj->ac aY->Prop} {P:bi->ac aY->Prop},
 k+3<=m->rH l 23 jK [9,10] Au Av h2 [(1,.p 0 0),(2,.p 1 0)] H i1 s1->i1.length=3->q.bt.length<k+i->mz p dO->(∀j a b,ib p q.bt k i dO= .ok j a b->∃aZ,x3 f own aZ (zA p q j a b)∧N (.b true) aZ)->
 (∀c,ib p q.bt k i dO= .c5 c->∀aZ,x6 [37,38] f own aZ->P (dL c) aZ)->
 aW.ok ⟨bH aS (bO aX.ctx nT) m,m,65,H,i1,s1,ua [37,38] f own 3 [.tmp 6] N P⟩ ⟨[],.c wM.1.body,⟨Pg p q i,3,jB 0 [.p 2 0,.bq 2 bZ eu dO,.v (.func (.yield l) #[] #[])]⟩⟩
 |k,m,H,i1,s1,l,h2,jK,i,dO,f,own,N,P,hm,ft,il,ab,hb,zb,EW=>by
  obtain⟨m,rfl⟩:∃n,m=n+2:=⟨m-2,by omega⟩;have aQ:∀{c:Int} {o:ac aY} {ch:Nat} {bS:bQ} {a b:aj},ib p q.bt k i dO= .c5 c->o[0]? =some (aY.c 37 [a])->o[1]? =some (aY.c 38 [b])->ua [37,38] f own 3 [.tmp 6] N P (.aQ (dL c)) ⟨o,ch,bS⟩:=fun h I U=>.inr ⟨_,rfl,aat I U,EW _ h⟩;refine av 20 ?_;by_cases ae:i<q.bt.length
  case neg=>
   refine fi 20 (show¬(i:Int)<(q.bt.length:Int) by omega) (J ?_);refine ij gj (false,170) trivial (dL 170) rfl ?_;refine J ?_;exact c8 (aQ (adu ae) rfl rfl)
  refine dT 20 (show(i:Int)<(q.bt.length:Int) by omega) (J ?_);refine lM gj (true,170) trivial (.bn []) rfl ?_;obtain⟨k,rfl⟩:∃n,k=n+1:=⟨k-1,by omega⟩;obtain⟨⟨cM,dy,cut,bI,st⟩,aa⟩:∃x,q.bt[i]? =some x:=⟨_,bg ae⟩;have iE:cut.length<=2000:=hq _ (zal aa);refine J ?_;refine e3 (gX.mk cM dy cut bI st) aa ?_;refine av 36 ?_;by_cases g8:cM=1
  ·refine v1 36 g8 ?_;have iC:¬(dy=0∧cut=[]∧bI.length=p.bs.length∧st.length=p.eX.length)->gz p ⟨cM,dy,cut,bI,st⟩ dO=170:=fun h=>(zab g8).trans (zaa h);refine av 39 ?_;by_cases I:dy=0
   case neg=>
    refine fi 39 I (J ?_);refine ij gj (false,170) trivial (dL 170) rfl ?_;refine J ?_;exact c8 (aQ (l1 aa (iC (fun h=>I h.1)) (by decide)) rfl rfl)
   refine dT 39 I (av 43 ?_);by_cases U:cut=[]
   case neg=>
    refine CQ 43 (show(cut==[])=false from zaM.2 U) ?_;refine J ?_;refine ij gj (false,170) trivial (dL 170) rfl ?_;refine J ?_;exact c8 (aQ (l1 aa (iC (fun h=>U h.2.1)) (by decide)) rfl rfl)
   refine CQ 43 (show(cut==[])=true from beq_iff_eq.2 U) ?_;refine av 55 ?_;by_cases ag:(bI.length:Int)=(p.bs.length:Int)
   case neg=>
    refine fi 55 ag (J ?_);refine ij gj (false,170) trivial (dL 170) rfl ?_;refine J ?_;exact c8 (aQ (l1 aa (iC (fun h=>ag (by rw[h.2.2.1]))) (by decide)) rfl rfl)
   refine dT 55 ag (av 67 ?_);by_cases au:(st.length:Int)=(p.eX.length:Int)
   case neg=>
    refine fi 67 au (J ?_);refine ij gj (false,170) trivial (dL 170) rfl ?_;refine J ?_;exact c8 (aQ (l1 aa (iC (fun h=>au (by rw[h.2.2.2]))) (by decide)) rfl rfl)
   refine dT 67 au ?_;have a6:gz p ⟨cM,dy,cut,bI,st⟩ dO=0:=(zab g8).trans (zab ⟨I,U,zcH.1 ag,zcH.1 au⟩);refine J ?_;refine lM gj (true,170) trivial (.bn []) rfl (J ?_);refine P5 ft (e2:=[(4,.bq 2 bZ eu dO),(3,.i .i64 (i:Int)),(10,.bq 2 bZ eu dO),(9,.i .i64 (i:Int)),(1,.p 0 0),(2,.p 1 0)]) ?_ ?_
   ·intro CX i5 FW;refine J ?_;exact c8 ⟨rfl,rfl⟩
   ·intro CX i5 FW H8 _;refine J ?_;refine AI iA [i] (h9 (R:=iA) [i] rfl) ?_;refine J ?_;refine AI eP [dO] (h9 (R:=eP) [dO] rfl) ?_;refine J ?_;refine c8 ⟨rfl,?_⟩;refine av 82 ?_;refine eY 82 ((i+1:Nat):Int) (J ?_);obtain⟨aZ,s7,gP⟩:=zb _ _ _ (adt aa a6 (zae g8));exact c8 (.inl ⟨.inr rfl,.b true,[0,1,2,5,7],zA p q (i+1) [i] [dO],5,aZ,rfl,rfl,⟨by simp,rfl,⟨⟨_,rfl,wj (rfl)⟩,⟨_,rfl,wj (rfl)⟩,⟨_,rfl,rfl⟩,⟨_,rfl,rfl,fun _=>rfl⟩,⟨_,rfl,rfl,fun _=>rfl⟩,trivial⟩,trivial,rfl⟩,s7,gP⟩)
  refine v0 36 g8 ?_;have el:lS ⟨cM,dy,cut,bI,st⟩≠true:=fun h=>g8 (zbd h);refine av 86 ?_;by_cases hI:cM=2
  case neg=>
   refine v0 86 hI (J ?_);refine tN gj (false,170) trivial (dL 170) rfl ?_;refine J ?_;exact c8 (aQ (l1 aa ((zaa g8).trans (zaa fun h=>hI h.1)) (by decide)) rfl rfl)
  refine v1 86 hI ?_;have iC:¬(bI=[]∧st=[]∧0<=dy∧dy<(p.ins.length:Int))->gz p ⟨cM,dy,cut,bI,st⟩ dO=170:=fun h=>(zaa g8).trans (zaa fun g=>h g.2);refine av 90 ?_;by_cases I:(bI.length:Int)=0
  case neg=>
   refine fi 90 I (J ?_);refine ij gj (false,170) trivial (dL 170) rfl ?_;refine J ?_;exact c8 (aQ (l1 aa (iC (fun h=>I (by rw[h.1];rfl))) (by decide)) rfl rfl)
  refine dT 90 I (av 95 ?_);by_cases U:(st.length:Int)=0
  case neg=>
   refine fi 95 U (J ?_);refine ij gj (false,170) trivial (dL 170) rfl ?_;refine J ?_;exact c8 (aQ (l1 aa (iC (fun h=>U (by rw[h.2.1];rfl))) (by decide)) rfl rfl)
  refine dT 95 U (av 100 ?_);by_cases ag:0<=dy
  case neg=>
   refine fi 100 ag (J ?_);refine ij gj (false,170) trivial (dL 170) rfl ?_;refine J ?_;exact c8 (aQ (l1 aa (iC (fun h=>ag h.2.2.1)) (by decide)) rfl rfl)
  refine dT 100 ag (av 111 ?_);by_cases au:dy<(p.ins.length:Int)
  case neg=>
   refine fi 111 au (J ?_);refine ij gj (false,170) trivial (dL 170) rfl ?_;refine J ?_;exact c8 (aQ (l1 aa (iC (fun h=>au h.2.2.2)) (by decide)) rfl rfl)
  refine dT 111 au (J ?_);refine lM gj (true,170) trivial (.bn []) rfl ?_;obtain⟨j,rfl⟩:∃n:Nat,dy=(n:Int):=⟨dy.toNat,by omega⟩;have n5:bI=[]:=zaX (by omega);have eJ:st=[]:=zaX (by omega);have hj:j<dO.length:=by rw[hb.1];omega
  have mI:dO[j]? =some dO[j]:=bg hj;have wB:gz p ⟨cM,(j:Int),cut,bI,st⟩ dO=k1 cut dO[j].1 dO[j].2 170:=by
   unfold gz;rw[zaa g8,zab ⟨hI,n5,eJ,ag,au⟩];show(match dO[(j:Int).toNat]? with|some s=>k1 cut s.1 s.2 170|none=>170)=_;rw[zbb,mI]
  obtain⟨_,_,mm,lW⟩:=hb.2 _ (dp hj);refine J ?_;refine e3 dO[j] mI ?_;refine J ?_;by_cases hc:k1 cut dO[j].1 dO[j].2 170=0
  case neg=>
   refine ij GV (cut,dO[j].1,dO[j].2,170) ⟨iE,mm,lW⟩ (dL (k1 cut dO[j].1 dO[j].2 170)) (Sn hc) ?_;refine J ?_;exact c8 (aQ (l1 aa wB hc) rfl rfl)
  refine lM GV (cut,dO[j].1,dO[j].2,170) ⟨iE,mm,lW⟩ (.bn []) (So (by decide) hc) ?_;have a6:=wB.trans hc;obtain⟨uA,yC⟩:=D6 iE a6 el hb;refine J ?_;refine a9 Xg (dO,⟨cM,(j:Int),cut,bI,st⟩) ⟨by rw[hb.1];omega,j,rfl,hj⟩ (av 132 ?_);refine eY 132 ((i+1:Nat):Int) (J ?_);refine FO wM.1 (by kernel_rfl) [37,38] [0,1,2] (eo:=Pg p q (i+1)) (nf:=[.p 2 0,.bq 2 bZ eu (gQ ⟨cM,(j:Int),cut,bI,st⟩ dO),.v (.func (.yield l) #[] #[])]) lk ?_;intro Ad i2 s2 s3 mQ q2;refine ada hq hp hn k (by omega) (ft.frame s3 [0,1,2] ⟨rfl,rfl,trivial⟩ (by rw[mQ];show∀m∈([0,1,2]:ac Nat),m<4;decide)) q2 (by omega) uA (fun u9 a b g2=> ?_) (fun c g2 aZ fG=> ?_)
  case refine_2=>
   obtain⟨dT,j9⟩:=Fx fG;obtain⟨z2,oR⟩:=Fy fG;refine J ?_;exact c8 (aQ (adw aa a6 el g2) j9 oR)
  obtain⟨⟨Zi,Zk⟩,kn,mh⟩:=Ge g2;obtain⟨np,anm⟩:=adv g2;refine⟨[yf a.length 4,ye b.length 5,pA p q u9,.c 51 (sd ⟨cM,(j:Int),cut,bI,st⟩),yc a,yb b],Ar 4 [0,1,2,4,5] [3] ⟨rfl,trivial⟩ ⟨⟨_,rfl,rfl⟩,⟨_,rfl,rfl⟩,⟨_,rfl,rfl⟩,⟨_,rfl,rfl,fun _=>rfl⟩,⟨_,rfl,rfl,fun _=>rfl⟩,trivial⟩,?_⟩;refine J ?_;refine FO wM.1 (by kernel_rfl) [37,38] [0,1,2,4,5] (eo:=zA p q u9 a b) (nf:=[.p 2 0,.bq 2 bZ eu (g5 ⟨cM,(j:Int),cut,bI,st⟩ dO),.v (.func (.yield l) #[] #[])]) lk ?_;intro iz i3 sz gr yT Nm;refine Qy hq hp hn k (by omega) (ft.frame gr [0,1,2,4,5] ⟨rfl,rfl,trivial⟩ (by rw[yT];show∀m∈([0,1,2,4,5]:ac Nat),m<6;decide)) Nm (by omega) yC Zi Zk (by omega) (by omega) (fun hs eQ dx kO=> ?_) (fun c kO aZ fG=> ?_)
  case refine_2=>
   obtain⟨dT,j9⟩:=Fx fG;obtain⟨z2,oR⟩:=Fy fG;refine J ?_;exact c8 (aQ (adx aa a6 el g2 kO) j9 oR)
  refine⟨[yf (a++eQ).length 6,ye (b++dx).length 7,pA p q hs,.c 51 (sd ⟨cM,(j:Int),cut,bI,st⟩),.x,.x,yc (a++eQ),yb (b++dx)],Ar 6 [0,1,2,4,5,6,7] [3] ⟨rfl,trivial⟩ ⟨⟨_,rfl,rfl⟩,⟨_,rfl,rfl⟩,⟨_,rfl,rfl⟩,⟨_,rfl,rfl⟩,⟨_,rfl,rfl⟩,⟨_,rfl,rfl,fun _=>rfl⟩,⟨_,rfl,rfl,fun _=>rfl⟩,trivial⟩,?_⟩;refine J ?_;obtain⟨aZ,s7,gP⟩:=zb _ _ _ (ady aa a6 el g2 kO);exact c8 (.inl ⟨.inr rfl,.b true,[0,1,2,6,7],zA p q hs (a++eQ) (b++dx),5,aZ,rfl,rfl,⟨by simp,rfl,⟨⟨_,rfl,wj (rfl)⟩,⟨_,rfl,wj (rfl)⟩,⟨_,rfl,rfl⟩,⟨_,rfl,rfl,fun _=>rfl⟩,⟨_,rfl,rfl,fun _=>rfl⟩,trivial⟩,trivial,rfl⟩,s7,gP⟩)
def afR(h:l2 q=0):∃x y z,pT q.aK q.ae q.err= .ret (.agg (hN x++(hN y++hN z))):=by
 unfold l2 pS at h;unfold pT;cases ha:cF q.aK with
 |none=>rw[ha]at h;cases h
 |some x=>
 cases hb:cF q.ae with
 |none=>rw[ha,hb]at h;cases h
 |some y=>
 cases hc:cF q.err with
 |none=>rw[ha,hb,hc]at h;cases h
 |some z=>
 rw[ha,hb,hc]at h;have h:(if ej x y<=0∧0<=z.num.sign then(0:Int)else 171)=0:=h;split at h
 ·rename_i hc;exact⟨x,y,z,zab hc⟩
 ·cases h
def afQ(h:l2 q≠0):pT q.aK q.ae q.err= .aQ (dL (l2 q)):=by
 revert h
 unfold l2 pS pT;cases ha:cF q.aK with
 |none=>intro _;rfl
 |some x=>
 cases hb:cF q.ae with
 |none=>intro _;rfl
 |some y=>
 cases hc:cF q.err with
 |none=>intro _;rfl
 |some z=>
 show(if ej x y<=0∧0<=z.num.sign then(0:Int)else 171)≠0->(if ej x y<=0∧0<=z.num.sign then x4.ret _ else .aQ (dL 171))= .aQ (dL (if ej x y<=0∧0<=z.num.sign then(0:Int)else 171));split
 ·intro h;exact absurd rfl h
 ·intro _;rfl
def oh(p:cz)(q:ew):Int:=if(dU p).2.2=0 then l2 q else(dU p).2.2
def av8(hp:sN p)(hq:GC q){m:Nat}{H:bm}{i1:ac Nat}{s1:ar}{own:ac aY}{N:aj->ac aY->Prop}{P:bi->ac aY->Prop}(hm:3<=m)(fc:l6 H)(il:i1.length=1)
 (zb:oh p q=0->∀r,∃aZ,x3 f own aZ [pA p q 0]∧N r aZ) (EW:oh p q≠0->∀aZ,x6 [] f own aZ->P (dL (oh p q)) aZ):
 aW.ok ⟨bH aS (bO aX.ctx nT) m,m,24,H,i1,s1,ua [] f own 1 D1.1.res N P⟩ ⟨[],.c D1.1.body,⟨[pA p q 0],1,jB 0 [.p 0 0]⟩⟩:=by
 obtain⟨m,rfl⟩:∃n,m=n+2:=⟨m-2,by omega⟩;obtain⟨qc,uV,aw6,aw7⟩:=hq;refine J ?_;refine a9 afG p hp ?_ (hh:=fc);refine aB 11 (.bn [.i .i64 (dU p).1,.i .i64 (dU p).2.1,.i .i64 (dU p).2.2]) rfl rfl (J ?_);have aQ:∀{c:Int} {s:cB},oh p q=c->c≠0->ua [] f own 1 D1.1.res N P (.aQ (dL c)) s:=fun h hc=>by
  subst h;exact .inr ⟨_,rfl,fun i t h=>(by cases h),EW hc⟩
 by_cases h0:(dU p).2.2=0
 case neg=>
  refine tN HA (dU p).2.2 trivial (dL (dU p).2.2) (zaa h0) ?_;refine J ?_;exact c8 (aQ (zaa h0) h0)
 refine xE HA (dU p).2.2 trivial (.bn []) (zab h0) ?_;have Tj:oh p q=l2 q:=zab h0;refine av 23 ?_;refine v1 23 (show(q.bt.length:Int)<=200 by omega) (J ?_);refine xE gj (true,3) trivial (.bn []) rfl (J ?_);by_cases hw:l2 q=0
 case neg=>
  refine ij aaF (q.aK,q.ae,q.err) ⟨by omega,by omega,by omega⟩ (dL (l2 q)) (afQ hw) ?_;refine J ?_;exact c8 (aQ Tj hw)
 obtain⟨x,y,z,hc⟩:=afR hw;refine lM aaF (q.aK,q.ae,q.err) ⟨by omega,by omega,by omega⟩ (.agg (hN x++(hN y++hN z))) hc (J ?_);obtain⟨aZ,s7,gP⟩:=zb (Tj.trans hw) (.agg (hN x++(hN y++hN z)));exact c8 (.inl ⟨.inr rfl,.agg (hN x++(hN y++hN z)),[0],[pA p q 0],1,aZ,rfl,rfl,lk,s7,gP⟩)
abbrev Fj(p:cz)(q:ew):ac aY:=[.c 27 (eS p),.c 31 (h8 q),.c 37 [.nl],.c 38 [.nl],pA p q 0,.c 77 [.p 4 0]]
def ZM(p:cz)(q:ew):ac aY:=[.c 27 (eS p),.c 31 (h8 q),.c 37 [.nl],.c 38 [.nl],pA p q 0,.c 77 [.p 4 0],.c 77 [.p 4 0]]
def OU(p:cz)(q:ew)(i:Nat)(A:ac Nat)(B:ac (ac bZ)):ac aY:=[.c 27 (eS p),.c 31 (h8 q),yf A.length 7,ye B.length 8,pA p q i,.c 77 [.p 4 0],.c 77 [.p 4 0],yc A,yb B]
def Rb(p:cz)(q:ew)(o:am bi)(own:ac aY):Prop:=match o with
 |none=>∃j a b,mi p q.bt= .ok j a b∧own=OU p q j a b
 |some v=>∃c,v=dL c∧mi p q.bt= .c5 c∧(∃a,own[2]? =some (aY.c 37 [a]))∧∃b,own[3]? =some (aY.c 38 [b])
variable{bt:ac gX}{j:Nat}{a:ac Nat}
def apY{c:Int}(h:ib p bt (bt.length+1) 0 (jJ p)= .c5 c):mi p bt= .c5 c:=by
 unfold mi xd;unfold ib at h;rw[h]
def ap0{b:ac (ac bZ)}(h:ib p bt (bt.length+1) 0 (jJ p)= .ok j a b)(hj:j=bt.length):mi p bt= .ok j a b:=by
 unfold mi xd;unfold ib at h;rw[h];exact zab hj
def apZ{b:ac (ac bZ)}(h:ib p bt (bt.length+1) 0 (jJ p)= .ok j a b)(hj:j≠bt.length):mi p bt= .c5 170:=by
 unfold mi xd;unfold ib at h;rw[h];exact zaa hj
def apM(hp:mz p (jJ p))(hl:p.ins.length<=1000)(hq:∀x∈q.bt,x.cut.length<=2000)(hn:q.bt.length<=1000){m:Nat}{H:bm}{i1:ac Nat}{s1:ar}{l h2:Nat}{jK:aq bi}{ki:bQ}(hm:2000<=m)(ft:rH l 23 jK [9,10] Au Av h2 ki H i1 s1)(he:kZ [2,3,4] [(1,.p 0 0),(2,.p 1 0)] ki)(il:i1.length=7):
 aW.ok ⟨bH aS (bO aX.ctx nT) m,m,64,H,i1,s1,Re (Rb p q) HI.1.res⟩ ⟨[],.c HI.1.body,⟨ZM p q,7,jB 0 [.v (.func (.yield l) #[] #[]),.p 6 0]⟩⟩:=by
 obtain⟨m,rfl⟩:∃n,m=n+2:=⟨m-2,by omega⟩;refine J ?_;refine cq asT p hl (J ?_);refine ag8 wM.1 (by kernel_rfl) [37,38] [2,3,4] (eo:=Pg p q 0) (nf:=[.p 2 0,.bq 2 bZ eu (jJ p),.v (.func (.yield l) #[] #[])]) lk ?_;intro Ad i2 s2 s3 mQ q2;refine ada hq hl hn (q.bt.length+1) (by omega) (ft.frame s3 [2,3,4] he (by rw[mQ];show∀m∈([2,3,4]:ac Nat),m<7;decide)) q2 (by omega) hp (fun j a b g2=> ?_) (fun c g2 aZ fG=> ?_)
 case refine_2=>
  obtain⟨dT,j9⟩:=Fx fG;obtain⟨z2,oR⟩:=Fy fG;refine J ?_;exact c8 (.inr ⟨_,rfl,c,rfl,apY g2,⟨_,j9⟩,⟨_,oR⟩⟩)
 refine⟨OU p q j a b,Ar 7 [2,3,4,7,8] [0,1,5,6] ⟨rfl,rfl,rfl,rfl,trivial⟩ ⟨⟨_,rfl,rfl⟩,⟨_,rfl,rfl⟩,⟨_,rfl,rfl⟩,⟨_,rfl,rfl,fun _=>rfl⟩,⟨_,rfl,rfl,fun _=>rfl⟩,trivial⟩,?_⟩;refine av 24 ?_;by_cases hj:j=q.bt.length
 case neg=>
  refine fi 24 (show¬(j:Int)=(q.bt.length:Int) by omega) (J ?_);refine ij gj (false,170) trivial (dL 170) rfl ?_;refine J ?_;exact c8 (.inr ⟨_,rfl,170,rfl,apZ g2 hj,⟨_,rfl⟩,⟨_,rfl⟩⟩)
 refine dT 24 (show(j:Int)=(q.bt.length:Int) by omega) (J ?_);refine lM gj (true,170) trivial (.bn []) rfl (J ?_);exact c8 (.inl ⟨.inl rfl,⟨_,rfl⟩,j,a,b,ap0 g2 hj,rfl⟩)
end Go.an.a7
namespace Go.an.a7
open Go.an Go.an.Sym
set_option maxRecDepth 100000
set_option maxHeartbeats 4000000
def KV(q:ew):Prop:=∀x∈q.bt,x.cut.length<=2000
def Q4(p:cz)(q:ew)(v:bi)(own:ac aY):Prop:=∃c,v=dL c∧c≠0∧gZ p q=([],[],c)∧(∃a,own[2]? =some (aY.c 37 [a]))∧∃b,own[3]? =some (aY.c 38 [b])
def Q3(p:cz)(q:ew)(r:am bi)(own:ac aY):Prop:=match r with
 |none=>∃j a b,gZ p q=(a,b,0)∧own=OU p q j a b
 |some v=>∃c,v=dL c∧c≠0∧gZ p q=([],[],c)∧(∃w,own[2]? =some (aY.c 37 [.v w]))∧∃w,own[3]? =some (aY.c 38 [.v w])
variable{p:cz}{q:ew}{H:bm}{ids:ac Nat}{st:ar}{n:Nat}
def TR{own:ac aY}{k T:Nat}{a:aj}(ao:Fit H ids st own n)(h:own[k]? =some (aY.c T [a])):∃w,Fit H ids st (own.set k (.c T [.v w])) n:=by
 have ab:=(zac.1 h).1;have ae:k<ids.length:=by rw[ao.len,<-ao.cr];exact ab
 obtain⟨⟨vs,I,v,us,rfl,_,ag⟩,au⟩:=ao.own k _ _ h (bg ae);have ag:us=[]:=ag;subst ag;refine⟨v,ao.wf,ao.le,by rw[zbv];exact ao.cr,ao.len,ao.g9,ao.lt,fun j o b hj hb=> ?_⟩;by_cases e:k=j
 ·subst e;rw[zaG,zab rfl,zab ab]at hj;cases hj;rw[bg ae]at hb;cases hb;exact⟨⟨_,I,_,_,rfl,rfl,rfl⟩,fun _=>au rfl⟩
 ·rw[zbn e]at hj;exact ao.own j o b hj hb
def Sp{v:bi}{own:ac aY}(ao:Fit H ids st own n)(h:Q4 p q v own):∃aZ,Fit H ids st aZ aZ.length∧Q3 p q (some v) aZ:=by
 obtain⟨c,rfl,hc,e,⟨a,U⟩,⟨b,ag⟩⟩:=h;obtain⟨w,aP⟩:=TR ao U;have W0:(own.set 2 (aY.c 37 [.v w]))[3]? =some (aY.c 38 [b]):=by rw[zbn (by decide)];exact ag
 obtain⟨w',bd⟩:=TR aP W0;refine⟨_,by rw[bd.cr];exact bd,c,rfl,hc,e,⟨w,?_⟩,⟨w',?_⟩⟩
 ·rw[zbn (by decide),zaG,zab rfl,zab (zac.1 U).1]
 ·rw[zaG,zab rfl,zab (zac.1 W0).1]
def afg(h:oh p q≠0):gZ p q=([],[],oh p q):=by
 unfold oh at h⊢;unfold gZ;split
 ·rename_i h0;rw[zab h0]at h;rw[zaa h]
 ·rfl
def aff(h:oh p q=0){j:Nat}{a:ac Nat}{b:ac (ac bZ)}(hl:mi p q.bt= .ok j a b):gZ p q=(a,b,0):=by
 unfold oh at h;unfold gZ;split at h
 ·rename_i h0;rw[zab h0,zab h,hl]
 ·rename_i h0;exact absurd h h0
def afe(h:oh p q=0){c:Int}(hl:mi p q.bt= .c5 c):gZ p q=([],[],c):=by
 unfold oh at h;unfold gZ;split at h
 ·rename_i h0;rw[zab h0,zab h,hl]
 ·rename_i h0;exact absurd h h0
def arj(h:oh p q=0):(dU p).2.2=0:=by
 unfold oh at h;split at h
 ·assumption
 ·exact h
def afl(hp:sN p)(hq:GC q)(oI:KV q){cs:ac bi}(fc:l6 H)(ao:Fit H ids st (Fj p q) 6)(ay:c4 H [.p 5 0,.p 2 0,.p 3 0] ids cs):
 ∃(cc:ar) (a2:bm) (bX:ac Nat) (aZ:ac aY) (r:am bi),cG H ids st a2 bX cc∧Fit a2 bX cc aZ aZ.length∧Q3 p q r aZ∧
  hF (bH aS (bO aX.ctx nT) 4611686018427387903) 4611686018427387903 23 wL.1 cs none st=(match r with|none=>.ret (.tuple #[]) cc false|some v=>.aQ v cc false):=by
 have awV:q.bt.length<=20:=hq.1;have uH:wL.1.body= .seq (.g3 [C.l 5 0,C.c 6 24 [5]]) (.seq (.g3 [C.l 7 0,C.c 8 25 [7]]) (.block 0 (.tP 8 [9,10] Au Av))):=by kernel_rfl
 have uX:wL.1.res=[]:=by kernel_rfl
 have jQ:∀x aF st',cR (bH aS (bO aX.ctx nT) 4611686018427387903) 4611686018427387903 23 wL.1.body (er cs) st= .out x aF st'->hF (bH aS (bO aX.ctx nT) 4611686018427387903) 4611686018427387903 23 wL.1 cs none st=
  dq.rec (motive:=fun _=>dk) (ff (bH aS (bO aX.ctx nT) 4611686018427387903) [] none aF st') (fun _=>.no) (ff (bH aS (bO aX.ctx nT) 4611686018427387903) [] none aF st') (fun v=>ff (bH aS (bO aX.ctx nT) 4611686018427387903) [] (some v) aF st') x:=fun x aF st' h=>by
  unfold hF;rw[od,zab (by rw[fe,hP ay];exact jw (by kernel_rfl)),uX];show ct.rec (motive:=fun _=>dk) _ _ (cR _ _ _ _ (er cs) st)=_;rw[h]
 obtain⟨ez,dC,cp,H1,ID,s1,az,CT,pb,f1,g2,qc⟩:=Qo (call:=bH aS (bO aX.ctx nT) 4611686018427387903) (bE:=4611686018427387903) (fn:=23) (ops:=[C.l 5 0,C.c 6 24 [5]]) (s:=⟨Fj p q,6,jB 0 [.p 5 0,.p 2 0,.p 3 0]⟩)
  (fun x s=>(x= .norm∧oh p q=0∧∃r,s=⟨Fj p q,6,[(6,r),(5,.p 4 0),(0,.p 5 0),(1,.p 2 0),(2,.p 3 0)]⟩)∨∃v,x= .aQ v∧Q4 p q v s.own) rfl (by
   intro H1 i1 s1 il hle;refine J ?_;refine FO (n:=4611686018427387901) D1.1 (by kernel_rfl) [] [4] (eo:=[pA p q 0]) (nf:=[.p 0 0]) lk ?_;intro Ad i2 s2 s3 mQ q2;refine av8 hp hq (by decide) (fc.up (hle.trans s3.hle)) q2 (fun h r=> ?_) (fun h aZ iH=> ?_)
   ·refine⟨Fj p q,Ar 6 [4] [0,1,2,3,5] ⟨rfl,rfl,rfl,rfl,rfl,trivial⟩ ⟨⟨_,rfl,rfl⟩,trivial⟩,?_⟩;refine J ?_;exact c8 (.inl ⟨rfl,h,r,rfl⟩)
   ·refine J ?_;exact c8 (.inr ⟨_,rfl,oh p q,rfl,h,afg h,⟨_,(iH.2.1 2 (show 2<6 by decide) (by decide)).trans rfl⟩,⟨_,(iH.2.1 3 (show 3<6 by decide) (by decide)).trans rfl⟩⟩)) ao (cU.zero ay)
 rcases qc with⟨rfl,h0,r,rfl⟩|⟨v,rfl,aE⟩
 case inr=>
  obtain⟨aZ,cl,w5⟩:=Sp pb aE;refine⟨cp,H1,ID,aZ,some v,CT,cl,w5,?_⟩;rw[jQ _ _ _ (by rw[uH,yx,az];rfl)];exact DU f1.pl
 obtain⟨CR,j2,cc,Ad,BB,s2,e2,Gp,jg,f2,kO,rfl,rfl⟩:=Qo (call:=bH aS (bO aX.ctx nT) 4611686018427387903) (bE:=4611686018427387903) (fn:=23) (ops:=[C.l 7 0,C.c 8 25 [7]]) (s:=⟨Fj p q,6,[(6,r),(5,.p 4 0),(0,.p 5 0),(1,.p 2 0),(2,.p 3 0)]⟩)
  (fun x s=>x= .norm∧s=⟨ZM p q,7,[(8,.fn (.func 64) [] [.p 6 0]),(7,.p 4 0),(6,r),(5,.p 4 0),(0,.p 5 0),(1,.p 2 0),(2,.p 3 0)]⟩) rfl (by
   intro H1 i1 s1 il hle;refine J ?_;refine P3 (n:=4611686018427387901) U3.1 (by kernel_rfl) ?_;intro iz i3 sz _ _;refine J ?_;refine c8 ⟨.inr rfl,_,rfl,?_⟩;refine J ?_;exact c8 ⟨rfl,rfl⟩) pb f1
 have pv:j2.bW=none:=kO.trans g2;have j4:=arj h0;obtain⟨o,dB,iz,hr,axr,b8,Gq,KW,hi,bd,qj,nh,i3⟩:=adQ (X:=aX.ctx) (aS:=aS) (bC:=nT) (bE:=4611686018427387903) (n:=4611686018427387900) (fn:=23) pv jg f2 (f:=8) (ps:=[9,10]) (dt:=Au) (body:=Av) (g:=64) (xf:=HI.1) (caps:=[.p 6 0]) (Rb p q) (by kernel_rfl) rfl rfl (jw rfl) (by
  intro s1 l hlen ft;exact apM (Qb j4 hp) (MI j4) oI (by omega) (by decide) ft ⟨rfl,rfl,trivial⟩ hlen)
 have lA:({target:=.collected cc.ai,args:= #[]}::j2.cL:ac Deferred)=[{target:=.collected cc.ai,args:= #[]}]:=by rw[f2.pl.cL]
 have n2:=cG.trans CT (cG.trans Gp (Gq.other (r:=cc.ai) (zaO _) (.hG none)));have HT:=KW.other qj i3 nh (.hG none);have gv:cR (bH aS (bO aX.ctx nT) 4611686018427387903) 4611686018427387903 23 wL.1.body (er cs) st=qG 0 (cR (bH aS (bO aX.ctx nT) 4611686018427387903) 4611686018427387903 23 (.tP 8 [9,10] Au Av) j2 cc):=by
  rw[uH,yx,az,Sym.xO,yx,e2,Sym.xO,Mh]
 rw[b8]at gv;cases o with
 |none=>
  obtain⟨j,a,b,hl,rfl⟩:=hi;refine⟨_,iz,hr,_,none,n2,HT,⟨j,a,b,aff h0 hl,rfl⟩,?_⟩;rw[jQ _ _ _ (gv.trans rfl)];exact aiF lA f2.pl.cx bd
 |some v=>
  obtain⟨c,rfl,hl,I,U⟩:=hi;obtain⟨aZ,cl,w5⟩:=Sp HT ⟨c,rfl,apN hl,afe h0 hl,I,U⟩;refine⟨_,iz,hr,aZ,some (dL c),n2,cl,w5,?_⟩;rw[jQ _ _ _ (gv.trans rfl)];exact aiG lA f2.pl.cx bd
def Ab(p:cz)(q:ew):Prop:=sN p∧GC q∧KV q
def Pk:bU where
 L:=cz×ew
 args:=fun(p,q)=>[jc p,.agg (h8 q)]
 pre:=fun(p,q)=>Ab p q
 res:=fun(p,q)=>.bn [.bq 1 Nat iA (gZ p q).1,.bq 1 (ac bZ) eP (gZ p q).2.1,.i .i64 (gZ p q).2.2]
 hp:=l6
 hm:=l6.up
def Om{c:Int}:b7 (.bn [.nl,.nl,.i .i64 c]) (.bn [.bq 1 Nat iA [],.bq 1 (ac bZ) eP [],.i .i64 c]):=.bn ⟨.nl,.nl,.refl _,trivial⟩
def Mw{k z:Nat}{b:aj}:wI k z n b [.a5 k z 0 n n]=[b]:=by
 show(match Nat.beq k k&&(Nat.beq z z&&(Nat.beq 0 0&&(Nat.beq n n&&Nat.beq n n)))with|true=>b|false=>aj.a5 k z 0 n n)::_=_;simp only[zax];rfl
def aax:bD aX.ctx 6 Pk.spec:=by
 refine Ha aX.ek eM nT (xf:=ey.1) (by kernel_rfl) (fun l=>jw rfl) ?_;intro⟨p,q⟩ ⟨hp,hq,oI⟩ H aN fc;refine J ?_;refine abF (n:=4611686018427387902) (by unfold b0;rfl) (g1:=62) (t:=39) (ts:=152) wL.1 (by kernel_rfl) (by kernel_rfl) (by kernel_rfl) ?_;intro H1 i1 cp cs il hle ao ay;obtain⟨cc,a2,bX,aZ,r,a3,cl,aD,hb⟩:=afl hp hq oI (fc.up hle) ao ay;refine⟨cc,a2,bX,⟨aZ,aZ.length,[]⟩,a3,cl,?_⟩;cases r with
 |none=>
  obtain⟨j,a,b,e,rfl⟩:=aD;refine .inl ⟨hb,?_⟩;refine FN 2 7 ?_ (ha:=Mw);refine FN 3 8 ?_ (ha:=Mw);refine J ?_;exact aA rfl (.of (by show _=aj.bn _;rw[e]))
 |some v=>
  obtain⟨c,rfl,hc,e,⟨z2,U⟩,⟨KL,ag⟩⟩:=aD;refine .inr ⟨c,hb,?_⟩;refine asy [2,3] ⟨[.c 37 [.v z2],.c 38 [.v KL]],2,[(4,.p 0 0),(5,.p 1 0),(13,.i .i64 c)]⟩ ⟨by simp,rfl,⟨⟨_,U,rfl⟩,⟨_,ag,rfl⟩,trivial⟩,⟨rfl,rfl,rfl,trivial⟩,rfl⟩ ?_;refine av 15 ?_;refine v1 15 hc (J ?_);exact aA rfl (Om.trans (.of (by show aj.bn [.bq 1 Nat iA [],.bq 1 (ac bZ) eP [],.i .i64 c]=aj.bn _;rw[e])))
end Go.an.a7
namespace Go.an.a7
open Go.an
set_option maxRecDepth 100000
set_option maxHeartbeats 4000000
def CY(xs:ac Rat):Prop:=∀x∈xs,fy 250 x
def Pm:bU where
 L:=ac bZ×ac Rat
 args:=fun(b,xs)=>[.bq 2 bZ eu b,.bq 3 Rat hN xs]
 pre:=fun(b,xs)=>(∀s∈b,Af s)∧b.length=xs.length∧b.length<=1000∧CY xs
 res:=fun(b,xs)=>.b (n6 b xs)
def ard:bD aX.ctx 34 Pm.spec:=by
 refine b3 [(31,Ff.spec),(72,Cq.spec)] VK.1 ?_;intro⟨b,xs⟩ ⟨bR,hlen,hl,gP⟩ H aN;refine J ?_;refine df (L:=Nat) (fun k=>k<=b.length∧n6 (b.drop k) (xs.drop k)=n6 b xs) (fun(k:Nat)=>⟨[],0,[(0,.bq 2 bZ eu b),(1,.bq 3 Rat hN xs),(7,.bq 2 bZ eu b),(8,.i .i64 (b.length:Int)),(9,.i .i64 (k:Int))]⟩) (fun k=>b.length-k) [] 0 ⟨zaf _,rfl⟩ jk dW ?_;rintro(k:Nat) ⟨ab,ax⟩;refine av 10 ?_;by_cases aT:k<b.length
 case neg=>
  refine v0 10 (show¬(k:Int)<(b.length:Int) by omega) ?_;rw[zaH (by omega)]at ax;refine J ?_;exact aA rfl (.of (cA ax))
 have nr:k<xs.length:=by omega
 refine v1 10 (show(k:Int)<(b.length:Int) by omega) ?_;rw[hx aT,hx nr]at ax;have ax:(u4 b[k] xs[k]&&n6 (b.drop (k+1)) (xs.drop (k+1)))=n6 b xs:=ax;obtain⟨ml,fP,mm,lW⟩:=bR _ (dp aT);obtain⟨aK,az⟩:=zbH.1 ml;obtain⟨ae,e2⟩:=zbH.1 fP;have aa:=gP _ (dp nr);have hH:u4 b[k] xs[k]=(decide (0<=ej xs[k] aK)&&decide (ej xs[k] ae<=0)):=by unfold u4;rw[az,e2]
 have no:u4 b[k] xs[k]=false->b7 (.b false) (Pm.res (b,xs)):=fun h=>.of (cA (by rw[h]at ax;exact ax));refine J ?_;refine dv b[k] (bg aT) ?_;refine J ?_;refine lM m1 b[k].1 mm (dz aK) (tx az) (J ?_);refine e3 xs[k] (bg nr) ?_;refine J ?_;refine cq zN (xs[k],aK) ⟨lU aa,lU (so mm az)⟩ (av 22 ?_);by_cases I:ej xs[k] aK<0
 ·refine v1 22 I (J ?_);exact aA rfl (no (by rw[hH,zad (by omega)];rfl))
 refine v0 22 I (J ?_);refine lM m1 b[k].2 lW (dz ae) (tx e2) (J ?_);refine e3 xs[k] (bg nr) ?_;refine J ?_;refine cq zN (xs[k],ae) ⟨lU aa,lU (so lW e2)⟩ (av 32 ?_);by_cases U:ej xs[k] ae>0
 ·refine v1 32 U (J ?_);exact aA rfl (no (by rw[hH,zad (show¬ej xs[k] ae<=0 by omega),zdT]))
 refine v0 32 U (av 34 ?_);refine eY 34 ((k+1:Nat):Int) (J ?_);exact br [] (k+1) ⟨by omega,aT,by rw[<-ax,hH,zae (by omega),zae (by omega)];rfl⟩ dW
def Yn:bU where
 L:=ac bZ×ac Rat
 args:=fun(b,xs)=>[.bq 2 bZ eu b,.ip [.bq 3 Rat hN xs]]
 pre:=fun(b,xs)=>(∀s∈b,Af s)∧b.length=xs.length∧b.length<=1000∧CY xs
 res:=fun(b,xs)=>.b (n6 b xs)
def aoN:bD aX.ctx 33 Yn.spec:=by
 refine b3 [(34,Pm.spec)] VI.1 ?_;intro⟨b,xs⟩ hp H aN;refine J ?_;refine a9 ard (b,xs) hp (J ?_);exact aA rfl (.refl _)
def Yo(xs:ac Rat):aj:=.fn (.func 33) [] [.ip [.bq 3 Rat hN xs]]
def Se:bU where
 L:=ac (ac bZ)×ac Rat
 args:=fun(l,xs)=>[.bq 1 (ac bZ) eP l,Yo xs]
 pre:=fun(l,xs)=>(∀b∈l,(∀s∈b,Af s)∧b.length=xs.length∧b.length<=1000)∧l.length<=1000∧CY xs
 res:=fun(l,xs)=>.i .i64 (jG xs l 0)
def ae1:bD aX.ctx 32 Se.spec:=by
 refine b3 [(33,Yn.spec)] VE.1 ?_;intro⟨l,xs⟩ ⟨aM,hl,gP⟩ H aN;refine J ?_;refine df (L:=Nat) (fun k=>k<=l.length∧jG xs (l.drop k) k=jG xs l 0) (fun(k:Nat)=>⟨[],0,[(0,.bq 1 (ac bZ) eP l),(1,Yo xs),(4,.i .i64 0),(7,.i .i64 (l.length:Int)),(8,.i .i64 (k:Int))]⟩) (fun k=>l.length-k) [] 0 ⟨zaf _,rfl⟩ jk dW ?_;rintro(k:Nat) ⟨ab,ax⟩;refine av 9 ?_;by_cases aT:k<l.length
 case neg=>
  refine v0 9 (show¬(k:Int)<(l.length:Int) by omega) (J ?_);exact aA rfl (.of (by show aj.i _ _=aj.i .i64 (jG xs l 0);rw[<-ax,zaH (by omega)];rfl))
 refine v1 9 (show(k:Int)<(l.length:Int) by omega) (J ?_);refine dv l[k] (bg aT) ?_;refine J ?_;rw[hx aT]at ax;obtain⟨g1,aP,bd⟩:=aM _ (dp aT);refine Cn aoN (l[k],xs) ⟨g1,aP,bd,gP⟩ ?_;cases h:n6 l[k] xs with
 |true=>
  refine lG 16 h (J ?_);exact aA rfl (.of (by show aj.i _ _=aj.i .i64 (jG xs l 0);rw[<-ax];unfold jG;rw[zab h]))
 |false=>
  refine lG 16 h (av 18 ?_);refine eY 18 ((k+1:Nat):Int) (J ?_);refine br [] (k+1) ⟨by omega,aT,?_⟩ dW;rw[<-ax];conv=>rhs;unfold jG
  rw[zaa (by rw[h];decide)]
