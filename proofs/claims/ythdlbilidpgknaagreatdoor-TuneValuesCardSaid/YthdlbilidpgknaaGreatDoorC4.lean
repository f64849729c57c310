/- What the functions of the program and of the document compute, for every input (part 4); conditions as in the statements. -/
import Derived.Test.YthdlbilidpgknaaGreatDoorC3
import Derived.Test.YthdlbilidpgknaaGreatDoorS2
set_option linter.all false
namespace Go.aj.a3
open Go.aj
set_option maxRecDepth 100000
set_option maxHeartbeats 4000000
def On:bh where
 L:=cB×Nat×fv
 args:=fun(p,i,n)=>[gM p,.i .i64 (i:Int)]
 pre:=fun(p,i,n)=>p.a6[i]? =some n∧n.v.length<=2000
 res:=fun(p,i,n)=>.i .i64 (rA p i n)
def apO:a9 aT.ctx 137 On.spec:=by
 refine bH [(236,ze.spec),(237,aa5.spec),(139,sS.spec),(238,Y8.spec),(239,Zg.spec),(240,wF.spec)] So.1 ?_;intro⟨p,i,n⟩ ⟨hj,aF⟩ H aH;have a0:∀{c:Int},rA p i n=c->bZ (.i .i64 c) (On.res (p,i,n)):=fun h=>.of (by rw[<-h];rfl);refine I ?_;refine dP n hj ?_;refine I ?_;refine aL zf n.op trivial (ak 16 ?_);by_cases h1:1<=n.op∧n.op<=15
 case neg=>
  refine v1 16 (show qN n.op<0 by unfold qN;rw[zaa h1];decide) (I ?_);exact ar rfl (a0 (zab (.inl h1)))
 refine v0 16 (show¬qN n.op<0 by unfold qN;rw[zab h1];omega) (I ?_);refine aL as4 n h1 ?_;cases h2:ri n with
 |false=>
  refine ah 19 (.b true) rfl (b8 (by rw[h2];rfl)) (I ?_);exact ar rfl (a0 (zab (.inr h2)))
 |true=>
 refine ah 19 (.b false) rfl (b8 (by rw[h2];rfl)) ?_;have aG:¬(¬(1<=n.op∧n.op<=15)∨ri n=false):=fun h=>h.elim (fun h=>h h1) (fun h=>Bool.noConfusion (h2.symm.trans h));refine I ?_;refine aL yy (n.f,(p.bB.length:Int)) trivial ?_;by_cases h3:gU n.f p.bB.length
 case neg=>
  refine ea 26 h3 (I ?_);exact ar rfl (a0 ((zaa aG).trans (zab h3)))
 refine dx 26 h3 ?_;have aI:¬¬gU n.f p.bB.length:=fun h=>h h3;have e2:=fun{c} h=> @a0 c ((zaa aG).trans ((zaa aI).trans h));have f2:=fun{c} h=>((zaa aG).trans ((zaa aI).trans h):rA p i n=c);refine ak 29 ?_
 iterate 3 refine gW ?_
 refine l7 (L:=Unit) (fun _=>rA p i n=if(dX n).all (fun k=>uA p i k)then 0 else 7) (fun _=>⟨[.c 27 (di p),.c 126 (kG n)],2,[(1,.i .i64 (i:Int)),(2,.p 0 0),(4,.i .i64 0),(5,.p 1 0)]⟩) ?_ ?_
 ·clear a0;refine ak 31 ?_;by_cases hi:n.op=1
  ·refine v1 31 hi (I ?_);refine aL yy (n.a,(p.ins.length:Int)) trivial ?_;by_cases au:gU n.a p.ins.length
   case neg=>
    refine ea 37 au (I ?_);exact ar rfl (e2 (zab ⟨hi,au⟩))
   refine dx 37 au ?_;have a4:¬(n.op=1∧¬gU n.a p.ins.length):=fun h=>h.2 au;obtain⟨a,ha⟩:∃a:Nat,n.a=(a:Int):=⟨n.a.toNat,by have:=au.1;omega⟩;have oz:n.a.toNat=a:=by omega
   have ki:a<p.ins.length:=by have:=au.2;omega
   refine ak 42 ?_;refine cu 42 (.i .i64 (a:Int)) rfl rfl (by rw[ha]) ?_;refine I ?_;refine hS p.ins[a] (bF ki) ?_;refine ak 48 ?_;by_cases aW:(p.ins[a]).f=n.f
   case neg=>
    refine gE 48 aW (I ?_);exact ar rfl (e2 ((zaa a4).trans (zab ⟨hi,by rw[oz,bF ki];simpa using aW⟩)))
   refine hA 48 (jf aW) (I ?_);refine a1 [0,1] () (f2 ((zaa a4).trans ((zaa ?_).trans ((zaa (by omega)).trans (zaa (by omega)))))) ij;rintro⟨_,h⟩;exact h (by rw[oz,bF ki];simp[aW])
  ·refine v0 31 hi ?_;have f3:=fun{c} h=> @f2 c ((zaa (fun h=>hi h.1)).trans ((zaa (fun h=>hi h.1)).trans h));have bV:=fun{c} h=> @e2 c ((zaa (fun h=>hi h.1)).trans ((zaa (fun h=>hi h.1)).trans h));refine ak 50 ?_;by_cases ae:n.op=2
   ·refine v1 50 ae (ak 54 ?_);by_cases au:(i:Int)<p.head
    ·refine v1 54 au (I ?_);exact ar rfl (bV (zab ⟨ae,.inl au⟩))
    refine v0 54 au (I ?_);refine aL yy (n.a,(p.dE.length:Int)) trivial ?_;by_cases aW:gU n.a p.dE.length
    case neg=>
     refine ea 61 aW (I ?_);exact ar rfl (bV (zab ⟨ae,.inr aW⟩))
    refine dx 61 aW (I ?_);exact a1 [0,1] () (f3 ((zaa (fun h=>h.2.elim au (fun h=>h aW))).trans (zaa (by omega)))) ij
   ·refine v0 50 ae ?_;have f4:=fun{c} h=> @f3 c ((zaa (fun h=>ae h.1)).trans h);have eQ:=fun{c} h=> @bV c ((zaa (fun h=>ae h.1)).trans h);refine ak 65 ?_;by_cases hc:n.op=3
    ·refine v1 65 hc (I ?_);refine aL apA n.v aF (I ?_);exact ar rfl (eQ (zab hc))
    ·refine v0 65 hc (I ?_);exact a1 [0,1] () (f4 (zaa hc)) ij
 intro _ iq;have U:=MY n;refine I ?_;refine aL apH n h1 (I ?_);refine c6 (L:=Nat) (fun k=>k<=(dX n).length∧((dX n).take k).all (fun k=>uA p i k)=true) (fun(k:Nat)=>⟨[.c 27 (di p),.c 126 (kG n)],2,[(1,.i .i64 (i:Int)),(2,.p 0 0),(4,.i .i64 0),(6,.cc 1 Int ee (dX n)),(7,.i .i64 (k:Int))]⟩) (fun k=>(dX n).length-k) [0,1] 0 ⟨zag _,rfl⟩ mj ij ?_;rintro(k:Nat) ⟨jD,aE⟩;refine ak 74 ?_;by_cases hl:k<(dX n).length
 ·refine v1 74 (show(k:Int)<((dX n).length:Int) by omega) (I ?_);refine hS (dX n)[k] (bF hl) ?_;refine I ?_;refine bo apW (p,(i:Int),(dX n)[k]) trivial ?_;cases ae:uA p i (dX n)[k]with
  |false=>
   refine ah 83 (.b false) rfl (b8 ae) (I ?_);refine ar rfl (a0 (iq.trans (zaa ?_)));intro h;rw[zbg]at h;have:=h _ (dV hl);rw[ae]at this;cases this
  |true=>
   refine ah 83 (.b true) rfl (b8 ae) (ak 76 ?_);refine nu 76 ((k+1:Nat):Int) (I ?_);exact a1 [0,1] (k+1) ⟨by omega,hl,by rw[zba hl,zeK,aE];simp[ae]⟩ ij
 ·refine v0 74 (show¬(k:Int)<((dX n).length:Int) by omega) (I ?_);exact ar rfl (a0 (iq.trans (zab (by rw[zay (by omega)]at aE;exact aE))))
def acP{α:Type}{l:ac α}{q:α->Bool}{k:Nat}(U:k<l.length)(h:(l.take k).any q=false)(h2:q l[k]=false):(l.take (k+1)).any q=false:=by
 rw[zba U,List.any_append,h];simp[h2]
def apX:a9 aT.ctx 138 uF.spec:=by
 refine bH [(139,sS.spec)] Sp.1 ?_;intro⟨p,i,s⟩ ⟨hj,hh,aN,hl⟩ H aH;have a0:∀{c:Int},wI p i s=c->bZ (.i .i64 c) (uF.res (p,i,s)):=fun h=>.of (by rw[<-h];rfl);refine I ?_;refine dP s hj ?_;refine I ?_;refine aL yy (s.i,p.head) trivial ?_;by_cases h1:0<=s.i∧s.i<p.head
 case neg=>
  refine ea 18 h1 (I ?_);exact ar rfl (a0 (zab (.inl h1)))
 refine dx 18 h1 (I ?_);refine aL yy (s.n,p.tail) trivial ?_;by_cases h2:0<=s.n∧s.n<p.tail
 case neg=>
  refine ea 25 h2 (I ?_);exact ar rfl (a0 (zab (.inr h2)))
 refine dx 25 h2 ?_;obtain⟨a,ha⟩:∃a:Nat,s.i=(a:Int):=⟨s.i.toNat,by omega⟩;obtain⟨b,hb⟩:∃b:Nat,s.n=(b:Int):=⟨s.n.toNat,by omega⟩;have oz:s.i.toNat=a:=by omega
 have gh:s.n.toNat=b:=by omega
 have ki:a<p.a6.length:=by omega
 have kA:b<p.a6.length:=by omega
 have aq:∀{c:Int},(if(p.a6[b]).f≠(p.a6[a]).f∨p.a6.any (jH i (p.a6[a]).f)=true then 143 else 0)=c->bZ (.i .i64 c) (uF.res (p,i,s)):=fun h=>a0 (by
  unfold wI;rw[zaa (fun h=>h.elim (fun h=>h h1) (fun h=>h h2)),oz,gh,bF ki,bF kA];exact h)
 refine ak 31 ?_;refine ah 31 (.i .i64 (a:Int)) rfl (by rw[ha]) ?_;refine dP p.a6[a] (bF ki) ?_;refine ak 38 ?_;refine ah 38 (.i .i64 (b:Int)) rfl (by rw[hb]) ?_;refine dP p.a6[b] (bF kA) ?_;refine ak 43 ?_;by_cases h3:(p.a6[b]).f≠(p.a6[a]).f
 ·refine v1 43 h3 (I ?_);exact ar rfl (aq (zab (.inl h3)))
 refine v0 43 h3 (I ?_);refine c6 (L:=Nat) (fun k=>k<=p.a6.length∧(p.a6.take k).any (jH i (p.a6[a]).f)=false) (fun(k:Nat)=>⟨[.c 27 (di p)],1,[(1,.i .i64 (i:Int)),(2,.p 0 0),(6,.i .i64 (p.a6[a]).f),(7,.i .i64 (k:Int))]⟩) (fun k=>p.a6.length-k) [0] 0 ⟨zag _,rfl⟩ mj dD ?_;rintro(k:Nat) ⟨jD,aE⟩;refine ak 48 ?_;by_cases U:k<p.a6.length
 ·refine v1 48 (show(k:Int)<(p.a6.length:Int) by omega) (I ?_);refine dP p.a6[k] (bF U) ?_;have VT:jH i (p.a6[a]).f p.a6[k]=true->bZ (.i .i64 143) (uF.res (p,i,s)):=fun h=>aq (zab (.inr (zeh.2 ⟨_,dV U,h⟩)));have ui:jH i (p.a6[a]).f p.a6[k]=false->k+1<=p.a6.length∧(p.a6.take (k+1)).any (jH i (p.a6[a]).f)=false:=fun h=>⟨U,acP U aE h⟩;refine ak 58 ?_;by_cases cr:(p.a6[k]).op=2
  case neg=>
   refine v0 58 cr (ak 50 ?_);refine nu 50 ((k+1:Nat):Int) (I ?_);exact a1 [0] (k+1) ⟨by omega,ui (by unfold jH;rw[zac cr];rfl)⟩ dD
  refine v1 58 cr (ak 63 ?_);by_cases cz:(p.a6[k]).a=(i:Int)
  case neg=>
   refine v0 63 cz (ak 50 ?_);refine nu 50 ((k+1:Nat):Int) (I ?_);exact a1 [0] (k+1) ⟨by omega,ui (by unfold jH;rw[zad cr,zac cz];rfl)⟩ dD
  refine v1 63 cz (ak 69 ?_);by_cases dT:(p.a6[k]).f≠(p.a6[a]).f
  ·refine v1 69 dT (I ?_);exact ar rfl (VT (by unfold jH;rw[zad cr,zad cz,zad dT];rfl))
  ·refine v0 69 dT (ak 50 ?_);refine nu 50 ((k+1:Nat):Int) (I ?_);exact a1 [0] (k+1) ⟨by omega,ui (by unfold jH;rw[zad cr,zad cz,zac dT];rfl)⟩ dD
 ·refine v0 48 (show¬(k:Int)<(p.a6.length:Int) by omega) ?_;rw[zay (by omega)]at aE;refine I ?_;exact ar rfl (aq (zaa (fun h=>h.elim h3 (fun h=>Bool.noConfusion (aE.symm.trans h)))))
def IA:bh where
 L:=cB
 args:=fun p=>[gM p]
 pre:=oT
 res:=fun p=>w6 (dm p)
def apw:a9 aT.ctx 67 IA.spec:=by
 refine bH [(134,zO.spec),(135,Iz.spec),(136,D4.spec),(137,On.spec),(138,uF.spec),(139,sS.spec),(140,wE.spec)] UD.1 ?_;intro(p:cB) ⟨b4,iq⟩ H aH;have a0:∀{c:Int×Int×Int},dm p=c->bZ (w6 c) (IA.res p):=fun h=>.of (by rw[<-h];rfl);refine I ?_;refine aL aug p trivial ?_;refine ah 15 (.i .i64 (m6 p)) rfl rfl (ak 17 ?_);by_cases aJ:m6 p=0
 case neg=>
  refine v1 17 aJ (I ?_);exact ar rfl (a0 (zaa aJ))
 refine v0 17 (jf aJ) ?_;have aq:∀{c:Int×Int×Int},lJ p=c->bZ (w6 c) (IA.res p):=fun h=>a0 ((zab aJ).trans h);obtain⟨fa,g8,rm,anp,Dq,Dr,WU⟩:=vm aJ;refine I ?_;refine c6 (L:=Nat) (fun j=>j<=p.bB.length∧eZ (mg p) (p.bB.drop j) j=eZ (mg p) p.bB 0) (fun(j:Nat)=>⟨[.c 27 (di p)],1,[(1,.p 0 0),(6,.i .i64 (j:Int))]⟩) (fun j=>p.bB.length-j) [0] 0 ⟨zag _,rfl⟩ mj dD ?_;rintro(j:Nat) ⟨hX,aE⟩;refine ak 23 ?_;by_cases hj:j<p.bB.length
 ·refine v1 23 (show(j:Int)<(p.bB.length:Int) by omega) (I ?_);rw[vj hj]at aE;refine dP p.bB[j] (bF hj) ?_;refine I ?_;refine aL Y7 p.bB[j] trivial ?_;refine ah 31 (.i .i64 (mg p j p.bB[j])) rfl rfl (ak 33 ?_);by_cases he:mg p j p.bB[j]=0
  ·rw[zab he]at aE;refine v0 33 (jf he) (ak 25 ?_);refine nu 25 ((j+1:Nat):Int) (I ?_);exact a1 [0] (j+1) ⟨by omega,hj,aE⟩ dD
  ·rw[zaa he]at aE;refine v1 33 he (I ?_);refine ar rfl (aq (c:=(1,(j:Int),mg p j p.bB[j])) ?_);unfold lJ;simp only[<-aE]
 refine v0 23 (show¬(j:Int)<(p.bB.length:Int) by omega) ?_;have h1:eZ (mg p) p.bB 0=none:=by rw[<-aE,zbj (by omega)];rfl
 clear aE hj hX;refine I ?_;refine c6 (L:=Nat) (fun j=>j<=p.ins.length∧eZ (mh p) (p.ins.drop j) j=eZ (mh p) p.ins 0) (fun(j:Nat)=>⟨[.c 27 (di p)],1,[(1,.p 0 0),(8,.i .i64 (j:Int))]⟩) (fun j=>p.ins.length-j) [0] 0 ⟨zag _,rfl⟩ mj dD ?_;rintro(j:Nat) ⟨hX,aE⟩;refine ak 40 ?_;by_cases hj:j<p.ins.length
 ·refine v1 40 (show(j:Int)<(p.ins.length:Int) by omega) (I ?_);rw[vj hj]at aE;refine hS p.ins[j] (bF hj) ?_;refine I ?_;refine bo apD (p,p.ins[j]) (b4 _ (dV hj)) ?_;refine ah 49 (.i .i64 (mh p j p.ins[j])) rfl rfl (ak 51 ?_);by_cases he:mh p j p.ins[j]=0
  ·rw[zab he]at aE;refine v0 51 (jf he) (ak 42 ?_);refine nu 42 ((j+1:Nat):Int) (I ?_);exact a1 [0] (j+1) ⟨by omega,hj,aE⟩ dD
  ·rw[zaa he]at aE;refine v1 51 he (I ?_);refine ar rfl (aq (c:=(2,(j:Int),mh p j p.ins[j])) ?_);unfold lJ;simp only[h1,<-aE]
 refine v0 40 (show¬(j:Int)<(p.ins.length:Int) by omega) ?_;have h2:eZ (mh p) p.ins 0=none:=by rw[<-aE,zbj (by omega)];rfl
 clear aE hj hX;refine I ?_;refine c6 (L:=Nat) (fun j=>j<=p.a6.length∧eZ (mZ p) (p.a6.drop j) j=eZ (mZ p) p.a6 0) (fun(j:Nat)=>⟨[.c 27 (di p)],1,[(1,.p 0 0),(10,.i .i64 (j:Int))]⟩) (fun j=>p.a6.length-j) [0] 0 ⟨zag _,rfl⟩ mj dD ?_;rintro(j:Nat) ⟨hX,aE⟩;refine ak 58 ?_;by_cases hj:j<p.a6.length
 ·refine v1 58 (show(j:Int)<(p.a6.length:Int) by omega) (I ?_);rw[vj hj]at aE;refine aL apO (p,j,p.a6[j]) ⟨bF hj,iq _ (dV hj)⟩ ?_;refine ah 63 (.i .i64 (mZ p j p.a6[j])) rfl rfl (ak 65 ?_);by_cases he:mZ p j p.a6[j]=0
  ·rw[zab he]at aE;refine v0 65 (jf he) (ak 60 ?_);refine nu 60 ((j+1:Nat):Int) (I ?_);exact a1 [0] (j+1) ⟨by omega,hj,aE⟩ dD
  ·rw[zaa he]at aE;refine v1 65 he (I ?_);refine ar rfl (aq (c:=(3,(j:Int),mZ p j p.a6[j])) ?_);unfold lJ;simp only[h1,h2,<-aE]
 refine v0 58 (show¬(j:Int)<(p.a6.length:Int) by omega) ?_;have h3:eZ (mZ p) p.a6 0=none:=by rw[<-aE,zbj (by omega)];rfl
 clear aE hj hX;refine I ?_;refine c6 (L:=Nat) (fun j=>j<=p.dE.length∧eZ (m0 p) (p.dE.drop j) j=eZ (m0 p) p.dE 0) (fun(j:Nat)=>⟨[.c 27 (di p)],1,[(1,.p 0 0),(12,.i .i64 (j:Int))]⟩) (fun j=>p.dE.length-j) [0] 0 ⟨zag _,rfl⟩ mj dD ?_;rintro(j:Nat) ⟨hX,aE⟩;refine ak 72 ?_;by_cases hj:j<p.dE.length
 ·refine v1 72 (show(j:Int)<(p.dE.length:Int) by omega) (I ?_);rw[vj hj]at aE;refine aL apX (p,j,p.dE[j]) ⟨bF hj,by omega,Dq,by omega⟩ ?_;refine ah 77 (.i .i64 (m0 p j p.dE[j])) rfl rfl (ak 79 ?_);by_cases he:m0 p j p.dE[j]=0
  ·rw[zab he]at aE;refine v0 79 (jf he) (ak 74 ?_);refine nu 74 ((j+1:Nat):Int) (I ?_);exact a1 [0] (j+1) ⟨by omega,hj,aE⟩ dD
  ·rw[zaa he]at aE;refine v1 79 he (I ?_);refine ar rfl (aq (c:=(4,(j:Int),m0 p j p.dE[j])) ?_);unfold lJ;simp only[h1,h2,h3,<-aE]
 refine v0 72 (show¬(j:Int)<(p.dE.length:Int) by omega) ?_;have au:eZ (m0 p) p.dE 0=none:=by rw[<-aE,zbj (by omega)];rfl
 clear aE hj hX;have cL:lJ p=if¬gU p.out p.a6.length∨fX p p.out=1 then(5,0,7)else(0,0,0):=by unfold lJ;simp only[h1,h2,h3,au]
 refine I ?_;refine aL yy (p.out,(p.a6.length:Int)) trivial ?_;by_cases cr:gU p.out p.a6.length
 case neg=>
  refine ea 87 cr (I ?_);exact ar rfl (aq (c:=(5,0,7)) (cL.trans (zab (.inl cr))))
 refine dx 87 cr (I ?_);refine aL IE (p,p.out) trivial ?_;refine ah 93 (.i .i64 (fX p p.out)) rfl rfl (ak 94 ?_);by_cases cz:fX p p.out=1
 ·refine v1 94 cz (I ?_);exact ar rfl (aq (c:=(5,0,7)) (cL.trans (zab (.inr cz))))
 ·refine v0 94 cz (I ?_);exact ar rfl (aq (c:=(0,0,0)) (cL.trans (zaa (fun h=>h.elim (fun h=>h cr) cz))))
def Vh:bh where
 L:=cB
 args:=fun p=>[gM p]
 pre:=oT
 res:=fun p=>.i .i64 (dm p).2.2
def ajF:a9 aT.ctx 23 Vh.spec:=by
 refine bH [(67,IA.spec)] S7.1 ?_;intro(p:cB) hp H aH;refine I ?_;refine aL apw p hp ?_;refine ah 8 (.bu [.i .i64 (dm p).1,.i .i64 (dm p).2.1,.i .i64 (dm p).2.2]) rfl rfl (I ?_);exact ar rfl (.of rfl)
def od(l:ac jm):Nat:=(l.map fun x=>x.aM.length+x.hi.length).sum
def ma(l:ac fv):Nat:=(l.map fun n=>n.v.length).sum
def u3(p:cB):Prop:=100<(p.bB.length:Int)∨100<(p.ins.length:Int)∨100<(p.a6.length:Int)∨100<(p.dE.length:Int)∨2000<((od p.ins+ma p.a6:Nat):Int)
instance(p:cB):Decidable (u3 p):=by unfold u3;infer_instance
def uY(p:cB):Prop:=(∀x∈p.ins,x.aM.length<=140737488355328∧x.hi.length<=140737488355328)∧∀n∈p.a6,n.v.length<=140737488355328
def Gn:bh where
 L:=cB
 args:=fun p=>[gM p]
 pre:=uY
 res:=fun p=>.b (decide (u3 p))
def ajJ:a9 aT.ctx 51 Gn.spec:=by
 refine bH [] Uu.1 ?_;intro(p:cB) ⟨b4,iq⟩ H aH;have yes:u3 p->bZ (.b true) (Gn.res p):=fun h=>.of (b8 (zad h).symm);have no:¬u3 p->bZ (.b false) (Gn.res p):=fun h=>.of (b8 (zac h).symm);refine ak 9 ?_;by_cases h1:100<(p.bB.length:Int)
 ·refine v1 9 h1 (I ?_);exact ar rfl (yes (.inl h1))
 refine v0 9 h1 (ak 14 ?_);by_cases h2:100<(p.ins.length:Int)
 ·refine v1 14 h2 (I ?_);exact ar rfl (yes (.inr (.inl h2)))
 refine v0 14 h2 (ak 20 ?_);by_cases h3:100<(p.a6.length:Int)
 ·refine v1 20 h3 (I ?_);exact ar rfl (yes (.inr (.inr (.inl h3))))
 refine v0 20 h3 (ak 26 ?_);by_cases au:100<(p.dE.length:Int)
 ·refine v1 26 au (I ?_);exact ar rfl (yes (.inr (.inr (.inr (.inl au)))))
 refine v0 26 au (I ?_);refine c6 (L:=Nat×Nat) (fun(k,a)=>k<=p.ins.length∧a<=300000000000000*k∧a+od (p.ins.drop k)=od p.ins) (fun(k,a)=>⟨[.c 27 (di p)],1,[(1,.p 0 0),(3,.i .i64 (a:Int)),(4,.i .i64 (k:Int))]⟩) (fun q=>p.ins.length-q.1) [0] (0,0) ⟨zag _,zag _,zaw _⟩ mj dD ?_;rintro⟨k,a⟩ ⟨U,hb,aE⟩;refine ak 32 ?_;by_cases aV:k<p.ins.length
 ·refine v1 32 (show(k:Int)<(p.ins.length:Int) by omega) ?_;obtain⟨cK,c9⟩:=b4 _ (dV aV);rw[hB aV]at aE;have aE:a+((p.ins[k].aM.length+p.ins[k].hi.length)+od (p.ins.drop (k+1)))=od p.ins:=aE;refine I ?_;refine hS p.ins[k] (bF aV) ?_;refine ak 43 ?_;refine ww 43 ((a+p.ins[k].aM.length:Nat):Int) ?_;refine I ?_;refine hS p.ins[k] (bF aV) ?_;refine ak 51 ?_;refine ww 51 ((a+p.ins[k].aM.length+p.ins[k].hi.length:Nat):Int) ?_;refine ak 34 ?_;refine nu 34 ((k+1:Nat):Int) (I ?_);exact a1 [0] (k+1,a+p.ins[k].aM.length+p.ins[k].hi.length) ⟨by show _-(k+1)<_-k;omega,aV,by omega,by omega⟩ dD
 refine v0 32 (show¬(k:Int)<(p.ins.length:Int) by omega) ?_;rw[zbj (by omega)]at aE;have aE:a=od p.ins:=aE;have gg:od p.ins<=30000000000000000:=by omega
 rw[aE];refine I ?_;refine c6 (L:=Nat×Nat) (fun(k,a)=>k<=p.a6.length∧a<=30000000000000000+300000000000000*k∧a+ma (p.a6.drop k)=od p.ins+ma p.a6) (fun(k,a)=>⟨[.c 27 (di p)],1,[(1,.p 0 0),(3,.i .i64 (a:Int)),(5,.i .i64 (k:Int))]⟩) (fun q=>p.a6.length-q.1) [0] (0,od p.ins) ⟨zag _,by omega,rfl⟩ mj dD ?_;rintro⟨k,a⟩ ⟨U,hb,aE⟩;refine ak 56 ?_;by_cases aV:k<p.a6.length
 ·refine v1 56 (show(k:Int)<(p.a6.length:Int) by omega) ?_;have cK:=iq _ (dV aV);rw[hB aV]at aE;have aE:a+(p.a6[k].v.length+ma (p.a6.drop (k+1)))=od p.ins+ma p.a6:=aE;refine I ?_;refine dP p.a6[k] (bF aV) ?_;refine ak 67 ?_;refine nu 67 ((a+p.a6[k].v.length:Nat):Int) (ak 58 ?_);refine nu 58 ((k+1:Nat):Int) (I ?_);exact a1 [0] (k+1,a+p.a6[k].v.length) ⟨by show _-(k+1)<_-k;omega,aV,by omega,by omega⟩ dD
 refine v0 56 (show¬(k:Int)<(p.a6.length:Int) by omega) ?_;rw[zbj (by omega)]at aE;have aE:a=od p.ins+ma p.a6:=aE;rw[aE];refine ak 69 ?_;by_cases aW:2000<((od p.ins+ma p.a6:Nat):Int)
 ·refine v1 69 aW (I ?_);exact ar rfl (yes (.inr (.inr (.inr (.inr aW)))))
 ·refine v0 69 aW (I ?_);exact ar rfl (no (fun h=>h.elim h1 fun h=>h.elim h2 fun h=>h.elim h3 fun h=>h.elim au aW))
theorem abt:∀{l:ac jm} {x:jm},x∈l->x.aM.length+x.hi.length<=od l
 |y::l,x,h=>by
  show _<=(y.aM.length+y.hi.length)+od l;rcases zao.1 h with rfl|h
  ·omega
  ·have:=abt h;omega
theorem abu:∀{l:ac fv} {x:fv},x∈l->x.v.length<=ma l
 |y::l,x,h=>by
  show _<=y.v.length+ma l;rcases zao.1 h with rfl|h
  ·omega
  ·have:=abu h;omega
def aay{p:cB}(h:¬u3 p):oT p:=by
 have aW:¬2000<((od p.ins+ma p.a6:Nat):Int):=fun az=>h (.inr (.inr (.inr (.inr az))));exact⟨fun x J=>by have:=abt J;omega,fun n hn=>by have:=abu hn;omega⟩
def u7(p:cB):Int:=if(dm p).2.2=0 then 7 else(dm p).2.2
def Q9:bh where
 L:=cB
 args:=fun p=>[gM p,.i .i64 (-1)]
 pre:=oT
 res:=fun p=>.bu [.i .i64 0,.i .i64 (u7 p)]
def ad0:a9 aT.ctx 52 Q9.spec:=by
 refine bH [(23,Vh.spec)] Uv.1 ?_;intro(p:cB) hp H aH;refine I ?_;refine aL ajF p hp ?_;refine ah 8 (.i .i64 (dm p).2.2) rfl rfl (ak 10 ?_);by_cases h0:(dm p).2.2=0
 ·refine v1 10 h0 (ak 13 ?_);refine v1 13 (show(-1:Int)<0 by decide) (ak 20 ?_);refine v1 20 (show(7:Int)≠0 by decide) (I ?_);exact ar rfl (.of (by show _=ab.bu [.i .i64 0,.i .i64 (u7 p)];unfold u7;rw[zab h0]))
 ·refine v0 10 h0 (ak 20 ?_);refine v1 20 h0 (I ?_);exact ar rfl (.of (by show _=ab.bu [.i .i64 0,.i .i64 (u7 p)];unfold u7;rw[zaa h0]))
def w3(p:cB):Prop:=u3 p∨400<(ma p.a6:Int)
variable{P:Nat}{r e p s:Int}{d:Nat}{n:Int}{x:Rat}
instance(p:cB):Decidable (w3 p):=by unfold w3;infer_instance
def Gp:bh where
 L:=cB
 args:=fun p=>[.agg (di p++[.nl,.i .i64 (-1)])]
 pre:=uY
 res:=fun p=>.b (decide (w3 p))
def ajK:a9 aT.ctx 15 Gp.spec:=by
 refine bH [(51,Gn.spec),(52,Q9.spec)] Sy.1 ?_;intro(p:cB) hp H aH;have yes:w3 p->bZ (.b true) (Gp.res p):=fun h=>.of (b8 (zad h).symm);have no:¬w3 p->bZ (.b false) (Gp.res p):=fun h=>.of (b8 (zac h).symm);refine I ?_;refine aL ajJ p hp ?_;by_cases h1:u3 p
 ·refine dx 10 h1 (I ?_);exact ar rfl (yes (.inl h1))
 refine ea 10 h1 ?_;have k2:=aay h1;have hl:¬100<(p.a6.length:Int):=fun h=>h1 (.inr (.inr (.inl h)));refine ak 15 ?_;refine v0 15 (show¬(20:Int)<0 by decide) (I ?_);refine c6 (L:=Nat×Nat) (fun(k,a)=>k<=p.a6.length∧a<=2000*k∧a+ma (p.a6.drop k)=ma p.a6) (fun(k,a)=>⟨[.c 54 (di p++[ab.nl,ab.i .i64 (-1)])],1,[(1,.p 0 0),(3,.i .i64 (a:Int)),(4,.i .i64 (k:Int))]⟩) (fun q=>p.a6.length-q.1) [0] (0,0) ⟨zag _,zag _,zaw _⟩ mj dD ?_;rintro⟨k,a⟩ ⟨U,hb,aE⟩;refine ak 22 ?_;by_cases aV:k<p.a6.length
 ·refine v1 22 (show(k:Int)<(p.a6.length:Int) by omega) ?_;have cK:=k2.2 _ (dV aV);rw[hB aV]at aE;have aE:a+(p.a6[k].v.length+ma (p.a6.drop (k+1)))=ma p.a6:=aE;refine I ?_;refine dP p.a6[k] (bF aV) ?_;refine ak 34 ?_;refine nu 34 ((a+p.a6[k].v.length:Nat):Int) (ak 24 ?_);refine nu 24 ((k+1:Nat):Int) (I ?_);exact a1 [0] (k+1,a+p.a6[k].v.length) ⟨by show _-(k+1)<_-k;omega,aV,by omega,by omega⟩ dD
 refine v0 22 (show¬(k:Int)<(p.a6.length:Int) by omega) ?_;rw[zbj (by omega)]at aE;have aE:a=ma p.a6:=aE;rw[aE];refine I ?_;refine c6 (L:=Unit) (fun _=>True) (fun _=>⟨[.c 54 (di p++[ab.nl,ab.i .i64 (-1)])],1,[(1,.p 0 0),(3,.i .i64 (ma p.a6:Int)),(5,.i .i64 0)]⟩) (fun _=>0) [0] () trivial mj dD ?_;intro _ _;refine ak 39 ?_;refine v0 39 (show¬(0:Int)<0 by decide) (ak 50 ?_);by_cases ch:400<(ma p.a6:Int)
 ·refine v1 50 ch (I ?_);exact ar rfl (yes (.inr ch))
 refine v0 50 ch ?_;have hc:¬u7 p=0:=by
  unfold u7;split
  ·decide
  ·assumption
 refine I ?_;refine aL ad0 p k2 ?_;refine ah 56 (.bu [.i .i64 0,.i .i64 (u7 p)]) rfl rfl (ak 60 ?_);refine v0 60 hc (I ?_);exact ar rfl (no (fun h=>h.elim h1 ch))
def WW:bh where
 L:=cB
 args:=fun p=>[gM p]
 pre:=uY
 res:=fun p=>.b (decide (w3 p))
def anu:a9 aT.ctx 5 WW.spec:=by
 refine bH [(15,Gp.spec)] cx.1 ?_;intro(p:cB) hp H aH;refine I ?_;refine aL ajK p hp (I ?_);exact ar rfl (.refl _)
def hP(P r:Nat):Nat:=if r<2^P then r else(2^P+r%2^P)*2^(r/2^P-1)
def rr{n j:Nat}(h1:n<=2*2^P)(h2:2^P<=n∨j=0):hP P (n+j*2^P)=n*2^j:=by
 have hp:=zah P;unfold hP;generalize 2^P=z at *;rcases(show n<z∨(z<=n∧n<2*z)∨n=2*z by omega)with h|h|h
 ·have:j=0:=by omega
  subst this;rw[zab (by omega)];simp
 ·rw[zaa (by have:=zag (j*z);omega)];have e:n+j*z=(n-z)+z*(j+1):=by rw[zaB,zaj z j];omega
  rw[e,zdd,dJ (by omega),zcG _ _ hp,zaW (by omega),show z+(n-z)=n by omega,show 0+(j+1)-1=j by omega]
 ·rw[zaa (by have:=zag (j*z);omega)];have e:n+j*z=0+z*(j+2):=by rw[zaB,zaj z j];omega
  rw[e,zdd,Nat.zero_mod,zcG _ _ hp,Nat.zero_div,show 0+(j+2)-1=j+1 by omega,h,zak,zaQ,zaj 2 z,zar,zaj (2^j) 2]
def Xs(P r:Nat):∃n j,r=n+j*2^P∧n<2*2^P∧(2^P<=n∨j=0):=by
 have hp:=zah P;generalize 2^P=z at *;by_cases h:r<z
 ·exact⟨r,0,by simp,by omega,.inr rfl⟩
 ·refine⟨z+r%z,r/z-1,?_,?_,.inl (by omega)⟩
  ·have h1:=zaS r z;have h2:1<=r/z:=(zbI hp).2 (by omega);obtain⟨k,U⟩:∃k,r/z=k+1:=⟨_,(Nat.sub_add_cancel h2).symm⟩;rw[U,zaB]at h1;rw[U,Nat.add_sub_cancel,zaj k];omega
  ·have:=zaf r hp;omega
def Xt(P r:Nat):hP P r<hP P (r+1):=by
 obtain⟨n,j,rfl,h1,h2⟩:=Xs P r;rw[rr (by omega) h2,show n+j*2^P+1=(n+1)+j*2^P by omega,rr (by omega) (by omega)];exact zcq (by omega) (zah _)
def x9{r s:Nat}(h:r<s):hP P r<hP P s:=by
 induction s with
 |zero=>omega
 |succ s aZ=>
  rcases(show r<s∨r=s by omega)with h|h
  ·exact zdP (aZ h) (Xt P s)
  ·subst h;exact Xt P r
def Ak{r s:Nat}(h:r<=s):hP P r<=hP P s:=by
 rcases(show r<s∨r=s by omega)with h|h
 ·exact zaY (x9 h)
 ·subst h;exact bY _
def Dy(P:Nat):hP P 0=0:=zab (zah P)
def bp(p:Int):Nat:=(p-1).toNat
def ew(e p:Int):Nat:=(ct e+p-2).toNat
def In(e p:Int):Nat:=(2*ct e+1).toNat*2^bp p
def n9(P:Nat)(r:Int):Int:=r.sign*(hP P r.natAbs:Nat)
def eb(e p r:Int):Rat:=mkRat (n9 (bp p) r) (2^ew e p)
def BH(h:2<=e):ct e+1=((2^(e-1).toNat:Nat):Int):=by unfold ct;simp
def Wz(h:cq e p):2^(e+p-1).toNat=In e p+2^bp p:=by
 obtain⟨h1,h2,h3,au,aW⟩:=h;have hb:=BH h1;have aq:(2*ct e+1).toNat+1=2^e.toNat:=by
  rw[show e.toNat=(e-1).toNat+1 by omega,zak];have aE:=zah (e-1).toNat;generalize 2^(e-1).toNat=z at *;omega
 unfold In;rw[<-zcj,Nat.succ_eq_add_one,aq,<-zal];congr 1;unfold bp;omega
def vM(h:cq e p):3*2^bp p<=In e p:=by
 have:=jn h.1 h.2.1;exact fK _ (by omega)
def oL(h:0<=r):n9 P r=(hP P r.natAbs:Nat):=by
 unfold n9;rcases(show r=0∨0<r by omega)with h|h
 ·subst h;rw[show(0:Int).natAbs=0 from rfl,Dy];rfl
 ·rw[zby h,zcf]
def wD(h:r<=0):n9 P r= -((hP P r.natAbs:Nat):Int):=by
 unfold n9;rcases(show r=0∨r<0 by omega)with h|h
 ·subst h;rw[show(0:Int).natAbs=0 from rfl,Dy];rfl
 ·rw[zcc h];omega
def OO(h:r<s):n9 P r<n9 P s:=by
 rcases(show 0<=r∨r<0 by omega)with h1|h1
 ·rw[oL h1,oL (by omega)];have:=x9 (P:=P) (show r.natAbs<s.natAbs by omega);omega
 ·rw[wD (r:=r) (by omega)];have h0:=x9 (P:=P) (show 0<r.natAbs by omega);rcases(show 0<=s∨s<0 by omega)with h2|h2
  ·rw[oL h2];omega
  ·rw[wD (by omega)];have:=x9 (P:=P) (show s.natAbs<r.natAbs by omega);omega
def aqP:n9 P r<=n9 P s↔r<=s:=by
 constructor
 ·intro h;exact zcu.1 fun az=>by have:=OO (P:=P) az;omega
 ·intro h;rcases(show r<s∨r=s by omega)with h|h
  ·exact zcM (OO h)
  ·subst h;exact zcL _
def DB(n:Int)(h:d≠0):(mkRat n d).num*(d:Int)=n*((mkRat n d).den:Int):=(zdi (mkRat n d).den_nz h).1 (zcr _)
def DF{a b c:Int}(h:0<c):a*c<=b*c↔a<=b:=⟨fun az=>Int.le_of_mul_le_mul_right az h,fun az=>Int.mul_le_mul_of_nonneg_right az (zcM h)⟩
def W0(h:d≠0):x<=mkRat n d↔x.num*(d:Int)<=n*(x.den:Int):=by
 rw[Rat.le_iff];have c:=DB n h;have Iv:=(mkRat n d).den_nz;generalize mkRat n d=y at *;rw[<-DF (show(0:Int)<d by omega),show x.num*(y.den:Int)*(d:Int)=x.num*(d:Int)*(y.den:Int) by ac_rfl,show y.num*(x.den:Int)*(d:Int)=y.num*(d:Int)*(x.den:Int) by ac_rfl,c,show n*(y.den:Int)*(x.den:Int)=n*(x.den:Int)*(y.den:Int) by ac_rfl];exact DF (by omega)
def mk_le(h:d≠0):mkRat n d<=x↔n*(x.den:Int)<=x.num*(d:Int):=by
 rw[Rat.le_iff];have c:=DB n h;have Iv:=(mkRat n d).den_nz;generalize mkRat n d=y at *;rw[<-DF (show(0:Int)<d by omega),show y.num*(x.den:Int)*(d:Int)=y.num*(d:Int)*(x.den:Int) by ac_rfl,show x.num*(y.den:Int)*(d:Int)=x.num*(d:Int)*(y.den:Int) by ac_rfl,c,show n*(y.den:Int)*(x.den:Int)=n*(x.den:Int)*(y.den:Int) by ac_rfl];exact DF (by omega)
def XD{m:Int}(h:d≠0):mkRat n d<=mkRat m d↔n<=m:=by
 rw[W0 h];have c:=DB n h;have Iv:=(mkRat n d).den_nz;rw[c];exact DF (by omega)
def xl(e p:Int):(2:Nat)^ew e p≠0:=by have:=zah (ew e p);omega
def EJ:eb e p r<=eb e p s↔r<=s:=(XD (xl e p)).trans aqP
def abK:eb e p r<eb e p s↔r<s:=by
 rw[<-Rat.not_le,EJ];omega
def Pn(e p:Int):eb e p 0=0:=by
 unfold eb;rw[oL (by decide),show(0:Int).natAbs=0 from rfl,Dy];exact zdl _
def Pm(e p r:Int):eb e p (-r)= -eb e p r:=by
 unfold eb n9;rw[zbL,Int.sign_neg,zbe,zeM]
def U9{p q u v:Nat}{k:Int}(h:(u:Int)-v=k):ml p q k↔q*2^u<=p*2^v:=by
 unfold ml;rcases(show 0<=k∨k<0 by omega)with h0|h0
 ·rw[show u=k.toNat+v by omega,show(-k).toNat=0 by omega,zal,<-zar,zbs,zaI];exact⟨fun h=>fK _ h,fun h=>zcN h (zah v)⟩
 ·rw[show v=(-k).toNat+u by omega,show k.toNat=0 by omega,zal,<-zar,zbs,zaI];exact⟨fun h=>fK _ h,fun h=>zcN h (zah u)⟩
def fq(e:Int)(x:Rat):Nat:=(max (gy x.num.natAbs x.den) (1-ct e)+ct e-1).toNat
def MV(e:Int)(x:Rat):(fq e x:Int)=max (gy x.num.natAbs x.den) (1-ct e)+ct e-1:=by unfold fq;omega
def gk(e p:Int)(x:Rat):Nat:=x.num.natAbs*2^ew e p/(x.den*2^fq e x)
def lu(e p:Int)(x:Rat):Prop:=x.den*2^fq e x∣x.num.natAbs*2^ew e p
variable{m k:Nat}
instance(e p:Int)(x:Rat):Decidable (lu e p x):=by unfold lu;infer_instance
def yd(e p:Int)(x:Rat):Nat:=if lu e p x then gk e p x else gk e p x+1
def mO(e p:Int)(x:Rat):Nat:=min (gk e p x+fq e x*2^bp p) (In e p-1)
def n8(e p:Int)(x:Rat):Nat:=min (yd e p x+fq e x*2^bp p) (In e p)
def vf(h:cq e p):(ew e p:Int)=ct e+p-2:=by
 have:=jn h.1 h.2.1;have:=h.2.2.1;unfold ew;omega
def wh(h:cq e p):(bp p:Int)=p-1:=by
 have:=h.2.2.1;unfold bp;omega
def FR(e:Int)(x:Rat):0<x.den*2^fq e x:=zbJ (zbc x.den_nz) (zah _)
def DJ(h:cq e p)(J:x.num≠0):gk e p x<2*2^bp p∧(2^bp p<=gk e p x∨fq e x=0):=by
 have iq:x.num.natAbs≠0:=by omega
 have pH:=(Na iq x.den_nz (gy x.num.natAbs x.den)).1 (zcL _);have acq:∀k,gy x.num.natAbs x.den<k->¬ml x.num.natAbs x.den k:=fun k U h=>by
  have:=(Na iq x.den_nz k).2 h;omega
 have d1:=vf h;have hd:=wh h;have WI:=MV e x;have hp:=FR e x;unfold gk;constructor
 ·rw[zbi hp];have:=mt (U9 (p:=x.num.natAbs) (q:=x.den) (u:=fq e x+bp p+1) (v:=ew e p) (k:=max (gy x.num.natAbs x.den) (1-ct e)+1) (by omega)).2 (acq _ (by omega));rw[Nat.not_le,zak,zal]at this;refine Nat.lt_of_lt_of_eq this ?_
  ac_rfl
 ·by_cases hj:fq e x=0
  ·exact .inr hj
  ·left;rw[zbI hp];have:=(U9 (p:=x.num.natAbs) (q:=x.den) (u:=fq e x+bp p) (v:=ew e p) (k:=gy x.num.natAbs x.den) (by omega)).1 pH;rw[zal]at this;refine zai (zcX ?_) this
   ac_rfl
def HM(e p:Int)(x:Rat):gk e p x*2^fq e x*x.den<=x.num.natAbs*2^ew e p∧x.num.natAbs*2^ew e p<(gk e p x+1)*2^fq e x*x.den∧(lu e p x->gk e p x*2^fq e x*x.den=x.num.natAbs*2^ew e p)∧(¬lu e p x->gk e p x*2^fq e x*x.den<x.num.natAbs*2^ew e p):=by
 have hp:=FR e x;have aq:∀n:Nat,n*2^fq e x*x.den=n*(x.den*2^fq e x):=fun n=>by ac_rfl
 rw[aq,aq];unfold gk lu;generalize x.den*2^fq e x=q at *;generalize x.num.natAbs*2^ew e p=T;have h1:=zaS T q;have h2:=zaf T hp;rw[zaj q]at h1;have h3:=Nat.dvd_iff_mod_eq_zero (n:=q) (m:=T);refine⟨by omega,by rw[zcj];omega,fun h=> ?_,fun h=> ?_⟩
 ·have:=Nat.mod_eq_zero_of_dvd h;omega
 ·have:T%q≠0:=fun az=>h (Nat.dvd_of_mod_eq_zero az);omega
def Z0(h:cq e p)(J:x.num≠0){s:Nat}(ae:s<In e p):s<=mO e p x↔hP (bp p) s*x.den<=x.num.natAbs*2^ew e p:=by
 obtain⟨cK,c9⟩:=DJ h J;obtain⟨f1,f2,_⟩:=HM e p x;have eW:=rr (P:=bp p) (n:=gk e p x) (j:=fq e x) (by omega) c9;have g1:=rr (P:=bp p) (n:=gk e p x+1) (j:=fq e x) (by omega) (by omega);have h1:s<=mO e p x↔s<=gk e p x+fq e x*2^bp p:=by unfold mO;omega
 rw[h1];constructor
 ·intro hl;have:=Ak (P:=bp p) hl;rw[eW]at this;exact zai (fK _ this) f1
 ·intro hl;refine zct fun ck=> ?_;have:=Ak (P:=bp p) (show gk e p x+1+fq e x*2^bp p<=s by omega);rw[g1]at this;have:=fK x.den this;omega
def Z1(h:cq e p)(J:x.num≠0){s:Nat}(ae:s<In e p):n8 e p x<=s↔x.num.natAbs*2^ew e p<=hP (bp p) s*x.den:=by
 obtain⟨cK,c9⟩:=DJ h J;obtain⟨f1,f2,f3,f4⟩:=HM e p x;have eW:=rr (P:=bp p) (n:=gk e p x) (j:=fq e x) (by omega) c9;have g1:=rr (P:=bp p) (n:=gk e p x+1) (j:=fq e x) (by omega) (by omega);have h1:n8 e p x<=s↔yd e p x+fq e x*2^bp p<=s:=by unfold n8;omega
 rw[h1];unfold yd;by_cases hn:lu e p x
 ·rw[zab hn];have f3:=f3 hn;constructor
  ·intro hl;have:=Ak (P:=bp p) hl;rw[eW]at this;rw[<-f3];exact fK _ this
  ·intro hl;refine zct fun ck=> ?_;have:=x9 (P:=bp p) ck;rw[eW]at this;have:=zcq this (zbc x.den_nz);omega
 ·rw[zaa hn];have f4:=f4 hn;constructor
  ·intro hl;have:=Ak (P:=bp p) hl;rw[g1]at this;exact zai (zaY f2) (fK _ this)
  ·intro hl;refine zct fun ck=> ?_;have:=Ak (P:=bp p) (show s<=gk e p x+fq e x*2^bp p by omega);rw[eW]at this;have:=fK x.den this;omega
def eJ(e p:Int)(up:Bool)(x:Rat):Int:=
 if x.num=0 then 0 else if x.num<0 then -((if up then mO e p x else n8 e p x:Nat):Int)else((if up then n8 e p x else mO e p x:Nat):Int)
def Hr(e:Int)(x:Rat):fq e (-x)=fq e x:=by unfold fq;rw[zbK,zcd,zbL]
def XJ(e p:Int)(x:Rat):gk e p (-x)=gk e p x:=by unfold gk;rw[Hr,zbK,zcd,zbL]
def an5(e p:Int)(x:Rat):lu e p (-x)↔lu e p x:=by unfold lu;rw[Hr,zbK,zcd,zbL]
def an4(e p:Int)(x:Rat):yd e p (-x)=yd e p x:=by unfold yd;rw[XJ];simp only[an5]
def aqx(e p:Int)(x:Rat):mO e p (-x)=mO e p x:=by unfold mO;rw[XJ,Hr]
def aqy(e p:Int)(x:Rat):n8 e p (-x)=n8 e p x:=by unfold n8;rw[an4,Hr]
def adA(e p:Int)(up:Bool)(x:Rat):eJ e p up (-x)= -eJ e p (!up) x:=by
 unfold eJ;rw[aqx,aqy,zbK];rcases(show x.num=0∨x.num<0∨0<x.num by omega)with h|h|h
 ·rw[zab (show -x.num=0 by omega),zab h];rfl
 ·rw[zaa (show¬-x.num=0 by omega),zaa (show¬-x.num<0 by omega),zaa (show¬x.num=0 by omega),zab h,Int.neg_neg];cases up<;>rfl
 ·rw[zaa (show¬-x.num=0 by omega),zab (show -x.num<0 by omega),zaa (show¬x.num=0 by omega),zaa (show¬x.num<0 by omega)];cases up<;>rfl
def Fv(h:cq e p)(hr:r.natAbs<In e p):r<=eJ e p false x↔eb e p r<=x:=by
 unfold eb;rw[mk_le (xl e p)];have AL:(0:Int)<x.den:=by have:=x.den_nz;omega
 have hf:(0:Int)<((2^ew e p:Nat):Int):=Int.natCast_pos.2 (zah _);unfold eJ;rcases(show x.num=0∨x.num<0∨0<x.num by omega)with h0|h0|h0
 ·rw[zab h0,h0,Int.zero_mul];rcases(show 0<r∨r<=0 by omega)with h1|h1
  ·have:=Int.mul_pos (show 0<n9 (bp p) r by have:=OO (P:=bp p) h1;rw[oL (by decide:(0:Int)<=0),show(0:Int).natAbs=0 from rfl,Dy]at this;omega) AL;omega
  ·have:=zcg (show 0<= -n9 (bp p) r by rw[wD h1];omega) (zcM AL);rw[zbe]at this;omega
 ·rw[zaa (by omega),zab h0,zaa (by decide)];have J:x.num≠0:=by omega
  have e2:x.num*((2^ew e p:Nat):Int)= -((x.num.natAbs*2^ew e p:Nat):Int):=by
   rw[zap,<-zbe];congr 1;omega
  rw[e2];have auH:0<x.num.natAbs*2^ew e p:=zbJ (by omega) (by have:=xl e p;omega);rcases(show 0<=r∨r<0 by omega)with h1|h1
  ·rw[oL h1];have:=Z1 h J (s:=0) (by omega);rw[Dy,zav]at this;have h3:=zcg (show(0:Int)<=((hP (bp p) r.natAbs:Nat):Int) by omega) (zcM AL);omega
  ·rw[wD (by omega),zbe];have:=Z1 h J hr;have bV:((hP (bp p) r.natAbs:Nat):Int)*(x.den:Int)=((hP (bp p) r.natAbs*x.den:Nat):Int):=(zap _ _).symm;rw[bV];omega
 ·rw[zaa (by omega),zaa (by omega),zaa (by decide)];have J:x.num≠0:=by omega
  have e2:x.num*((2^ew e p:Nat):Int)=((x.num.natAbs*2^ew e p:Nat):Int):=by
   rw[zap];congr 1;omega
  rw[e2];rcases(show 0<=r∨r<0 by omega)with h1|h1
  ·rw[oL h1];have:=Z0 h J hr;have bV:((hP (bp p) r.natAbs:Nat):Int)*(x.den:Int)=((hP (bp p) r.natAbs*x.den:Nat):Int):=(zap _ _).symm;rw[bV];omega
  ·rw[wD (by omega),zbe];have h3:=zcg (show(0:Int)<=((hP (bp p) r.natAbs:Nat):Int) by omega) (zcM AL);omega
def QM(h:cq e p)(hr:r.natAbs<In e p):eJ e p true x<=r↔x<=eb e p r:=by
 have:=Fv (x:= -x) h (r:= -r) (by omega);rw[adA,Pm,Rat.neg_le_neg_iff]at this;rw[<-this];show eJ e p true x<=r↔-r<= -eJ e p true x;omega
def zk(h:cq e p): -(In e p:Int)<=eJ e p false x∧eJ e p false x<In e p∧-(In e p:Int)<eJ e p true x∧eJ e p true x<=In e p:=by
 have h1:=vM h;have h2:=zah (bp p);have h3:mO e p x<=In e p-1:=by unfold mO;omega
 have au:n8 e p x<=In e p:=by unfold n8;omega
 unfold eJ;split
 ·omega
 split<;>simp<;>omega
def KB(h:cq e p)(hr:r.natAbs<In e p)(up:Bool):eJ e p up (eb e p r)=r:=by
 obtain⟨aG,aI,a4,b2⟩:=zk (x:=eb e p r) h;have h1:=vM h;have h2:=zah (bp p);cases up with
 |false=>
  have a:=(Fv (x:=eb e p r) h hr).2 zdN;refine Int.le_antisymm (zcu.1 fun hl=> ?_) a;have:=(Fv (x:=eb e p r) h (r:=eJ e p false (eb e p r)) (by omega)).1 (zcL _);have:=EJ.1 this;omega
 |true=>
  have a:=(QM (x:=eb e p r) h hr).2 zdN;refine Int.le_antisymm a (zcu.1 fun hl=> ?_);have:=(QM (x:=eb e p r) h (r:=eJ e p true (eb e p r)) (by omega)).1 (zcL _);have:=EJ.1 this;omega
def O2(h:cq e p)(x:Rat):kr e p x=(fq e x:Int)-ew e p:=by
 have:=MV e x;have:=vf h;unfold kr;omega
def uC{k:Int}{u v:Nat}(h:(u:Int)-v=k):cS x k=mkRat (x.num*((2^u:Nat):Int)) (x.den*2^v):=by
 have aF:x.den*2^v≠0:=zbd x.den_nz (by have:=zah v;omega);unfold cS;split
 ·rw[zdi (zbd x.den_nz (by have:=zah (-k).toNat;omega)) aF,show v=(-k).toNat+u by omega];simp only[zal,zap]
  ac_rfl
 ·rw[zdi x.den_nz aF,show u=k.toNat+v by omega];have e:((2^k.toNat:Nat):Int)=2^k.toNat:=by simp
  rw[<-e];simp only[zal,zap]
  ac_rfl
def XC(h:d≠0):(mkRat n d).den=1↔d∣n.natAbs:=by
 rw[(ss n d h).2];have aJ:0<n.natAbs.gcd d:=zeV _ (by omega);constructor
 ·intro h1;obtain⟨c,hc⟩:=Nat.gcd_dvd_right n.natAbs d;have h2:=zdh n.natAbs d;generalize n.natAbs.gcd d=g at *;subst hc;rw[zeC _ aJ]at h1;subst h1;rw[zaI];exact h2
 ·intro h1;rw[Nat.gcd_eq_right h1,Nat.div_self (by omega)]
def WE(h:cq e p)(x:Rat):(cS x (-kr e p x)).den=1↔lu e p x:=by
 rw[uC (u:=ew e p) (v:=fq e x) (by rw[O2 h];omega),XC (by have:=FR e x;omega),zbN,zaC];exact Iff.rfl
def an0(h:cq e p):hP (bp p) (In e p-1)=(2*2^bp p-1)*2^(2*ct e-1).toNat:=by
 have hb:=jn h.1 h.2.1;have hp:=zah (bp p);rw[<-rr (P:=bp p) (n:=2*2^bp p-1) (j:=(2*ct e-1).toNat) (by omega) (by omega)];congr 1;unfold In;rw[show(2*ct e+1).toNat=(2*ct e-1).toNat+2 by omega,zam];omega
def Vi(h:cq e p):kU e p=eb e p ((In e p:Int)-1):=by
 obtain⟨h1,h2,h3,au,aW⟩:=id h;have hb:=jn h1 h2;have hp:=zah (bp p);have hi:=vM h;have al:=vf h;have ll:=wh h;have aq:cS (mkRat 1 1) p-mkRat 1 1=mkRat ((2*2^bp p-1:Nat):Int) 1:=by
  rw[uC (u:=p.toNat) (v:=0) (by omega),show p.toNat=bp p+1 by omega,zak];generalize 2^bp p=z at *;show mkRat (1*((z*2:Nat):Int)) (1*1)-mkRat 1 1=_;rw[zcJ,zeM,Rat.mkRat_add_mkRat _ _ (by decide) (by decide)];congr 1;omega
 unfold kU;rw[aq];have e2:∀n:Nat,(mkRat (n:Int) 1).num=n∧(mkRat (n:Int) 1).den=1:=fun n=>by
  obtain⟨a,b⟩:=ss (n:Int) 1 (by decide);rw[a,b];simp
 obtain⟨a,b⟩:=e2 (2*2^bp p-1);rw[uC (u:=(2*ct e-1).toNat) (v:=ew e p) (by omega),a,b];unfold eb;rw[oL (by omega),show((In e p:Int)-1).natAbs=In e p-1 by omega,an0 h,zap,zaH]
def PS(h:cq e p)(x:Rat):¬kU e p<gv x↔x.num.natAbs*2^ew e p<=hP (bp p) (In e p-1)*x.den:=by
 have hi:=vM h;have hp:=zah (bp p);rw[zcK,Vi h];unfold eb;rw[W0 (xl e p),(mV x).1,(mV x).2,oL (by omega),show((In e p:Int)-1).natAbs=In e p-1 by omega,<-zap,<-zap];omega
def atD{r:Nat}(h:hP (bp p) r*x.den=x.num.natAbs*2^ew e p):x=eb e p (if x.num<0 then -(r:Int)else r):=by
 unfold eb
 conv=>lhs;rw[<-zcr x]
 rw[zdi x.den_nz (xl e p)];have az:((hP (bp p) r*x.den:Nat):Int)=((x.num.natAbs*2^ew e p:Nat):Int):=by rw[h]
 rw[zap,zap]at az;split
 ·rw[wD (by omega),zbL,zaC,zbe,az,<-zbe];congr 1;omega
 ·rw[oL (by omega),zaC,az];congr 1;omega
def Gz(aa:cq e p):hE e p x↔∃r:Int,r.natAbs<In e p∧x=eb e p r:=by
 have hi:=vM aa;have hp:=zah (bp p);constructor
 ·rintro⟨_,h0|⟨h1,h2⟩⟩
  ·refine⟨0,by omega,?_⟩;rw[Pn];have:=zcr x;rw[h0,zdl]at this;exact this.symm
  ·by_cases h0:x.num=0
   ·refine⟨0,by omega,?_⟩;rw[Pn];have:=zcr x;rw[h0,zdl]at this;exact this.symm
   rw[WE aa]at h1;rw[PS aa]at h2;obtain⟨cK,c9⟩:=DJ aa h0;obtain⟨f1,f2,f3,f4⟩:=HM e p x;have f3:=f3 h1;have eW:=rr (P:=bp p) (n:=gk e p x) (j:=fq e x) (by omega) c9;rw[<-eW]at f3;refine⟨_,?_,atD f3⟩;rw[<-f3]at h2;have h3:=zcN h2 (zbc x.den_nz);have au:gk e p x+fq e x*2^bp p<=In e p-1:=zct fun h=>by have:=x9 (P:=bp p) h;omega
   split<;>omega
 ·rintro⟨r,hr,rfl⟩;refine⟨aa,?_⟩;by_cases h0:(eb e p r).num=0
  ·exact .inl h0
  right;obtain⟨cK,c9⟩:=DJ aa h0;obtain⟨f1,f2,f3,f4⟩:=HM e p (eb e p r);have eW:=rr (P:=bp p) (n:=gk e p (eb e p r)) (j:=fq e (eb e p r)) (by omega) c9;have c:=DB (n9 (bp p) r) (xl e p);have gg:(eb e p r).num.natAbs*2^ew e p=hP (bp p) r.natAbs*(eb e p r).den:=by
   have:=congrArg Int.natAbs c;rw[zbN,zbN,zaC,zaC]at this;have bV:(n9 (bp p) r).natAbs=hP (bp p) r.natAbs:=by
    rcases(show 0<=r∨r<=0 by omega)with h|h
    ·rw[oL h];omega
    ·rw[wD h];omega
   rw[bV]at this;exact this
  have aG:=(Z0 aa h0 hr).2 (by rw[gg];exact bY _);have AL:=zbc (eb e p r).den_nz;rw[gg,<-eW]at f1;have aI:=zcN f1 AL;have a4:gk e p (eb e p r)+fq e (eb e p r)*2^bp p<=r.natAbs:=zct fun h=>by have:=x9 (P:=bp p) h;omega
  have b2:mO e p (eb e p r)<=gk e p (eb e p r)+fq e (eb e p r)*2^bp p:=by unfold mO;omega
  have cx:gk e p (eb e p r)+fq e (eb e p r)*2^bp p=r.natAbs:=by omega
  refine⟨(WE aa _).2 (Decidable.byContradiction fun hn=> ?_),(PS aa _).2 ?_⟩
  ·have:=f4 hn;rw[gg,<-eW,cx]at this;omega
  ·rw[gg];exact fK _ (Ak (by omega))
def aby{s:ac bv}(h:fb s=some x):il x=s:=by
 have ae:=OS s;unfold fb at h;obtain⟨eK,fO,mW⟩:=KS (dw s).2;generalize cutAt (dw s).2=g at *;generalize(dw s).1=n at *;generalize(dw s).2=t at *;obtain⟨P,Q⟩:=g;split at h
 ·rename_i aJ;cases Q with
  |none=>
   cases h;rw[abw aJ.1 aJ.2,ae,mW rfl]
  |some q=>
   simp only at h;split at h
   ·rename_i h2;cases h;rw[(abv aJ.1 h2.1 aJ.2 h2.2.1 h2.2.2.1).2 h2.2.2.2,ae,fO q rfl,zbO]
   ·cases h
 ·cases h
def Fu(n:Nat):hD (de n):=by
 refine⟨th n,FK n,?_⟩;unfold de dec;split
 ·exact .inl rfl
 ·right;rename_i h0;have aN:=r1 (b:=10) (by decide) n;have ai:=gb (b:=10) (by decide) n;rcases zbU (aR 10 n)with h|⟨cM,d,h⟩
  ·exact absurd ((nD (by decide)).1 h) h0
  ·rw[zbV]at h;rw[h]at aN ai;have al:d≠0:=(yi (b:=10) aN).2;have kY:d<10:=ai d (by simp);rw[h,zbP];show some (UInt8.ofNat (48+d))≠some 48;intro he;have:=congrArg UInt8.toNat (Option.some.inj he);rw[B7 kY]at this;have:48+d=48:=this;omega
def KY{n:Nat}(h:de n=de m):n=m:=by rw[<-AX n,h,AX]
def aq5(b:Prop)[Decidable b](n:Nat)(t:ac bv):dw ((if b then[45]else[])++de n++t)=(decide b,de n++t):=by
 by_cases hb:b
 ·rw[zab hb,zad hb];rfl
 ·rw[zaa hb,zac hb,List.nil_append];have h1:=Fu n;cases al:de n with
  |nil=>exact absurd al (th n)
  |cons c l=>
   have:=h1.2.1 c (by rw[al];simp);show(if c=45 then _ else _)=_;rw[zaa (fun e=>by subst e;simp at this)];rfl
def YT(x:Rat):fb (il x)=some x:=by
 have hm:mkRat (h4 (decide (x.num<0)) x.num.natAbs) x.den=x:=by
  have:h4 (decide (x.num<0)) x.num.natAbs=x.num:=(yk x).symm;rw[this];exact zcr x
 have cl:¬(decide (x.num<0)=true∧de x.num.natAbs=[48]):=fun⟨h1,h2⟩=>by
  have h1:x.num<0:=zbF h1;have:=KY (n:=x.num.natAbs) (m:=0) h2;omega
 unfold il fb;rw[aq5];simp only;by_cases al:x.den=1
 ·rw[zab al,zcs,KT (HY (FK _))];simp only;rw[zab ⟨Fu _,cl⟩,AX];rw[al]at hm;rw[hm]
 ·rw[zaa al,BZ (HY (FK _)) rfl];simp only;rw[zab ⟨Fu _,cl⟩,AX,AX,zab ⟨Fu _,fun h=>x.den_nz (KY (m:=0) h),fun h=>al (KY (m:=1) (h.trans (by decide +kernel))),x.reduced⟩,hm]
def anZ(h:cq e p){r:Nat}(hr:r<=In e p):∃k:Nat,k<=2200∧hP (bp p) r<2^k:=by
 obtain⟨h1,h2,h3,au,aW⟩:=id h;have hb:=jn h1 h2;have ll:=wh h;obtain⟨n,j,rfl,a,b⟩:=Xs (bp p) r;rw[rr (by omega) b];have hj:j<=2047:=by
  have ch:j*2^bp p<=(2*ct e+1).toNat*2^bp p:=by unfold In at hr;omega
  have:=zcN ch (zah _);omega
 have aq:2*2^bp p=2^(bp p+1):=by rw[zak,zaj]
 rw[aq]at a;refine⟨bp p+1+j,by omega,?_⟩;rw[zal];exact Nat.mul_lt_mul_of_lt_of_le a (bY _) (zah j)
def anv{n:Nat}(h:n<2^m)(U:m<=32*k):dF k n:=rn (by rw[show(4294967296:Nat)=2^32 from rfl,<-zbw];exact zcP h (zat (by decide) U))
def afj(h:cq e p):ew e p<=1134:=by
 have:=vf h;have:=jn h.1 h.2.1;have:=h.2.2.2.1;omega
def XN(h:cq e p)(hr:r.natAbs<=In e p):cA 70 (eb e p r):=by
 refine uf ?_ (cD (AN _) (by have:=afj h;omega)) (xl e p);have:(n9 (bp p) r).natAbs=hP (bp p) r.natAbs:=by
  rcases(show 0<=r∨r<=0 by omega)with h|h
  ·rw[oL h];omega
  ·rw[wD h];omega
 rw[this];obtain⟨k,U,hm⟩:=anZ h hr;exact anv hm (by omega)
def atm(h:cA k x):(il x).length<=20*k+4:=by
 have fa:=FL h.1;have g8:=FL h.2;unfold il;rw[zaG,zaG];have:(if x.num<0 then([45]:ac bv)else[]).length<=1:=by split<;>simp
 have:(if x.den=1 then([]:ac bv)else 47::de x.den).length<=1+(de x.den).length:=by
  split
  ·simp
  ·simp;omega
 omega
abbrev bA:Nat:=18446744073709551616
variable{a b w:Nat}
def Bm(h:k<=64):bA=2^k*2^(64-k):=by rw[<-zal,show k+(64-k)=64 by omega]
def at5(w:Nat)(h:64<=k):w*2^k%(bA*bA)/bA=w%bA*2^(k-64)%bA∧w*2^k%(bA*bA)%bA=0:=by
 have e:w*2^k=bA*(w*2^(k-64)):=by
  rw[show k=(k-64)+64 by omega,zal,show k-64+64-64=k-64 by omega,show(2:Nat)^64=bA from rfl]
  ac_rfl
 rw[zex,zew,e,zeC _ (by decide),Nat.mul_mod_right,Nat.mod_mul_mod];exact⟨rfl,rfl⟩
def Ig(h:b<2^k):2^k*a|||b=2^k*a+b:=(zet h a).symm
def NY{H q:Nat}(U:k<=64)(hq:q<2^k):H*2^k%bA|||q=(H*2^k+q)%bA:=by
 have aq:H*2^k%bA=2^k*(H%2^(64-k)):=by rw[Bm U,zaj H,Nat.mul_mod_mul_left]
 have h2:H%2^(64-k)<2^(64-k):=zaf _ (zah _);have h3:2^k*(H%2^(64-k))+q<bA:=by
  rw[Bm U];have:=lF (2^k) (show H%2^(64-k)+1<=2^(64-k)from h2);rw[zaB]at this;omega
 rw[aq,Ig hq,Nat.add_mod,aq,dJ (a:=q) (by omega),dJ h3]
def at4(w:Nat)(h:k<64):w*2^k%(bA*bA)/bA=w/bA*2^k%bA|||w%bA/2^(64-k)∧w*2^k%(bA*bA)%bA=w%bA*2^k%bA:=by
 have iZ:w%bA<bA:=zaf _ (by decide);have hq:w%bA/2^(64-k)<2^k:=(zbi (zah _)).2 (by rw[<-Bm (by omega)];exact iZ);have aq:w%bA*2^k/bA=w%bA/2^(64-k):=by
  have:(w%bA*2^k)/(2^(64-k)*2^k)=w%bA/2^(64-k):=Nat.mul_div_mul_right _ _ (zah k);rw[<-this,zaj (2^(64-k)),<-Bm (by omega)]
 have e2:w*2^k/bA=w/bA*2^k+w%bA/2^(64-k):=by
  rw[<-aq]
  conv=>lhs;rw[<-zaS w bA]
  rw[zam,zar,zdI (by decide)]
 rw[zex,zew,e2,NY (by omega) hq,Nat.mod_mul_mod];exact⟨rfl,rfl⟩
def at7(hw:w<bA*bA)(h:64<=k):w/2^k/bA=0∧w/2^k%bA=w/bA/2^(k-64):=by
 have e:w/2^k=w/bA/2^(k-64):=by
  rw[zaT,show k=64+(k-64) by omega,zal,show 64+(k-64)-64=k-64 by omega]
 have h1:w/bA<bA:=(zbi (by decide)).2 hw;have h2:w/bA/2^(k-64)<=w/bA:=zax _ _;rw[e];exact⟨zaW (by omega),dJ (by omega)⟩
def at6(w:Nat)(h:k<64):w/2^k/bA=w/bA/2^k∧w/2^k%bA=w%bA/2^k|||w/bA*2^(64-k)%bA:=by
 have iZ:w%bA<bA:=zaf _ (by decide);have hq:w%bA/2^k<2^(64-k):=(zbi (zah _)).2 (by rw[zaj,<-Bm (by omega)];exact iZ);have e2:w/2^k=w/bA*2^(64-k)+w%bA/2^k:=by
  conv=>lhs;rw[<-zaS w bA]
  conv=>lhs;lhs;lhs;lhs;rw[Bm (k:=k) (by omega)]
  rw[zar,zdI (zah _),zaj (2^(64-k))]
 refine⟨by rw[zaT,zaT,zaj],?_⟩;rw[zcE,NY (by omega) hq,<-e2]
def atY(a b:Nat):(a|||b)/bA=a/bA|||b/bA∧(a|||b)%bA=a%bA|||b%bA:=by
 refine⟨?_,?_⟩
 ·have:=Nat.shiftRight_or_distrib (a:=a) (b:=b) (i:=64);simpa[Nat.shiftRight_eq_div_pow]using this
 ·have:=Nat.or_mod_two_pow (a:=a) (b:=b) (n:=64);simpa using this
def atT(w:Nat)(h:k<=128):w*2^(128-k)%(bA*bA)/2^(128-k)=w%2^k:=by
 have e:bA*bA=2^k*2^(128-k):=by rw[<-zal,show k+(128-k)=128 by omega];rfl
 rw[e,Nat.mul_mod_mul_right,zdf _ (zah _)]
def bg(n:Int):Rat:=mkRat n 1
def jO(n:Int):(bg n).num=n∧(bg n).den=1:=by
 obtain⟨a,b⟩:=ss n 1 (by decide);unfold bg;rw[a,b];simp
def wS(a b:Int):bg a+bg b=bg (a+b):=by
 unfold bg;rw[Rat.mkRat_add_mkRat _ _ (by decide) (by decide)];simp
def PA(a:Int): -bg a=bg (-a):=by unfold bg;rw[zeM]
def PB(a b:Int):bg a-bg b=bg (a-b):=by rw[zcJ,PA,wS,Int.sub_eq_add_neg]
def EX(a:Int)(k:Nat):cS (bg a) (k:Int)=bg (a*((2^k:Nat):Int)):=by
 rw[uC (u:=k) (v:=0) (by omega),(jO a).1,(jO a).2];rfl
def qY(x:Rat):Int:=x.num/(x.den:Int)
def F8(h:d≠0):qY (mkRat n d)=n/(d:Int):=by
 have c:=DB n h;have Iv:=(mkRat n d).den_nz;unfold qY;generalize mkRat n d=y at *;have h1:y.num/(y.den:Int)=y.num*(d:Int)/((y.den:Int)*d):=(zeW _ _ (by omega)).symm;have h2:n/(d:Int)=n*(y.den:Int)/((d:Int)*y.den):=(zeW _ _ (by omega)).symm;rw[h1,h2,c,Int.mul_comm (y.den:Int)]
def auD(a:Int)(k:Nat):qY (cS (bg a) (-(k:Int)))=a/((2^k:Nat):Int):=by
 rw[uC (u:=0) (v:=k) (by omega),(jO a).1,(jO a).2,zaH,F8 (by have:=zah k;omega)];simp
def lv(h:n.natAbs<4294967296^(k+1)):cA (k+1) (bg n):=by
 unfold cA;rw[(jO n).1,(jO n).2];exact⟨rn h,rn (Nat.one_lt_pow (by omega) (by decide))⟩
def agu(h:d≠0):(-n)/(d:Int)= -(if(d:Int)∣n then n/(d:Int)else n/(d:Int)+1):=by
 have h0:(0:Int)<d:=by omega
 have h1:=Int.mul_ediv_add_emod n d;have h2:=Int.emod_nonneg n (show(d:Int)≠0 by omega);have h3:=Int.emod_lt_of_pos n h0;have hu:∀q r:Int,r+(d:Int)*q= -n->0<=r->r<d->(-n)/(d:Int)=q:=fun q r a b c=>((Int.ediv_emod_unique h0).2 ⟨a,b,c⟩).1;split
 ·rename_i al;have:=Int.emod_eq_zero_of_dvd al;exact hu _ 0 (by rw[zcR];omega) (by omega) h0
 ·rename_i al;have au:n%(d:Int)≠0:=fun h=>al (Int.dvd_of_emod_eq_zero h);refine hu _ ((d:Int)-n%d) ?_ (by omega) (by omega);rw[zcR,Int.mul_add];omega
def Z4:bh where
 L:=Rat×Rat
 args:=fun(x,y)=>[bG x,bG y]
 pre:=fun(x,y)=>cA 268435456 x∧cA 268435456 y
 res:=fun(x,y)=>bG (x*y)
def aaq(n m:Bool)(a b:Nat):b5 (n != m) (a*b)=b5 n a*b5 m b:=by cases n<;>cases m<;>simp[b5,zbe,zcR]
def Z5:a9 aT.ctx 61 Z4.spec:=by
 refine bH [(41,s8.spec),(40,As.spec),(31,vY.spec)] Ux.1 ?_;intro⟨x,y⟩ ⟨(J:cA _ x),(aA:cA _ y)⟩ H aH;refine I ?_;refine bo su (x.num.natAbs,y.num.natAbs) ⟨cD J.1 (by decide),cD aA.1 (by decide)⟩ (I ?_);refine bo nz x trivial (I ?_);refine bo nz y trivial (I ?_);refine bo su (x.den,y.den) ⟨cD J.2 (by decide),cD aA.2 (by decide)⟩ (I ?_);refine bo pn (decide (x.num<0) != decide (y.num<0),x.num.natAbs*y.num.natAbs,x.den*y.den) ⟨cD (lr J.1 aA.1) (by decide),cD (lr J.2 aA.2) (by decide),zbd x.den_nz y.den_nz⟩ (I ?_);refine ar rfl (.of (congrArg bG ?_));show mkRat (b5 _ _) _=x*y;rw[aaq,<-yk,<-yk,Rat.mul_def']
def aad:bh where
 L:=Rat×Rat
 args:=fun(x,y)=>[bG x,bG y]
 pre:=fun(x,y)=>cA 268435456 x∧cA 268435456 y∧0<y.num
 res:=fun(x,y)=>.bu [bG (mkRat (x.num*(y.den:Int)) (x.den*y.num.natAbs)),.i .i64 0]
def aae:a9 aT.ctx 62 aad.spec:=by
 refine bH [(39,uE.spec),(41,s8.spec),(40,As.spec),(31,vY.spec)] Uy.1 ?_;intro⟨x,y⟩ ⟨(J:cA _ x),(aA:cA _ y),(h0:0<y.num)⟩ H aH;refine I ?_;refine aL sK y trivial (I ?_);refine b9 (fun h=> ?_) (fun h=> ?_)
 ·have h:y.num=0:=zbM.1 h;omega
 refine I ?_;refine bo nz y trivial (I ?_);refine bo su (x.num.natAbs,y.den) ⟨cD J.1 (by decide),cD aA.2 (by decide)⟩ (I ?_);refine bo nz x trivial (I ?_);refine bo su (x.den,y.num.natAbs) ⟨cD J.2 (by decide),cD aA.1 (by decide)⟩ (I ?_);refine bo pn (decide (x.num<0) != decide (y.num<0),x.num.natAbs*y.den,x.den*y.num.natAbs) ⟨cD (lr J.1 aA.2) (by decide),cD (lr J.2 aA.1) (by decide),zbd x.den_nz (by omega)⟩ (I ?_);refine ar rfl (.of (congrArg (fun q=>ab.bu [bG q,.i .i64 0]) ?_));show mkRat (b5 (decide (x.num<0) != decide (y.num<0)) _) _=_;rw[zac (show¬y.num<0 by omega),aaq,<-yk];rfl
def ON:bh where
 L:=Rat×Bool
 args:=fun(x,a)=>[bG x,.b a]
 pre:=fun(x,_)=>cA 268435456 x
 res:=fun(x,a)=>bG (bg (b5 (decide (x.num<0)) (x.num.natAbs/x.den+(if a=true∧x.num.natAbs%x.den≠0 then 1 else 0))))
def aqM:a9 aT.ctx 125 ON.spec:=by
 refine bH [(41,s8.spec),(82,FP.spec),(32,v9.spec),(88,Fb.spec),(31,vY.spec)] Sc.1 ?_;intro⟨x,a⟩ (J:cA _ x) H aH;have fa:dF 268435456 (x.num.natAbs/x.den):=so J.1 (zax _ _);have Dt:dF 2 1:=nV (by decide);have aq:∀v:Nat,v=x.num.natAbs/x.den+(if a=true∧x.num.natAbs%x.den≠0 then 1 else 0)->bZ (bG (mkRat (b5 (decide (x.num<0)) v) 1)) (ON.res (x,a)):=fun v h=>.of (by subst h;rfl);refine I ?_;refine bo nz x trivial (I ?_);refine bo FQ (x.num.natAbs,x.den) ⟨cD J.1 (by decide),cD J.2 (by decide),x.den_nz⟩ ?_;refine ah 12 (.bu [c0 (x.num.natAbs/x.den),c0 (x.num.natAbs%x.den)]) rfl rfl ?_;generalize x.num.natAbs/x.den=q at *;generalize x.num.natAbs%x.den=r at *;cases a with
 |false=>
  refine I ?_;refine bo oG (1:Nat) (by show 1<_;decide) (I ?_);refine bo pn (decide (x.num<0),q,1) ⟨cD fa (by decide),cD Dt (by decide),by show 1≠0;decide⟩ (I ?_);exact ar rfl (aq q (by rw[zaa (fun h=>absurd h.1 (by decide))];rfl))
 |true=>
  refine I ?_;refine b9 (fun h=> ?_) (fun h=> ?_)
  ·have h0:r≠0:=fun e=>by subst e;rw[fG]at h;simp at h
   refine I ?_;refine aL oG (1:Nat) (by show 1<_;decide) ?_;refine aL J6 (q,1) ⟨cD fa (by decide),cD Dt (by decide)⟩ (I ?_);refine bo oG (1:Nat) (by show 1<_;decide) (I ?_);refine bo pn (decide (x.num<0),q+1,1) ⟨cD (J8 fa (cD Dt (by decide))) (by decide),cD Dt (by decide),by show 1≠0;decide⟩ (I ?_);exact ar rfl (aq (q+1) (by rw[zab ⟨rfl,h0⟩]))
  ·have h0:r=0:=Decidable.byContradiction fun e=>h (by have:(aR 4294967296 r).length≠0:=fun cj=>e (rp.1 cj);omega);refine I ?_;refine bo oG (1:Nat) (by show 1<_;decide) (I ?_);refine bo pn (decide (x.num<0),q,1) ⟨cD fa (by decide),cD Dt (by decide),by show 1≠0;decide⟩ (I ?_);exact ar rfl (aq q (by rw[zaa (fun h=>h.2 h0)];rfl))
def Gb:bh where
 L:=Rat
 args:=fun x=>[bG x]
 pre:=fun x=>cA 268435456 x
 res:=fun x=>bG (bg (qY x))
def agv(x:Rat):b5 (decide (x.num<0)) (x.num.natAbs/x.den+(if decide (x.num<0)=true∧x.num.natAbs%x.den≠0 then 1 else 0))=qY x:=by
 unfold qY b5;by_cases h:x.num<0
 ·rw[zad h,zab rfl];have e:x.num= -(x.num.natAbs:Int):=by omega
  generalize x.num.natAbs=N at *;rw[e,agu x.den_nz,<-zdS];have al:(x.den:Int)∣(N:Int)↔x.den∣N:=Int.natCast_dvd_natCast;by_cases hm:N%x.den=0
  ·rw[zaa (fun h=>h.2 hm),zab (al.2 (Nat.dvd_of_mod_eq_zero hm))];rfl
  ·rw[zab ⟨rfl,hm⟩,zaa (fun h=>hm (Nat.mod_eq_zero_of_dvd (al.1 h)))];rfl
 ·rw[zac h,zaa (by decide),zaa (fun h=>absurd h.1 (by decide)),zaQ,zdS];congr 1;omega
def Gc:a9 aT.ctx 63 Gb.spec:=by
 refine bH [(125,ON.spec)] Uz.1 ?_;intro(x:Rat) (J:cA _ x) H aH;refine I ?_;refine aL aqM (x,decide (x.num<0)) J (I ?_);exact ar rfl (.of (by show bG (bg _)=bG (bg _);rw[agv]))
def ab9(n:Int):bG (bg n)= .agg [.b (decide (n<0)),c0 n.natAbs,.hK 1 Nat eY []]:=by
 unfold bG iS;rw[(jO n).1,(jO n).2];rfl
def Hm:bh where
 L:=Int
 args:=fun n=>[bG (bg n)]
 pre:=fun n=> -9223372036854775808<=n∧n<9223372036854775808
 res:=fun n=>.bu [.i .i64 n,.i .i64 0]
def adV:0<hR a b↔b<a:=by
 unfold hR;split
 ·exact⟨fun h=>by omega,fun h=>by omega⟩
 ·split<;>omega
def Hn:a9 aT.ctx 64 Hm.spec:=by
 refine bH [(126,Hp.spec),(32,v9.spec),(42,w9.spec)] UA.1 ?_;intro(n:Int) ⟨(h1:_<=n),(h2:n<_)⟩ H aH;have hl:(aR 4294967296 n.natAbs).length<=2:=iW (by decide) (by omega);have bI:=gb (b:=4294967296) (by decide) n.natAbs;have aF:=fP (b:=4294967296) (by decide) n.natAbs;have loop:∀(own:ac ay),True:=fun _=>trivial;refine ah 0 (.agg [.b (decide (n<0)),c0 n.natAbs,.hK 1 Nat eY []]) rfl (ab9 n) (I ?_);refine aL MS (bg n) trivial ?_ (he:=by exact⟨.of (ab9 n).symm,trivial⟩);refine ah 9 (.b true) rfl (b8 (zad (jO n).2)) (I ?_);have anq:dF 2 n.natAbs:=nV (by omega);refine fJ (L:=Unit) (fun _=>True) (fun _=>⟨[.c 42 [.b (decide (n<0)),c0 n.natAbs,.hK 1 Nat eY []]],1,[(1,.p 0 0),(4,.i .u64 ((if n<0 then 9223372036854775808 else 9223372036854775807:Nat):Int))]⟩) ?_ ?_
 ·refine b9 (fun h=> ?_) (fun h=> ?_)
  ·refine I ?_;exact a1 [0] () trivial (dH ⟨rfl,by rw[zab h];rfl,trivial⟩ ⟨_,rfl,rfl⟩)
  ·refine I ?_;exact a1 [0] () trivial (dH ⟨rfl,by rw[zaa h];rfl,trivial⟩ ⟨_,rfl,rfl⟩)
 intro _ _;have hm:(if n<0 then 9223372036854775808 else 9223372036854775807:Nat)<18446744073709551616∧n.natAbs<=(if n<0 then 9223372036854775808 else 9223372036854775807:Nat):=by split<;>omega
 generalize(if n<0 then 9223372036854775808 else 9223372036854775807:Nat)=m at *;obtain⟨CP,CQ⟩:=hm;refine I ?_;refine bo oG m CP (I ?_);refine bo BU (n.natAbs,m) ⟨cD anq (by decide),cD (nV CP) (by decide)⟩ (I ?_);refine b9 (fun h=> ?_) (fun h=> ?_)
 ·have:=adV.1 h;omega
 refine I ?_;obtain⟨ds,gJ⟩:∃ds,ds=aR 4294967296 n.natAbs:=⟨_,rfl⟩;rw[<-gJ]at hl bI aF;refine l7 (L:=Unit) (fun _=>True) (fun _=>⟨[.c 42 [.b (decide (n<0)),cQ ds,.hK 1 Nat eY []]],1,[(1,.p 0 0),(5,.i .u64 (n.natAbs:Nat))]⟩) ?_ ?_
 ·refine c6 (L:=Nat) (fun k=>k<=ds.length) (fun(k:Nat)=>⟨[.c 42 [.b (decide (n<0)),cQ ds,.hK 1 Nat eY []]],1,[(1,.p 0 0),(5,.i .u64 (val 4294967296 (ds.take k):Nat)),(22,cQ ds),(23,.i .i64 (ds.length:Nat)),(24,.i .i64 (k:Nat))]⟩) (fun k=>ds.length-k) [0] 0 (zag _) (by show ds.length-0<bQ+1;unfold bQ;omega) (dH ⟨rfl,rfl,by rw[gJ];rfl,by rw[gJ];rfl,rfl,trivial⟩ ⟨_,rfl,by rw[gJ];rfl⟩) ?_;intro(k:Nat) U;refine ak 25 ?_;by_cases aV:k<ds.length
  ·refine v1 25 (show(k:Int)<(ds.length:Nat) by omega) (I ?_);refine dP ds[k] (bF aV) ?_;have al:ds[k]<4294967296:=bI _ (dV aV);have Wi:=hN (b:=4294967296) aV;have C9:val 4294967296 (ds.take k)<4294967296^k:=by
    have:=j7 (b:=4294967296) (ds:=ds.take k) (fun d al=>bI d (zbH al))
    rwa [zas,zaA (by omega)]at this
   have avB:val 4294967296 (ds.take (k+1))<=n.natAbs:=by
    rw[<-aF]
    conv=>rhs;rw[<-zbn (k+1) ds,lD]
    omega
   generalize ds[k]=d at *;generalize val 4294967296 (ds.take k)=V at *;have afN:(4294967296:Nat)^k=2^(32*k):=(zbw 2 32 k).symm;rw[afN]at C9 Wi;refine ak 31 ?_;refine ah 31 (.i .u64 (d:Nat)) rfl ev (ak 33 ?_);refine ah 33 (.i .i64 ((32*k:Nat):Int)) rfl bx (ak 35 ?_);have vD:=NY (H:=d) (q:=V) (k:=32*k) (by omega) C9;have GW:d*2^(32*k)+V<18446744073709551616:=by
    rw[zaj d];omega
   rw[dJ GW,zcE]at vD;have aW:V<18446744073709551616:=by omega
   refine ah 35 (.i .u64 ((d*2^(32*k)+V:Nat):Int)) rfl (ev (congrArg Int.ofNat (by rw[zdJ,dJ aW];exact vD))) (ak 36 ?_);refine ah 36 (.i .i64 ((k+1:Nat):Int)) rfl bx (I ?_);exact a1 [0] (k+1) ⟨by show ds.length-(k+1)<ds.length-k;omega,aV⟩ (dH ⟨rfl,congrArg (fun v:Nat=>some (ab.i .u64 (v:Int))) (by rw[Wi,zaj d];omega),rfl,rfl,rfl,trivial⟩ ⟨_,rfl,rfl⟩)
  ·refine v0 25 (show¬(k:Int)<(ds.length:Nat) by omega) (I ?_);exact a1 [0] () trivial (dH ⟨rfl,congrArg (fun v:Nat=>some (ab.i .u64 (v:Int))) (by rw[jM (by omega),aF]),trivial⟩ ⟨_,rfl,rfl⟩)
 intro _ _;refine I ?_;refine fJ (L:=Unit) (fun _=>True) (fun _=>⟨[],0,[(5,.i .u64 (IntKind.u64.wrap n))]⟩) ?_ ?_
 ·refine b9 (fun h=> ?_) (fun h=> ?_)
  ·refine I ?_;exact a1 [] () trivial (iO ⟨congrArg (fun v:Int=>some (ab.i .u64 (IntKind.u64.wrap v))) (by omega),trivial⟩)
  ·refine I ?_;exact a1 [] () trivial (iO ⟨congrArg (fun v:Int=>some (ab.i .u64 v)) (by rw[JF];omega),trivial⟩)
 intro _ _;refine ak 42 ?_;refine ah 42 (.i .i64 n) rfl (ev (by
  rw[JF,<-kt];show wO 18446744073709551616 9223372036854775808 _=_;rw[wP _ _ _ (by decide)];split<;>omega)) ?_
 refine I ?_;exact ar rfl (.refl _)
def uM(w:Nat):ac ab:=[.i .u64 ((w/bA:Nat):Int),.i .u64 ((w%bA:Nat):Int)]
def dI(w:Nat):ab:=.agg (uM w)
def Bo(h1:w/bA=a)(h2:w%bA=b):bZ (.agg [.i .u64 (a:Int),.i .u64 (b:Int)]) (dI w):=.of (by unfold dI uM;rw[h1,h2])
def ER:bh where
 L:=Nat×Nat
 args:=fun(w,k)=>[dI w,.i .i64 (k:Nat)]
 pre:=fun(w,k)=>k<=128
 res:=fun(w,k)=>dI (w*2^k%(bA*bA))
def JG:a9 aT.ctx 327 ER.spec:=by
 refine bH [] TO.1 ?_;intro⟨w,k⟩ (U:k<=128) H aH;refine I ?_;refine b9 (fun h=> ?_) (fun h=> ?_)
 ·have h:64<=k:=by omega
  obtain⟨aq,e2⟩:=at5 w h;refine ak 10 ?_;refine ah 10 (.i .i64 ((k-64:Nat):Int)) rfl bx (I ?_);exact ar rfl (Bo aq e2)
 ·have h:k<64:=by omega
  obtain⟨aq,e2⟩:=at4 w h;have h3:w/bA*2^k%bA<bA:=zaf _ (by decide);have au:w%bA/2^(64-k)<bA:=zaX (zax _ _) (zaf _ (by decide));refine ak 20 ?_;refine cu 20 (.i .i64 ((64-k:Nat):Int)) rfl rfl bx ?_;refine KW ?_;refine I ?_;exact ar rfl (Bo (by rw[aq,dJ (a:=_%18446744073709551616) h3,dJ (a:=_/_) au]) e2)
def ES:bh where
 L:=Nat×Nat
 args:=fun(w,k)=>[dI w,.i .i64 (k:Nat)]
 pre:=fun(w,k)=>w<bA*bA∧k<=128
 res:=fun(w,k)=>dI (w/2^k)
def ET:a9 aT.ctx 227 ES.spec:=by
 refine bH [] S4.1 ?_;intro⟨w,k⟩ ⟨(hw:w<_),(U:k<=128)⟩ H aH;refine I ?_;refine b9 (fun h=> ?_) (fun h=> ?_)
 ·have h:64<=k:=by omega
  obtain⟨aq,e2⟩:=at7 hw h;refine ak 10 ?_;refine ah 10 (.i .i64 ((k-64:Nat):Int)) rfl bx ?_;refine ZN ?_;refine I ?_;exact ar rfl (Bo aq e2)
 ·have h:k<64:=by omega
  obtain⟨aq,e2⟩:=at6 w h;have h3:w/bA*2^(64-k)%bA<bA:=zaf _ (by decide);have au:w%bA/2^k<bA:=zaX (zax _ _) (zaf _ (by decide));refine I ?_;refine KW ?_;refine I ?_;refine KW ?_;refine ak 24 ?_;refine cu 24 (.i .i64 ((64-k:Nat):Int)) rfl rfl bx ?_;refine I ?_;exact ar rfl (Bo aq (by rw[e2,dJ (a:=_/_) au,dJ (a:=_%18446744073709551616) h3]))
def Bn:bh where
 L:=Nat×Nat
 args:=fun(a,b)=>[dI a,dI b]
 pre:=fun(a,b)=>a<bA*bA∧b<bA*bA
 res:=fun(a,b)=>dI (a|||b)
def EP:a9 aT.ctx 325 Bn.spec:=by
 refine bH [] TM.1 ?_;intro⟨a,b⟩ ⟨(ha:a<_),(hb:b<_)⟩ H aH;obtain⟨aq,e2⟩:=atY a b;have oz:a/bA<bA:=(zbi (by decide)).2 ha;have gh:b/bA<bA:=(zbi (by decide)).2 hb;refine I ?_;exact ar rfl (Bo (by rw[aq,dJ oz,dJ gh]) (by rw[e2,zdJ,zdJ]))
def Pw:bh where
 L:=Nat×Nat
 args:=fun(w,k)=>[dI w,.i .i64 (k:Nat)]
 pre:=fun(w,k)=>k<=128
 res:=fun(w,k)=>dI (w%2^k)
def Px:a9 aT.ctx 324 Pw.spec:=by
 refine bH [(327,ER.spec),(227,ES.spec)] TL.1 ?_;intro⟨w,k⟩ (U:k<=128) H aH;refine ak 7 ?_;refine ah 7 (.i .i64 ((128-k:Nat):Int)) rfl bx ?_;refine aL JG (w,128-k) (by show 128-k<=128;omega) (ak 10 ?_);refine ah 10 (.i .i64 ((128-k:Nat):Int)) rfl bx ?_;refine aL ET (w*2^(128-k)%(bA*bA),128-k) ⟨zaf _ (by decide),by show 128-k<=128;omega⟩ (I ?_);exact ar rfl (.of (by show dI _=dI _;rw[atT w U]))
def anC{g:ci}:bZ (.v (.func (.func g) #[] #[])) (.fn (.func g) [] []):=fun _ _ _ d=>⟨[],[],d,rfl,rfl⟩
def abS:bh where
 L:=Nat
 args:=fun n=>[.i .u64 (n:Nat)]
 pre:=fun n=>n<bA
 res:=fun n=>bG (bg n)
def abT:a9 aT.ctx 384 abS.spec:=by
 refine bH [(10,rl.spec),(177,r5.spec),(129,wz.spec)] T9.1 ?_;intro(n:Nat) (hn:n<bA) H aH;have hn:n<18446744073709551616:=hn;have cK:cA 2 (bg ((n/4294967296:Nat):Int)):=lv (by rw[zaC];omega);have c9:cA 2 (bg ((n%4294967296:Nat):Int)):=lv (by rw[zaC];omega);have hQ:cA 2 (bg ((n/4294967296*4294967296:Nat):Int)):=lv (by rw[zaC];omega);refine ak 5 ?_;refine ah 5 (.i .i64 ((n/4294967296:Nat):Int)) rfl (bx (n:=((n/4294967296:Nat):Int)) rfl (by omega) (by omega)) ?_;refine aL lp ((n/4294967296:Nat):Int) ⟨by show(-9223372036854775808:Int)<=((n/4294967296:Nat):Int);omega,by show((n/4294967296:Nat):Int)<_;omega⟩ ?_;refine aL pZ (bg ((n/4294967296:Nat):Int),32) ⟨dn cK (by decide),by decide,by decide⟩ ?_;refine ah 7 (bG (bg ((n/4294967296*4294967296:Nat):Int))) rfl (by show bG (cS (bg _) ((32:Nat):Int))=_;rw[EX,<-zap]) (ak 10 ?_);have hand:n%18446744073709551616&&&4294967295%18446744073709551616=n%4294967296:=by
  rw[dJ hn];exact Nat.and_two_pow_sub_one_eq_mod n 32
 refine ah 10 (.i .i64 ((n%4294967296:Nat):Int)) rfl (by
  refine Eq.trans (congrArg (fun v:Nat=>ab.i .i64 (IntKind.i64.wrap (v:Int))) hand) ?_;exact bx rfl (by omega) (by omega)) ?_
 refine aL lp ((n%4294967296:Nat):Int) ⟨by show(-9223372036854775808:Int)<=((n%4294967296:Nat):Int);omega,by show((n%4294967296:Nat):Int)<_;omega⟩ ?_;refine aL wA (bg ((n/4294967296*4294967296:Nat):Int),bg ((n%4294967296:Nat):Int)) ⟨dn hQ (by decide),dn c9 (by decide)⟩ (I ?_);exact ar rfl (.of (congrArg bG (by rw[wS];congr 1;omega)))
def Ps:bh where
 L:=Nat
 args:=fun w=>[dI w]
 pre:=fun w=>w<bA*bA
 res:=fun w=>bG (bg w)
def Pt:a9 aT.ctx 323 Ps.spec:=by
 refine bH [(384,abS.spec),(177,r5.spec),(129,wz.spec)] TK.1 ?_;intro(w:Nat) (hw:w<_) H aH;have h1:w/bA<bA:=(zbi (by decide)).2 hw;have h2:w%bA<bA:=zaf _ (by decide);have cK:cA 2 (bg ((w/bA:Nat):Int)):=lv (by rw[zaC];exact h1);have c9:cA 2 (bg ((w%bA:Nat):Int)):=lv (by rw[zaC];exact h2);have p5:=zaS w bA;have Wj:bA=18446744073709551616:=rfl;refine ah 0 (.agg [.i .u64 ((w/bA:Nat):Int),.i .u64 ((w%bA:Nat):Int)]) rfl rfl ?_;generalize w/bA=a at *;generalize w%bA=b at *;have hQ:cA 4 (bg ((a*2^64:Nat):Int)):=lv (by rw[zaC];have:a<18446744073709551616:=h1;omega);refine ak 3 ?_;refine Ej 3 (.fn (.func 384) [] []) rfl anC ?_;refine I ?_;refine Rh abT a h1 ?_;refine I ?_;refine bo pZ (bg (a:Int),64) ⟨dn cK (by decide),by decide,by decide⟩ ?_;refine ah 8 (bG (bg ((a*2^64:Nat):Int))) rfl (by show bG (cS (bg _) ((64:Nat):Int))=_;rw[EX,<-zap]) (I ?_);refine Rh abT b h2 ?_;refine I ?_;refine bo wA (bg ((a*2^64:Nat):Int),bg (b:Int)) ⟨dn hQ (by decide),dn c9 (by decide)⟩ (I ?_);exact ar rfl (.of (congrArg bG (by rw[wS,<-zdA];congr 2;show a*18446744073709551616+b=w;rw[<-p5,Wj,zaj])))
def N3:bh where
 L:=Nat
 args:=fun n=>[bG (bg n)]
 pre:=fun n=>n<bA*bA
 res:=fun n=>dI n
def ao7{n:Nat}(U:k<4):(n%2^(32*k)*2^(128-32*k))/2^32|||(n/2^(32*k)%2^32)*2^32*bA=n%2^(32*(k+1))*2^(128-32*(k+1)):=by
 have aq:2^(128-32*k)=2^(96-32*k)*2^32:=by rw[<-zal];congr 1;omega
 have e2:128-32*(k+1)=96-32*k:=by omega
 have bV:n%2^(32*(k+1))=n%2^(32*k)+2^(32*k)*(n/2^(32*k)%2^32):=by
  rw[show 32*(k+1)=32*k+32 by omega,zal];exact Nat.mod_mul
 have eQ:(2:Nat)^96=2^(32*k)*2^(96-32*k):=by rw[<-zal];congr 1;omega
 have h1:n%2^(32*k)<2^(32*k):=zaf _ (zah _);generalize n/2^(32*k)%2^32=d at *;generalize n%2^(32*k)=r at *;have h2:r*2^(96-32*k)<2^96:=by rw[eQ];exact zcq h1 (zah _)
 rw[aq,<-zar,zdf _ (by decide),zcE,show d*2^32*bA=2^96*d by rw[zar,zaj];rfl,Ig h2,e2,bV,zam];rw[eQ];generalize 2^(32*k)=A;generalize 2^(96-32*k)=B;rw[show A*B*d=A*d*B by ac_rfl];omega
def YI:a9 aT.ctx 328 N3.spec:=by
 refine bH [(177,r5.spec),(63,Gb.spec),(116,A0.spec),(64,Hm.spec),(227,ES.spec),(325,Bn.spec)] TP.1 ?_;intro(n:Nat) (hn:n<bA*bA) H aH;have qo:∀m:Nat,m<=n->cA 4 (bg (m:Int)):=fun m hm=>lv (by rw[zaC];have:n<340282366920938463463374607431768211456:=hn;omega);refine I ?_;refine c6 (L:=Nat) (fun k=>k<=4) (fun(k:Nat)=>⟨[.c 42 (iS (bg ((n/2^(32*k):Nat):Int))),.c 148 [.i .u64 0,.i .u64 0],.c 148 (uM (n%2^(32*k)*2^(128-32*k)))],3,[(1,.p 0 0),(2,.p 1 0),(3,.p 2 0),(7,.i .i64 (k:Nat))]⟩) (fun k=>4-k) [0,1,2] 0 (zag _) (by show 4-0<bQ+1;unfold bQ;omega) (yK ⟨rfl,rfl,rfl,rfl,trivial⟩ ⟨_,rfl,by rw[zbx,zbs,zcb];rfl⟩ ⟨_,rfl,rfl⟩ ⟨_,rfl,by rw[zbx,zbs,Nat.mod_one,zav];rfl⟩) ?_;intro(k:Nat) U;refine ak 8 ?_;by_cases aV:k<4
 ·refine v1 8 (show(k:Int)<4 by omega) ?_;have hw:n%2^(32*k)*2^(128-32*k)<bA*bA:=by
   have:bA*bA=2^(32*k)*2^(128-32*k):=by rw[<-zal,show 32*k+(128-32*k)=128 by omega];rfl
   rw[this];exact zcq (zaf _ (zah _)) (zah _)
  have eR:=ao7 (n:=n) aV;have p7:n/2^(32*k)<=n:=zax _ _;have hq:n/2^(32*(k+1))=n/2^(32*k)/4294967296:=by rw[show(4294967296:Nat)=2^32 from rfl,zaT,<-zal];congr 1
  generalize n/2^(32*k)=m at *;generalize n%2^(32*k)*2^(128-32*k)=w at *;have p5:=zaS m (4294967296);have al:m%4294967296<4294967296:=zaf _ (by decide);rw[<-hq]at p5;obtain⟨q,G4⟩:∃q,q=n/2^(32*(k+1)):=⟨_,rfl⟩;rw[<-G4]at p5 hq;generalize m%4294967296=d at *;have alT:q<=n:=by omega
  refine I ?_;refine aL pZ (bg (m:Int),-32) ⟨dn (qo m p7) (by decide),by decide,by decide⟩ ?_;refine aL Gc (cS (bg (m:Int)) (-32)) (dn (ug 2 (qo m p7) (by decide) (by decide)) (by decide)) ?_;refine ah 11 (bG (bg (q:Int))) rfl (by show bG (bg (qY (cS (bg (m:Int)) (-((32:Nat):Int)))))=_;rw[auD,<-zdS,<-hq]) (I ?_);refine bo pZ (bg (q:Int),32) ⟨dn (qo q alT) (by decide),by decide,by decide⟩ ?_;refine ah 15 (bG (bg ((q*4294967296:Nat):Int))) rfl (by show bG (cS (bg _) ((32:Nat):Int))=_;rw[EX,<-zap]) (I ?_);refine bo Ep (bg (m:Int),bg ((q*4294967296:Nat):Int)) ⟨dn (qo m p7) (by decide),dn (qo (q*4294967296) (by omega)) (by decide)⟩ ?_;refine ah 16 (bG (bg (d:Int))) rfl (by show bG (bg _-bg _)=_;rw[PB];congr 2;omega) (I ?_);refine bo Hn (d:Int) ⟨by show(-9223372036854775808:Int)<=(d:Int);omega,by show(d:Int)<9223372036854775808;omega⟩ (I ?_);refine aL ET (w,32) ⟨hw,by decide⟩ (ak 24 ?_);have akL:d*4294967296%18446744073709551616=d*4294967296:=dJ (by omega);refine ah 24 (.i .u64 ((d*4294967296:Nat):Int)) rfl (ev (congrArg Int.ofNat (by rw[dJ (a:=d) (by omega)];exact akL))) (ak 25 ?_);have LZ:(d*4294967296*bA)/bA=d*4294967296∧(d*4294967296*bA)%bA=0:=⟨zdf _ (by decide),zej _ _⟩;refine ah 25 (dI (d*4294967296*bA)) rfl (by unfold dI uM;rw[LZ.1,LZ.2];rfl) ?_;refine aL EP (w/4294967296,d*4294967296*bA) ⟨zaX (zax _ _) hw,by show _<bA*bA;exact zcq (by show d*4294967296<18446744073709551616;omega) (by decide)⟩ ?_;refine ah 26 (dI (n%2^(32*(k+1))*2^(128-32*(k+1)))) rfl (by show dI _=_;rw[eR]) (ak 28 ?_);refine ah 28 (.i .i64 ((k+1:Nat):Int)) rfl bx (I ?_);exact a1 [0,1,2] (k+1) ⟨by show 4-(k+1)<4-k;omega,aV⟩ (yK ⟨rfl,rfl,rfl,rfl,trivial⟩ ⟨_,rfl,by rw[<-G4];rfl⟩ ⟨_,rfl,rfl⟩ ⟨_,rfl,rfl⟩)
 ·refine v0 8 (show¬(k:Int)<4 by omega) ?_;have CJ:k=4:=by omega
  subst CJ;refine I ?_;exact ar rfl (.of (by show dI _=dI n;rw[show n%2^(32*4)*2^(128-32*4)=n by rw[zaI];exact dJ hn]))
def gV(e p:Int)(neg:Bool):Nat:=if neg then 2^(e+p-1).toNat else 0
def EU:bh where
 L:=Int×Int×Int×Int×Bool
 args:=fun(e,p,m,b,neg)=>[js e p m b,.b neg]
 pre:=fun(e,p,m,b,neg)=>cq e p
 res:=fun(e,p,m,b,neg)=>dI (gV e p neg)
def EC(h:cq e p):(e+p-1).toNat<=123∧((e+p-1).toNat:Int)=e+p-1:=by
 obtain⟨h1,h2,h3,au,aW⟩:=h;omega
def JH:a9 aT.ctx 326 EU.spec:=by
 refine bH [(327,ER.spec)] TN.1 ?_;intro⟨e,p,m,b,neg⟩ (h:cq e p) H aH;obtain⟨t1,t2⟩:=EC h;obtain⟨h1,h2,h3,au,aW⟩:=id h;cases neg with
 |false=>
  refine I ?_;exact ar rfl (Bo (w:=0) rfl rfl)
 |true=>
  refine ak 15 ?_;refine ah 15 (.i .i64 (e+p)) rfl (bx rfl (by omega) (by omega)) (ak 16 ?_);refine ah 16 (.i .i64 ((e+p-1).toNat:Nat)) rfl (bx (by omega) (by omega) (by omega)) ?_;refine aL JG (1,(e+p-1).toNat) (by show _<=128;omega) (I ?_) (he:=by exact⟨.of rfl,.refl _,trivial⟩);have aV:2^(e+p-1).toNat<bA*bA:=zaX (zat (by decide) t1) (by decide);exact ar rfl (.of (by show dI _=dI _;rw[zaH,dJ aV];rfl))
def ab4:bh where
 L:=Int×Int×Int×Int×Bool
 args:=fun(e,p,m,b,neg)=>[js e p m b,.b neg]
 pre:=fun(e,p,m,b,neg)=>cq e p
 res:=fun(e,p,m,b,neg)=>dI (gV e p neg)
def aur:a9 aT.ctx 321 ab4.spec:=by
 refine bH [(326,EU.spec)] TI.1 ?_;intro⟨e,p,m,b,neg⟩ (h:cq e p) H aH;refine I ?_;refine aL JH (e,p,m,b,neg) h (I ?_);exact ar rfl (.refl _)
def sk(h:cq e p):In e p<2^(e+p-1).toNat∧2^(e+p-1).toNat*2<bA*bA:=by
 have h1:=Wz h;have h2:=zah (bp p);obtain⟨t1,t2⟩:=EC h;refine⟨by omega,?_⟩;rw[<-zak];exact zaX (zat (by decide) (show _<=124 by omega)) (by decide)
def OR{r:Nat}(neg:Bool)(hr:r<2^(e+p-1).toNat):gV e p neg|||r=gV e p neg+r:=by
 unfold gV;cases neg
 ·simp
 ·have:=Ig (a:=1) hr;rw[zaI]at this;exact this
def Ja(h:cq e p)(neg:Bool):gV e p neg<bA*bA:=by
 have:=(sk h).2;have h0:bA*bA=340282366920938463463374607431768211456:=rfl;unfold gV;generalize 2^(e+p-1).toNat=T at *;split<;>omega
def Pu:bh where
 L:=Int×Int×Int×Int×Bool
 args:=fun(e,p,m,b,neg)=>[js e p m b,.b neg]
 pre:=fun(e,p,m,b,neg)=>cq e p
 res:=fun(e,p,m,b,neg)=>dI (gV e p neg+In e p)
def Wy(h:cq e p):(2^e.toNat-1)*2^bp p=In e p:=by
 obtain⟨h1,h2,h3,au,aW⟩:=h;have hb:=BH h1;have aq:(2*ct e+1).toNat+1=2^e.toNat:=by
  rw[show e.toNat=(e-1).toNat+1 by omega,zak];have aE:=zah (e-1).toNat;generalize 2^(e-1).toNat=z at *;omega
 unfold In;congr 1;omega
def abY:a9 aT.ctx 232 Pu.spec:=by
 refine bH [(326,EU.spec),(327,ER.spec),(325,Bn.spec)] Ta.1 ?_;intro⟨e,p,m,b,neg⟩ (h:cq e p) H aH;obtain⟨i1,i2⟩:=sk h;have cn:=Wy h;have hp:=wh h;have ae:=Ja h neg;obtain⟨h1,h2,h3,au,aW⟩:=id h;obtain⟨E,rfl⟩:∃E:Nat,e=(E:Int):=⟨e.toNat,by omega⟩;rw[show((E:Int)).toNat=E by omega]at cn;have g0:2^E<=2^11:=zat (by decide) (by omega);have Vp:=zah E;refine I ?_;refine bo JH ((E:Int),p,m,b,neg) h (ak 11 ?_);refine cu 11 (.i .u64 ((2^E:Nat):Int)) rfl rfl (ev (congrArg Int.ofNat (by rw[zaH];exact dJ (by omega)))) ?_;refine ak 12 ?_;refine cu 12 (.i .u64 ((2^E-1:Nat):Int)) rfl rfl (ev (congrArg Int.ofNat (Js (by omega) (by omega)))) ?_;refine ak 13 ?_;refine cu 13 (dI (2^E-1)) rfl rfl (by
  have:2^E-1<bA:=by show _<18446744073709551616;omega
  unfold dI uM;rw[zaW this,dJ this];rfl) ?_
 refine ak 17 ?_;refine cu 17 (.i .i64 (bp p:Nat)) rfl rfl (bx (by omega) (by omega) (by omega)) ?_;refine I ?_;refine bo JG (2^E-1,bp p) (by show bp p<=128;omega) ?_;refine ah 18 (dI (In E p)) rfl (by show dI ((2^E-1)*2^bp p%(bA*bA))=_;rw[cn,dJ (by omega)]) (I ?_);refine bo EP (gV E p neg,In E p) ⟨ae,by show In E p<bA*bA;omega⟩ (I ?_);exact ar rfl (.of (by show dI _=dI _;rw[OR neg i1]))
def am5(h:cq e p){n j:Nat}(hr:n+j*2^bp p<=In e p):j<=2047:=by
 have hb:=jn h.1 h.2.1;have ch:j*2^bp p<=(2*ct e+1).toNat*2^bp p:=by unfold In at hr;omega
 have:=zcN ch (zah _);omega
def ab2:bh where
 L:=Int×Int×Int×Bool×Nat×Nat
 args:=fun(e,p,m,neg,n,j)=>[js e p m (ct e),.b neg,bG (bg (n:Int)),.i .i64 ((j:Int)-ew e p)]
 pre:=fun(e,p,m,neg,n,j)=>cq e p∧n+j*2^bp p<=In e p
 res:=fun(e,p,m,neg,n,j)=>dI (gV e p neg+(n+j*2^bp p))
def ab3:a9 aT.ctx 383 ab2.spec:=by
 refine bH [(330,M6.spec),(10,rl.spec),(177,r5.spec),(129,wz.spec),(326,EU.spec),(328,N3.spec),(325,Bn.spec)] T8.1 ?_;intro⟨e,p,m,neg,n,j⟩ ⟨(h:cq e p),(hr:n+j*2^bp p<=In e p)⟩ H aH;have hj:=am5 h hr;obtain⟨i1,i2⟩:=sk h;have al:=vf h;have hp:=wh h;have ae:=Ja h neg;obtain⟨h1,h2,h3,au,aW⟩:=id h;have hb:=jn h1 h2;have qo:∀q:Nat,q<=In e p->cA 4 (bg (q:Int)):=fun q hq=>lv (by rw[zaC];have:bA*bA=340282366920938463463374607431768211456:=rfl;omega);have alf:cA 4 (bg (j:Int)):=lv (by rw[zaC];omega);refine I ?_;refine aL M7 (e,p,m) h (ak 14 ?_);refine ah 14 (.i .i64 (j:Int)) rfl (bx (by omega) (by omega) (by omega)) (I ?_);refine bo lp (j:Int) ⟨by show(-9223372036854775808:Int)<=(j:Int);omega,by show(j:Int)<9223372036854775808;omega⟩ (ak 21 ?_);refine cu 21 (.i .i64 (bp p:Nat)) rfl rfl (bx (by omega) (by omega) (by omega)) ?_;refine I ?_;refine bo pZ (bg (j:Int),(bp p:Int)) ⟨dn alf (by decide),by show(-20000:Int)<=(bp p:Int);omega,by show(bp p:Int)<=20000;omega⟩ ?_;refine ah 22 (bG (bg ((j*2^bp p:Nat):Int))) rfl (by show bG (cS (bg _) _)=_;rw[EX,<-zap]) (I ?_);refine bo wA (bg (n:Int),bg ((j*2^bp p:Nat):Int)) ⟨dn (qo n (by omega)) (by decide),dn (qo (j*2^bp p) (by omega)) (by decide)⟩ ?_;refine ah 23 (bG (bg ((n+j*2^bp p:Nat):Int))) rfl (by show bG (bg _+bg _)=_;rw[wS,<-zdA]) ?_;obtain⟨r,oC⟩:∃r,r=n+j*2^bp p:=⟨_,rfl⟩;rw[<-oC]at hr⊢;refine I ?_;refine bo JH (e,p,m,ct e,neg) h (I ?_);refine bo YI r (by show r<bA*bA;omega) (I ?_);refine bo EP (gV e p neg,r) ⟨ae,by show r<bA*bA;omega⟩ (I ?_);exact ar rfl (.of (by show dI _=dI (_+(n+j*2^bp p));rw[<-oC,OR neg (by omega)]))
def Ai(e p:Int)(neg:Bool)(r:Nat):Rat:=if r=In e p then 0 else eb e p (if neg then -(r:Int)else r)
def tZ(e p:Int)(neg:Bool)(r:Nat):ac ab:=.i .i64 (if r=In e p then 3 else if r=0 then 1 else 2):: .b neg::iS (Ai e p neg r)
def Dw:bh where
 L:=Int×Int×Int×Bool×Nat
 args:=fun(e,p,m,neg,r)=>[js e p m (ct e),dI (gV e p neg+r)]
 pre:=fun(e,p,m,neg,r)=>cq e p∧r<=In e p
 res:=fun(e,p,m,neg,r)=>.agg (tZ e p neg r)
def W1{a b:ab}(h:x=0):bZ (.agg [a,b,.b false,.nl,.nl]) (.agg (a::b::iS x)):=by
 subst h;exact bZ.agg ⟨.refl _,.refl _,.refl _,bZ.nl.trans (.of (by show cQ []=cQ (aR _ 0);rw[fG])),bZ.NC,trivial⟩
def afs{s A B r:Nat}(e4:0<A)(hr:r<B*A):(s*(B*A)+r)/A%B=r/A:=by
 have e:s*(B*A)+r=r+A*(s*B):=by rw[zbS];congr 1;ac_rfl
 rw[e,zcG _ _ e4,zey];exact dJ ((zbi e4).2 hr)
def Hj{E:Nat}(h:2^E<9223372036854775808):IntKind.i64.wrap (2^E)=((2^E:Nat):Int):=by
 have e:(2:Int)^E=((2^E:Nat):Int):=by simp
 rw[e];generalize 2^E=n at *;exact gL (by omega) (by omega)
def Xa:a9 aT.ctx 234 Dw.spec:=by
 refine bH [(227,ES.spec),(324,Pw.spec),(327,ER.spec),(325,Bn.spec),(323,Ps.spec),(330,M6.spec),(177,r5.spec),(123,HS.spec)] Tc.1 ?_;intro⟨e,p,m,neg,r⟩ ⟨(h:cq e p),(hr:r<=In e p)⟩ H aH;obtain⟨i1,i2⟩:=sk h;have it:=Wz h;have cn:=Wy h;have al:=vf h;have hp:=wh h;have ae:=Ja h neg;obtain⟨t1,t2⟩:=EC h;obtain⟨h1,h2,h3,au,aW⟩:=id h;have hb:=jn h1 h2;have hH:=zah (bp p);obtain⟨E,rfl⟩:∃E:Nat,e=(E:Int):=⟨e.toNat,by omega⟩;rw[show((E:Int)).toNat=E by omega]at cn;have g0:2^E<=2^11:=zat (by decide) (by omega);have Vp:=zah E;have LD:2^((E:Int)+p-1).toNat=2^E*2^bp p:=by rw[<-zal];congr 1;omega
 obtain⟨s,mz,nf⟩:∃s:Nat,gV E p neg=s*(2^E*2^bp p)∧s=(if neg then 1 else 0):=by
  unfold gV;rw[LD];cases neg
  ·exact⟨0,by simp,rfl⟩
  ·exact⟨1,by simp,rfl⟩
 have ln:s<=1:=by rw[nf];split<;>omega
 rw[LD]at i1 i2 it;have C1:r<2^E*2^bp p:=by omega
 have hw:s*(2^E*2^bp p)+r<bA*bA:=by
  have:=fK (2^E*2^bp p) ln;omega
 have av:(s*(2^E*2^bp p)+r)/2^bp p%2^E=r/2^bp p:=afs hH C1;have aa:(s*(2^E*2^bp p)+r)%2^bp p=r%2^bp p:=by rw[<-zar,zbS,zey]
 have cb:(s*(2^E*2^bp p)+r)/2^((E:Int)+p-1).toNat=s:=by
  rw[LD,zaj s,zdI (by exact zbJ Vp hH),zaW C1,zaQ]
 have Hb:∀x,x<bA->dI x= .agg [.i .u64 0,.i .u64 (x:Nat)]:=fun x J=>by unfold dI uM;rw[zaW J,dJ J];rfl
 refine ah 1 (dI (s*(2^E*2^bp p)+r)) rfl (by rw[mz]) ?_;generalize avC:s*(2^E*2^bp p)+r=w at *;have Vs:r/2^bp p<=2^E-1:=by
  have:r/2^bp p<2^E:=(zbi hH).2 C1;omega
 have au5:r%2^bp p<2^bp p:=zaf _ hH;have p5:=zaS r (2^bp p);have hIn:r=In E p↔r/2^bp p=2^E-1:=by
  rw[<-cn]at hr⊢;constructor
  ·intro h;rw[h,zdf _ hH]
  ·intro h;rw[h,zaj]at p5;omega
 have Vv:2^bp p<=2^112:=zat (by decide) (by omega);have kX:hP (bp p) r=(if r/2^bp p=0 then r%2^bp p else 2^bp p+r%2^bp p)*2^(max (r/2^bp p) 1-1):=by
  unfold hP;by_cases h0:r/2^bp p=0
  ·rw[h0,zbx,zaw]at p5;rw[zab (by omega),h0,zab rfl];simp[p5]
  ·rw[zaa (fun hl=>h0 (zaW hl)),zaa h0];congr 2;omega
 have hj:max (r/2^bp p) 1-1<=2047:=by omega
 generalize akc:r/2^bp p=F at *;generalize akV:r%2^bp p=f at *;refine ak 12 ?_;refine cu 12 (.i .i64 (bp p:Nat)) rfl rfl (bx (by omega) (by omega) (by omega)) ?_;refine I ?_;refine bo ET (w,bp p) ⟨hw,by show bp p<=128;omega⟩ (I ?_);refine bo Px (w/2^bp p,E) (by show E<=128;omega) ?_;refine ah 17 (.agg [.i .u64 0,.i .u64 (F:Nat)]) rfl (by show dI _=_;rw[av];exact Hb F (by show F<18446744073709551616;omega)) (ak 19 ?_);refine ah 19 (.i .i64 (F:Nat)) rfl (bx rfl (by omega) (by omega)) (ak 24 ?_);refine ah 24 (.i .i64 (bp p:Nat)) rfl (bx (by omega) (by omega) (by omega)) ?_;refine aL Px (w,bp p) (by show bp p<=128;omega) ?_;refine ah 25 (dI f) rfl (by show dI _=_;rw[aa]) (ak 33 ?_);refine ah 33 (.i .i64 ((E:Int)+p)) rfl (bx rfl (by omega) (by omega)) (ak 34 ?_);refine ah 34 (.i .i64 (((E:Int)+p-1).toNat:Nat)) rfl (bx (by omega) (by omega) (by omega)) ?_;refine aL ET (w,((E:Int)+p-1).toNat) ⟨hw,by show _<=128;omega⟩ ?_;refine ah 35 (.agg [.i .u64 0,.i .u64 (s:Nat)]) rfl (by show dI _=_;rw[cb];exact Hb s (by show s<18446744073709551616;omega)) (I ?_);refine Eg neg ?_ (hr:=by rw[nf];cases neg<;>rfl);refine I ?_;refine ZL ((2^E:Nat):Int) ?_ (by rw[zcf];exact Hj (by omega));refine ak 71 ?_;refine ah 71 (.i .i64 ((2^E-1:Nat):Int)) rfl (bx (by omega) (by omega) (by omega)) (ak 72 ?_);by_cases hi:F=2^E-1
 ·have vF:=hIn.2 hi;have q2:f=0:=by
   have:In E p%2^bp p=0:=by rw[<-cn];exact zej _ _
   rw[<-akV,vF,this]
  subst q2;refine ah 72 (.b true) rfl (b8 (zad (by omega))) (ak 74 ?_);refine ah 74 (.agg [.i .u64 0,.i .u64 0]) rfl rfl (I ?_);refine Eg true ?_;refine I ?_;exact ar rfl ((W1 (x:=Ai E p neg r) (zab vF)).trans (.of (by show ab.agg (_::_::_)=ab.agg (tZ _ _ _ _);unfold tZ;rw[zab vF])))
 have vF:r≠In E p:=fun h=>hi (hIn.1 h);refine ah 72 (.b false) rfl (b8 (zac (by omega))) (I ?_);refine Rk ((2^E:Nat):Int) ?_ (by rw[zcf];exact Hj (by omega));refine ak 85 ?_;refine cu 85 (.i .i64 ((2^E-1:Nat):Int)) rfl rfl (bx (by omega) (by omega) (by omega)) ?_;refine ak 86 ?_;refine cu 86 (.b false) rfl rfl (b8 (zac (by omega))) ?_;refine I ?_;refine ZL ((2^E:Nat):Int) ?_ (by rw[zcf];exact Hj (by omega));refine ak 111 ?_;refine ah 111 (.i .i64 ((2^E-1:Nat):Int)) rfl (bx (by omega) (by omega) (by omega)) (ak 112 ?_);refine ah 112 (.b false) rfl (b8 (zac (by omega))) (ak 119 ?_);have pd:∀{cs},tZ E p neg r=cs->ab.agg cs=Dw.res (E,p,m,neg,r):=fun h=>by rw[<-h];rfl
 have agl:r=0->bZ (.agg [.i .i64 1,.b neg,.b false,.nl,.nl]) (Dw.res (E,p,m,neg,r)):=fun h0=>by
  refine(W1 (x:=Ai E p neg r) ?_).trans (.of (pd (by unfold tZ;rw[zaa vF,zab h0])));unfold Ai;rw[zaa vF,h0];cases neg<;>exact Pn _ _
 have vR:r≠0->tZ E p neg r= .i .i64 2:: .b neg::iS (eb E p (if neg then -(r:Int)else r)):=fun h0=>by
  unfold tZ Ai;rw[zaa vF,zaa h0,zaa vF]
 have tail:∀n:Nat,n=(if F=0 then f else 2^bp p+f)->cS (bg (n:Int)) (((max F 1-1:Nat):Int)-ew E p)=eb E p (r:Int):=fun n hn=>by
  rw[uC (u:=max F 1-1) (v:=ew E p) rfl,(jO _).1,(jO _).2,zaH,<-zap];unfold eb;rw[oL (by omega),zaC,kX,<-hn]
 have Wj:bA*bA=340282366920938463463374607431768211456:=rfl;obtain⟨n,hn⟩:∃n,n=(if F=0 then f else 2^bp p+f):=⟨_,rfl⟩;have alv:n<2^113:=by rw[hn];split<;>omega
 have V3:n<bA*bA:=by omega
 have tail:=tail n hn;by_cases mo:F=0
 ·refine ah 119 (.b true) rfl (b8 (zad (by omega))) ?_;have fH:f=n:=by rw[hn,zab mo]
  rw[fH]at p5⊢;clear hn fH;rw[mo,zbx,zaw]at p5;refine I ?_;by_cases nd:n=0
  ·refine Eg true ?_ (hr:=by rw[nd];rfl);refine I ?_;exact ar rfl (agl (by omega))
  refine Eg false ?_ (hr:=by
   have h1:=zaS n bA;show((((n/bA:Nat):Int)==0)&&(((n%bA:Nat):Int)==0))=false;rw[Bool.and_eq_false_iff,zaO,zaO];by_cases aE:n/bA=0
   ·right;rw[aE,zbx,zaw]at h1;rw[h1];omega
   ·exact .inl fun h=>aE (Int.ofNat_eq_zero.1 h))
  have vR:=vR (by omega);refine ak 40 ?_;refine ah 40 (.b false) rfl (b8 (zac (by omega))) (I ?_);refine bo Pt n V3 (I ?_);refine bo M7 (E,p,m) h (ak 52 ?_);refine cu 52 (.i .i64 (max F 1:Nat)) rfl rfl (ev (by omega)) ?_;refine ak 53 ?_;refine cu 53 (.i .i64 (max F 1-1:Nat)) rfl rfl (bx (by omega) (by omega) (by omega)) ?_;refine ak 56 ?_;refine ah 56 (.i .i64 ((max F 1-1:Nat)-(ew E p:Int))) rfl (bx (by omega) (by omega) (by omega)) ?_;refine bo pZ (bg (n:Int),(max F 1-1:Nat)-(ew E p:Int)) ⟨dn (lv (k:=3) (by rw[zaC];omega)) (by decide),by show(-20000:Int)<=((max F 1-1:Nat):Int)-ew E p;omega,by show((max F 1-1:Nat):Int)-ew E p<=20000;omega⟩ ?_;refine ah 57 (bG (eb E p (r:Int))) rfl (by show bG (cS _ _)=_;rw[tail]) ?_;cases neg with
  |false=>
   refine I ?_;exact ar rfl (.of (pd vR))
  |true=>
   refine I ?_;refine aL HU (eb E p (r:Int)) trivial (I ?_);exact ar rfl (.of (pd (vR.trans (by rw[zab rfl,Pm];rfl))))
 ·refine ah 119 (.b false) rfl (b8 (zac (by omega))) ?_;have fH:2^bp p+f=n:=by rw[hn,zaa mo]
  have vD:f|||2^bp p=n:=by
   have:=Ig (a:=1) (k:=bp p) (b:=f) (by omega);rw[zaI]at this;rw[zcE,this,fH]
  have vR:=vR (fun h=>by rw[h,Nat.zero_div]at akc;omega);refine ak 40 ?_;refine ah 40 (.b true) rfl (b8 (zad (by omega))) (ak 46 ?_);refine cu 46 (.i .i64 (bp p:Nat)) rfl rfl (bx (by omega) (by omega) (by omega)) ?_;refine I ?_;refine bo JG (1,bp p) (by show bp p<=128;omega) ?_ (he:=by exact⟨.of rfl,.refl _,trivial⟩);refine ah 47 (dI (2^bp p)) rfl (by show dI _=_;rw[zaH,dJ (by omega)]) (I ?_);refine bo EP (f,2^bp p) ⟨by show f<bA*bA;omega,by show 2^bp p<bA*bA;omega⟩ ?_;refine ah 48 (dI n) rfl (by show dI _=_;rw[vD]) (I ?_);refine bo Pt n V3 (I ?_);refine bo M7 (E,p,m) h (ak 52 ?_);refine cu 52 (.i .i64 (max F 1:Nat)) rfl rfl (ev (by omega)) ?_;refine ak 53 ?_;refine cu 53 (.i .i64 (max F 1-1:Nat)) rfl rfl (bx (by omega) (by omega) (by omega)) ?_;refine ak 56 ?_;refine ah 56 (.i .i64 ((max F 1-1:Nat)-(ew E p:Int))) rfl (bx (by omega) (by omega) (by omega)) ?_;refine bo pZ (bg (n:Int),(max F 1-1:Nat)-(ew E p:Int)) ⟨dn (lv (k:=3) (by rw[zaC];omega)) (by decide),by show(-20000:Int)<=((max F 1-1:Nat):Int)-ew E p;omega,by show((max F 1-1:Nat):Int)-ew E p<=20000;omega⟩ ?_;refine ah 57 (bG (eb E p (r:Int))) rfl (by show bG (cS _ _)=_;rw[tail]) ?_;cases neg with
  |false=>
   refine I ?_;exact ar rfl (.of (pd vR))
  |true=>
   refine I ?_;refine aL HU (eb E p (r:Int)) trivial (I ?_);exact ar rfl (.of (pd (vR.trans (by rw[zab rfl,Pm];rfl))))
def wG(neg:Bool)(r:Nat):Int:=if neg then -(r:Int)else r
def OC:bh where
 L:=Int×Int×Int×Bool×Nat
 args:=fun(e,p,m,neg,r)=>[js e p m (ct e),dI (gV e p neg+r)]
 pre:=fun(e,p,m,neg,r)=>cq e p∧r<=In e p
 res:=fun(e,p,m,neg,r)=>bG (bg (wG neg r))
def ZP:a9 aT.ctx 229 OC.spec:=by
 refine bH [(324,Pw.spec),(323,Ps.spec),(234,Dw.spec),(123,HS.spec)] S6.1 ?_;intro⟨e,p,m,neg,r⟩ ⟨(h:cq e p),(hr:r<=In e p)⟩ H aH;obtain⟨i1,i2⟩:=sk h;obtain⟨t1,t2⟩:=EC h;obtain⟨h1,h2,h3,au,aW⟩:=id h;have xH:(gV e p neg+r)%2^(e+p-1).toNat=r:=by
  unfold gV;cases neg
  ·simp only[zbb,if_false,zaw];exact dJ (by omega)
  ·simp only[if_true,Nat.add_mod_left];exact dJ (by omega)
 refine ak 13 ?_;refine ah 13 (.i .i64 (e+p)) rfl (bx rfl (by omega) (by omega)) (ak 14 ?_);refine ah 14 (.i .i64 ((e+p-1).toNat:Nat)) rfl (bx (by omega) (by omega) (by omega)) ?_;refine aL Px (gV e p neg+r,(e+p-1).toNat) (by show _<=128;omega) ?_;refine ah 15 (dI r) rfl (by show dI _=_;rw[xH]) ?_;refine aL Pt r (by show r<bA*bA;omega) (I ?_);refine aL Xa (e,p,m,neg,r) ⟨h,hr⟩ ?_;cases neg with
 |false=>
  refine I ?_;exact ar rfl (.refl _)
 |true=>
  refine I ?_;refine aL HU (bg (r:Int)) trivial (I ?_);exact ar rfl (.of (congrArg bG (PA _)))
def ZQ:bh where
 L:=Int×Int×Int×Int
 args:=fun(e,p,m,n)=>[js e p m (ct e),bG (bg n)]
 pre:=fun(e,p,m,n)=>cq e p∧n.natAbs<2^(e+p-1).toNat
 res:=fun(e,p,m,n)=>dI (gV e p (decide (n<0))+n.natAbs)
def auC(n:Int):gv (bg n)=bg (n.natAbs:Int):=by
 unfold gv;rw[(jO n).1];split
 ·rw[PA];congr 1;omega
 ·congr 1;omega
def aqm:a9 aT.ctx 233 ZQ.spec:=by
 refine bH [(39,uE.spec),(326,EU.spec),(117,Fa.spec),(328,N3.spec),(325,Bn.spec)] Tb.1 ?_;intro⟨e,p,m,n⟩ ⟨(h:cq e p),(hn:n.natAbs<_)⟩ H aH;obtain⟨i1,i2⟩:=sk h;refine I ?_;refine bo sK (bg n) trivial (ak 8 ?_);refine ah 8 (.b (decide (n<0))) rfl (b8 (decide_eq_decide.2 (by show(bg n).num.sign<0↔n<0;rw[(jO n).1];exact zeI))) (I ?_);refine bo JH (e,p,m,ct e,decide (n<0)) h (I ?_);refine bo J4 (bg n) trivial ?_;refine ah 11 (bG (bg (n.natAbs:Int))) rfl (by show bG (gv _)=_;rw[auC]) (I ?_);refine bo YI n.natAbs (by show n.natAbs<bA*bA;omega) (I ?_);refine bo EP (gV e p (decide (n<0)),n.natAbs) ⟨Ja h _,by show n.natAbs<bA*bA;omega⟩ (I ?_);exact ar rfl (.of (by show dI _=dI _;rw[OR _ hn]))
def abZ:bh where
 L:=Int×Int×Nat
 args:=fun(e,p,w)=>[m5 e p,.i .i64 0,.cc 2 Nat uM [w]]
 pre:=fun(e,p,w)=>cq e p∧w<2^(e+p).toNat
 res:=fun(e,p,w)=>.bu [js e p 0 (ct e),.i .i64 0]
def aul:a9 aT.ctx 127 abZ.spec:=by
 refine bH [(92,Cj.spec),(227,ES.spec)] Lr.1 ?_;intro⟨e,p,w⟩ ⟨(h:cq e p),(hw:w<_)⟩ H aH;obtain⟨h1,h2,h3,au,aW⟩:=id h;have hb:=jn h1 h2;have aml:w<bA*bA:=zcP hw (show 2^(e+p).toNat<=2^128 from zat (by decide) (by omega));refine I ?_;refine aL Lf (e,p) trivial ?_;refine ah 20 (.i .i64 0) rfl (by show ab.i .i64 (if _ then _ else _)=_;rw[zab h]) (ak 28 ?_);refine cu 28 (.i .i64 ((e-1).toNat:Nat)) rfl rfl (bx (by omega) (by omega) (by omega)) ?_;have g0:(2:Nat)^(e-1).toNat<=2^11:=zat (by decide) (by omega);refine Rk ((2^(e-1).toNat:Nat):Int) ?_ (by rw[zcf];exact Hj (by omega));refine ak 30 ?_;refine cu 30 (.i .i64 (ct e)) rfl rfl (bx (by rw[<-BH h1];omega) (by rw[<-BH h1];omega) (by rw[<-BH h1];omega)) ?_;refine I ?_;refine c6 (L:=Nat) (fun k=>k<=1) (fun(k:Nat)=>⟨[.c 76 [.i .i64 e,.i .i64 p],.c 234 [.i .i64 0,.i .i64 0,.i .i64 0,.i .i64 0],.c 234 [.i .i64 e,.i .i64 p,.i .i64 0,.i .i64 (ct e)]],3,[(3,.p 0 0),(6,.p 1 0),(7,.i .i64 0),(8,.p 2 0),(32,.cc 2 Nat uM [w]),(33,.i .i64 1),(34,.i .i64 (k:Nat))]⟩) (fun k=>1-k) [0,1,2] 0 (zag _) (by show 1-0<bQ+1;unfold bQ;omega) jK ?_;intro(k:Nat) U;rcases(show k=0∨k=1 by omega)with rfl|rfl
 ·refine I ?_;refine dP (j:=0) w rfl ?_;refine ak 43 ?_;refine ah 43 (.i .i64 ((e+p).toNat:Nat)) rfl (bx (by omega) (by omega) (by omega)) ?_;refine aL ET (w,(e+p).toNat) ⟨aml,by show _<=128;omega⟩ ?_;refine ah 44 (.agg [.i .u64 0,.i .u64 0]) rfl (by show dI (w/2^_)=_;rw[zaW hw];rfl) (I ?_);refine Eg false ?_;refine I ?_;exact a1 [0,1,2] 1 ⟨by decide,by decide⟩ jK
 ·refine I ?_;exact ar rfl (.refl _)
def zx:ac Nat:=[0,1,28,2,29,14,24,3,30,22,20,15,25,17,4,8,31,27,13,23,21,19,16,7,26,12,18,6,11,5,10,9]
def xd:ac ab:=zx.map fun t:Nat=>.i .u8 (t:Int)
def qH(H:bz):Prop:=∃vs el a8 aX,H 9=some (.cells vs el a8 aX)∧∀br,db br xd [] vs
def qH.up{H br:bz}(h:dg H br):qH H->qH br:=fun⟨vs,el,a8,aX,h1,h2⟩=>⟨vs,el,a8,aX,h _ _ h1,h2⟩
def Bf(x:Nat):Nat:=(x&&&(4294967296-x))*125613361%4294967296/134217728
def EF(x:Nat):Nat:=zx.getD (Bf x) 0
def ato(x:Nat):Bf x<32:=by
 have:=zaf ((x&&&(4294967296-x))*125613361) (show 0<4294967296 by decide);unfold Bf;omega
def ae0{j:Nat}(h:j<32):xd.drop j= .i .u8 (zx.getD j 0:Nat)::xd.drop (j+1):=by
 have hl:j<xd.length:=by unfold xd;rw[zaN];exact h
 rw[hB hl];congr 1;have h2:j<zx.length:=h;rw[zdm,bF h2];simp[xd]
def ae1:∀j,j<32->zx.getD j 0<32:=by decide
def abz:bh where
 L:=Nat
 args:=fun x=>[.i .u32 (x:Nat)]
 pre:=fun x=>0<x∧x<4294967296
 res:=fun x=>.i .i64 (EF x:Nat)
 hp:=qH
 hm:=qH.up
def atn:a9 aT.ctx 421 abz.spec:=by
 refine jy [] Ul.1 ?_;intro(x:Nat) ⟨(h0:0<x),(h1:x<4294967296)⟩ H aH ⟨vs,el,a8,aX,aJ,al⟩;have hl:=ato x;have hb:=ae1 _ hl;refine ak 4 ?_;refine ah 4 (.b false) rfl (b8 (zac (by omega))) (ak 7 ?_);refine ah 7 (.i .u32 ((4294967296-x:Nat):Int)) rfl (ev (aup (by omega))) (ak 10 ?_);refine ah 10 (.i .u32 (Bf x:Nat)) rfl (ev (congrArg Int.ofNat (by
  show(x%4294967296&&&(4294967296-x)%4294967296)*125613361%4294967296/2^27=_;rw[dJ h1,dJ (a:=4294967296-x) (by omega)];rfl))) ?_
 refine Ei aJ al (j:=Bf x) ?_;refine ah 11 (.ip (.i .u8 (EF x:Nat)::xd.drop (Bf x+1))) rfl (by rw[zaI,ae0 hl];rfl) (ak 13 ?_);have hb:EF x<32:=hb;refine ah 13 (.i .i64 (EF x:Nat)) rfl (bx rfl (by omega) (by omega)) (I ?_);exact ar rfl (.refl _)
def EE(l:ac Nat):Int:=IntKind.i64.wrap (IntKind.i64.wrap (32*((l.takeWhile (· ==0)).length:Int))+(EF (l.getD (l.takeWhile (· ==0)).length 0):Nat))
theorem abp:∀{l:ac Nat} {k:Nat},(∀i,i<k->l[i]? =some 0)->(∃d,l[k]? =some d∧d≠0)->(l.takeWhile (· ==0)).length=k
 |[],k,_,⟨d,h,_⟩=>by simp at h
 |x::l,0,_,⟨d,h,al⟩=>by
  simp at h;subst h;rw[List.takeWhile_cons_of_neg (by simpa using al)];rfl
 |x::l,k+1,h,⟨d,h2,al⟩=>by
  have h0:=h 0 (by omega);simp at h0;subst h0;rw[List.takeWhile_cons_of_pos (by simp),zau,abp (k:=k) (fun i hi=>by have:=h (i+1) (by omega);simpa using this) ⟨d,by simpa using h2,al⟩]
def X4:bh where
 L:=Nat
 args:=fun n=>[c0 n]
 pre:=fun n=>n≠0∧dF 1073741823 n
 res:=fun n=>.i .i64 (EE (aR 4294967296 n))
 hp:=qH
 hm:=qH.up
def X5:a9 aT.ctx 411 X4.spec:=by
 refine jy [(421,abz.spec)] Uj.1 ?_;intro(n:Nat) ⟨(h0:n≠0),(hn:dF _ n)⟩ H aH dv;have hn:(aR 4294967296 n).length<=1073741823:=hn;have bI:=gb (b:=4294967296) (by decide) n;have aN:=r1 (b:=4294967296) (by decide) n;obtain⟨ds,gJ⟩:∃ds,ds=aR 4294967296 n:=⟨_,rfl⟩;have cl:ds≠[]:=fun e=>h0 ((nD (b:=4294967296) (by decide)).1 (by rw[<-gJ];exact e));have CL:∃(j:Nat) (d:Nat),ds[j]? =some d∧d≠0:=by
  rw[<-gJ]at aN;rcases zbU ds with h|⟨cM,d,h⟩
  ·exact absurd h cl
  ·rw[zbV]at h;rw[h]at aN⊢;exact⟨cM.length,d,by simp,(yi (b:=4294967296) aN).2⟩
 rw[<-gJ]at hn bI;refine ah 0 (cQ ds) rfl (by rw[gJ];rfl) (I ?_);refine l7 (L:=Nat) (fun k=>k<ds.length∧(∀i,i<k->ds[i]? =some 0)∧∃d,ds[k]? =some d∧d≠0) (fun(k:Nat)=>⟨[],0,[(0,cQ ds),(3,.i .i64 (k:Nat))]⟩) ?_ ?_
 ·refine c6 (L:=Nat) (fun k=>k<ds.length∧∀i,i<k->ds[i]? =some 0) (fun(k:Nat)=>⟨[],0,[(0,cQ ds),(3,.i .i64 (k:Nat))]⟩) (fun k=>ds.length-k) [] 0 ⟨zbf.2 cl,fun i hi=>by omega⟩ (by show ds.length-0<bQ+1;unfold bQ;omega) eP ?_;rintro(k:Nat) ⟨U,aE⟩;refine I ?_;refine dP ds[k] (bF U) ?_;refine ak 8 ?_;by_cases al:ds[k]=0
  ·refine ah 8 (.b true) rfl (b8 (zad (by omega))) ?_;have vx:k+1<ds.length:=by
    obtain⟨j,d,h1,h2⟩:=CL;have hj:=(zae.1 h1).1;rcases(show j<k∨j=k∨k<j by omega)with h|h|h
    ·have:=aE j h;rw[h1]at this;cases this;exact absurd rfl h2
    ·subst h;rw[bF U,al]at h1;cases h1;exact absurd rfl h2
    ·omega
   refine ak 10 ?_;refine ah 10 (.i .i64 ((k+1:Nat):Int)) rfl bx (I ?_);exact a1 [] (k+1) ⟨by show ds.length-(k+1)<ds.length-k;omega,vx,fun i hi=>by
    rcases(show i<k∨i=k by omega)with h|h
    ·exact aE i h
    ·subst h;rw[bF U,al]⟩ eP
  ·refine ah 8 (.b false) rfl (b8 (zac (by omega))) (I ?_);exact a1 [] k ⟨U,aE,_,bF U,al⟩ eP
 rintro(k:Nat) ⟨U,aE,d,al,tA⟩;have vr:=bI d (zaz al);refine I ?_;refine dP d al ?_;refine I ?_;refine aL atn d ⟨by show 0<d;omega,vr⟩ (I ?_) (hh:=dv);refine ar rfl (.of ?_);show ab.i _ _=ab.i .i64 (EE _);rw[<-gJ];unfold EE;rw[abp aE ⟨d,al,tA⟩,zdm,al];rfl
def Pa(x:Rat):Int:=IntKind.i64.wrap (EE (aR 4294967296 x.num.natAbs)-EE (aR 4294967296 x.den))
def abr:bh where
 L:=Rat
 args:=fun x=>[bG x]
 pre:=fun x=>x.num≠0∧cA 268435456 x
 res:=fun x=>.i .i64 (Pa x)
 hp:=qH
 hm:=qH.up
def atl:a9 aT.ctx 382 abr.spec:=by
 refine jy [(39,uE.spec),(411,X4.spec),(41,s8.spec)] T7.1 ?_;intro(x:Rat) ⟨(h0:x.num≠0),(J:cA _ x)⟩ H aH dv;refine I ?_;refine aL sK x trivial (I ?_);refine b9 (fun h=> ?_) (fun h=> ?_)
 ·have h:x.num=0:=zbM.1 h;exact absurd h h0
 refine I ?_;refine bo X5 x.num.natAbs ⟨by show x.num.natAbs≠0;omega,cD J.1 (by decide)⟩ (I ?_) (hh:=dv);refine bo nz x trivial (I ?_);refine bo X5 x.den ⟨x.den_nz,cD J.2 (by decide)⟩ (I ?_) (hh:=dv);exact ar rfl (.refl _)
def k5(up:Bool):Int:=if up then 3 else 4
def abE:bh where
 L:=Bool×Bool×Int
 args:=fun(up,o,c)=>[.i .i64 (k5 up),.b o,.i .i64 c]
 pre:=fun _=>True
 res:=fun(up,o,c)=>.b up
def abF:a9 aT.ctx 381 abE.spec:=by
 refine bH [] T6.1 ?_;intro⟨up,o,c⟩ _ H aH;cases up with
 |true=>
  refine I ?_;exact ar rfl (.refl _)
 |false=>
  refine I ?_;exact ar rfl (.refl _)
def anS:ac ab:=[.i .i64 0,.i .i64 1,.i .i64 2,.i .i64 4,.i .i64 3]
def Br(H:bz):Prop:=∃vs el a8 aX,H 5=some (.cells vs el a8 aX)∧∀br,db br anS [] vs
def Br.up{H br:bz}(h:dg H br):Br H->Br br:=fun⟨vs,el,a8,aX,h1,h2⟩=>⟨vs,el,a8,aX,h _ _ h1,h2⟩
def om(H:bz):Prop:=qH H∧Br H
def om.up{H br:bz}(h:dg H br):om H->om br:=fun⟨a,b⟩=>⟨a.up h,b.up h⟩
def qU(up is:Bool)(n:Nat):Nat:=if is=false∧up=true then n+1 else n
def zD(e p:Int)(up:Bool)(r:Nat):Nat:=if r<In e p then r else if up then In e p else In e p-1
def Cc(e p:Int)(is pF:Bool)(r:Nat):Int:=if r<In e p then(if is then 0 else if pF then 24 else 16)else 20
structure y2 where
 e:Int
 p:Int
 up:Bool
 neg:Bool
 n:Nat
 j:Nat
 is:Bool
 c:Int
 pF:Bool
def y2.El(x:y2):Nat:=qU x.up x.is x.n+x.j*2^bp x.p
def K6:bh where
 L:=y2
 args:=fun x=>[js x.e x.p (k5 (x.up != x.neg)) (ct x.e),.b x.neg,bG (bg (x.n:Int)),.i .i64 ((x.j:Int)-ew x.e x.p),.b x.is,.i .i64 x.c,.b x.pF]
 pre:=fun x=>cq x.e x.p∧x.n<2*2^bp x.p∧(2^bp x.p<=x.n∨x.j=0)∧x.j<=10000
 res:=fun x=>.bu [dI (gV x.e x.p x.neg+zD x.e x.p x.up x.El),.i .i64 (Cc x.e x.p x.is x.pF x.El)]
 hp:=om
 hm:=om.up
def ajH(h:cq e p){n j:Nat}(h1:n<=2*2^bp p)(h2:2^bp p<=n∨j=0):cS (bg (n:Int)) ((j:Int)-ew e p)=eb e p ((n+j*2^bp p:Nat):Int)∧(g4 (eb e p ((n+j*2^bp p:Nat):Int)) (kU e p)<=0↔n+j*2^bp p<In e p):=by
 have hi:=vM h;have hp:=zah (bp p);constructor
 ·rw[uC (u:=j) (v:=ew e p) rfl,(jO _).1,(jO _).2,zaH,<-zap];unfold eb;rw[oL (by omega),zaC,rr h1 h2]
 ·rw[Vi h,<-zcu,pS,abK];omega
def afJ:a9 aT.ctx 322 K6.spec:=by
 refine jy [(39,uE.spec),(382,abr.spec),(381,abE.spec),(10,rl.spec),(129,wz.spec),(177,r5.spec),(180,Nn.spec),(12,sH.spec),(383,ab2.spec),(130,Gf.spec),(116,A0.spec),(232,Pu.spec)] TJ.1 ?_;intro⟨e,p,up,neg,n,j,is,c,pF⟩ ⟨(h:cq e p),(xK:n<2*2^bp p),(alv:2^bp p<=n∨j=0),(hj:j<=10000)⟩ H aH ⟨akG,vs,el,a8,aX,aJ,al⟩;obtain⟨h1,h2,h3,au,aW⟩:=id h;have hb:=jn h1 h2;have ll:=wh h;have GG:=vf h;have Vv:2^bp p<=2^112:=zat (by decide) (by omega);have k0:=vM h;have auU:=zah (bp p);have vZ:∀m:Nat,m<=2*2^bp p->cA 4 (bg (m:Int)):=fun m hm=>lv (k:=3) (by rw[zaC];omega);refine I ?_;refine fJ (L:=Unit) (fun _=>True) (fun _=>⟨[.c 234 [.i .i64 e,.i .i64 p,.i .i64 (k5 (up != neg)),.i .i64 (ct e)],.c 42 (iS (bg (n:Int))),.c 148 [.i .u64 0,.i .u64 0]],3,[(1,.b neg),(3,.i .i64 ((j:Int)-ew e p)),(4,.b is),(5,.i .i64 c),(6,.b pF),(7,.p 0 0),(9,.p 1 0),(14,.p 2 0),(15,.i .i64 0),(16,.i .i64 (k5 up))]⟩) ?_ ?_
 ·cases neg with
  |false=>
   refine I ?_;exact a1 [0,1,2] () trivial (yK ⟨rfl,rfl,rfl,rfl,rfl,rfl,rfl,rfl,rfl,by cases up<;>rfl,trivial⟩ ⟨_,rfl,rfl⟩ ⟨_,rfl,rfl⟩ ⟨_,rfl,rfl⟩)
  |true=>
   cases up with
   |false=>
    refine I ?_;refine Ei aJ al (j:=3) ?_ (hi:=by rfl);refine ah 22 (.ip [.i .i64 4,.i .i64 3]) rfl rfl (I ?_);exact a1 [0,1,2] () trivial jK
   |true=>
    refine I ?_;refine Ei aJ al (j:=4) ?_ (hi:=by rfl);refine ah 22 (.ip [.i .i64 3]) rfl rfl (I ?_);exact a1 [0,1,2] () trivial jK
 intro _ _;refine I ?_;refine fJ (L:=Nat×Int) (fun(b0,f)=>b0=qU up is n∧f=if is then 0 else if pF then 24 else 16) (fun((b0:Nat),f)=>⟨[.c 234 [.i .i64 e,.i .i64 p,.i .i64 (k5 (up != neg)),.i .i64 (ct e)],.c 42 (iS (bg (b0:Int))),.c 148 [.i .u64 0,.i .u64 0]],3,[(1,.b neg),(3,.i .i64 ((j:Int)-ew e p)),(7,.p 0 0),(9,.p 1 0),(14,.p 2 0),(15,.i .i64 0),(16,.i .i64 (k5 up)),(17,.i .i64 f)]⟩) ?_ ?_
 ·cases is with
  |true=>
   refine I ?_;exact a1 [0,1,2] (n,0) ⟨by unfold qU;rw[zaa (fun h=>by cases h.1)],rfl⟩ jK
  |false=>
   refine I ?_;refine fJ (L:=Int) (fun f=>f=if pF then 24 else 16) (fun f=>⟨[.c 234 [.i .i64 e,.i .i64 p,.i .i64 (k5 (up != neg)),.i .i64 (ct e)],.c 42 (iS (bg (n:Int))),.c 148 [.i .u64 0,.i .u64 0]],3,[(1,.b neg),(3,.i .i64 ((j:Int)-ew e p)),(5,.i .i64 c),(7,.p 0 0),(9,.p 1 0),(14,.p 2 0),(15,.i .i64 0),(16,.i .i64 (k5 up)),(17,.i .i64 f)]⟩) ?_ ?_
   ·cases pF with
    |false=>
     refine I ?_;exact a1 [0,1,2] 16 rfl jK
    |true=>
     refine I ?_;exact a1 [0,1,2] 24 rfl jK
   intro f aa;refine I ?_;refine aL sK (bg (n:Int)) trivial ?_;have last:∀b0,b0=(if up=true then n+1 else n)->b0=qU up false n:=fun b0 h=>by
    rw[h];unfold qU;cases up<;>rfl
   have alz:(bg (n:Int)).num=(n:Int):=(jO _).1;refine ak 32 ?_;by_cases kk:n=0
   ·refine ah 32 (.b false) rfl (b8 (zac (fun h=>h (by rw[alz,kk];rfl)))) (I ?_);refine aL abF (up,false,c) trivial ?_;cases up with
    |false=>
     refine I ?_;exact a1 [0,1,2] (n,f) ⟨last n rfl,aa⟩ jK
    |true=>
     refine I ?_;refine bo lp (1:Int) ⟨by decide,by decide⟩ (I ?_);refine bo wA (bg (n:Int),bg 1) ⟨dn (vZ n (by omega)) (by decide),dn (vZ 1 (by omega)) (by decide)⟩ ?_;refine ah 42 (bG (bg ((n+1:Nat):Int))) rfl (by show bG (bg _+bg _)=_;rw[wS];rfl) (I ?_);exact a1 [0,1,2] (n+1,f) ⟨last (n+1) rfl,aa⟩ jK
   ·refine ah 32 (.b true) rfl (b8 (zad (fun h=>kk (by have:=zbM.1 h;omega)))) (I ?_);refine aL atl (bg (n:Int)) ⟨by omega,dn (vZ n (by omega)) (by decide)⟩ ?_ (hh:=akG);refine ah 35 (.i .i64 (Pa (bg (n:Int)))) rfl rfl (I ?_);refine aL abF (up,decide (Pa (bg (n:Int))=0),c) trivial ?_;cases up with
    |false=>
     refine I ?_;exact a1 [0,1,2] (n,f) ⟨last n rfl,aa⟩ jK
    |true=>
     refine I ?_;refine bo lp (1:Int) ⟨by decide,by decide⟩ (I ?_);refine bo wA (bg (n:Int),bg 1) ⟨dn (vZ n (by omega)) (by decide),dn (vZ 1 (by omega)) (by decide)⟩ ?_;refine ah 42 (bG (bg ((n+1:Nat):Int))) rfl (by show bG (bg _+bg _)=_;rw[wS];rfl) (I ?_);exact a1 [0,1,2] (n+1,f) ⟨last (n+1) rfl,aa⟩ jK
 rintro⟨b0,f⟩ ⟨iF,aa⟩;have a2:b0<=2*2^bp p:=by rw[iF];unfold qU;split<;>omega
 have bw:2^bp p<=b0∨j=0:=by rw[iF];unfold qU;split<;>omega
 obtain⟨cr,cz⟩:=ajH h a2 bw;have hr:y2.El ⟨e,p,up,neg,n,j,is,c,pF⟩=b0+j*2^bp p:=by rw[iF];rfl
 have aq:∀{w:Nat} {g:Int},zD e p up (b0+j*2^bp p)=w->Cc e p is pF (b0+j*2^bp p)=g->bZ (.bu [dI (gV e p neg+w),.i .i64 g]) (K6.res ⟨e,p,up,neg,n,j,is,c,pF⟩):=fun h1 h2=>.of (by
  show _=ab.bu [dI (gV e p neg+zD e p up (y2.El _)),.i .i64 (Cc e p is pF (y2.El _))];rw[hr,h1,h2])
 refine I ?_;refine bo pZ (bg (b0:Int),(j:Int)-ew e p) ⟨dn (vZ b0 a2) (by decide),by show(-20000:Int)<=(j:Int)-ew e p;omega,by show(j:Int)-ew e p<=20000;omega⟩ (I ?_);refine bo Xy (e,p,k5 (up != neg)) h (I ?_);refine bo sI (cS (bg (b0:Int)) ((j:Int)-ew e p),kU e p) ⟨dn (ug 400 (vZ b0 a2) (by omega) (by omega)) (by decide),dn (XM h) (by decide)⟩ (ak 49 ?_);rw[<-cr]at cz;by_cases aV:b0+j*2^bp p<In e p
 ·refine ah 49 (.b true) rfl (b8 (zad (cz.2 aV))) (I ?_);refine aL ab3 (e,p,k5 (up != neg),neg,b0,j) ⟨h,by show b0+j*2^bp p<=In e p;omega⟩ (I ?_);exact ar rfl (aq (zab aV) ((zab aV).trans aa.symm))
 ·refine ah 49 (.b false) rfl (b8 (zac (fun h=>aV (cz.1 h)))) ?_;have hm:cS (mkRat 1 1) p-bg 1=bg ((2*2^bp p-1:Nat):Int):=by
   rw[uC (u:=p.toNat) (v:=0) (by omega),show p.toNat=bp p+1 by omega,zak];generalize 2^bp p=z at *;show bg (1*((z*2:Nat):Int))-bg 1=_;rw[PB];congr 1;omega
  have CI:(2*2^bp p-1)+(2*ct e-1).toNat*2^bp p=In e p-1:=by
   unfold In;rw[show(2*ct e+1).toNat=(2*ct e-1).toNat+2 by omega,zam];omega
  cases up with
  |true=>
   refine I ?_;refine aL abY (e,p,k5 (true != neg),ct e,neg) h (I ?_);exact ar rfl (aq (zaa aV) (zaa aV))
  |false=>
   refine I ?_;refine bo Lq p ⟨by omega,by omega⟩ (I ?_);refine bo lp (1:Int) ⟨by decide,by decide⟩ (I ?_);refine bo Ep (cS (mkRat 1 1) p,bg 1) ⟨dn (ug 4 (HO 1 (by decide) (by decide)) (by omega) (by omega)) (by decide),dn (vZ 1 (by omega)) (by decide)⟩ ?_;refine ah 69 (bG (bg ((2*2^bp p-1:Nat):Int))) rfl (by show bG (_-_)=_;rw[hm]) (ak 75 ?_);refine cu 75 (.i .i64 (ct e-p)) rfl rfl (bx rfl (by omega) (by omega)) ?_;refine ak 76 ?_;refine cu 76 (.i .i64 (((2*ct e-1).toNat:Int)-ew e p)) rfl rfl (bx (by omega) (by omega) (by omega)) ?_;refine I ?_;refine bo ab3 (e,p,k5 (false != neg),neg,2*2^bp p-1,(2*ct e-1).toNat) ⟨h,by show 2*2^bp p-1+(2*ct e-1).toNat*2^bp p<=In e p;omega⟩ ?_;refine ah 77 (dI (gV e p neg+(In e p-1))) rfl (by show dI (gV e p neg+(2*2^bp p-1+(2*ct e-1).toNat*2^bp p))=_;rw[CI]) (I ?_);exact ar rfl (aq (zaa aV) (zaa aV))
def ux(e p:Int)(gn:Bool)(x:Rat):Nat:=if x.num=0 then 0 else if(gn != decide (x.num<0))then n8 e p x else mO e p x
def Em(e p:Int)(gn:Bool)(x:Rat):Int:=if x.num=0 then 0 else Cc e p (decide (lu e p x)) (decide (gy x.num.natAbs x.den<1-ct e)) (qU (gn != decide (x.num<0)) (decide (lu e p x)) (gk e p x)+fq e x*2^bp p)
def ab0:bh where
 L:=Int×Int×Bool×Rat
 args:=fun(e,p,gn,x)=>[js e p (k5 gn) (ct e),bG x]
 pre:=fun(e,p,gn,x)=>cq e p∧cA 250 x
 res:=fun(e,p,gn,x)=>.bu [dI (gV e p (decide (x.num<0))+ux e p gn x),.i .i64 (Em e p gn x)]
 hp:=om
 hm:=om.up
def as6(h:cq e p)(x:Rat):cS (gv x) (-kr e p x)=mkRat ((x.num.natAbs*2^ew e p:Nat):Int) (x.den*2^fq e x):=by
 rw[uC (u:=ew e p) (v:=fq e x) (by rw[O2 h];omega),(mV x).1,(mV x).2,zap]
def afK(e p:Int)(up:Bool)(x:Rat):zD e p up (qU up (decide (lu e p x)) (gk e p x)+fq e x*2^bp p)=if up then n8 e p x else mO e p x:=by
 unfold zD qU n8 mO yd;cases up
 ·simp only[zbb,if_false,and_false];split<;>omega
 ·by_cases hn:lu e p x
  ·rw[zad hn,zab hn];simp only[if_true,Bool.true_eq_false,false_and,if_false];split<;>omega
  ·rw[zac hn,zaa hn];simp only[if_true,and_self];split<;>omega
def aun:a9 aT.ctx 228 ab0.spec:=by
 refine jy [(39,uE.spec),(321,ab4.spec),(117,Fa.spec),(179,Ll.spec),(178,Nq.spec),(177,r5.spec),(63,Gb.spec),(126,Hp.spec),(116,A0.spec),(10,rl.spec),(12,sH.spec),(274,Nx.spec),(322,K6.spec)] S5.1 ?_;intro⟨e,p,gn,x⟩ ⟨(h:cq e p),(J:cA 250 x)⟩ H aH dv;obtain⟨h1,h2,h3,au,aW⟩:=id h;have hb:=jn h1 h2;refine I ?_;refine aL sK x trivial (I ?_);refine b9 (fun h0=> ?_) (fun h0=> ?_)
 ·have h0:x.num=0:=zbM.1 h0;refine I ?_;refine aL aur (e,p,k5 gn,ct e,false) h (I ?_);exact ar rfl (.of (by show _=ab.bu [dI (gV e p (decide (x.num<0))+ux e p gn x),.i .i64 (Em e p gn x)];unfold ux Em;rw[zab h0,zab h0,h0];rfl))
 have h0:x.num≠0:=fun e=>h0 (by rw[e];rfl);obtain⟨fN,gY⟩:=mV x;have cK:=Dv x.num.natAbs x.den;have c9:=vS J.1;have hQ:=vS J.2;obtain⟨s1,s2⟩:=aaP h J;have hj:=O2 h x;have m8:=MV e x;have al:=vf h;have aN:=as6 h x;have hq:=FR e x;have LS:=DJ h h0;refine I ?_;refine aL J4 x trivial (I ?_);refine aL RU (gv x) ⟨dn (HN J) (by decide),by rw[fN];omega⟩ ?_;refine ah 19 (.i .i64 (gy x.num.natAbs x.den)) rfl (by show ab.i .i64 (gy (gv x).num.natAbs (gv x).den)=_;rw[fN,gY,zaC]) (I ?_);refine aL XG (e,p,gy x.num.natAbs x.den,k5 gn) ⟨h,by show _<=gy _ _;omega,by show gy _ _<=_;omega⟩ ?_;refine ah 22 (.i .i64 (kr e p x)) rfl rfl (ak 25 ?_);refine ah 25 (.i .i64 (-kr e p x)) rfl (bx rfl (by omega) (by omega)) ?_;refine aL pZ (gv x,-kr e p x) ⟨dn (HN J) (by decide),by show _<= -kr e p x;omega,by show -kr e p x<=_;omega⟩ ?_;have aO:cA 650 (cS (gv x) (-kr e p x)):=ug 400 (HN J) (by omega) (by omega);obtain⟨t,G8⟩:∃t,t=cS (gv x) (-kr e p x):=⟨_,rfl⟩;refine ah 26 (bG t) rfl (by rw[G8];rfl) ?_;rw[<-G8]at aO aN;have tF:qY t=(gk e p x:Int):=by
  rw[aN,F8 (by omega)];unfold gk;rw[zdS]
 have akI:t.den=1↔lu e p x:=by
  rw[aN,XC (by omega),zaC];exact Iff.rfl
 have Vv:2^bp p<=2^112:=zat (by decide) (by have:=wh h;omega);have aK:cA 4 (bg (gk e p x:Int)):=lv (k:=3) (by rw[zaC];omega);refine I ?_;refine aL Gc t (dn aO (by decide)) ?_;refine ah 28 (bG (bg (gk e p x:Int))) rfl (by show bG (bg (qY t))=_;rw[tF]) (I ?_);refine bo sK x trivial (I ?_);refine bo MS t trivial (I ?_);refine bo Ep (t,bg (gk e p x:Int)) ⟨dn aO (by decide),dn aK (by decide)⟩ (I ?_);refine bo pZ (t-bg (gk e p x:Int),1) ⟨dn (HP aO aK) (by decide),by decide,by decide⟩ (I ?_);refine bo lp (1:Int) ⟨by decide,by decide⟩ (I ?_);refine bo sI (cS (t-bg (gk e p x:Int)) 1,bg 1) ⟨dn (ug 1 (HP aO aK) (by decide) (by decide)) (by decide),dn (HO 1 (by decide) (by decide)) (by decide)⟩ (I ?_);refine bo XU (e,p,k5 gn) h (I ?_);refine bo afJ ⟨e,p,gn != decide (x.num<0),decide (x.num<0),gk e p x,fq e x,decide (lu e p x),g4 (cS (t-bg (gk e p x:Int)) 1) (bg 1),decide (gy x.num.natAbs x.den<1-ct e)⟩ ⟨h,LS.1,LS.2,by show fq e x<=10000;omega⟩ (I ?_) (hh:=dv) (he:=by exact⟨.of (by show js e p (k5 gn) (ct e)=js e p (k5 ((gn != decide (x.num<0)) != decide (x.num<0))) (ct e);congr 2;cases gn<;>cases decide (x.num<0)<;>rfl),.of (b8 (decide_eq_decide.2 zeI)),.refl _,.of (by rw[hj]),.of (b8 (decide_eq_decide.2 akI)),.refl _,.refl _,trivial⟩);refine ar rfl (.of ?_);show ab.bu [dI (gV e p (decide (x.num<0))+zD e p (gn != decide (x.num<0)) (qU (gn != decide (x.num<0)) (decide (lu e p x)) (gk e p x)+fq e x*2^bp p)),.i .i64 (Cc e p (decide (lu e p x)) _ _)]=ab.bu [dI (_+ux e p gn x),.i .i64 (Em e p gn x)];unfold ux Em;rw[zaa h0,zaa h0,afK];rfl
def Kz:bh where
 L:=Int×Int×Int×Bool×Rat
 args:=fun(e,p,m,gn,x)=>[js e p m (ct e),bG x,.i .i64 (k5 gn)]
 pre:=fun(e,p,m,gn,x)=>cq e p∧cA 250 x
 res:=fun(e,p,m,gn,x)=>bG (bg (eJ e p gn x))
 hp:=om
 hm:=om.up
def adB(h:cq e p)(gn:Bool)(x:Rat):ux e p gn x<=In e p∧wG (decide (x.num<0)) (ux e p gn x)=eJ e p gn x:=by
 have g5:mO e p x<=In e p:=by unfold mO;omega
 have Gv:n8 e p x<=In e p:=by unfold n8;omega
 unfold ux eJ wG;by_cases h0:x.num=0
 ·rw[zab h0,zab h0,h0];exact⟨zag _,rfl⟩
 rw[zaa h0,zaa h0];by_cases hn:x.num<0
 ·rw[zad hn,zab hn];cases gn<;>simp[g5,Gv]
 ·rw[zac hn,zaa hn];cases gn<;>simp[g5,Gv]
def KA:a9 aT.ctx 128 Kz.spec:=by
 refine jy [(228,ab0.spec),(229,OC.spec)] Se.1 ?_;intro⟨e,p,m,gn,x⟩ ⟨(h:cq e p),(J:cA 250 x)⟩ H aH dv;obtain⟨cr,cz⟩:=adB h gn x;refine I ?_;refine aL aun (e,p,gn,x) ⟨h,J⟩ (I ?_) (hh:=dv);refine aL ZP (e,p,k5 gn,decide (x.num<0),ux e p gn x) ⟨h,cr⟩ (I ?_);exact ar rfl (.of (by show bG (bg _)=bG (bg _);rw[cz]))
def KN{y:Rat}:g4 x y<0↔x<y:=by
 unfold g4;by_cases h:x<y
 ·rw[zab h];exact⟨fun _=>h,fun _=>by decide⟩
 ·rw[zaa h];by_cases az:x=y
  ·rw[zab az];exact⟨fun h=>absurd h (by decide),fun g=>absurd g h⟩
  ·rw[zaa az];exact⟨fun h=>absurd h (by decide),fun g=>absurd g h⟩
def EW{a b:Int}:bg a<bg b↔a<b:=by
 rw[<-Rat.not_le,<-Int.not_le];exact not_congr (XD (by decide))
def acd:bh where
 L:=Int×Int
 args:=fun(a,b)=>[bG (bg a),bG (bg b)]
 pre:=fun(a,b)=>cA 268435456 (bg a)∧cA 268435456 (bg b)
 res:=fun(a,b)=>bG (bg (max a b))
def auF:a9 aT.ctx 131 acd.spec:=by
 refine bH [(12,sH.spec)] Si.1 ?_;intro⟨a,b⟩ hp H aH;refine I ?_;refine aL sI (bg a,bg b) hp (ak 8 ?_);by_cases h:a<b
 ·refine v1 8 (show g4 (bg a) (bg b)<0 from KN.2 (EW.2 h)) (I ?_);exact ar rfl (.of (by show bG (bg b)=bG (bg (max a b));congr 2;omega))
 ·refine v0 8 (show¬g4 (bg a) (bg b)<0 from fun g=>h (EW.1 (KN.1 g))) (I ?_);exact ar rfl (.of (by show bG (bg a)=bG (bg (max a b));congr 2;omega))
def e3(e p:Int)(aM hi:Rat):Int:=eJ e p false hi-eJ e p true aM+1
def KP:bh where
 L:=Int×Int×Rat×Rat
 args:=fun(e,p,aM,hi)=>[m5 e p,bG aM,bG hi]
 pre:=fun(e,p,aM,hi)=>cq e p∧cA 250 aM∧cA 250 hi
 res:=fun(e,p,aM,hi)=>if 4611686018427387904<e3 e p aM hi then .bu [.i .i64 0,.i .i64 3]else .bu [.i .i64 (max (e3 e p aM hi) 0),.i .i64 0]
 hp:=om
 hm:=om.up
def rv(h:cq e p)(hn:n.natAbs<=4*In e p+4):cA 5 (bg n):=lv (k:=4) (by
 have:=(sk h).1;have:=(sk h).2;have:bA*bA=340282366920938463463374607431768211456:=rfl;omega)
def adW:a9 aT.ctx 65 KP.spec:=by
 refine jy [(127,Bp.spec),(128,Kz.spec),(116,A0.spec),(10,rl.spec),(129,wz.spec),(130,Gf.spec),(12,sH.spec),(131,acd.spec),(64,Hm.spec)] UB.1 ?_;intro⟨e,p,aM,hi⟩ ⟨(h:cq e p),(hl:cA 250 aM),(hh:cA 250 hi)⟩ H aH dv;obtain⟨jJ,lz,_,_⟩:=zk (x:=hi) h;obtain⟨_,_,n6,yA⟩:=zk (x:=aM) h;have avb:=vM h;have q7:=zah (bp p);refine I ?_;refine aL Pv (e,p) trivial ?_;refine ah 15 (.bu [js e p 0 (ct e),.i .i64 0]) rfl (zab h) (I ?_);refine bo KA (e,p,0,false,hi) ⟨h,hh⟩ (I ?_) (hh:=dv);refine bo KA (e,p,0,true,aM) ⟨h,hl⟩ (I ?_) (hh:=dv);refine bo Ep (bg (eJ e p false hi),bg (eJ e p true aM)) ⟨dn (rv h (by omega)) (by decide),dn (rv h (by omega)) (by decide)⟩ ?_;refine ah 27 (bG (bg (eJ e p false hi-eJ e p true aM))) rfl (by show bG (bg _-bg _)=_;rw[PB]) (I ?_);refine bo lp (1:Int) ⟨by decide,by decide⟩ (I ?_);refine bo wA (bg (eJ e p false hi-eJ e p true aM),bg 1) ⟨dn (rv h (by omega)) (by decide),dn (rv h (by omega)) (by decide)⟩ ?_;refine ah 29 (bG (bg (e3 e p aM hi))) rfl (by show bG (bg _+bg _)=_;rw[wS];rfl) ?_;have hc:(e3 e p aM hi).natAbs<=4*In e p+4:=by unfold e3;omega
 have res:∀{r},(4611686018427387904<e3 e p aM hi->bZ r (.bu [.i .i64 0,.i .i64 3]))->(¬4611686018427387904<e3 e p aM hi->bZ r (.bu [.i .i64 (max (e3 e p aM hi) 0),.i .i64 0]))->bZ r (KP.res (e,p,aM,hi)):=fun h1 h2=>by
  show bZ _ (if _ then _ else _);split
  ·exact h1 (by assumption)
  ·exact h2 (by assumption)
 generalize e3 e p aM hi=n at *;refine I ?_;refine bo Lq (62:Int) ⟨by decide,by decide⟩ ?_;refine ah 31 (bG (bg 4611686018427387904)) rfl (by show bG (cS (bg 1) ((62:Nat):Int))=_;rw[EX];rfl) (I ?_);refine bo sI (bg n,bg 4611686018427387904) ⟨dn (rv h hc) (by decide),dn (lv (k:=1) (by decide)) (by decide)⟩ (I ?_);refine b9 (fun aJ=> ?_) (fun aJ=> ?_)
 ·have aJ:=EW.1 (pS.1 aJ);refine I ?_;exact ar rfl (res (fun _=>.refl _) (fun hn=>absurd aJ hn))
 ·have aJ:¬4611686018427387904<n:=fun h=>aJ (pS.2 (EW.2 h));refine I ?_;refine bo lp (0:Int) ⟨by decide,by decide⟩ (I ?_);refine bo auF (n,0) ⟨dn (rv h hc) (by decide),dn (rv h (by omega)) (by decide)⟩ (I ?_);refine bo Hn (max n 0:Int) ⟨by show -9223372036854775808<=max n 0;omega,by show max n 0<9223372036854775808;omega⟩ (I ?_);exact ar rfl (res (fun h=>absurd h aJ) (fun _=>.refl _))
def X3:bh where
 L:=Int×Int×Rat×Int
 args:=fun(e,p,aM,n)=>[m5 e p,bG aM,.i .i64 n]
 pre:=fun(e,p,aM,n)=>cq e p∧cA 250 aM∧0<=n∧n<9223372036854775808∧eJ e p true aM+n<In e p
 res:=fun(e,p,aM,n)=>.bu [dI (gV e p (decide (eJ e p true aM+n<0))+(eJ e p true aM+n).natAbs),.i .i64 0]
 hp:=om
 hm:=om.up
def aov:a9 aT.ctx 132 X3.spec:=by
 refine jy [(127,Bp.spec),(128,Kz.spec),(10,rl.spec),(129,wz.spec),(232,Pu.spec),(229,OC.spec),(12,sH.spec),(233,ZQ.spec)] Sj.1 ?_;intro⟨e,p,aM,n⟩ ⟨(h:cq e p),(hl:cA 250 aM),(h0:0<=n),(h1:n<9223372036854775808),(h2:eJ e p true aM+n<In e p)⟩ H aH dv;obtain⟨_,_,n6,yA⟩:=zk (x:=aM) h;obtain⟨i1,i2⟩:=sk h;refine I ?_;refine aL Pv (e,p) trivial ?_;refine ah 13 (.bu [js e p 0 (ct e),.i .i64 0]) rfl (zab h) (ak 23 ?_);refine v0 23 (show¬n<0 by omega) (I ?_);refine aL KA (e,p,0,true,aM) ⟨h,hl⟩ (I ?_) (hh:=dv);refine aL lp n ⟨by show -9223372036854775808<=n;omega,h1⟩ ?_;refine aL wA (bg (eJ e p true aM),bg n) ⟨dn (rv h (by omega)) (by decide),dn (rv h (by omega)) (by decide)⟩ ?_;refine ah 30 (bG (bg (eJ e p true aM+n))) rfl (by show bG (bg _+bg _)=_;rw[wS]) ?_;obtain⟨a,ha⟩:∃a,a=eJ e p true aM+n:=⟨_,rfl⟩;rw[<-ha]at h2⊢;have au0:a.natAbs<In e p:=by omega
 refine I ?_;refine bo abY (e,p,0,ct e,false) h (I ?_);refine bo ZP (e,p,0,false,In e p) ⟨h,by show In e p<=In e p;omega⟩ (I ?_);refine bo sI (bg a,bg (In e p:Int)) ⟨dn (rv h (by omega)) (by decide),dn (rv h (by omega)) (by decide)⟩ (ak 37 ?_);refine v0 37 (show¬0<=g4 (bg a) (bg (In e p:Int))from fun aJ=>by have:=KN.2 (EW.2 h2);omega) (I ?_);refine aL aqm (e,p,0,a) ⟨h,by show a.natAbs<_;omega⟩ (I ?_);exact ar rfl (.of (by show _=ab.bu [dI (gV e p (decide (eJ e p true aM+n<0))+(eJ e p true aM+n).natAbs),.i .i64 0];rw[<-ha];rfl))
def abL:bh where
 L:=Int×Int×Bool×Nat
 args:=fun(e,p,neg,r)=>[m5 e p,dI (gV e p neg+r)]
 pre:=fun(e,p,neg,r)=>cq e p∧r<In e p
 res:=fun(e,p,neg,r)=>.bu [bG (eb e p (wG neg r)),.i .i64 0]
def atG:a9 aT.ctx 133 abL.spec:=by
 refine bH [(127,abZ.spec),(234,Dw.spec)] Sk.1 ?_;intro⟨e,p,neg,r⟩ ⟨(h:cq e p),(hr:r<In e p)⟩ H aH;obtain⟨i1,i2⟩:=sk h;obtain⟨t1,t2⟩:=EC h;have hw:gV e p neg+r<2^(e+p).toNat:=by
  rw[show(e+p).toNat=(e+p-1).toNat+1 by have:=h.2.2.2.2;omega,zak];unfold gV;split<;>omega
 refine ak 12 ?_;refine nk 3 (z:=2) uM [gV e p neg+r] ?_;refine ko 12 ?_;refine I ?_;refine aL aul (e,p,gV e p neg+r) ⟨h,hw⟩ (I ?_);refine aL Xa (e,p,0,neg,r) ⟨h,by show r<=In e p;omega⟩ ?_;have cl:r≠In e p:=by omega
 refine ah 22 (.agg (.i .i64 (if r=0 then 1 else 2):: .b neg::iS (eb e p (wG neg r)))) rfl (by show ab.agg (tZ e p neg r)=_;unfold tZ Ai;rw[zaa cl,zaa cl];rfl) (ak 25 ?_);refine v0 25 (show¬(2:Int)<(if r=0 then 1 else 2) by split<;>decide) (I ?_);exact ar rfl (.refl _)
