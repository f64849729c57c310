/- What the functions of the program and of the document compute, for every input, and the plain laws of it (part 3); conditions as in the statements. -/
import Derived.Test.YtdinjknpilkilaaGreatDoorC2
import Derived.Test.YtdinjknpilkilaaGreatDoorS2
import Derived.Test.YtdinjknpilkilaaGreatDoorX
noncomputable section
set_option linter.all false
namespace Go.ah.aW
open Go.ah
set_option maxRecDepth 100000
set_option maxHeartbeats 4000000
def m9:ac bv:=[48,48,48,49,48,50,48,51,48,52,48,53,48,54,48,55,48,56,48,57,49,48,49,49,49,50,49,51,49,52,49,53,49,54,49,55,49,56,49,57,50,48,50,49,50,50,50,51,50,52,50,53,50,54,50,55,50,56,50,57,51,48,51,49,51,50,51,51,51,52,51,53,51,54,51,55,51,56,51,57,52,48,52,49,52,50,52,51,52,52,52,53,52,54,52,55,52,56,52,57,53,48,53,49,53,50,53,51,53,52,53,53,53,54,53,55,53,56,53,57,54,48,54,49,54,50,54,51,54,52,54,53,54,54,54,55,54,56,54,57,55,48,55,49,55,50,55,51,55,52,55,53,55,54,55,55,55,56,55,57,56,48,56,49,56,50,56,51,56,52,56,53,56,54,56,55,56,56,56,57,57,48,57,49,57,50,57,51,57,52,57,53,57,54,57,55,57,56,57,57]
def oX:∀k,k<100->m9[2*k]? =some (UInt8.ofNat (48+k/10))∧m9[2*k+1]? =some (UInt8.ofNat (48+k%10))∧(m9.drop (2*k)).take 2=[UInt8.ofNat (48+k/10),UInt8.ofNat (48+k%10)]:=by decide +kernel
def d36:ac bv:=[48,49,50,51,52,53,54,55,56,57,97,98,99,100,101,102,103,104,105,106,107,108,109,110,111,112,113,114,115,116,117,118,119,120,121,122]
def af9:∀k,k<10->(d36.drop k).take 1=[UInt8.ofNat (48+k)]:=by decide +kernel
def agq{n:Nat}(h1:10<=n)(h2:n<100):dec n=[n/10,n%10]:=by
 unfold dec;rw[zaa (by omega),ot (by decide) (by omega),ot (by decide) (by omega),show n/10/10=0 by omega,fL,show n/10%10=n/10 by omega];rfl
def acq:bN where
 L:=Nat
 args:=fun n=>[.i .i64 n]
 pre:=fun n=>n<100
 res:=fun n=>.s (dX n)
def as5:bw a4.ctx 252 acq.spec:=by
 refine bZ [] VJ.1 ?_;intro(n:Nat) (hn:n<100) H aK;refine I ?_;refine cP (fun h=> ?_) (fun h=> ?_)
 ·have h:n<10:=by omega
  refine ag 7 ?_;refine ax 7 (.i .i64 ((n+1:Nat):Int)) rfl cS ?_;refine sr (l:=d36) (p:=n) (q:=n+1) [UInt8.ofNat (48+n)] ?_ (hl:=by rw[show n+1-n=1 by omega];exact af9 n h) (hq:=by show n+1<=36;omega);refine I ?_;exact aM rfl (.of (by show ae.s _=ae.s (dX n);unfold dX;rw[Tq h];rfl))
 ·refine ag 10 ?_;refine ax 10 (.i .i64 ((2*n:Nat):Int)) rfl cS (ag 12 ?_);refine ax 12 (.i .i64 ((2*n:Nat):Int)) rfl cS (ag 13 ?_);refine ax 13 (.i .i64 ((2*n+2:Nat):Int)) rfl cS ?_;refine sr (l:=m9) (p:=2*n) (q:=2*n+2) [UInt8.ofNat (48+n/10),UInt8.ofNat (48+n%10)] ?_ (hl:=by rw[show 2*n+2-2*n=2 by omega];exact(oX n hn).2.2) (hq:=by show 2*n+2<=200;omega);refine I ?_;exact aM rfl (.of (by show ae.s _=ae.s (dX n);unfold dX;rw[agq (by omega) hn];rfl))
def GO(n dg j:Nat):bv:=UInt8.ofNat (48+n/10^(dg-1-j)%10)
structure kx(n dg i:Nat)(l:ac bv)(u:Nat):Prop where
 u:u=n/10^(dg-i)
 len:l.length=24
 le:i<=dg
 nT:∀j,i<=j->j<dg->l[j]? =some (GO n dg j)
variable{u n k:Nat}{l:ac bv}{r dg q:Nat}
def kx.two{i:Nat}(h:kx n dg (i+2) l u)(nt:dg<=24):kx n dg i ((l.set (i+1) (UInt8.ofNat (48+u%100%10))).set i (UInt8.ofNat (48+u%100/10))) (u/100):=by
 obtain⟨h1,h2,ab,aD⟩:=h;have aq:dg-(i+2)=dg-1-(i+1):=by omega
 have e2:dg-1-i=dg-(i+2)+1:=by omega
 refine⟨?_,by simp[h2],by omega,fun j ns Nj=> ?_⟩
 ·rw[h1,show dg-i=dg-(i+2)+2 by omega,zal,zbf]
 ·rcases(show j=i∨j=i+1∨i+2<=j by omega)with rfl|rfl|h
  ·rw[zcN (by simp;omega)];unfold GO;rw[e2,zak,<-zbf,<-h1];congr 2;omega
  ·rw[zbq (by omega),zcN (by omega)];unfold GO;rw[<-aq,<-h1];congr 2;omega
  ·rw[zbq (by omega),zbq (by omega)];exact aD j h Nj
def kx.one(h:kx n dg 1 l u)(hu:u<10):kx n dg 0 (l.set 0 (UInt8.ofNat (48+u))) 0:=by
 obtain⟨h1,h2,ab,aD⟩:=h;refine⟨?_,by simp[h2],by omega,fun j ns Nj=> ?_⟩
 ·rw[show dg-0=dg-1+1 by omega,zak,<-zbf,<-h1];omega
 ·rcases(show j=0∨1<=j by omega)with rfl|h
  ·rw[zcN (by omega)];unfold GO;rw[show dg-1-0=dg-1 by omega,<-h1,gR hu]
  ·rw[zbq (by omega)];exact aD j h Nj
def kx.fin(h:kx n dg 0 l u)(h0:n≠0)(nt:dg=(aT 10 n).length)(avc:dg<=24):l.take dg=dX n:=by
 obtain⟨h1,h2,ab,aD⟩:=h;unfold dX dec;rw[zaa h0];apply zbA;intro j;by_cases hj:j<dg
 ·rw[zaT,zab hj,aD j (zac _) hj];unfold hg;rw[zdf,List.getElem?_reverse (by omega),<-nt,um (by decide) (by omega)];rfl
 ·rw[zbi (by simp;omega),zbi (by rw[tU,zby];omega)]
def xM(x:Nat):(2*(x%100)+1)%4294967296=2*(x%100)+1:=by omega
def wc(h:u<1000000000):(u%100000000%4294967296=u%100000000)∧(u/100000000%18446744073709551616=u/100000000)∧(u%100000000/10000%4294967296=u/10000%10000)∧(u%100000000%10000=u%10000)∧(u%10000/100%4294967296*2%4294967296=2*(u/100%100))∧(u%10000%100*2%4294967296=2*(u%100))∧(u/10000%10000/100%4294967296*2%4294967296=2*(u/100/100/100%100))∧(u/10000%10000%100*2%4294967296=2*(u/100/100%100)):=by
 have J:u/10000=u/100/100:=by rw[zbf]
 have ay:u%100000000/10000=u/10000%10000:=by omega
 have f:∀x:Nat,x%10000/100%4294967296*2%4294967296=2*(x/100%100)∧x%10000%100*2%4294967296=2*(x%100):=fun x=>by omega
 refine⟨by omega,by omega,?_,by omega,(f u).1,(f u).2,?_,?_⟩
 ·rw[ay];generalize u/10000=x;omega
 ·rw[J];exact(f _).1
 ·rw[J];exact(f _).2
def Mz(h:u<1000000000):u/10000%4294967296=u/10000∧u%10000/100%4294967296*2%4294967296=2*(u/100%100)∧u%10000%100*2%4294967296=2*(u%100):=by omega
def T9(h:u<1000000000):u%100*2%4294967296=2*(u%100)∧u/100%4294967296=u/100:=by omega
def o5{aw:fI}{K:ac eS}{own bp:ac bd}{aG a6 bU back:Nat}{e a7:bJ}{d:Tmp}{ts:ac Tmp}{xs:ac (bA×cx)}{x i:bi}{j:Nat}{b8:d8}(b7:bv)(hj:l[j]? =some b7)(k:aS.ok aw ⟨K,.d xs bp ((d,.i .u8 (b7.toNat:Int))::a7) a6 bU,⟨own,aG,(d,.i .u8 (b7.toNat:Int))::e⟩⟩)(J:br (fh ts a7) x=some (.s l):=by rfl)(aa:br (fh ts a7) i=some (.i b8 (j:Int)):=by rfl)(hb:back<a6:=by decide):aS.ok aw ⟨K,.d ((⟨some d,.uY x i,none⟩,.read back ts)::xs) bp a7 a6 bU,⟨own,aG,e⟩⟩:=
 qz (d:=some d) (a:=.i .u8 (b7.toNat:Int)) hb (fun H ids st fr U _ _=>⟨.int .u8 (b7.toNat:Int),rfl,fun ef _ _=>by
  have h1:fr.ai x= .string ⟨⟨l⟩⟩:=U.ai J;have h2:fr.ai i= .int b8 (j:Int):=U.ai aa;obtain⟨aE,aB⟩:=zaf.1 hj;show jE (fr.ai x) (fun s=>g2 (fr.ai i) (fun _ j=>ie j (fun j=>iE s.data.toList j 1 (fun bs=>one bs (fun b=>aV.ok (.int .u8 (.ofNat b.toNat)) fr ef) aV.no) aV.no) aV.no) aV.no) aV.no=_;rw[h1,Sym.Cs,h2,Sym.na,Sym.oI];show iE l j 1 _ _=_;rw[Sym.AG (by omega),fP aE,aB];rfl⟩) k
def Hk:bN where
 L:=Nat
 args:=fun n=>[.i .u64 n,.i .i64 10]
 pre:=fun n=>n<1000000000
 res:=fun n=>.s (dX n)
 hp:=iQ
 hm:=iQ.up
def aic:bw a4.ctx 201 Hk.spec:=by
 refine pK [(252,acq.spec),(253,Zi.spec)] Vm.1 ?_;intro(n:Nat) (hn:n<1000000000) H aK gx;refine I ?_;refine cP (fun h=> ?_) (fun h=> ?_)
 ·have h:n<100:=by omega
  refine I ?_;refine ax 14 (.i .i64 (n:Nat)) rfl (cS rfl (by omega) (by omega)) ?_;refine aX as5 n h (I ?_);exact aM rfl (.refl _)
 have mo:n≠0:=by omega
 obtain⟨dg,nt⟩:∃dg,dg=(aT 10 n).length:=⟨_,rfl⟩;have avz:dg<=9:=by rw[nt];exact ke (by decide) hn
 have avy:2<dg:=by rw[nt];exact Dc (by decide) (by omega)
 refine I ?_;refine aX aoV n ⟨mo,hn⟩ ?_ (hh:=gx);refine ax 17 (.i .i64 (dg:Nat)) rfl (by rw[nt];rfl) (I ?_);refine m7 0 lP (List.replicate 24 0) ?_;refine g9 (QK (p:=0) (q:=dg) rfl rfl rfl ⟨_,rfl⟩ (zac _) (by omega) (.inr rfl)) ?_;refine ax 19 (.aN 0 1 0 dg 24) rfl (by simp) (I ?_);refine xi VL.1 (by kernel_rfl) ?_;intro H1 i1 s1 aa _;have aa:i1.length=1:=aa;refine I ?_;refine rf (L:=Nat×ac bv×Nat) (fun(i,l,u)=>kx n dg i l u∧i<8) (fun(i,l,u)=>⟨[.a 342 false 1 bv lP l],1,[(0,.aN 0 1 0 dg 24),(1,.i .u64 (u:Nat)),(4,.i .i64 (i:Nat))]⟩) ?_ ?_
 ·refine cw (L:=Nat×ac bv×Nat) (fun(i,l,u)=>kx n dg i l u) (fun(i,l,u)=>⟨[.a 342 false 1 bv lP l],1,[(0,.aN 0 1 0 dg 24),(1,.i .u64 (u:Nat)),(4,.i .i64 (i:Nat))]⟩) (fun l=>l.1) [0] (dg,List.replicate 24 0,n) ⟨by simp,by simp,b6 _,fun j h1 h2=>by omega⟩ (by show dg<4611686018427387904;omega) (eO ⟨rfl,rfl,rfl,trivial⟩ ⟨_,rfl,rfl,fun _=>rfl⟩ (hp:=by show pinned i1.length _ _=_;rw[aa];rfl)) ?_;rintro⟨i,l,u⟩ gd;have gd:kx n dg i l u:=gd;have A8:=gd.le;have hu:u<=n:=by rw[gd.u];exact zaH _ _
  refine I ?_;refine cP (fun hB=> ?_) (fun hB=> ?_)
  ·obtain⟨eV,rfl⟩:∃eV,i=eV+8:=⟨i-8,by omega⟩;have nv:u<1000000000:=by omega
   have d1:=kx.two (i:=eV+6) gd (by omega);have d2:=kx.two (i:=eV+4) d1 (by omega);have d3:=kx.two (i:=eV+2) d2 (by omega);have d4:=kx.two (i:=eV) d3 (by omega);have gE:=gd.len;refine ag 23 ?_;refine ax 23 (.i .u32 ((u%100000000:Nat):Int)) rfl (congrArg (fun n:Nat=>ae.i .u32 (n:Int)) (wc nv).1) (ag 25 ?_);refine ax 25 (.i .u64 ((u/100000000:Nat):Int)) rfl (congrArg (fun n:Nat=>ae.i .u64 (n:Int)) (wc nv).2.1) (ag 27 ?_);refine ax 27 (.i .u32 ((u/10000%10000:Nat):Int)) rfl (congrArg (fun n:Nat=>ae.i .u32 (n:Int)) (wc nv).2.2.1) (ag 29 ?_);refine ax 29 (.i .u32 ((u%10000:Nat):Int)) rfl (congrArg (fun n:Nat=>ae.i .u32 (n:Int)) (wc nv).2.2.2.1) (ag 32 ?_);refine ax 32 (.i .u32 ((2*(u/100%100):Nat):Int)) rfl (congrArg (fun n:Nat=>ae.i .u32 (n:Int)) (wc nv).2.2.2.2.1) (ag 35 ?_);refine ax 35 (.i .u32 ((2*(u%100):Nat):Int)) rfl (congrArg (fun n:Nat=>ae.i .u32 (n:Int)) (wc nv).2.2.2.2.2.1) (ag 38 ?_);refine ax 38 (.i .u32 ((2*(u/100/100/100%100):Nat):Int)) rfl (congrArg (fun n:Nat=>ae.i .u32 (n:Int)) (wc nv).2.2.2.2.2.2.1) (ag 41 ?_);refine ax 41 (.i .u32 ((2*(u/100/100%100):Nat):Int)) rfl (congrArg (fun n:Nat=>ae.i .u32 (n:Int)) (wc nv).2.2.2.2.2.2.2) (ag 44 ?_);refine dO 44 (.i .i64 (((eV+6)+1:Nat):Int)) rfl rfl cS ?_;refine ag 49 ?_;refine dO 49 (.i .u32 ((2*(u%100)+1:Nat):Int)) rfl rfl (congrArg (fun n:Nat=>ae.i .u32 (n:Int)) (xM u)) ?_;refine o5 (l:=m9) _ (oX _ (zaj u (by decide))).2.1 ?_;refine gl ?_;refine oq (UInt8.ofNat (48+u%100%10)) ?_;refine ag 47 ?_;refine dO 47 (.i .i64 ((eV+6):Nat)) rfl rfl cS ?_;refine I ?_;refine o5 (l:=m9) _ (oX _ (zaj u (by decide))).1 ?_;refine gl ?_;refine oq (UInt8.ofNat (48+u%100/10)) ?_;refine ag 57 ?_;refine dO 57 (.i .i64 (((eV+4)+1:Nat):Int)) rfl rfl cS ?_;refine ag 62 ?_;refine dO 62 (.i .u32 ((2*((u/100)%100)+1:Nat):Int)) rfl rfl (congrArg (fun n:Nat=>ae.i .u32 (n:Int)) (xM (u/100))) ?_;refine o5 (l:=m9) _ (oX _ (zaj (u/100) (by decide))).2.1 ?_;refine gl ?_;refine oq (UInt8.ofNat (48+(u/100)%100%10)) ?_;refine ag 60 ?_;refine dO 60 (.i .i64 ((eV+4):Nat)) rfl rfl cS ?_;refine I ?_;refine o5 (l:=m9) _ (oX _ (zaj (u/100) (by decide))).1 ?_;refine gl ?_;refine oq (UInt8.ofNat (48+(u/100)%100/10)) ?_;refine ag 70 ?_;refine dO 70 (.i .i64 (((eV+2)+1:Nat):Int)) rfl rfl cS ?_;refine ag 75 ?_;refine dO 75 (.i .u32 ((2*((u/100/100)%100)+1:Nat):Int)) rfl rfl (congrArg (fun n:Nat=>ae.i .u32 (n:Int)) (xM (u/100/100))) ?_;refine o5 (l:=m9) _ (oX _ (zaj (u/100/100) (by decide))).2.1 ?_;refine gl ?_;refine oq (UInt8.ofNat (48+(u/100/100)%100%10)) ?_;refine ag 73 ?_;refine dO 73 (.i .i64 ((eV+2):Nat)) rfl rfl cS ?_;refine I ?_;refine o5 (l:=m9) _ (oX _ (zaj (u/100/100) (by decide))).1 ?_;refine gl ?_;refine oq (UInt8.ofNat (48+(u/100/100)%100/10)) ?_;refine ag 83 ?_;refine dO 83 (.i .i64 ((eV+1:Nat):Int)) rfl rfl cS ?_;refine ag 88 ?_;refine dO 88 (.i .u32 ((2*((u/100/100/100)%100)+1:Nat):Int)) rfl rfl (congrArg (fun n:Nat=>ae.i .u32 (n:Int)) (xM (u/100/100/100))) ?_;refine o5 (l:=m9) _ (oX _ (zaj (u/100/100/100) (by decide))).2.1 ?_;refine gl ?_;refine oq (UInt8.ofNat (48+(u/100/100/100)%100%10)) ?_;refine ag 86 ?_;refine dO 86 (.i .i64 (eV:Nat)) rfl rfl cS ?_;refine I ?_;refine o5 (l:=m9) _ (oX _ (zaj (u/100/100/100) (by decide))).1 ?_;refine gl ?_;refine oq (UInt8.ofNat (48+(u/100/100/100)%100/10)) ?_;refine I ?_;exact aU [0] (eV,_,u/100/100/100/100) ⟨by show eV<eV+8;omega,d4⟩ (eO ⟨rfl,congrArg (fun n:Nat=>some (ae.i .u64 (n:Int))) (show u/100000000=u/100/100/100/100 by rw[zbf,zbf,zbf]),fa,trivial⟩ ⟨_,rfl,rfl,fun _=>rfl⟩ (hp:=by show pinned i1.length _ _=_;rw[aa];rfl))
  ·refine I ?_;exact aU [0] (i,l,u) ⟨gd,by omega⟩ (eO ⟨rfl,rfl,rfl,trivial⟩ ⟨_,rfl,rfl,fun _=>rfl⟩ (hp:=by show pinned i1.length _ _=_;rw[aa];rfl))
 rintro⟨i,l,u⟩ ⟨gd,hB⟩;have gd:kx n dg i l u:=gd;have hB:i<8:=hB;have hu:u<=n:=by rw[gd.u];exact zaH _ _
 refine I ?_;refine ax 12 (.i .u32 (u:Nat)) rfl fv ?_;refine ih (L:=Nat×ac bv×Nat) (fun(i,l,u)=>kx n dg i l u∧i<4∧u<=n) (fun(i,l,u)=>⟨[.a 342 false 1 bv lP l],1,[(0,.aN 0 1 0 dg 24),(12,.i .u32 (u:Nat)),(4,.i .i64 (i:Nat))]⟩) ?_ ?_
 ·refine cP (fun aD=> ?_) (fun aD=> ?_)
  ·obtain⟨eV,rfl⟩:∃eV,i=eV+4:=⟨i-4,by omega⟩;have d1:=kx.two (i:=eV+2) gd (by omega);have d2:=kx.two (i:=eV) d1 (by omega);have gE:=gd.len;have nv:u<1000000000:=by omega
   have A8:=gd.le;refine ag 103 ?_;refine ax 103 (.i .u32 ((u/10000:Nat):Int)) rfl (congrArg (fun n:Nat=>ae.i .u32 (n:Int)) (Mz nv).1) (ag 106 ?_);refine ax 106 (.i .u32 ((2*(u/100%100):Nat):Int)) rfl (congrArg (fun n:Nat=>ae.i .u32 (n:Int)) (Mz nv).2.1) (ag 109 ?_);refine ax 109 (.i .u32 ((2*(u%100):Nat):Int)) rfl (congrArg (fun n:Nat=>ae.i .u32 (n:Int)) (Mz nv).2.2) (ag 112 ?_);refine dO 112 (.i .i64 (((eV+2)+1:Nat):Int)) rfl rfl cS ?_;refine ag 117 ?_;refine dO 117 (.i .u32 ((2*(u%100)+1:Nat):Int)) rfl rfl (congrArg (fun n:Nat=>ae.i .u32 (n:Int)) (xM u)) ?_;refine o5 (l:=m9) _ (oX _ (zaj u (by decide))).2.1 ?_;refine gl ?_;refine oq (UInt8.ofNat (48+u%100%10)) ?_;refine ag 115 ?_;refine dO 115 (.i .i64 ((eV+2):Nat)) rfl rfl cS ?_;refine I ?_;refine o5 (l:=m9) _ (oX _ (zaj u (by decide))).1 ?_;refine gl ?_;refine oq (UInt8.ofNat (48+u%100/10)) ?_;refine ag 125 ?_;refine dO 125 (.i .i64 ((eV+1:Nat):Int)) rfl rfl cS ?_;refine ag 130 ?_;refine dO 130 (.i .u32 ((2*((u/100)%100)+1:Nat):Int)) rfl rfl (congrArg (fun n:Nat=>ae.i .u32 (n:Int)) (xM (u/100))) ?_;refine o5 (l:=m9) _ (oX _ (zaj (u/100) (by decide))).2.1 ?_;refine gl ?_;refine oq (UInt8.ofNat (48+(u/100)%100%10)) ?_;refine ag 128 ?_;refine dO 128 (.i .i64 (eV:Nat)) rfl rfl cS ?_;refine I ?_;refine o5 (l:=m9) _ (oX _ (zaj (u/100) (by decide))).1 ?_;refine gl ?_;refine oq (UInt8.ofNat (48+(u/100)%100/10)) ?_;refine I ?_;exact aU [0] (eV,_,u/100/100) ⟨d2,by show eV<4;omega,zag (zaH _ _) (zag (zaH _ _) hu)⟩ (eO ⟨rfl,congrArg (fun n:Nat=>some (ae.i .u32 (n:Int))) (show u/10000=u/100/100 by rw[zbf]),fa,trivial⟩ ⟨_,rfl,rfl,fun _=>rfl⟩ (hp:=by show pinned i1.length _ _=_;rw[aa];rfl))
  ·refine I ?_;exact aU [0] (i,l,u) ⟨gd,by show i<4;omega,hu⟩ (eO ⟨rfl,rfl,rfl,trivial⟩ ⟨_,rfl,rfl,fun _=>rfl⟩ (hp:=by show pinned i1.length _ _=_;rw[aa];rfl))
 rintro⟨i,l,u⟩ ⟨gd,aD,hu⟩;have gd:kx n dg i l u:=gd;have aD:i<4:=aD;refine I ?_;refine ih (L:=Nat×ac bv×Nat) (fun(i,l,u)=>kx n dg i l u∧i<2∧u<=n) (fun(i,l,u)=>⟨[.a 342 false 1 bv lP l],1,[(0,.aN 0 1 0 dg 24),(12,.i .u32 (u:Nat)),(4,.i .i64 (i:Nat))]⟩) ?_ ?_
 ·refine cP (fun h2=> ?_) (fun h2=> ?_)
  ·obtain⟨eV,rfl⟩:∃eV,i=eV+2:=⟨i-2,by omega⟩;have d1:=kx.two (i:=eV) gd (by omega);have gE:=gd.len;have nv:u<1000000000:=by omega
   have A8:=gd.le;refine ag 142 ?_;refine ax 142 (.i .u32 ((2*(u%100):Nat):Int)) rfl (congrArg (fun n:Nat=>ae.i .u32 (n:Int)) (T9 nv).1) (ag 144 ?_);refine ax 144 (.i .u32 ((u/100:Nat):Int)) rfl (congrArg (fun n:Nat=>ae.i .u32 (n:Int)) (T9 nv).2) (ag 147 ?_);refine dO 147 (.i .i64 ((eV+1:Nat):Int)) rfl rfl cS ?_;refine ag 152 ?_;refine dO 152 (.i .u32 ((2*(u%100)+1:Nat):Int)) rfl rfl (congrArg (fun n:Nat=>ae.i .u32 (n:Int)) (xM u)) ?_;refine o5 (l:=m9) _ (oX _ (zaj u (by decide))).2.1 ?_;refine gl ?_;refine oq (UInt8.ofNat (48+u%100%10)) ?_;refine ag 150 ?_;refine dO 150 (.i .i64 (eV:Nat)) rfl rfl cS ?_;refine I ?_;refine o5 (l:=m9) _ (oX _ (zaj u (by decide))).1 ?_;refine gl ?_;refine oq (UInt8.ofNat (48+u%100/10)) ?_;refine I ?_;exact aU [0] (eV,_,u/100) ⟨d1,by show eV<2;omega,zag (zaH _ _) hu⟩ (eO ⟨rfl,rfl,fa,trivial⟩ ⟨_,rfl,rfl,fun _=>rfl⟩ (hp:=by show pinned i1.length _ _=_;rw[aa];rfl))
  ·refine I ?_;exact aU [0] (i,l,u) ⟨gd,by show i<2;omega,hu⟩ (eO ⟨rfl,rfl,rfl,trivial⟩ ⟨_,rfl,rfl,fun _=>rfl⟩ (hp:=by show pinned i1.length _ _=_;rw[aa];rfl))
 rintro⟨i,l,u⟩ ⟨gd,h2,hu⟩;have gd:kx n dg i l u:=gd;have h2:i<2:=h2;have gE:=gd.len;refine I ?_;refine cP (fun h1=> ?_) (fun h1=> ?_)
 ·have he:i=1:=by omega
  subst he;have nv:u<10:=by
   rw[gd.u];refine zcC ?_;have:=GS (b:=10) (n:=n) (k:=dg) (by decide) (by omega)
   rwa [show dg=(dg-1)+1 by omega,zak]at this
  have ar:=gd.one nv;refine ag 164 ?_;refine ax 164 (.i .u32 ((48+u:Nat):Int)) rfl (congrArg (fun n:Nat=>ae.i .u32 (n:Int)) (show(48+u)%4294967296=48+u by omega)) (ag 165 ?_);refine ax 165 (.i .u8 ((UInt8.ofNat (48+u)).toNat:Int)) rfl (by rw[zeS]) ?_;refine hU (j:=0) ?_;refine iC (UInt8.ofNat (48+u)) ?_;refine I ?_;exact l9 ⟨.inl rfl,_,rfl,by
   refine I ?_;refine g9 (QK (p:=0) (q:=dg) rfl rfl rfl ⟨_,rfl⟩ (zac _) (by omega) (.inr rfl)) ?_;refine ax 23 (.aN 0 1 0 dg 24) rfl (by simp) ?_;refine Qi (dX n) ?_ (hn:=by rw[ar.len];omega) (hl:=ar.fin mo nt (by omega));refine I ?_;exact aM rfl (.refl _)⟩
 ·have he:i=0:=by omega
  subst he;have ar:=gd;refine I ?_;exact l9 ⟨.inl rfl,_,rfl,by
   refine I ?_;refine g9 (QK (p:=0) (q:=dg) rfl rfl rfl ⟨_,rfl⟩ (zac _) (by omega) (.inr rfl)) ?_;refine ax 23 (.aN 0 1 0 dg 24) rfl (by simp) ?_;refine Qi (dX n) ?_ (hn:=by rw[ar.len];omega) (hl:=ar.fin mo nt (by omega));refine I ?_;exact aM rfl (.refl _)⟩
def IT:bN where
 L:=Nat
 args:=fun k=>[.i .u64 1,.i .u64 k]
 pre:=fun k=>k<9
 res:=fun k=>.bM [.i .u64 0,.i .u64 k]
def YO(h:k<9):k=0∨k=1∨k=2∨k=3∨k=4∨k=5∨k=6∨k=7∨k=8:=by omega
def aoO:bw a4.ctx 257 IT.spec:=by
 refine bZ [] VM.1 ?_;intro(k:Nat) (hk:k<9) H aK;rcases YO hk with rfl|rfl|rfl|rfl|rfl|rfl|rfl|rfl|rfl
 all_goals
  refine I ?_;exact aM rfl (.refl _)
def aoQ:bw a4.ctx 202 IT.spec:=by
 refine bZ [(257,IT.spec)] Vn.1 ?_;intro(k:Nat) (hk:k<9) H aK;refine I ?_;refine aX aoO k hk (I ?_);exact aM rfl (.refl _)
def HV:bN where
 L:=bv×ac bv×bv
 args:=fun(a,t,c)=>[.s (a::t),.s [c]]
 pre:=fun(a,t,c)=>t.length<=1073741824
 res:=fun(a,t,c)=>.b ([a]==[c])
def amr:bw a4.ctx 216 HV.spec:=by
 refine bZ [] MJ.1 ?_;intro⟨a,t,c⟩ (aF:t.length<=_) H aK;refine ag 10 ?_;refine ax 10 (.b true) rfl (by simp;omega) (I ?_);refine sr (p:=0) (q:=1) [a] ?_ (hq:=by simp);refine I ?_;exact aM rfl (.refl _)
def NF:bw a4.ctx 203 HV.spec:=by
 refine bZ [(216,HV.spec)] Vo.1 ?_;intro⟨a,t,c⟩ (aF:t.length<=_) H aK;refine I ?_;refine aX amr (a,t,c) aF (I ?_);exact aM rfl (.refl _)
def abH:bN where
 L:=Nat
 args:=fun k=>[.s [48],.i .i64 k]
 pre:=fun k=>k<9
 res:=fun k=>.s (List.replicate k 48)
def abI:bw a4.ctx 164 abH.spec:=by
 refine bZ [(202,IT.spec),(203,HV.spec)] U5.1 ?_;intro(k:Nat) (hk:k<9) H aK;rcases YO hk with rfl|rfl|rfl|rfl|rfl|rfl|rfl|rfl|rfl
 ·refine I ?_;exact aM rfl (.refl _)
 ·refine I ?_;exact aM rfl (.refl _)
 all_goals
  refine I ?_;refine aX aoQ _ hk (I ?_);refine nH 48 (j:=0) rfl ?_;refine I ?_;refine aX NF (32,List.replicate 127 32,48) (kv rfl) (I ?_);refine aX NF (45,List.replicate 127 45,48) (kv rfl) (I ?_);refine aX NF (48,List.replicate 63 48,48) (kv rfl) (I ?_);refine sr (p:=0) (l:=List.replicate 64 48) _ ?_ (hl:=rfl) (hq:=by decide);refine I ?_;exact aM rfl (.refl _)
def Ur:bw a4.ctx 163 Hk.spec:=by
 refine pK [(201,Hk.spec)] U4.1 ?_;intro(n:Nat) (hn:n<1000000000) H aK gx;refine I ?_;refine aX aic n hn (I ?_) (hh:=gx);exact aM rfl (.refl _)
def agB(aL:r<1000000000)(hq:q≠0):aT 10 (r+1000000000*q)=ja 9 r++aT 10 q:=by
 have ok:=apy (YK 9 r) (hA (b:=10) (by decide) q);have aB:val 10 (ja 9 r++aT 10 q)=r+1000000000*q:=by
  rw[nN,YM,y9,gV (by decide)];have:r%10^9=r:=gR (by omega);rw[this]
 have aF:e0 (ja 9 r++aT 10 q)=ja 9 r++aT 10 q:=by
  have h:=x6 (b:=10) (by decide) q;rcases zbG (aT 10 q)with h0|⟨dC,d,h0⟩
  ·exact absurd ((qD (by decide)).1 h0) hq
  ·rw[zbH]at h0;have ao:d≠0:=by rw[h0]at h;exact(I4 (b:=10) h).2
   rw[h0,<-zcb,sz,zaa ao]
 rw[<-aB];exact AJ (by decide) ok aF
def aoC(aL:r<1000000000):(ja 9 r).reverse=List.replicate (9-(dec r).length) 0++dec r:=by
 have hl:(aT 10 r).length<=9:=ke (by decide) (by omega);by_cases h0:r=0
 ·subst h0;decide +kernel
 have e:ja 9 r=aT 10 r++List.replicate (9-(aT 10 r).length) 0:=by
  apply zbA;intro j;have g:∀j,j<9->(ja 9 r)[j]? =some (r/10^j%10):=fun j hj=>by simp[ja,hj]
  by_cases hj:j<9
  ·rw[g j hj];by_cases h1:j<(aT 10 r).length
   ·rw[zbm h1,um (by decide) h1]
   ·have av:r/10^j=0:=Decidable.not_not.1 (fun h=>h1 ((x4 (by decide)).2 h));rw[zaW (by omega),zeH,zab (by omega),av]
  ·rw[zbi (by rw[y9];omega),zbi (by simp;omega)]
 have e2:dec r=(aT 10 r).reverse:=by unfold dec;rw[zaa h0]
 rw[e,zcc,List.reverse_replicate,e2,zby]
def To(aL:r<1000000000)(hq:q≠0):dX (r+1000000000*q)=dX q++(List.replicate (9-(dX r).length) 48++dX r):=by
 have e:dec (r+1000000000*q)=dec q++(List.replicate (9-(dec r).length) 0++dec r):=by
  rw[<-aoC aL];have h1:dec (r+1000000000*q)=(aT 10 (r+1000000000*q)).reverse:=by unfold dec;rw[zaa (by omega)]
  have h2:dec q=(aT 10 q).reverse:=by unfold dec;rw[zaa hq]
  rw[h1,h2,agB aL hq,zcc]
 unfold dX;rw[e,Gi,Gi,tU];congr 2;unfold hg;rw[List.map_replicate];rfl
def tO(s:ac bv):ac ae:=[.s s]
def nx(ps:ac (ac bv)):ac bv:=ps.reverse.flatten
def Yk(ps:ac (ac bv))(s:ac bv):nx (ps++[s])=s++nx ps:=by unfold nx;rw[zcc];rfl
def anN{ps:ac (ac bv)}(h:k<ps.length):nx (ps.drop k)=nx (ps.drop (k+1))++ps[k]:=by
 unfold nx;rw[fP h,List.reverse_cons,List.flatten_append];simp
def aph(m:Nat):ac (ac bv)->cr
 |[]=>⟨[],0,[(0,dm m),(3,.nl)]⟩
 |p::ps=>⟨[.a 9 true 1 (ac bv) tO (p::ps)],1,[(0,dm m),(3,.aN 0 1 0 (p::ps).length (p::ps).length)]⟩
def aeV(ps:ac (ac bv))(k:Nat):ac bv->cr
 |[]=>⟨[.c 255 [.v (.pointer none),.nl]],1,[(3,.aZ 1 (ac bv) tO ps),(7,.p 0 0),(8,.i .i64 ((k:Int)-1))]⟩
 |c::cs=>⟨[.c 255 [.p 0 0,.aN 1 1 0 (c::cs).length (c::cs).length],.a 5 true 1 bv lP (c::cs)],2,[(3,.aZ 1 (ac bv) tO ps),(7,.p 0 0),(8,.i .i64 ((k:Int)-1))]⟩
def anO:∀{ps:ac (ac bv)},(∀p∈ps,p.length<=9)->(nx ps).length<=9*ps.length:=fun{ps} h=>by
 unfold nx;rw[List.length_flatten]
 induction ps with
 |nil=>simp
 |cons p ps a1=>
  have h1:=h p (by simp);have h2:=a1 (fun q hq=>h q (zaB _ hq));rw[List.reverse_cons,zcg,List.sum_append];simp at h2⊢;omega
def Ol(h:dE k n):(aT 10 n).length<=10*k:=ke (by decide) (by
 refine gH (u3 h) ?_;rw[zbk];exact zco (by decide) k)
def TA{m:Nat}(h:m≠0):(aT 10 (m/1000000000)).length<(aT 10 m).length:=by
 rw[ot (b:=10) (n:=m) (by decide) h,zax];refine Nat.lt_succ_of_le (ke (by decide) (zaz ?_ (GS (by decide) (b6 _))));omega
def Tn(h:r<1000000000):(dX r).length<=9:=by
 unfold dX dec;rw[tU];split
 ·simp
 ·rw[zby];exact ke (by decide) (by omega)
def OV:bN where
 L:=Nat
 args:=fun n=>[dm n]
 pre:=fun n=>dE 1073741823 n
 res:=fun n=>.s (dX n)
 hp:=iQ
 hm:=iQ.up
def I7:bw a4.ctx 100 OV.spec:=by
 refine pK [(162,QN.spec),(163,Hk.spec),(164,abH.spec)] Us.1 ?_;intro(n:Nat) (hn:dE _ n) H aK gx;refine I ?_;refine cP (fun h=> ?_) (fun h=> ?_)
 ·have h0:n=0:=u5.1 (by omega);subst h0;refine I ?_;exact aM rfl (.refl _)
 have mo:n≠0:=fun e=>h (by rw[e,fL];rfl);refine I ?_;refine rf (L:=ac (ac bv)) (fun ps=>nx ps=dX n∧ps≠[]∧ps.length<=10737418230∧∀p∈ps,p≠[]∧p.length<=9) (fun ps=>⟨[],0,[(3,.aZ 1 (ac bv) tO ps)]⟩) ?_ ?_
 ·refine cw (L:=Nat×ac (ac bv)) (fun(m,ps)=>dE 1073741823 m∧ps.length+(aT 10 m).length<=10737418230∧dX n=(if m=0 then[]else dX m)++nx ps∧(m=0->ps≠[])∧∀p∈ps,p≠[]∧p.length<=9) (fun(m,ps)=>aph m ps) (fun l=>(aT 10 l.1).length) [] (n,[]) ?_ ?_ eW ?_
  ·exact⟨hn,by show 0+(aT 10 n).length<=_;have:=Ol hn;omega,by rw[zaa mo];simp[nx],fun h=>absurd h mo,fun p hp=>by simp at hp⟩
  ·show(aT 10 n).length<bc+1;have:=Ol hn;unfold bc;omega
  rintro⟨m,ps⟩ ⟨aH,aI,bj,cn,cT⟩;cases ps with
  |nil=>
   refine I ?_;refine cP (fun hm=> ?_) (fun hm=> ?_)
   ·have hm:m≠0:=fun e=>by rw[e,fL]at hm;simp at hm
    have aL:m%1000000000<1000000000:=zaj _ (by decide);have yw:=TA hm;have Nn:=Tn aL;have DV:0<(dX (m%1000000000)).length:=zbn.2 (x0 _);refine I ?_;refine aX QO (m,1000000000) ⟨dD aH,by show 0<1000000000;decide,by show 1000000000<4294967296;decide⟩ (ag 21 ?_);refine ax 21 (.i .u64 ((m%1000000000:Nat):Int)) rfl (congrArg (fun n:Nat=>ae.i .u64 (n:Int)) (gR (Nat.lt_trans aL (by decide)))) ?_;refine aX Ur (m%1000000000) aL ?_ (hh:=gx);have D2:m%1000000000+1000000000*(m/1000000000)=m:=zcP _ _;generalize m%1000000000=r at *;generalize hq:m/1000000000=q at *;refine ag 6 ?_
    iterate 3 refine jd ?_
    refine ih (L:=ac bv) (fun dZ=>dZ≠[]∧dZ.length<=9∧dX m=(if q=0 then[]else dX q)++dZ) (fun dZ=>⟨[],0,[(3,.nl),(4,dm q),(6,.s dZ)]⟩) ?_ ?_
    ·refine I ?_;refine cP (fun gX=> ?_) (fun gX=> ?_)
     ·have gX:q≠0:=fun e=>by rw[e,fL]at gX;simp at gX
      obtain⟨z,av⟩:∃z:Nat,z=9-(dX r).length:=⟨_,rfl⟩;refine ag 28 ?_;refine ax 28 (.i .i64 (z:Nat)) rfl cS ?_;refine aX abI z (by show z<9;omega) (I ?_);refine tz ?_ (hl:=by rw[zav];omega);refine I ?_;refine aU [] (List.replicate z 48++dX r) ⟨by simp[x0],by rw[zaE,zav];omega,by rw[zaa gX,<-D2,av];exact To aL gX⟩ eW
     ·have gX:q=0:=u5.1 (by omega);refine I ?_;exact aU [] (dX r) ⟨x0 _,Nn,by rw[zab gX,<-D2,gX];rfl⟩ eW
    rintro dZ ⟨bf,bL,eM⟩;refine I ?_;refine l8 tO [dZ] (eR (R:=tO) [dZ] rfl) ?_;refine I ?_;refine aU [1] (q,[dZ]) ⟨by show(aT 10 q).length<(aT 10 m).length;exact yw,u4 aH (by rw[<-hq];exact zaH _ _),by show 1+(aT 10 q).length<=_;simp at aI;omega,by rw[bj,zaa hm,eM,zcb,show nx [dZ]=dZ++nx []from Yk [] dZ],fun _=>by simp,?_⟩ hd;intro x J;have:x=dZ:=by simpa using J
    subst this;exact⟨bf,bL⟩
   ·have hm:m=0:=u5.1 (by omega);subst hm;exact absurd rfl (cn rfl)
  |cons p ps=>
   refine I ?_;refine cP (fun hm=> ?_) (fun hm=> ?_)
   ·have hm:m≠0:=fun e=>by rw[e,fL]at hm;simp at hm
    have aL:m%1000000000<1000000000:=zaj _ (by decide);have yw:=TA hm;have Nn:=Tn aL;have DV:0<(dX (m%1000000000)).length:=zbn.2 (x0 _);refine I ?_;refine aX QO (m,1000000000) ⟨dD aH,by show 0<1000000000;decide,by show 1000000000<4294967296;decide⟩ (ag 21 ?_);refine ax 21 (.i .u64 ((m%1000000000:Nat):Int)) rfl (congrArg (fun n:Nat=>ae.i .u64 (n:Int)) (gR (Nat.lt_trans aL (by decide)))) ?_;refine aX Ur (m%1000000000) aL ?_ (hh:=gx);have D2:m%1000000000+1000000000*(m/1000000000)=m:=zcP _ _;generalize m%1000000000=r at *;generalize hq:m/1000000000=q at *;refine ag 6 ?_
    iterate 3 refine jd ?_
    refine ih (L:=ac bv) (fun dZ=>dZ≠[]∧dZ.length<=9∧dX m=(if q=0 then[]else dX q)++dZ) (fun dZ=>⟨[.a 9 true 1 (ac bv) tO (p::ps)],1,[(3,.aN 0 1 0 (p::ps).length (p::ps).length),(4,dm q),(6,.s dZ)]⟩) ?_ ?_
    ·refine I ?_;refine cP (fun gX=> ?_) (fun gX=> ?_)
     ·have gX:q≠0:=fun e=>by rw[e,fL]at gX;simp at gX
      obtain⟨z,av⟩:∃z:Nat,z=9-(dX r).length:=⟨_,rfl⟩;refine ag 28 ?_;refine ax 28 (.i .i64 (z:Nat)) rfl cS ?_;refine aX abI z (by show z<9;omega) (I ?_);refine tz ?_ (hl:=by rw[zav];omega);refine I ?_;refine aU [0] (List.replicate z 48++dX r) ⟨by simp[x0],by rw[zaE,zav];omega,by rw[zaa gX,<-D2,av];exact To aL gX⟩ hd
     ·have gX:q=0:=u5.1 (by omega);refine I ?_;exact aU [0] (dX r) ⟨x0 _,Nn,by rw[zab gX,<-D2,gX];rfl⟩ hd
    rintro dZ ⟨bf,bL,eM⟩;refine I ?_;have jY:ps.length<=10737418230:=by simp at aI;omega
    refine lI (R:=tO) [dZ] (eR (R:=tO) [dZ] rfl) ?_;refine I ?_;refine aU [2] (q,p::(ps++[dZ])) ⟨by show(aT 10 q).length<(aT 10 m).length;exact yw,u4 aH (by rw[<-hq];exact zaH _ _),by simp at aI ⊢;omega,by rw[bj,zaa hm,eM,zcb,show nx (p::(ps++[dZ]))=dZ++nx (p::ps)from Yk (p::ps) dZ],fun _=>by simp,?_⟩ (FE ⟨rfl,congrArg (fun k=>some (ae.aN 2 1 0 k k)) (by simp),trivial⟩ ⟨_,rfl,rfl,fun _=>rfl⟩);intro x J;rcases zbw.1 (show x∈(p::ps)++[dZ]from J)with h|h
    ·exact cT x h
    ·have:x=dZ:=by simpa using h
     subst this;exact⟨bf,bL⟩
   ·have hm:m=0:=u5.1 (by omega);subst hm;refine J9 3 ?_;refine I ?_;exact aU [] (p::ps) ⟨by rw[bj,zab rfl];rfl,by simp,by simp at aI ⊢;omega,cT⟩ eW
 rintro ps ⟨aH,aI,bj,cn⟩;have cT:0<ps.length:=zbn.2 aI;have Yj:∀k,(nx (ps.drop k)).length<=9*ps.length:=fun k=>zag (anO fun p hp=>(cn p (zcS hp)).2) (pA _ (by simp));refine I ?_;refine cw (L:=Nat×ac bv) (fun(k,bs)=>k<=ps.length∧nx (ps.drop k)=bs) (fun(k,bs)=>aeV ps k bs) (fun l=>l.1) [0] (ps.length,[]) ⟨b6 _,by rw[zcn];rfl⟩ (by show ps.length<bc+1;unfold bc;omega) (eO ⟨rfl,rfl,fa,trivial⟩ ⟨_,rfl,rfl⟩) ?_;rintro⟨k,bs⟩ ⟨hk,hb⟩;cases k with
 |zero=>
  rw[zar,aH]at hb;cases bs with
  |nil=>exact absurd hb (x0 n)
  |cons c cs=>
   have iJ:=Yj 0;rw[zar,aH,hb]at iJ;refine I ?_;refine xi U6.1 (by kernel_rfl) ?_;intro H1 i1 s1 _ _;refine I ?_;refine agk ?_ (hc:=by simp);refine I ?_;refine agm ?_ (h0:=by simp) (hb:=by omega);refine I ?_;refine l9 ⟨.inr rfl,_,rfl,?_⟩;refine I ?_;exact aM rfl (.of (by show ae.s (c::cs)=ae.s (dX n);rw[hb]))
 |succ m=>
  have hm:m<ps.length:=by omega
  obtain⟨bf,bL⟩:=cn _ (fy hm);have hj:=anN hm;rw[hb]at hj;have iJ:=Yj (m+1);rw[hb]at iJ;have kD:ps[m]? =some ps[m]:=bE hm;generalize ps[m]=s at *;cases bs with
  |nil=>
   obtain⟨c,cs,rfl⟩:∃c cs,s=c::cs:=by cases s with
    |nil=>exact absurd rfl bf
    |cons c cs=>exact⟨c,cs,rfl⟩
   refine ax 8 (.i .i64 (m:Nat)) rfl fv (I ?_);refine ax 41 (.b true) rfl (by simp) (I ?_);refine db (c::cs) kD ?_;refine I ?_;refine xi MH.1 (by kernel_rfl) ?_;intro H1 i1 s1 _ _;refine I ?_;refine xi MI.1 (by kernel_rfl) ?_;intro F4 i2 s2 _ _;refine I ?_;refine g9 (ahu rfl rfl) ?_;refine I ?_;refine g9 (afq rfl rfl (by decide)) ?_;refine I ?_;refine g9 (af2 rfl rfl rfl) ?_;refine I ?_;refine l9 ⟨.inl rfl,_,rfl,?_⟩;refine I ?_;refine aqQ ?_;refine I ?_;refine l9 ⟨.inr rfl,_,rfl,?_⟩;refine I ?_;exact aU [0,1] (m,c::cs) ⟨by simp,by omega,hj⟩ (rl ⟨rfl,rfl,fa,trivial⟩ ⟨_,rfl,rfl⟩ ⟨_,rfl,rfl,fun _=>rfl⟩)
  |cons o1 bs=>
   have mn:bs.length<=96636764070:=by simp at iJ;omega
   have avG:s.length<=9:=bL;refine ax 8 (.i .i64 (m:Nat)) rfl fv (I ?_);refine ax 41 (.b true) rfl (by simp) (I ?_);refine db s kD ?_;refine I ?_;refine xi MH.1 (by kernel_rfl) ?_;intro H1 i1 s1 _ _;refine I ?_;refine xi MI.1 (by kernel_rfl) ?_;intro F4 i2 s2 _ _;refine I ?_;refine g9 (ahv rfl rfl) ?_;refine I ?_;refine l9 ⟨.inl rfl,_,rfl,?_⟩;refine I ?_;refine aqP ?_ (h0:=bf);refine I ?_;refine l9 ⟨.inr rfl,_,rfl,?_⟩;refine I ?_;exact aU [0,2] (m,o1::(bs++s)) ⟨by simp,by omega,hj⟩ (atI ⟨rfl,rfl,fa,trivial⟩ ⟨_,rfl,congrArg (fun k=>bd.c 255 [.p 0 0,.aN 2 1 0 k k]) (by simp;omega)⟩ ⟨_,rfl,rfl,fun _=>rfl⟩)
def AI(h:dE k n):(dX n).length<=10*k+1:=by
 have:=Ol h;unfold dX dec;rw[tU];split
 ·simp
 ·rw[zby];omega
def Qx:bN where
 L:=Rat
 args:=fun x=>[c8 x]
 pre:=fun x=>ba 268435456 x
 res:=fun x=>.s (ff x)
 hp:=iQ
 hm:=iQ.up
def Qy:bw a4.ctx 37 Qx.spec:=by
 refine pK [(100,OV.spec)] V3.1 ?_;intro(x:Rat) (J:ba _ x) H aK gx;have gE:=AI J.1;have iB:=AI J.2;refine I ?_;refine aX I7 x.num.natAbs (dD J.1) (ag 3 ?_) (hh:=gx)
 iterate 3 refine jd ?_
 obtain⟨u,hu⟩:∃u,u=(if x.num<0 then[45]else[])++dX x.num.natAbs:=⟨_,rfl⟩;have km:u.length<=10*268435456+2:=by
  rw[hu,zaE];have:(if x.num<0 then([45]:ac bv)else[]).length<=1:=by split<;>simp
  omega
 refine ih (L:=Unit) (fun _=>True) (fun _=>⟨[.c 27 (cA x)],1,[(1,.p 0 0),(3,.s u)]⟩) ?_ ?_
 ·refine I ?_;refine cP (fun h=> ?_) (fun h=> ?_)
  ·refine I ?_;refine tz ?_ (hl:=by show 1+(dX _).length<=_;omega);refine I ?_;exact aU [0] () trivial (eO ⟨rfl,by rw[hu,zab h];rfl,trivial⟩ ⟨_,rfl,rfl⟩)
  ·refine I ?_;exact aU [0] () trivial (eO ⟨rfl,by rw[hu,zaa h];rfl,trivial⟩ ⟨_,rfl,rfl⟩)
 intro _ _;refine ag 12 ?_;by_cases ao:x.den=1
 ·refine ax 12 (.ko 1 Nat fZ []) rfl (by show uh x.den=_;rw[ao];rfl) (I ?_);refine aM rfl (.of ?_);show ae.s u=ae.s (ff x);unfold ff;rw[<-hu,zab ao,zcX]
 ·refine ax 12 (.ko 1 Nat fZ (aT 4294967296 x.den)) rfl (GP ao) ?_;have cb:(aT 4294967296 x.den).isEmpty=false:=zeC.2 (fun e=>x.den_nz ((qD (by decide)).1 e));refine I ?_;refine abC rfl (by show ng true _=true;rw[cb];rfl) ?_;refine ag 16 ?_;refine dS 16 (dm x.den) rfl (Ts ao) ?_;refine aX I7 x.den (dD J.2) ?_ (hh:=gx);refine tz ?_ (hl:=by show 1+(dX _).length<=_;omega);refine tz ?_ (hl:=by rw[zaE];show u.length+(1+(dX _).length)<=_;omega);refine I ?_;refine aM rfl (.of ?_);show ae.s (u++([47]++dX x.den))=ae.s (ff x);unfold ff;rw[<-hu,zaa ao];rfl
def abT:bN where
 L:=ac bv
 args:=fun s=>[.s s]
 pre:=fun s=>jS s∧s.length<=2100
 res:=fun s=>dm (bQ s)
def Fp(v:Nat)(rest:ac bv):ac bd:=[.c 25 [dm v],.c 9 [.s rest]]
def Ex{v K:Nat}(h:v<10^k)(hk:k<=K):dE K v:=y5 (gH h (zag (zco (by decide) k) (zaI (by decide) hk)))
def vx:ci->fX:=b8 [(116,zp.spec),(59,zg.spec),(119,Lc.spec)]
def Qu:bw a4.ctx 115 abT.spec:=by
 refine afY a4.hO jf vx (xf:=UA.1) (by kernel_rfl) (fun l vs st ⟨_,_,_,d⟩=>by rw[iF d];exact kv rfl) ?_;rintro⟨s,H⟩ vs st ⟨⟨eI,af⟩,_,ar,ao⟩;have eI:jS s:=eI;have af:s.length<=2100:=af;have ar:Fit H [] st [] 0:=ar;have ao:dH H [.s s] [] vs:=ao;have U:=c1.zero ao;obtain⟨eH,cm,H1,X2,aq,Rr,ry,f1,lh⟩:=QC (call:=cG bn (c0 a4.ctx vx) (bc+1)) (cc:=bc+1) (fn:=115) (ops:=[C.m 2 C.gg]) (s:=⟨[],0,ov 0 [.s s]⟩) (t:=⟨[],0,[(2,.nl),(0,.s s)]⟩) rfl (by
  intro H1 i1 s1 _ _;refine I ?_;exact l9 ⟨rfl,rfl⟩) ar U
 obtain⟨mP,ef,F4,avQ,e2,Rs,jG,f2,n7⟩:=QC (call:=cG bn (c0 a4.ctx vx) (bc+1)) (cc:=bc+1) (fn:=115) (ops:=[C.im 3 [C.N] 25]) (s:=⟨[],0,[(2,.nl),(0,.s s)]⟩) (t:=⟨[.c 25 [dm 0]],1,[(3,.p 0 0),(2,.nl),(0,.s s)]⟩) rfl (by
  intro H1 i1 s1 _ _
  iterate 1 refine jd ?_
  refine aqT 0 (cs:=[.nl]) [dm 0] ⟨bV.nl.trans (.of (by show c6 []=c6 (aT _ 0);rw[fL])),trivial⟩ ?_;refine I ?_;exact l9 ⟨rfl,rfl⟩) ry f1
 obtain⟨rQ,fx,CD,y0,bS,Rt,adU,f3,xh⟩:=QC (call:=cG bn (c0 a4.ctx vx) (bc+1)) (cc:=bc+1) (fn:=115) (ops:=[C.m 6 0,C.c 7 184 [6]]) (s:=⟨[.c 25 [dm 0]],1,[(3,.p 0 0),(2,.nl),(0,.s s)]⟩) (t:=⟨Fp 0 s,2,[(7,.fn (.func 230) [] [.p 1 0]),(6,.s s),(3,.p 0 0),(2,.nl),(0,.s s)]⟩) rfl (by
  intro H1 i1 s1 _ _;refine I ?_;refine xi Vf.1 (by kernel_rfl) ?_;intro F4 i2 s2 _ _;refine I ?_;refine l9 ⟨.inr rfl,_,rfl,?_⟩;refine I ?_;exact l9 ⟨rfl,rfl⟩) jG f2
 have qR:rQ.bR=none:=xh.trans (n7.trans lh);obtain⟨OZ,xq,adV,Ic,av1,gK,Ru,Rv,⟨lH,apW⟩,cn,zh,CZ,yQ⟩:=auA (X:=a4.ctx) (bn:=bn) (cq:=vx) (cc:=bc+1) (n:=4611686018427387902) (fn:=115) qR adU f3 (f:=7) (ps:=[8,9]) (dr:=C.q (C.R [C.m 4 8]) (C.R [C.m 5 9])) (body:=C.K 1 (.uo [C.D (C.m 11 5) [5],C.D (C.h9 12 .u64 11) [11],C.E (C.c 13 116 [12]),C.KQ (C.l 10 3) 1 [3],C.E (C.c 14 59 [10,13]),C.KQ (C.m 15 4) 2 [4],C.KQ (C.h9 16 .u64 15) 2 [15],C.E (C.c 17 116 [16]),C.E (C.c 18 119 [14,17]),C.E (C.st 1 3 18)] [1,2,3,0,4,5,6,7,8,9] [10,15,16] [0,1,3,0,15,0,32,127,255,511])) (g:=230) (xf:=VC.1) (caps:=[.p 1 0]) (fun r o=>r=none∧o=Fp (bQ s) []) (by kernel_rfl) rfl rfl (kv rfl) (by
  intro s1 l hlen gy;have hlen:y0.length=2:=hlen;refine I ?_;refine cw (L:=ac bv×Nat) (fun(rest,v)=>jS rest∧rest.length<=s.length∧v<10^(s.length-rest.length)∧bQ s=bQ rest+10^rest.length*v) (fun(rest,v)=>⟨Fp v rest,2,[(0,.v (.func (.yield l) #[] #[])),(1,.p 1 0)]⟩) (fun l=>l.1.length) [0,1] (s,0) ⟨eI,b6 _,by simp,by simp⟩ (by show List.length s<4611686018427387904;omega) (rl ⟨rfl,rfl,trivial⟩ ⟨_,rfl,rfl⟩ ⟨_,rfl,rfl⟩ (hp:=by show pinned y0.length _ _=_;rw[hlen];rfl)) ?_;rintro⟨rest,v⟩ ⟨aH,aI,bj,cn⟩;refine I ?_;refine cP (fun aL=> ?_) (fun aL=> ?_)
  ·have aL:0<rest.length:=by omega
   refine I ?_;refine rf (L:=ac bv×ac bv) (fun(w,ee)=>rest=w++ee∧w.length<=9∧w≠[]) (fun(w,ee)=>⟨Fp v ee,2,[(0,.v (.func (.yield l) #[] #[])),(1,.p 1 0),(3,.i .u32 (bQ w:Nat)),(4,.i .u32 ((10^w.length:Nat):Int))]⟩) ?_ ?_
   ·refine cw (L:=ac bv×ac bv) (fun(w,ee)=>rest=w++ee∧w.length<=9) (fun(w,ee)=>⟨Fp v ee,2,[(0,.v (.func (.yield l) #[] #[])),(1,.p 1 0),(3,.i .u32 (bQ w:Nat)),(4,.i .u32 ((10^w.length:Nat):Int)),(5,.i .i64 (w.length:Nat))]⟩) (fun l=>9-l.1.length) [0,1] ([],rest) ⟨rfl,by decide⟩ (by show 9-0<4611686018427387904;decide) (rl ⟨rfl,rfl,rfl,rfl,rfl,trivial⟩ ⟨_,rfl,rfl⟩ ⟨_,rfl,rfl⟩ (hp:=by show pinned y0.length _ _=_;rw[hlen];rfl)) ?_;rintro⟨w,ee⟩ ⟨bf,bL⟩;have hw:jS w:=fun c hc=>aH c (by rw[bf];exact List.mem_append_left _ hc);have mv:=vy hw;refine ag 11 ?_;by_cases jj:w.length<9
    ·refine ax 11 (.b true) rfl (congrArg ae.b (zad (by omega))) ?_;cases ee with
     |nil=>
      refine I ?_;exact aU [0,1] (w,[]) ⟨bf,bL,fun e=>by rw[e]at bf;rw[bf]at aL;simp at aL⟩ (rl ⟨rfl,rfl,rfl,rfl,trivial⟩ ⟨_,rfl,rfl⟩ ⟨_,rfl,rfl⟩ (hp:=by show pinned y0.length _ _=_;rw[hlen];rfl))
     |cons c ee=>
      have hc:=aH c (by rw[bf];simp);have yN:10^w.length<=100000000:=zag (zaI (by decide) (show w.length<=8 by omega)) (by decide);have wF:=Qq w c;have jY:10^(w++[c]).length=10*10^w.length:=by rw[zaE,List.length_singleton,zak,zam]
      refine ag 15 ?_;refine ax 15 (.b true) rfl (by simp) (I ?_);refine nH c (j:=0) rfl ?_;have agR:(c.toNat+(256*48-48))%256=c.toNat-48:=by omega
      have agS:(10*bQ w%4294967296+(c.toNat-48)%4294967296)%4294967296=bQ (w++[c]):=by rw[wF];generalize bQ w=x at *;generalize 10^w.length=P at *;omega
      have Di:10*10^w.length%4294967296=10^(w++[c]).length:=by rw[jY];generalize 10^w.length=P at *;omega
      refine ag 22 ?_;refine ax 22 (.i .u8 ((c.toNat-48:Nat):Int)) rfl (congrArg (fun n:Nat=>ae.i .u8 (n:Int)) agR) (ag 24 ?_);refine ax 24 (.i .u32 (bQ (w++[c]):Nat)) rfl (congrArg (fun n:Nat=>ae.i .u32 (n:Int)) agS) (ag 26 ?_);refine ax 26 (.i .u32 ((10^(w++[c]).length:Nat):Int)) rfl (congrArg (fun n:Nat=>ae.i .u32 (n:Int)) Di) (I ?_);refine sr (p:=1) ee ?_ (hp:=by simp) (hq:=by simp);refine I ?_;exact aU [0,1] (w++[c],ee) ⟨by simp;omega,by rw[bf];simp,by simp;omega⟩ (rl ⟨rfl,rfl,rfl,rfl,congrArg (fun n=>some (ae.i .i64 n)) (FU (by simp) (by omega) (by omega)),trivial⟩ ⟨_,rfl,rfl⟩ ⟨_,rfl,rfl⟩ (hp:=by show pinned y0.length _ _=_;rw[hlen];rfl))
    ·refine ax 11 (.b false) rfl (congrArg ae.b (zai (by omega))) (I ?_);exact aU [0,1] (w,ee) ⟨bf,bL,fun e=>by rw[e]at jj;simp at jj⟩ (rl ⟨rfl,rfl,rfl,rfl,trivial⟩ ⟨_,rfl,rfl⟩ ⟨_,rfl,rfl⟩ (hp:=by show pinned y0.length _ _=_;rw[hlen];rfl))
   rintro⟨w,ee⟩ ⟨bf,bL,eM⟩;refine I ?_;have hw:jS w:=fun c hc=>aH c (by rw[bf];exact List.mem_append_left _ hc);have mv:=vy hw;have yN:10^w.length<=1000000000:=zag (zaI (by decide) bL) (by decide);have XD:rest.length=w.length+ee.length:=by rw[bf,zaE]
   have rY:bQ rest=bQ ee+10^ee.length*bQ w:=by rw[bf,Qo]
   have Bj:v*10^w.length+bQ w<10^(s.length-ee.length):=by
    rw[show s.length-ee.length=(s.length-rest.length)+w.length by omega,zal];refine gH (Nat.add_lt_add_left mv _) ?_;rw[<-zcJ];exact jo _ bj
   have p2:bQ s=bQ ee+10^ee.length*(v*10^w.length+bQ w):=by
    rw[cn,rY,XD,zal,zaq];rw[zam (10^w.length) (10^ee.length),zan,zam (10^w.length) v];omega
   have Ox:dE 2100 v:=Ex bj (by omega);have YN:dE 2100 (10^w.length):=Ex (k:=w.length+1) (zeU (by decide) (zbp _)) (by omega);have lw:dE 2100 (bQ w):=Ex mv (by omega);have akS:10^w.length%18446744073709551616=10^w.length:=gR (zaz yN (by decide));have akT:bQ w%18446744073709551616=bQ w:=gR (gH mv (zag yN (by decide)));refine aq9 gy (e2:=[(5,.i .u32 ((10^w.length:Nat):Int)),(4,.i .u32 (bQ w:Nat)),(9,.i .u32 ((10^w.length:Nat):Int)),(8,.i .u32 (bQ w:Nat)),(7,.fn (.func 230) [] [.p 1 0]),(6,.s s),(3,.p 0 0),(2,.nl),(0,.s s)]) ?_ ?_
   ·intro adW i5 arM;refine I ?_;exact l9 ⟨rfl,rfl⟩
   ·intro adW i5 arM Xw _;have Xw:i5.length=2:=Xw;refine ag 12 ?_;refine dO 12 (.i .u64 ((10^w.length:Nat):Int)) rfl rfl (congrArg (fun n:Nat=>ae.i .u64 (n:Int)) akS) ?_;refine bC sg (10^w.length:Nat) (zaz yN (by decide)) (I ?_);refine bC q2 (v,10^w.length) ⟨dD Ox,dD YN⟩ (ag 16 ?_);refine dO 16 (.i .u64 (bQ w:Nat)) rfl rfl (congrArg (fun n:Nat=>ae.i .u64 (n:Int)) akT) ?_;refine bC sg (bQ w) (gH mv (zag yN (by decide))) ?_;refine bC RE (v*10^w.length,bQ w) ⟨dD (m2 Ox YN),dD lw⟩ (I ?_);refine l9 ⟨rfl,?_⟩;refine I ?_;exact aU [0,1] (ee,v*10^w.length+bQ w) ⟨by rw[XD];have:=zbn.2 eM;show ee.length<_;omega,fun c hc=>aH c (by rw[bf];exact List.mem_append_right _ hc),by omega,Bj,p2⟩ (rl ⟨rfl,rfl,trivial⟩ ⟨_,rfl,rfl⟩ ⟨_,rfl,rfl⟩ (hp:=by show pinned y0.length _ _=_;rw[hlen];rfl))
  ·have aL:rest=[]:=zeM.1 (by omega);subst aL;have aB:bQ s=v:=by rw[cn];simp[bQ,nU,val]
   refine I ?_;exact l9 (.inl ⟨.inl rfl,⟨_,rfl⟩,rfl,by rw[aB]⟩))
 subst lH;subst apW;obtain⟨nk,oz⟩:∃fr,fr=(⟨rQ.t,{target:=.collected fx.aj,args:= #[]}::rQ.cW,rQ.a9,rQ.cD,rQ.bR⟩:aJ):=⟨_,rfl⟩;rw[<-oz]at gK;have t4:nk.t=rQ.t:=by rw[oz]
 have d4:nk.cW={target:=.collected fx.aj,args:= #[]}::rQ.cW:=by rw[oz]
 have uZ:nk.cD=rQ.cD:=by rw[oz]
 obtain⟨b,iU,mm⟩:=f3.get 3 (.p 0 0) rfl;have amR:nk.tmp 3= .pointer (some ⟨b,0,none⟩):=by
  have e:nk.tmp 3=rQ.tmp 3:=by unfold aJ.tmp;rw[t4]
  rw[e];exact mm
 obtain⟨⟨ws,bg,v,us,rfl,d5,d6⟩,_⟩:=Rv.own 0 (.c 25 [dm (bQ s)]) b rfl (Ru.l2 0 b iU);have d6:us=[]:=d6;subst d6;have Ba:bK (cG bn (c0 a4.ctx vx) (bc+1)) (.lE (.tmp 3)) nk xq= .ok v nk xq:=Bt (by show nk.tmp 3=_;exact amR) bg rfl;have a8:=((Rr.trans Rs).trans Rt).trans Ru;have p1:st.aj<=fx.aj:=((Rr.trans Rs).trans Rt).aj;refine KK aq (KK e2 (KK (arV bS (aeM gK)) ?_));refine KK (eH:=(nk.put (some 19) v).put (some 2) v) (cm:=xq) ?_ ?_
 ·show jh (cG bn (c0 a4.ctx vx) (bc+1)) (⟨some 19,.lE (.tmp 3),none⟩::[⟨some 2,.m3 (.tmp 19),none⟩]) nk xq=_;rw[Sym.G7,Ba,Sym.Je,Sym.G7];show jh (cG bn (c0 a4.ctx vx) (bc+1)) [] ((nk.put (some 19) v).put (some 2) ((nk.put (some 19) v).tmp 19)) xq=_;rw[sy,zab rfl];rfl
 ·refine⟨.ret,(nk.put (some 19) v).put (some 2) v,xq,rfl,.inr rfl,v,⟨xq.h.set fx.aj (.jJ none),xq.aj⟩,?_,adV,?_,?_,?_⟩
  ·have uJ:((nk.put (some 19) v).put (some 2) v).cW=[{target:=.collected fx.aj,args:= #[]}]:=by
    rw[(vt _ _ _).1,(vt _ _ _).1,d4,f3.pl.cW]
   have alN:((nk.put (some 19) v).put (some 2) v).cD=false:=by
    rw[(vt _ _ _).2.2.1,(vt _ _ _).2.2.1,uZ,f3.pl.cD]
   have:=ahT (call:=cG bn (c0 a4.ctx vx) (bc+1)) (t:=2) uJ alN cn;rw[sy,zab rfl]at this;exact this
  ·exact(Rv.other zh yQ CZ (.jJ none)).less
  ·exact(a8.other p1 (.jJ none)).less
  ·exact GQ _ rfl d5 _
def mc(n:Bool)(P q:ac bv)(hi:Bool):Prop:=hL P∧¬(n=true∧P=[48])∧(hi=true->hL q∧q≠[48]∧q≠[49])
instance(n:Bool)(P q:ac bv)(hi:Bool):Decidable (mc n P q hi):=by unfold mc;infer_instance
def ap9{N:Nat}{s:ac bv}(af:s.length<=N):∃P q hi,oo (df s).2= .bM [.s P,.s q,.b hi]∧(df s).2.length<=N∧P.length<=N∧q.length<=N∧(¬mc (df s).1 P q hi->nG s=none)∧
 (mc (df s).1 P q hi->hi=false->nG s=some (mkRat (h4 (df s).1 (bQ P)) 1))∧(mc (df s).1 P q hi->hi=true->nG s=if Nat.gcd (bQ P) (bQ q)=1 then some (mkRat (h4 (df s).1 (bQ P)) (bQ q))else none):=by
 have s7:=ab7 s;unfold nG oo;obtain⟨⟨n,t⟩,aO⟩:∃g,g=df s:=⟨_,rfl⟩;rw[<-aO]at s7⊢;simp only at s7⊢;have l1:t.length<=N:=by have:=congrArg List.length s7;rw[zaE]at this;omega
 obtain⟨fg,e1,mg⟩:=GK t;obtain⟨⟨P,Q⟩,hq⟩:∃g,g=cutAt t:=⟨_,rfl⟩;rw[<-hq]at fg e1 mg⊢;simp only at fg e1 mg⊢;cases Q with
 |none=>
  have MT:=mg rfl;subst MT;refine⟨t,[],false,rfl,l1,l1,by exact zac _,fun h=>zaa (fun aC=>h ⟨aC.1,aC.2,fun e=>by cases e⟩),fun h _=>zab ⟨h.1,h.2.1⟩,fun _ h=>by cases h⟩
 |some q=>
  have aF:=e1 q rfl;have r8:P.length+q.length<=N:=by have:=congrArg List.length aF;rw[zaE,zax]at this;omega
  refine⟨P,q,true,rfl,l1,by omega,by omega,fun h=> ?_,(fun _ h=>by cases h),fun h _=> ?_⟩
  ·by_cases h1:hL P∧¬(n=true∧P=[48])
   ·rw[zab h1];exact zaa (fun aC=>h ⟨h1.1,h1.2,fun _=>⟨aC.1,aC.2.1,aC.2.2.1⟩⟩)
   ·rw[zaa h1]
  ·obtain⟨h1,h2,ab⟩:=h;obtain⟨ab,aD,bg⟩:=ab rfl;rw[zab ⟨h1,h2⟩];by_cases HG:Nat.gcd (bQ P) (bQ q)=1
   ·rw[zab HG];exact zab ⟨ab,aD,bg,HG⟩
   ·rw[zaa HG];exact zaa (fun aC=>HG aC.2.2.2)
def Yv{v:Nat}(h:v<10^k)(hk:k<=2000):dE 250 v:=y5 (gH h (zag (zaI (by decide) hk) (by decide +kernel)))
def vp(s:ac bv):ac bv:=(cutAt (df s).2).1
def vq(s:ac bv):am (ac bv):=(cutAt (df s).2).2
def vl(s:ac bv):Prop:=hL (vp s)∧¬((df s).1=true∧vp s=[48])∧∀q,vq s=some q->hL q∧q≠[48]∧q≠[49]
def wN(s:ac bv):Prop:=2000<(vp s).length∨∃q,vq s=some q∧2000<q.length
variable{s:ac bv}
open Classical in
def ed(s:ac bv):Int:=if vl s then(if wN s then 3 else if(nG s).isSome then 0 else 6)else 6
def eE(s:ac bv):Rat:=if ed s=0 then(nG s).getD 0 else 0
def TL(h:¬vl s):ed s=6:=zaa h
def TM(h:vl s)(hl:wN s):ed s=3:=(zab h).trans (zab hl)
def TO{x:Rat}(h:vl s)(hl:¬wN s)(hp:nG s=some x):ed s=0∧eE s=x:=by
 have e:ed s=0:=(zab h).trans ((zaa hl).trans (by rw[hp];rfl));exact⟨e,(zab e).trans (by rw[hp];rfl)⟩
def TN(h:vl s)(hl:¬wN s)(hp:nG s=none):ed s=6:=(zab h).trans ((zaa hl).trans (by rw[hp];rfl))
def ady(h:ed s≠0):eE s=0:=zaa h
def G2(s:ac bv):ed s=0∨ed s=3∨ed s=6:=by
 unfold ed;split
 ·split
  ·exact .inr (.inl rfl)
  ·split
   ·exact .inl rfl
   ·exact .inr (.inr rfl)
 ·exact .inr (.inr rfl)
def wO(s:ac bv):ba 250 (eE s):=by
 unfold eE;split
 case isFalse=>exact b2 (lF 0 (by decide) (by decide))
 rename_i h;unfold ed at h;split at h
 case isFalse=>cases h
 rename_i hk;split at h
 case isTrue=>cases h
 rename_i hl;split at h
 case isFalse=>cases h
 rename_i af;obtain⟨x,J⟩:=zeo.1 af;rw[J];show ba 250 x;have gE:(vp s).length<=2000:=zdv fun h=>hl (.inl h);have r8:dE 250 (bQ (vp s)):=Yv (vy hk.1.2.1) gE;unfold nG at J;split at J
 case isFalse=>cases J
 split at J
 ·cases J;exact vh (by rw[zN];exact r8) (dD (te (by decide))) (by decide)
 ·rename_i q hq;have HZ:vq s=some q:=hq;have iB:q.length<=2000:=zdv fun h=>hl (.inr ⟨q,HZ,h⟩);obtain⟨c3,eP,lq⟩:=hk.2.2 q HZ;split at J
  ·cases J;exact vh (by rw[zN];exact r8) (Yv (vy c3.2.1) iB) (fun h0=>eP (At c3 h0))
  ·cases J
def ap8{N:Nat}(af:s.length<=N):∃P q hi,oo (df s).2= .bM [.s P,.s q,.b hi]∧(df s).2.length<=N∧P.length<=N∧q.length<=N∧(¬mc (df s).1 P q hi->ed s=6)∧
 (mc (df s).1 P q hi->2000<P.length∨2000<q.length->ed s=3)∧
 (mc (df s).1 P q hi->¬(2000<P.length∨2000<q.length)->∀x,nG s=some x->ed s=0∧eE s=x)∧(mc (df s).1 P q hi->¬(2000<P.length∨2000<q.length)->nG s=none->ed s=6)∧
 (mc (df s).1 P q hi->hi=false->nG s=some (mkRat (h4 (df s).1 (bQ P)) 1))∧(mc (df s).1 P q hi->hi=true->nG s=if Nat.gcd (bQ P) (bQ q)=1 then some (mkRat (h4 (df s).1 (bQ P)) (bQ q))else none):=by
 obtain⟨P,q,hi,h1,h2,ab,aD,bg,cv,dq⟩:=ap9 af;have key:P=vp s∧((hi=false∧vq s=none∧q=[])∨(hi=true∧vq s=some q)):=by
  unfold oo at h1;unfold vp vq;split at h1<;>rename_i hq<;>cases h1<;>rw[hq]
  ·exact⟨(GK (df s).2).2.2 hq,.inl ⟨rfl,rfl,rfl⟩⟩
  ·exact⟨rfl,.inr ⟨rfl,rfl⟩⟩
 obtain⟨bf,bL⟩:=key;have r6:mc (df s).1 P q hi↔vl s:=by
  unfold mc vl;rw[bf];rcases bL with⟨aq,e2,bS⟩|⟨aq,e2⟩
  ·rw[aq,e2];exact⟨fun h=>⟨h.1,h.2.1,fun _ h=>by cases h⟩,fun h=>⟨h.1,h.2.1,fun h=>by cases h⟩⟩
  ·rw[aq,e2];exact⟨fun h=>⟨h.1,h.2.1,fun _ aC=>by cases aC;exact h.2.2 rfl⟩,fun h=>⟨h.1,h.2.1,fun _=>h.2.2 _ rfl⟩⟩
 have u1:(2000<P.length∨2000<q.length)↔wN s:=by
  unfold wN;rw[bf];rcases bL with⟨aq,e2,bS⟩|⟨aq,e2⟩
  ·rw[e2,bS];exact⟨fun h=>h.elim .inl (fun h=>absurd h (by simp)),fun h=>h.elim .inl (fun⟨_,h,_⟩=>by cases h)⟩
  ·rw[e2];exact⟨fun h=>h.elim .inl (fun h=>.inr ⟨_,rfl,h⟩),fun h=>h.elim .inl (fun⟨_,h,aC⟩=>by cases h;exact .inr aC)⟩
 exact⟨P,q,hi,h1,h2,ab,aD,fun h=>TL (fun aC=>h (r6.2 aC)),fun h aC=>TM (r6.1 h) (u1.1 aC),fun a b x c=>TO (r6.1 a) (fun h=>b (u1.2 h)) c,fun a b c=>TN (r6.1 a) (fun h=>b (u1.2 h)) c,cv,dq⟩
def arB{N:Nat}(fq:1<=N)(af:s.length<=N):∃P Q b,zL s= .bM [.s P,.s Q,.i .i64 (if(df s).1=true then -1 else 1),.b b]∧(b=false->ed s=6)∧
 (b=true->hL P∧hL Q∧P.length<=N∧Q.length<=N∧bQ Q≠0∧(2000<P.length∨2000<Q.length->ed s=3)∧(¬(2000<P.length∨2000<Q.length)->(ff (mkRat (h4 (df s).1 (bQ P)) (bQ Q))=s->ed s=0∧eE s=mkRat (h4 (df s).1 (bQ P)) (bQ Q))∧(ff (mkRat (h4 (df s).1 (bQ P)) (bQ Q))≠s->ed s=6))):=by
 obtain⟨P,Q,b,h1,h2,ab⟩:=arA fq af;have key:(P=vp s∧((vq s=none∧Q=[49])∨vq s=some Q))∧(b=true↔vl s):=by
  unfold zL at h1;unfold vl vp vq;split at h1<;>rename_i hq<;>cases h1<;>rw[hq]
  ·have e:=(GK (df s).2).2.2 hq;rw[<-e,decide_eq_true_iff];exact⟨⟨rfl,.inl ⟨rfl,rfl⟩⟩,fun h=>⟨h.1,h.2,fun _ h=>by cases h⟩,fun h=>⟨h.1,h.2.1⟩⟩
  ·rw[decide_eq_true_iff];exact⟨⟨rfl,.inr rfl⟩,fun h=>⟨h.1,h.2.2.2.2,fun _ aC=>by cases aC;exact⟨h.2.1,h.2.2.1,h.2.2.2.1⟩⟩,fun h=>⟨h.1,(h.2.2 _ rfl).1,(h.2.2 _ rfl).2.1,(h.2.2 _ rfl).2.2,h.2.1⟩⟩
 obtain⟨⟨bf,bL⟩,r6⟩:=key;have u1:(2000<P.length∨2000<Q.length)↔wN s:=by
  unfold wN;rw[bf];rcases bL with⟨e2,bS⟩|e2
  ·rw[e2,bS];exact⟨fun h=>h.elim .inl (fun h=>absurd h (by simp)),fun h=>h.elim .inl (fun⟨_,h,_⟩=>by cases h)⟩
  ·rw[e2];exact⟨fun h=>h.elim .inl (fun h=>.inr ⟨_,rfl,h⟩),fun h=>h.elim .inl (fun⟨_,h,aC⟩=>by cases h;exact .inr aC)⟩
 refine⟨P,Q,b,h1,fun h=>TL fun hk=> ?_,fun hb=> ?_⟩
 ·rw[r6.2 hk]at h;cases h
 ·obtain⟨gU,hM,pG,CL,aea,aeb,aec⟩:=ab hb;refine⟨gU,hM,pG,CL,aea,fun hl=>TM (r6.1 hb) (u1.1 hl),fun hl=>⟨fun aF=>TO (r6.1 hb) (fun h=>hl (u1.2 h)) (aeb aF),fun aF=>TN (r6.1 hb) (fun h=>hl (u1.2 h)) (aec aF)⟩⟩
def zx(s:ac bv):ae:=.bM [c8 (eE s),.i .i64 (ed s)]
def Cd:bN where
 L:=ac bv
 args:=fun s=>[.s s]
 pre:=fun s=>s.length<=1048576
 res:=fun s=>zx s
def Ke:bw a4.ctx 47 Cd.spec:=by
 refine bZ [(111,GG.spec),(112,C8.spec),(113,abO.spec),(115,abT.spec),(116,zp.spec),(114,zd.spec),(118,MK.spec),(117,N7.spec)] V9.1 ?_;intro(s:ac bv) (af:s.length<=1048576) H aK;have fail:∀c,c≠0->ed s=c->bV (.bM [.agg [.b false,.nl,.nl],.i .i64 c]) (Cd.res s):=fun c h0 h=>aoe.trans (.of (by show _=zx s;unfold zx;rw[ady (by omega),h]));have hp:∀{x},ed s=0∧eE s=x->bV (.bM [c8 x,.i .i64 0]) (Cd.res s):=fun⟨h1,h2⟩=>.of (by show _=zx s;unfold zx;rw[h1,h2]);obtain⟨P,q,hi,hC,aF,eZ,hq,Xi,XC,Xu,p0,hint,XN⟩:=ap8 af;obtain⟨n,hn⟩:∃n,n=(df s).1:=⟨_,rfl⟩;rw[<-hn]at Xi XC Xu p0 hint XN;refine I ?_;refine aX afo s (by show s.length<=_;omega) ?_;refine ax 13 (.bM [.s (df s).2,.b n]) rfl (by rw[hn];rfl) (I ?_);refine aX af4 (df s).2 (by show(df s).2.length<=_;omega) ?_;refine ax 18 _ rfl hC (I ?_);refine ih (L:=Bool) (fun b=>b= !decide (mc n P q hi)) (fun b=>⟨[.c 27 [.b false,.nl,.nl]],1,[(2,.p 0 0),(3,.i .i64 0),(5,.b n),(6,.s P),(7,.s q),(8,.b hi),(22,.b b)]⟩) ?_ ?_
 ·have bad:¬mc n P q hi->true= !decide (mc n P q hi):=fun h=>by rw[zai h];rfl
  have hO:mc n P q hi->false= !decide (mc n P q hi):=fun h=>by rw[zad h];rfl
  refine aX Qs P (by show P.length<=_;omega) (ag 26 ?_);by_cases h1:hL P
  ·refine ax 26 (.b false) rfl (by show ae.b (!decide _)=_;rw[zad h1];rfl) (ag 33 ?_);by_cases h2:n=true∧P=[48]
   ·obtain⟨rfl,rfl⟩:=h2;refine I ?_;exact aU [0] true (bad fun h=>h.2.1 ⟨rfl,rfl⟩) hd
   ·cases n with
    |false=>
     cases hi with
     |false=>
      refine I ?_;exact aU [0] false (hO ⟨h1,h2,fun e=>by cases e⟩) hd
     |true=>
      refine I ?_;refine aX Qs q (by show q.length<=_;omega) (ag 39 ?_);by_cases ab:hL q
      ·refine ax 39 (.b false) rfl (by show ae.b (!decide _)=_;rw[zad ab];rfl) (ag 43 ?_);by_cases aD:q=[48]
       ·refine ax 43 (.b true) rfl (by rw[aD];rfl) (I ?_);exact aU [0] true (bad fun h=>(h.2.2 rfl).2.1 aD) hd
       refine ax 43 (.b false) rfl (by rw[zaJ.2 aD]) (ag 45 ?_);by_cases bg:q=[49]
       ·refine ax 45 (.b true) rfl (by rw[bg];rfl) (I ?_);exact aU [0] true (bad fun h=>(h.2.2 rfl).2.2 bg) hd
       refine ax 45 (.b false) rfl (by rw[zaJ.2 bg]) (I ?_);exact aU [0] false (hO ⟨h1,h2,fun _=>⟨ab,aD,bg⟩⟩) hd
      ·refine ax 39 (.b true) rfl (by show ae.b (!decide _)=_;rw[zai ab];rfl) (I ?_);exact aU [0] true (bad fun h=>ab (h.2.2 rfl).1) hd
    |true=>
     have s6:P≠[48]:=fun e=>h2 ⟨rfl,e⟩;refine ag 30 ?_;refine ax 30 (.b false) rfl (by rw[zaJ.2 s6]) ?_;cases hi with
     |false=>
      refine I ?_;exact aU [0] false (hO ⟨h1,h2,fun e=>by cases e⟩) hd
     |true=>
      refine I ?_;refine aX Qs q (by show q.length<=_;omega) (ag 39 ?_);by_cases ab:hL q
      ·refine ax 39 (.b false) rfl (by show ae.b (!decide _)=_;rw[zad ab];rfl) (ag 43 ?_);by_cases aD:q=[48]
       ·refine ax 43 (.b true) rfl (by rw[aD];rfl) (I ?_);exact aU [0] true (bad fun h=>(h.2.2 rfl).2.1 aD) hd
       refine ax 43 (.b false) rfl (by rw[zaJ.2 aD]) (ag 45 ?_);by_cases bg:q=[49]
       ·refine ax 45 (.b true) rfl (by rw[bg];rfl) (I ?_);exact aU [0] true (bad fun h=>(h.2.2 rfl).2.2 bg) hd
       refine ax 45 (.b false) rfl (by rw[zaJ.2 bg]) (I ?_);exact aU [0] false (hO ⟨h1,h2,fun _=>⟨ab,aD,bg⟩⟩) hd
      ·refine ax 39 (.b true) rfl (by show ae.b (!decide _)=_;rw[zai ab];rfl) (I ?_);exact aU [0] true (bad fun h=>ab (h.2.2 rfl).1) hd
  ·refine ax 26 (.b true) rfl (by show ae.b (!decide _)=_;rw[zai h1];rfl) (I ?_);exact aU [0] true (bad fun h=>h1 h.1) hd
 intro b hb;by_cases eh:mc n P q hi
 ·have hb:b=false:=by rw[hb,zad eh];rfl
  subst hb;by_cases hl:2000<P.length∨2000<q.length
  ·refine ag 56 ?_;refine ax 56 (.b true) rfl (congrArg ae.b (zad (by omega))) (I ?_);exact aM rfl (fail 3 (by decide) (XC eh hl))
  have DO:=Xu eh hl;have XH:=p0 eh hl;obtain⟨aH,aI,bj⟩:=eh;have Rz:=Ex (K:=2000) (vy aH.2.1) (by omega);refine ag 56 ?_;refine ax 56 (.b false) rfl (congrArg ae.b (zai (by omega))) (I ?_);cases hi with
  |false=>
   refine I ?_;refine aX Qu P ⟨aH.2.1,by show P.length<=_;omega⟩ ?_;refine aX sg (1:Nat) (by show 1<_;decide) ?_;refine aX sa (n,bQ P,1) ⟨dD Rz,dD (te (by decide)),by decide⟩ (I ?_);exact aM rfl (hp (DO _ (hint ⟨aH,aI,bj⟩ rfl)))
  |true=>
   obtain⟨ab,aD,bg⟩:=bj rfl;have adX:=Ex (K:=2000) (vy ab.2.1) (by omega);have lf:bQ q≠0:=fun h=>aD (At ab h);have eD:bQ q≠1:=fun h=>bg (SD ab h);have aL:=XN ⟨aH,aI,bj⟩ rfl;refine I ?_;refine aX Qu P ⟨aH.2.1,by show P.length<=_;omega⟩ (I ?_);refine aX Qu q ⟨ab.2.1,by show q.length<=_;omega⟩ (I ?_);refine aX WU (bQ P,bQ q) ⟨dD Rz,dD adX⟩ ?_;refine aX Ik (Nat.gcd (bQ P) (bQ q)) trivial (I ?_);refine B6 (fun aO=> ?_) (fun aO=> ?_)
   ·refine I ?_;exact aM rfl (fail 6 (by decide) (XH (by rw[aL,zaa aO])))
   ·refine I ?_;rw[zab aO]at aL;obtain⟨aq,e2⟩:=OE (h4 n (bQ P)) (bQ q) lf;rw[zN,aO]at aq e2;have hle:bV (.agg [.b n,dm (bQ P),dm (bQ q)]) (c8 (mkRat (h4 n (bQ P)) (bQ q))):=Om (q:=bQ q) (by rw[aq];exact Int.ediv_one _) (by rw[e2,zbJ]) (fun h=>eD (by rw[h,zeT]at aO;exact aO)) (Yx eD lf);exact aM rfl ((show bV (.bM [.agg [.b n,dm (bQ P),dm (bQ q)],.i .i64 0]) (.bM [c8 (mkRat (h4 n (bQ P)) (bQ q)),.i .i64 0])from .bM ⟨hle,.refl _,trivial⟩).trans (hp (DO _ aL)))
 ·have hb:b=true:=by rw[hb,zai eh];rfl
  subst hb;refine I ?_;exact aM rfl (fail 6 (by decide) (Xi eh))
def E3(s:ac bv):ae:=.bM [ca (eE s),.i .i64 (ed s)]
def B1:bN where
 L:=ac bv
 args:=fun s=>[.s s]
 pre:=fun s=>s.length<=1048576
 res:=fun s=>E3 s
def JL:bw a4.ctx 86 B1.spec:=by
 refine bZ [(155,JO.spec),(156,abe.spec),(148,xa.spec),(38,JF.spec)] WE.1 ?_;intro(s:ac bv) (af:s.length<=1048576) H aK;have fail:∀c,c≠0->ed s=c->bV (.bM [.agg [.i .i64 0,.nl,.nl],.i .i64 c]) (B1.res s):=fun c h0 h=>aqy.trans (.of (by show _=E3 s;unfold E3;rw[ady (by omega),h]));have hp:∀{x},ed s=0∧eE s=x->bV (.bM [ca x,.i .i64 0]) (B1.res s):=fun⟨h1,h2⟩=>.of (by show _=E3 s;unfold E3;rw[h1,h2]);obtain⟨P,Q,b,dY,ar,gz⟩:=arB (by decide) af;obtain⟨n,hn⟩:∃n,n=(df s).1:=⟨_,rfl⟩;rw[<-hn]at dY gz;have ab4: -1<=(if n=true then(-1:Int)else 1)∧(if n=true then(-1:Int)else 1)<=1:=by cases n<;>decide
 refine I ?_;refine aX aqF s (by show s.length<=_;omega) ?_;refine ax 11 _ rfl dY (I ?_);cases b with
 |false=>
  refine I ?_;exact aM rfl (fail 6 (by decide) (ar rfl))
 |true=>
  obtain⟨c3,eP,r8,Bs,lf,cf,tV⟩:=gz rfl;by_cases kZ:2000<P.length
  ·refine ag 22 ?_;refine ax 22 (.b true) rfl (congrArg ae.b (zad (by omega))) (I ?_);exact aM rfl (fail 3 (by decide) (cf (.inl kZ)))
  refine ag 22 ?_;refine ax 22 (.b false) rfl (congrArg ae.b (zai (by omega))) (I ?_);refine cP (fun h=> ?_) (fun h=> ?_)
  ·refine I ?_;exact aM rfl (fail 3 (by decide) (cf (.inr (by omega))))
  have aaJ:=aaQ (k:=223) c3.2.1 (by omega);have aaK:=aaQ (k:=223) eP.2.1 (by omega);obtain⟨lq,vT⟩:=tV (by omega);refine I ?_;refine aX abf P ⟨c3.2.1,by show P.length<=_;omega⟩ (I ?_);refine aX abf Q ⟨eP.2.1,by show Q.length<=_;omega⟩ ?_;refine aX xb (if n=true then -1 else 1,bQ P,bQ Q) ⟨ab4.1,ab4.2,dW aaJ,dW aaK,lf⟩ ?_;refine ax 33 (ca (mkRat (h4 n (bQ P)) (bQ Q))) rfl (by show ca _=_;rw[arZ]) (I ?_);refine aX rb (mkRat (h4 n (bQ P)) (bQ Q)) (cC (apd (by rw[zN];exact aaJ) aaK lf)) (ag 37 ?_);by_cases aF:ff (mkRat (h4 n (bQ P)) (bQ Q))=s
  ·refine ax 37 (.b false) rfl (by show ae.b (!(ff _==s))=_;rw[aF];simp) (I ?_);exact aM rfl (hp (lq aF))
  ·refine ax 37 (.b true) rfl (by show ae.b (!(ff _==s))=_;rw[zaJ.2 aF];rfl) (I ?_);exact aM rfl (fail 6 (by decide) (vT aF))
def jU{a b:Bool}(h:a=b):ae.b a=ae.b b:=by rw[h]
def gv(n:Int):ac ae:=[.i .i64 n]
structure b5 where
 dN:ac bv
 cp:ac Int
def c5(t:b5):ac ae:=[.s t.dN,.bb 1 Int gv t.cp]
structure eG where
 dN:ac bv
 dQ:Int
 w5:ac b5
def ez(s:eG):ac ae:=[.s s.dN,.i .i64 s.dQ,.bb 2 b5 c5 s.w5]
structure me where
 Fw:Int
 lo:ac bv
 aa:ac bv
 err:ac bv
 low:ac eG
 high:ac eG
def oj(c:me):ac ae:=[.i .i64 c.Fw,.s c.lo,.s c.aa,.s c.err,.bb 3 eG ez c.low,.bb 3 eG ez c.high]
structure rz where
 kind:Int
 dQ:Int
 cut:ac bv
 fj:ac me
 st:ac me
def y3(x:rz):ac ae:=[.i .i64 x.kind,.i .i64 x.dQ,.s x.cut,.bb 6 me oj x.fj,.bb 6 me oj x.st]
structure Ag where
 fu:ac rz
 lo:ac bv
 aa:ac bv
 err:ac bv
def E2(q:Ag):ac ae:=[.aZ 5 rz y3 q.fu,.s q.lo,.s q.aa,.s q.err]
def Ac:Nat:=140737488355328
def mI{α:Type}(w:Nat)(Q:α->Prop)(l:ac α):Prop:=l.length*w<=Ac∧∀x∈l,Q x
def K2(t:b5):Prop:=t.cp.length*8<=Ac
def vO(s:eG):Prop:=mI 40 K2 s.w5
def F8(c:me):Prop:=mI 48 vO c.low∧mI 48 vO c.high
def CI(x:rz):Prop:=mI 104 F8 x.fj∧mI 104 F8 x.st
def RB(q:Ag):Prop:=mI 80 CI q.fu
variable{α:Type}{w:Nat}{Q:α->Prop}
def mI.len{l:ac α}(h:mI w Q l)(hw:1<=w:=by decide):l.length<=Ac:=zag (zci _ hw) h.1
def mI.get{l:ac α}(h:mI w Q l)(hk:k<l.length):Q l[k]:=h.2 _ (fy hk)
def ho{α:Type}(f:α->α->Bool):ac α->ac α->Bool
 |[],[]=>true
 |x::a,y::b=>f x y&&ho f a b
 |_,_=>false
theorem AN{α:Type}{f:α->α->Bool}:∀{a b:ac α},a.length≠b.length->ho f a b=false
 |[],[],h=>absurd rfl h
 |[],_::_,_=>rfl
 |_::_,[],_=>rfl
 |x::a,y::b,h=>by
  show(f x y&&ho f a b)=false;rw[AN (fun e=>h (by rw[zax,zax,e])),Bool.and_false]
theorem wa{α:Type}{f:α->α->Bool}(h:∀x,f x x=true):∀l:ac α,ho f l l=true
 |[]=>rfl
 |x::l=>by show(f x x&&ho f l l)=true;rw[h,wa h l];rfl
def wb(m n:Int):Bool:=decide (m=n)
def mi(s t:b5):Bool:=decide (s.dN=t.dN)&&ho wb s.cp t.cp
def mO(s t:eG):Bool:=decide (s.dN=t.dN)&&(decide (s.dQ=t.dQ)&&ho mi s.w5 t.w5)
def lu(x y:me):Bool:=decide (x.Fw=y.Fw)&&(decide (x.lo=y.lo)&&(decide (x.aa=y.aa)&&(decide (x.err=y.err)&&(ho mO x.low y.low&&ho mO x.high y.high))))
def kg(x y:rz):Bool:=decide (x.kind=y.kind)&&(decide (x.dQ=y.dQ)&&(decide (x.cut=y.cut)&&(ho lu x.fj y.fj&&ho lu x.st y.st)))
def rM(a b:Ag):Bool:=decide (a.lo=b.lo)&&(decide (a.aa=b.aa)&&(decide (a.err=b.err)&&ho kg a.fu b.fu))
def ahk(n:Int):wb n n=true:=zad rfl
def ahr(t:b5):mi t t=true:=by unfold mi;rw[zad rfl,wa ahk];rfl
def TZ(t:eG):mO t t=true:=by unfold mO;rw[zad rfl,zad rfl,wa ahr];rfl
def TW(t:me):lu t t=true:=by
 unfold lu;rw[zad rfl,zad rfl,zad rfl,zad rfl,wa TZ,wa TZ];rfl
def ahi(t:rz):kg t t=true:=by
 unfold kg;rw[zad rfl,zad rfl,zad rfl,wa TW,wa TW];rfl
def ahp(t:Ag):rM t t=true:=by
 unfold rM;rw[zad rfl,zad rfl,zad rfl,wa ahi];rfl
def qs:ac Int->ac Int->Int
 |a::l,b::m=>if a<b then -1 else if b<a then 1 else qs l m
 |_,_=>0
theorem Lt:∀{a b:ac Int},a.length=b.length->(qs a b=0↔ho wb a b=true)
 |[],[],_=>⟨fun _=>rfl,fun _=>rfl⟩
 |[],_::_,h=>by cases h
 |_::_,[],h=>by cases h
 |x::a,y::b,h=>by
  have a1:=Lt (a:=a) (b:=b) (by simpa using h);show(if x<y then(-1:Int)else if y<x then 1 else qs a b)=0↔(wb x y&&ho wb a b)=true;by_cases h1:x<y
  ·rw[zab h1,show wb x y=false from zai (by omega)];exact⟨(fun h=>by cases h),(fun h=>by cases h)⟩
  rw[zaa h1];by_cases h2:y<x
  ·rw[zab h2,show wb x y=false from zai (by omega)];exact⟨(fun h=>by cases h),(fun h=>by cases h)⟩
  rw[zaa h2,show wb x y=true from zad (by omega),zbx];exact a1
def pq(x y:Rat):Rat:=if x<y then x else y
def qa(x y:Rat):Rat:=if x<y then y else x
abbrev cI:=ac bv×ac bv
def gh(x:cI):ac ae:=[.s x.1,.s x.2]
def ne_of_lt{l:ac α}(h:k<l.length):l≠[]:=fun e=>by rw[e]at h;exact zbd _ h
abbrev c2:=Rat×Rat
variable{c:Int}
def e9(x:c2):ac ae:=cA x.1++cA x.2
def Br(x:c2):c2:=if x.2<x.1 then(0,0)else x
def Bq(x:c2):Int:=if x.2<x.1 then 7 else 0
def anG:ik [.b false,.nl,.nl,.b false,.nl,.nl] (e9 (0,0)):=by
 have h:ik [.b false,.nl,.nl] (cA 0):=⟨.refl _,bV.nl.trans (.of (by show c6 []=c6 (aT _ 0);rw[fL])),bV.se,trivial⟩;exact⟨h.1,h.2.1,h.2.2.1,h⟩
def I3{z:Nat}{R:α->ac ae}:bV (.bM [.nl,.i .i64 c]) (.bM [.aZ z α R [],.i .i64 c]):=.bM ⟨bV.nl,.refl _,trivial⟩
def N9:bV (.bM [.agg [.b false,.nl,.nl,.b false,.nl,.nl],.i .i64 c]) (.bM [.agg (e9 (0,0)),.i .i64 c]):=.bM ⟨.agg anG,.refl _,trivial⟩
def Un:bN where
 L:=c2
 args:=fun x=>[c8 x.1,c8 x.2]
 pre:=fun x=>ba 250 x.1∧ba 250 x.2
 res:=fun x=>.bM [.agg (e9 (Br x)),.i .i64 (Bq x)]
def ah9:bw a4.ctx 69 Un.spec:=by
 refine bZ [(13,Fo.spec)] Wn.1 ?_;intro⟨x,y⟩ ⟨(J:ba 250 x),(ay:ba 250 y)⟩ H aK;refine I ?_;refine aX Kc (x,y) ⟨b2 J,b2 ay⟩ (ag 9 ?_);by_cases h:y<x
 ·refine v1 9 (Az.2 h) (I ?_);exact aM rfl (N9.trans (.of (by show _=ae.bM [.agg (e9 (if y<x then _ else _)),.i .i64 (if y<x then _ else _)];rw[zab h,zab h])))
 ·refine v0 9 (fun aC=>h (Az.1 aC)) (I ?_);exact aM rfl (.of (by show _=ae.bM [.agg (e9 (if y<x then _ else _)),.i .i64 (if y<x then _ else _)];rw[zaa h,zaa h];rfl))
def eg(s:cI):Int:=if ed s.1=0 then if ed s.2=0 then Bq (eE s.1,eE s.2)else ed s.2 else ed s.1
def ej(s:cI):c2:=if ed s.1=0 then if ed s.2=0 then Br (eE s.1,eE s.2)else(0,0)else(0,0)
def Pb:bN where
 L:=cI
 args:=fun s=>[.agg (gh s)]
 pre:=fun s=>s.1.length<=1048576∧s.2.length<=1048576
 res:=fun s=>.bM [.agg (e9 (ej s)),.i .i64 (eg s)]
def O7{s:cI}(h:ed s.1≠0):eg s=ed s.1∧ej s=(0,0):=⟨zaa h,zaa h⟩
def O8{s:cI}(h:ed s.1=0)(h2:ed s.2≠0):eg s=ed s.2∧ej s=(0,0):=⟨(zab h).trans (zaa h2),(zab h).trans (zaa h2)⟩
def O9{s:cI}(h:ed s.1=0)(h2:ed s.2=0):eg s=Bq (eE s.1,eE s.2)∧ej s=Br (eE s.1,eE s.2):=⟨(zab h).trans (zab h2),(zab h).trans (zab h2)⟩
def Jc:bw a4.ctx 18 Pb.spec:=by
 refine bZ [(47,Cd.spec),(69,Un.spec)] Va.1 ?_;intro⟨a,b⟩ ⟨(ha:a.length<=1048576),(hb:b.length<=1048576)⟩ H aK;refine I ?_;refine aX Ke a ha (ag 14 ?_);by_cases h1:ed a=0
 case neg=>
  obtain⟨aq,e2⟩:=O7 (s:=(a,b)) h1;refine v1 14 h1 (I ?_);exact aM rfl (N9.trans (.of (by show _=ae.bM [.agg (e9 (ej (a,b))),.i .i64 (eg (a,b))];rw[aq,e2])))
 refine v0 14 (fc h1) (I ?_);refine aX Ke b hb (ag 24 ?_);by_cases h2:ed b=0
 case neg=>
  obtain⟨aq,e2⟩:=O8 (s:=(a,b)) h1 h2;refine v1 24 h2 (I ?_);exact aM rfl (N9.trans (.of (by show _=ae.bM [.agg (e9 (ej (a,b))),.i .i64 (eg (a,b))];rw[aq,e2])))
 refine v0 24 (fc h2) (I ?_);obtain⟨aq,e2⟩:=O9 (s:=(a,b)) h1 h2;refine aX ah9 (eE a,eE b) ⟨wO a,wO b⟩ (I ?_);exact aM rfl (.of (by show _=ae.bM [.agg (e9 (ej (a,b))),.i .i64 (eg (a,b))];rw[aq,e2];rfl))
def O2(s:cI):eg s=0∨eg s=3∨eg s=6∨eg s=7:=by
 unfold eg Bq;have h1:=G2 s.1;have h2:=G2 s.2;split
 ·split
  ·split
   ·exact .inr (.inr (.inr rfl))
   ·exact .inl rfl
  ·omega
 ·omega
def o3(w e:Int):Int:=if e≠0∧e≠7 then e else if w=7∨e=7 then 7 else 0
def fJ:ac cI->Int
 |[]=>0
 |s::l=>if eg s≠0∧eg s≠7 then eg s else o3 (eg s) (fJ l)
def iq(l:ac cI):ac c2:=if fJ l=0 then l.map ej else[]
theorem As:∀l,fJ l=0∨fJ l=3∨fJ l=6∨fJ l=7
 |[]=>.inl rfl
 |s::l=>by
  have h1:=O2 s;have h2:=As l;unfold fJ o3;split
  ·exact h1
  ·split
   ·exact h2
   ·split<;>omega
def afh(e:Int)(h:e=0∨e=3∨e=6∨e=7):o3 0 e=e:=by
 unfold o3;split
 ·rfl
 ·split<;>omega
def LF:bN where
 L:=ac cI
 args:=fun l=>[.bb 2 cI gh l]
 pre:=fun l=>l.length<=1048576∧∀s,s∈l->s.1.length<=1048576∧s.2.length<=1048576
 res:=fun l=>.bM [.aZ 6 c2 e9 (iq l),.i .i64 (fJ l)]
def aeX(l:ac cI)(k:Nat)(w:Int):ac c2->cr
 |[]=>⟨[],0,[(0,.bb 2 cI gh l),(10,.bb 2 cI gh l),(11,.i .i64 (l.length:Int)),(12,.i .i64 (k:Int)),(4,.nl),(5,.i .i64 w)]⟩
 |v::vs=>⟨[.a 73 true 6 c2 e9 (v::vs)],1,[(0,.bb 2 cI gh l),(10,.bb 2 cI gh l),(11,.i .i64 (l.length:Int)),(12,.i .i64 (k:Int)),(4,.aN 0 6 0 (vs.length+1) (vs.length+1)),(5,.i .i64 w)]⟩
def afj{s:cI}{l:ac cI}{w:Int}(h:eg s=0∨eg s=7):o3 w (fJ (s::l))=o3 (if eg s=7 then 7 else w) (fJ l):=by
 have h2:=As l;have e:fJ (s::l)=o3 (eg s) (fJ l):=zaa (by omega);rw[e];unfold o3;rcases h with h|h<;>rw[h]<;>simp<;>split<;>(try split)<;>simp_all
def afi{s:cI}{l:ac cI}{w:Int}(h:¬(eg s=0∨eg s=7)):o3 w (fJ (s::l))=eg s:=by
 have e:fJ (s::l)=eg s:=zab (by omega);rw[e];exact zab (by omega)
def aeR:bw a4.ctx 45 LF.spec:=by
 refine bZ [(18,Pb.spec)] V7.1 ?_;intro(l:ac cI) ⟨(hl:l.length<=1048576),(af:∀s,s∈l->s.1.length<=1048576∧s.2.length<=1048576)⟩ H aK;have bad:fJ l≠0->bV (.bM [.nl,.i .i64 (fJ l)]) (LF.res l):=fun h=>I3.trans (.of (by show _=ae.bM [.aZ 6 c2 e9 (iq l),_];unfold iq;rw[zaa h]));refine I ?_;refine cw (L:=Nat×Int×ac c2) (fun(k,w,vs)=>k<=l.length∧vs=(l.take k).map ej∧(w=0∨w=7)∧o3 w (fJ (l.drop k))=fJ l) (fun(k,w,vs)=>aeX l k w vs) (fun x=>l.length-x.1) [] (0,0,[]) ⟨zac _,rfl,.inl rfl,afh _ (As l)⟩ (by show l.length-0<bc+1;unfold bc;omega) eW ?_;rintro⟨k,w,vs⟩ ⟨hk,jM,hw,hc⟩;have iz:vs.length<=1048576:=by rw[jM,zbu,zay];omega
 by_cases aE:k<l.length
 ·have hm:=af l[k] (zas aE);rw[fP aE]at hc;have yV:(l.take (k+1)).map ej=vs++[ej l[k]]:=by rw[jM,<-zdy aE,zcg];rfl
  have cb:l≠[]:=fun e=>by rw[e]at aE;exact zbd _ aE
  by_cases bH:eg l[k]=0∨eg l[k]=7
  case neg=>
   rw[afi bH]at hc;rcases vs with _|⟨v,vs⟩<;>(
    refine ag 13 ?_;refine v1 13 (show(k:Int)<(l.length:Int) by omega) ?_;refine dS 10 (.aZ 2 cI gh l) rfl (.ga cb) ?_;refine I ?_;refine db l[k] (bE aE) ?_;refine I ?_;refine aX Jc l[k] hm (ag 22 ?_);refine v0 22 (show¬eg l[k]=7 by omega) (ag 25 ?_);refine v1 25 (show eg l[k]≠0 by omega) (I ?_);exact aM rfl (by rw[hc];exact bad (by omega)))
  rw[afj bH]at hc;have eL:(if eg l[k]=7 then(7:Int)else w)=0∨(if eg l[k]=7 then(7:Int)else w)=7:=by split<;>omega
  by_cases dq:eg l[k]=7
  ·rw[zab dq]at hc eL;rcases vs with _|⟨v,vs⟩<;>(
    refine ag 13 ?_;refine v1 13 (show(k:Int)<(l.length:Int) by omega) ?_;refine dS 10 (.aZ 2 cI gh l) rfl (.ga cb) ?_;refine I ?_;refine db l[k] (bE aE) ?_;refine I ?_;refine aX Jc l[k] hm (ag 22 ?_);refine v1 22 dq (ag 23 ?_);refine ax 23 (.i .i64 7) rfl (by rw[dq]) (I ?_)
    first|refine l8 e9 [ej l[k]] (eR (R:=e9) [ej l[k]] rfl) ?_|(refine lI [ej l[k]] (eR (R:=e9) [ej l[k]] rfl) ?_ (hn:=by simp) (hb:=by simp at iz ⊢;omega);refine ax 30 (.aN 4 6 0 ((vs++[ej l[k]]).length+1) ((vs++[ej l[k]]).length+1)) rfl (by simp) ?_)
    refine ag 31 ?_;refine b3 31 ((k+1:Nat):Int) ?_;refine dS 10 (.bb 2 cI gh l) rfl .bb ?_;refine I ?_
    first|exact aU [3] (k+1,7,[ej l[k]]) ⟨by omega,aE,yV.symm,eL,hc⟩ bo|exact aU [4] (k+1,7,v::(vs++[ej l[k]])) ⟨by omega,aE,yV.symm,eL,hc⟩ bo)
  ·rw[zaa dq]at hc eL;rcases vs with _|⟨v,vs⟩<;>(
    refine ag 13 ?_;refine v1 13 (show(k:Int)<(l.length:Int) by omega) ?_;refine dS 10 (.aZ 2 cI gh l) rfl (.ga cb) ?_;refine I ?_;refine db l[k] (bE aE) ?_;refine I ?_;refine aX Jc l[k] hm (ag 22 ?_);refine v0 22 dq (ag 25 ?_);refine v0 25 (fc (show eg l[k]=0 by omega)) (I ?_)
    first|refine l8 e9 [ej l[k]] (eR (R:=e9) [ej l[k]] rfl) ?_|(refine lI [ej l[k]] (eR (R:=e9) [ej l[k]] rfl) ?_ (hn:=by simp) (hb:=by simp at iz ⊢;omega);refine ax 30 (.aN 4 6 0 ((vs++[ej l[k]]).length+1) ((vs++[ej l[k]]).length+1)) rfl (by simp) ?_)
    refine ag 31 ?_;refine b3 31 ((k+1:Nat):Int) ?_;refine dS 10 (.bb 2 cI gh l) rfl .bb ?_;refine I ?_
    first|exact aU [3] (k+1,w,[ej l[k]]) ⟨by omega,aE,yV.symm,eL,hc⟩ bo|exact aU [4] (k+1,w,v::(vs++[ej l[k]])) ⟨by omega,aE,yV.symm,eL,hc⟩ bo)
 ·have jv:k=l.length:=by omega
  subst jv;rw[zcn]at hc;rw[zaX]at jM;have hc:o3 w 0=fJ l:=hc;rcases hw with rfl|rfl
  ·have hc:0=fJ l:=hc;rcases vs with _|⟨v,vs⟩<;>(
    refine ag 13 ?_;refine v0 13 (show¬(l.length:Int)<(l.length:Int) by omega) (ag 35 ?_)
    try refine gq 35 ?_
    refine I ?_
    first|exact aM rfl (I3.trans (.of (by show ae.bM [.aZ 6 c2 e9 [],.i .i64 0]=ae.bM [.aZ 6 c2 e9 (iq l),.i .i64 (fJ l)];unfold iq;rw[<-hc,zab rfl,<-jM])))|exact aM rfl (.of (by show ae.bM [.aZ 6 c2 e9 (v::vs),.i .i64 0]=ae.bM [.aZ 6 c2 e9 (iq l),.i .i64 (fJ l)];unfold iq;rw[<-hc,zab rfl,<-jM])))
  ·have hc:7=fJ l:=hc;rcases vs with _|⟨v,vs⟩<;>(
    refine ag 13 ?_;refine v0 13 (show¬(l.length:Int)<(l.length:Int) by omega) (I ?_);exact aM rfl (by rw[hc];exact bad (by omega)))
def DA:bN where
 L:=ac bv
 args:=fun s=>[.s s]
 pre:=fun s=>s.length<=1048576
 res:=fun s=>.i .i64 (ed s)
def aks:bw a4.ctx 62 DA.spec:=by
 refine bZ [(47,Cd.spec)] Wh.1 ?_;intro(s:ac bv) af H aK;refine I ?_;refine aX Ke s af (I ?_);exact aM rfl (.refl _)
def MO:bw a4.ctx 147 DA.spec:=by
 refine bZ [(86,B1.spec)] UM.1 ?_;intro(s:ac bv) af H aK;refine I ?_;refine aX JL s af (I ?_);exact aM rfl (.refl _)
def l6:Int->ac Int->Bool
 |_,[]=>true
 |m,k::l=>decide (0<=k∧k<=m)&&l6 (m-k) l
def tB(n:Nat)(t:b5):Int:=if ed t.dN=0 then if l6 16 t.cp=true∧t.cp.length=n then 0 else 7 else ed t.dN
def pz(n:Nat):ac b5->Int
 |[]=>0
 |t::l=>if tB n t=0 then pz n l else tB n t
def lK(n:Nat)(l:ac b5):Int:=if 200<(l.length:Int)then 3 else pz n l
def qo(l:ac b5):Prop:=l.length<=1048576∧∀t,t∈l->t.dN.length<=1048576∧t.cp.length<=1048576
variable{x y:Rat}{t:b5}
def zR:bN where
 L:=ac b5×Nat
 args:=fun(l,n)=>[.bb 2 b5 c5 l,.i .i64 (n:Int)]
 pre:=fun(l,n)=>qo l∧n<=1048576
 res:=fun(l,n)=>.i .i64 (lK n l)
def ac0(h:ed t.dN≠0):tB n t=ed t.dN:=zaa h
def FL(h:ed t.dN=0)(h2:¬(l6 16 t.cp=true∧t.cp.length=n)):tB n t=7:=(zab h).trans (zaa h2)
def acZ(h:ed t.dN=0)(h2:l6 16 t.cp=true∧t.cp.length=n):tB n t=0:=(zab h).trans (zab h2)
def PL{m k:Int}{l:ac Int}:l6 m (k::l)=(decide (0<=k∧k<=m)&&l6 (m-k) l):=rfl
def atP:bw a4.ctx 46 zR.spec:=by
 refine bZ [(62,DA.spec)] V8.1 ?_;intro⟨l,n⟩ ⟨⟨(hl:l.length<=1048576),(af:∀t,t∈l->t.dN.length<=1048576∧t.cp.length<=1048576)⟩,(hn:n<=1048576)⟩ H aK;refine ag 13 ?_;by_cases h2:200<(l.length:Int)
 ·refine v1 13 h2 (I ?_);exact aM rfl (.of (by show ae.i .i64 3=ae.i .i64 (lK n l);unfold lK;rw[zab h2]))
 refine v0 13 h2 ?_;have fin:∀c,pz n l=c->bV (.i .i64 c) (zR.res (l,n)):=fun c h=>.of (by show _=ae.i .i64 (lK n l);unfold lK;rw[zaa h2,h]);refine I ?_;refine cw (L:=Nat) (fun k=>k<=l.length∧pz n (l.drop k)=pz n l) (fun k=>⟨[],0,[(0,.bb 2 b5 c5 l),(1,.i .i64 (n:Int)),(14,.bb 2 b5 c5 l),(15,.i .i64 (l.length:Int)),(16,.i .i64 (k:Nat))]⟩) (fun k=>l.length-k) [] 0 ⟨zac _,rfl⟩ (by show l.length-0<bc+1;unfold bc;omega) bo ?_;rintro(k:Nat) ⟨hk,av⟩;refine ag 17 ?_;by_cases aE:k<l.length
 case neg=>
  refine v0 17 (show¬(k:Int)<(l.length:Int) by omega) ?_;rw[zaY (by omega)]at av;refine I ?_;exact aM rfl (fin 0 av.symm)
 obtain⟨qN,yI⟩:=af l[k] (zas aE);rw[fP aE]at av;obtain⟨t,aF⟩:∃t,t=l[k]:=⟨_,rfl⟩;rw[<-aF]at av qN yI;have av:(if tB n t=0 then pz n (l.drop (k+1))else tB n t)=pz n l:=av;have cb:l≠[]:=fun e=>by rw[e]at aE;exact zbd _ aE
 refine v1 17 (show(k:Int)<(l.length:Int) by omega) ?_;refine dS 14 (.aZ 2 b5 c5 l) rfl (.ga cb) ?_;refine I ?_;refine db t (by rw[aF];exact bE aE) ?_;refine I ?_;refine aX aks t.dN qN (ag 24 ?_);by_cases he:ed t.dN=0
 case neg=>
  rw[ac0 he,zaa he]at av;refine v1 24 he (I ?_);exact aM rfl (fin _ av.symm)
 refine v0 24 (fc he) (I ?_);refine cw (L:=Nat×Int) (fun(j,m)=>j<=t.cp.length∧0<=m∧m<=16∧l6 m (t.cp.drop j)=l6 16 t.cp) (fun(j,m)=>⟨[.c 122 (c5 t)],1,[(0,.bb 2 b5 c5 l),(1,.i .i64 (n:Int)),(14,.aZ 2 b5 c5 l),(15,.i .i64 (l.length:Int)),(16,.i .i64 (k:Nat)),(6,.p 0 0),(8,.i .i64 m),(27,.bb 1 Int gv t.cp),(28,.i .i64 (t.cp.length:Int)),(29,.i .i64 (j:Nat))]⟩) (fun x=>t.cp.length-x.1) [0] (0,16) ⟨zac _,by decide,by decide,rfl⟩ (by show t.cp.length-0<bc+1;unfold bc;omega) bo ?_;rintro⟨j,m⟩ ⟨hj,aoF,jb,hp⟩;refine ag 30 ?_;by_cases iJ:j<t.cp.length
 case neg=>
  rw[zaY (by omega)]at hp;have hp:true=l6 16 t.cp:=hp;refine v0 30 (show¬(j:Int)<(t.cp.length:Int) by omega) (ag 48 ?_);by_cases pY:t.cp.length=n
  case neg=>
   rw[FL he (fun h=>pY h.2),zaa (by decide)]at av;refine v1 48 (show(t.cp.length:Int)≠(n:Int) by omega) (I ?_);exact aM rfl (fin _ av.symm)
  rw[acZ he ⟨hp.symm,pY⟩,zab rfl]at av;refine v0 48 (fc (show(t.cp.length:Int)=(n:Int) by omega)) (ag 49 ?_);refine b3 49 ((k+1:Nat):Int) ?_;refine dS 14 (.bb 2 b5 c5 l) rfl .bb ?_;refine I ?_;exact aU [] (k+1) ⟨by omega,aE,av⟩ bo
 have l0:t.cp≠[]:=fun e=>by rw[e]at iJ;exact zbd _ iJ
 rw[fP iJ,PL]at hp;refine v1 30 (show(j:Int)<(t.cp.length:Int) by omega) ?_;refine dS 27 (.aZ 1 Int gv t.cp) rfl (.ga l0) ?_;refine I ?_;refine db t.cp[j] (bE iJ) ?_;refine ag 34 ?_;by_cases yF:t.cp[j]<0
 ·rw[zai (by omega),zcp]at hp;rw[FL he (fun h=>by rw[<-hp]at h;cases h.1),zaa (by decide)]at av;refine v1 34 yF (I ?_);exact aM rfl (fin _ av.symm)
 refine v0 34 yF (ag 38 ?_);by_cases mT:m<t.cp[j]
 ·rw[zai (by omega),zcp]at hp;rw[FL he (fun h=>by rw[<-hp]at h;cases h.1),zaa (by decide)]at av;refine v1 38 mT (I ?_);exact aM rfl (fin _ av.symm)
 rw[zad (by omega),zbx]at hp;refine v0 38 mT (ag 42 ?_);refine b3 42 (m-t.cp[j]) (ag 43 ?_);refine b3 43 ((j+1:Nat):Int) ?_;refine dS 27 (.bb 1 Int gv t.cp) rfl .bb ?_;refine I ?_;exact aU [0] (j+1,m-t.cp[j]) ⟨by show t.cp.length-(j+1)<t.cp.length-j;omega,iJ,by omega,by omega,hp⟩ bo
def aqJ:bw a4.ctx 79 zR.spec:=by
 refine bZ [(147,DA.spec)] Wx.1 ?_;intro⟨l,n⟩ ⟨⟨(hl:l.length<=1048576),(af:∀t,t∈l->t.dN.length<=1048576∧t.cp.length<=1048576)⟩,(hn:n<=1048576)⟩ H aK;refine ag 12 ?_;by_cases h2:200<(l.length:Int)
 ·refine v1 12 h2 (I ?_);exact aM rfl (.of (by show ae.i .i64 3=ae.i .i64 (lK n l);unfold lK;rw[zab h2]))
 refine v0 12 h2 ?_;have fin:∀c,pz n l=c->bV (.i .i64 c) (zR.res (l,n)):=fun c h=>.of (by show _=ae.i .i64 (lK n l);unfold lK;rw[zaa h2,h]);refine I ?_;refine cw (L:=Nat) (fun k=>k<=l.length∧pz n (l.drop k)=pz n l) (fun k=>⟨[],0,[(0,.bb 2 b5 c5 l),(1,.i .i64 (n:Int)),(5,.i .i64 (k:Nat))]⟩) (fun k=>l.length-k) [] 0 ⟨zac _,rfl⟩ (by show l.length-0<bc+1;unfold bc;omega) bo ?_;rintro(k:Nat) ⟨hk,av⟩;refine ag 16 ?_;by_cases aE:k<l.length
 case neg=>
  refine v0 16 (show¬(k:Int)<(l.length:Int) by omega) ?_;rw[zaY (by omega)]at av;refine I ?_;exact aM rfl (fin 0 av.symm)
 obtain⟨qN,yI⟩:=af l[k] (zas aE);rw[fP aE]at av;obtain⟨t,aF⟩:∃t,t=l[k]:=⟨_,rfl⟩;have aO:l[k]? =some t:=by rw[aF];exact bE aE
 rw[<-aF]at av qN yI;have av:(if tB n t=0 then pz n (l.drop (k+1))else tB n t)=pz n l:=av;have cb:l≠[]:=fun e=>by rw[e]at aE;exact zbd _ aE
 refine v1 16 (show(k:Int)<(l.length:Int) by omega) ?_;refine dS 0 (.aZ 2 b5 c5 l) rfl (.ga cb) ?_;refine I ?_;refine db t aO ?_;refine I ?_;refine aX MO t.dN qN (ag 26 ?_);by_cases he:ed t.dN=0
 case neg=>
  rw[ac0 he,zaa he]at av;refine v1 26 he (I ?_);exact aM rfl (fin _ av.symm)
 refine v0 26 (fc he) (I ?_);refine db t aO ?_;refine ag 35 ?_;by_cases pY:t.cp.length=n
 case neg=>
  rw[FL he (fun h=>pY h.2),zaa (by decide)]at av;refine v1 35 (show(t.cp.length:Int)≠(n:Int) by omega) (I ?_);exact aM rfl (fin _ av.symm)
 refine v0 35 (fc (show(t.cp.length:Int)=(n:Int) by omega)) (I ?_);refine cw (L:=Nat×Int) (fun(j,s)=>j<=t.cp.length∧0<=s∧s<=16∧l6 (16-s) (t.cp.drop j)=l6 16 t.cp) (fun(j,s)=>⟨[],0,[(0,.aZ 2 b5 c5 l),(1,.i .i64 (n:Int)),(5,.i .i64 (k:Nat)),(7,.i .i64 s),(8,.i .i64 (j:Nat))]⟩) (fun x=>t.cp.length-x.1) [] (0,0) ⟨zac _,by decide,by decide,rfl⟩ (by show t.cp.length-0<bc+1;unfold bc;omega) bo ?_;rintro⟨j,s⟩ ⟨hj,av4,s1,hp⟩;refine ag 38 ?_;by_cases iJ:j<t.cp.length
 case neg=>
  rw[zaY (by omega)]at hp;have hp:true=l6 16 t.cp:=hp;rw[acZ he ⟨hp.symm,pY⟩,zab rfl]at av;refine v0 38 (show¬(j:Int)<(n:Int) by omega) (ag 18 ?_);refine b3 18 ((k+1:Nat):Int) ?_;refine dS 0 (.bb 2 b5 c5 l) rfl .bb ?_;refine I ?_;exact aU [] (k+1) ⟨by omega,aE,av⟩ bo
 have l0:t.cp≠[]:=fun e=>by rw[e]at iJ;exact zbd _ iJ
 rw[fP iJ,PL]at hp;have bad:¬(0<=t.cp[j]∧t.cp[j]<=16-s)->bV (.i .i64 7) (zR.res (l,n)):=fun h=>by
  rw[zai h,zcp]at hp;rw[FL he (fun h=>by rw[<-hp]at h;cases h.1),zaa (by decide)]at av;exact fin _ av.symm
 refine v1 38 (show(j:Int)<(n:Int) by omega) (I ?_);refine db t aO ?_;refine ag 45 ?_;refine dS 45 (.aZ 1 Int gv t.cp) rfl (.ga l0) ?_;refine I ?_;refine db t.cp[j] (bE iJ) ?_;refine ag 50 ?_;by_cases yF:t.cp[j]<0
 ·refine v1 50 yF (I ?_);exact aM rfl (bad (by omega))
 refine v0 50 yF (ag 53 ?_);by_cases uL:16<t.cp[j]
 ·refine v1 53 uL (I ?_);exact aM rfl (bad (by omega))
 refine v0 53 uL (ag 58 ?_);refine b3 58 (s+t.cp[j]) (ag 59 ?_);by_cases kl:16<s+t.cp[j]
 ·refine v1 59 kl (I ?_);exact aM rfl (bad (by omega))
 refine v0 59 kl ?_;rw[zad (by omega),zbx,show 16-s-t.cp[j]=16-(s+t.cp[j]) by omega]at hp;refine ag 63 ?_;refine b3 63 (s+t.cp[j]) (ag 40 ?_);refine b3 40 ((j+1:Nat):Int) (I ?_);exact aU [] (j+1,s+t.cp[j]) ⟨by show t.cp.length-(j+1)<t.cp.length-j;omega,iJ,by omega,by omega,hp⟩ bo
def tx:bN where
 L:=Rat×Rat
 args:=fun(x,y)=>[ca x,ca y]
 pre:=fun(x,y)=>dP 67108864 x∧dP 67108864 y
 res:=fun(x,y)=>ca (x*y)
def oU:bw a4.ctx 82 tx.spec:=by
 refine bZ [(89,B0.spec),(90,zB.spec),(148,xa.spec)] WA.1 ?_;intro⟨x,y⟩ ⟨(J:dP _ x),(ay:dP _ y)⟩ H aK;have acA:=Ch (x.num*y.num);have es:=Int.sign_mul x.num y.num;refine I ?_;refine bC sn (x.num.natAbs,y.num.natAbs) ⟨dW J.1,dW ay.1⟩ (I ?_);refine bC sm x trivial (I ?_);refine bC sm y trivial (I ?_);refine bC sn (x.den,y.den) ⟨dW J.2,dW ay.2⟩ (ag 9 ?_);refine dO 9 (.i .i64 (x.num*y.num).sign) rfl rfl (cS es.symm (by omega) (by omega)) ?_;refine I ?_;refine bC xb ((x.num*y.num).sign,x.num.natAbs*y.num.natAbs,x.den*y.den) ⟨acA.1,acA.2,dW (tw J.1 ay.1),dW (tw J.2 ay.2),zbZ x.den_nz y.den_nz⟩ (I ?_);refine aM rfl (.of (congrArg ca ?_));show mkRat _ _=x*y;rw[Rat.mul_def',<-zcA,zdu]
def aa4:bN where
 L:=Rat×Rat
 args:=fun(x,y)=>[ca x,ca y]
 pre:=fun(x,y)=>dP 268435456 x∧dP 268435456 y
 res:=fun(x,y)=>ca (pq x y)
def aa3:bN where
 L:=Rat×Rat
 args:=fun(x,y)=>[ca x,ca y]
 pre:=fun(x,y)=>dP 268435456 x∧dP 268435456 y
 res:=fun(x,y)=>ca (qa x y)
def Ql(h:x<y):¬y<x:=zcB.2 (Rat.le_of_lt h)
def Qm(h1:¬x<y)(h2:¬y<x):x=y:=by
 have a:=zcB.1 h1;have b:=zcB.1 h2;exact Rat.le_antisymm b a
def SY:iR x y<=0↔¬y<x:=by
 unfold iR;by_cases h:x<y
 ·rw[zab h];exact⟨fun _ aC=>Ql h aC,fun _=>by decide⟩
 ·rw[zaa h];by_cases aC:x=y
  ·rw[zab aC];exact⟨fun _=>aC▸zeV,fun _=>by decide⟩
  ·rw[zaa aC];exact⟨fun h=>absurd h (by decide),fun g=>absurd (Qm h g) aC⟩
def SX:0<=iR x y↔¬x<y:=by
 unfold iR;by_cases h:x<y
 ·rw[zab h];exact⟨fun h=>absurd h (by decide),fun g=>absurd h g⟩
 ·rw[zaa h];by_cases aC:x=y
  ·rw[zab aC];exact⟨fun _=>h,fun _=>by decide⟩
  ·rw[zaa aC];exact⟨fun _=>h,fun _=>by decide⟩
def aqA:bw a4.ctx 32 aa4.spec:=by
 refine bZ [(30,Fe.spec)] VY.1 ?_;intro⟨x,y⟩ hp H aK;refine I ?_;refine aX JN (x,y) hp (ag 8 ?_);by_cases h:y<x
 ·refine v0 8 (show¬iR x y<=0 from fun g=>SY.1 g h) (I ?_);exact aM rfl (.of (by show ca y=ca (pq x y);unfold pq;rw[zaa (Ql h)]))
 ·refine v1 8 (show iR x y<=0 from SY.2 h) (I ?_);exact aM rfl (.of (by
   show ca x=ca (pq x y);unfold pq;by_cases g:x<y
   ·rw[zab g]
   ·rw[zaa g,Qm g h]))
def aqz:bw a4.ctx 33 aa3.spec:=by
 refine bZ [(30,Fe.spec)] VZ.1 ?_;intro⟨x,y⟩ hp H aK;refine I ?_;refine aX JN (x,y) hp (ag 8 ?_);by_cases h:x<y
 ·refine v0 8 (show¬0<=iR x y from fun g=>SX.1 g h) (I ?_);exact aM rfl (.of (by show ca y=ca (qa x y);unfold qa;rw[zab h]))
 ·refine v1 8 (show 0<=iR x y from SX.2 h) (I ?_);exact aM rfl (.of (by show ca x=ca (qa x y);unfold qa;rw[zaa h]))
def gQ(x:c2):ac ae:=cN x.1++cN x.2
def aqx:ik [.i .i64 0,.nl,.nl,.i .i64 0,.nl,.nl] (gQ (0,0)):=by
 have h:ik [.i .i64 0,.nl,.nl] (cN 0):=⟨.refl _,bV.nl.trans (.of (by show dc []=dc (aT _ 0);rw[fL])),bV.nl,trivial⟩;exact⟨h.1,h.2.1,h.2.2.1,h⟩
def P1:bV (.bM [.agg [.i .i64 0,.nl,.nl,.i .i64 0,.nl,.nl],.i .i64 c]) (.bM [.agg (gQ (0,0)),.i .i64 c]):=.bM ⟨.agg aqx,.refl _,trivial⟩
def aaP(h:dE k n):eA (2*k) n:=ke (by decide) (zbL (u3 h) (by rw[zbk];exact zco (by decide) k))
def da(h:ba k x):dP (2*k) x:=⟨aaP h.1,aaP h.2⟩
def Zu(s:ac bv):dP 1000 (eE s):=cC (da (wO s))
def aaW:bN where
 L:=c2
 args:=fun x=>[ca x.1,ca x.2]
 pre:=fun x=>dP 1000 x.1∧dP 1000 x.2
 res:=fun x=>.bM [.agg (gQ (Br x)),.i .i64 (Bq x)]
def aqt:bw a4.ctx 87 aaW.spec:=by
 refine bZ [(30,Fe.spec)] WG.1 ?_;intro⟨x,y⟩ ⟨(J:dP 1000 x),(ay:dP 1000 y)⟩ H aK;refine I ?_;refine aX JN (x,y) ⟨cC J,cC ay⟩ (ag 9 ?_);by_cases h:y<x
 ·refine v1 9 (Az.2 h) (I ?_);exact aM rfl (P1.trans (.of (by show _=ae.bM [.agg (gQ (if y<x then _ else _)),.i .i64 (if y<x then _ else _)];rw[zab h,zab h])))
 ·refine v0 9 (fun aC=>h (Az.1 aC)) (I ?_);exact aM rfl (.of (by show _=ae.bM [.agg (gQ (if y<x then _ else _)),.i .i64 (if y<x then _ else _)];rw[zaa h,zaa h];rfl))
def P4:bN where
 L:=cI
 args:=fun s=>[.agg (gh s)]
 pre:=fun s=>s.1.length<=1048576∧s.2.length<=1048576
 res:=fun s=>.bM [.agg (gQ (ej s)),.i .i64 (eg s)]
def P5:bw a4.ctx 29 P4.spec:=by
 refine bZ [(86,B1.spec),(87,aaW.spec)] VT.1 ?_;intro⟨a,b⟩ ⟨(ha:a.length<=1048576),(hb:b.length<=1048576)⟩ H aK;refine I ?_;refine aX JL a ha (ag 14 ?_);by_cases h1:ed a=0
 case neg=>
  obtain⟨aq,e2⟩:=O7 (s:=(a,b)) h1;refine v1 14 h1 (I ?_);exact aM rfl (P1.trans (.of (by show _=ae.bM [.agg (gQ (ej (a,b))),.i .i64 (eg (a,b))];rw[aq,e2])))
 refine v0 14 (fc h1) (I ?_);refine aX JL b hb (ag 24 ?_);by_cases h2:ed b=0
 case neg=>
  obtain⟨aq,e2⟩:=O8 (s:=(a,b)) h1 h2;refine v1 24 h2 (I ?_);exact aM rfl (P1.trans (.of (by show _=ae.bM [.agg (gQ (ej (a,b))),.i .i64 (eg (a,b))];rw[aq,e2])))
 refine v0 24 (fc h2) (I ?_);obtain⟨aq,e2⟩:=O9 (s:=(a,b)) h1 h2;refine aX aqt (eE a,eE b) ⟨Zu a,Zu b⟩ (I ?_);exact aM rfl (.of (by show _=ae.bM [.agg (gQ (ej (a,b))),.i .i64 (eg (a,b))];rw[aq,e2];rfl))
def rm:ac cI->Int
 |[]=>0
 |s::l=>if eg s=0∨eg s=7 then rm l else eg s
def su:ac cI->Int
 |[]=>0
 |s::l=>if eg s=0 then su l else eg s
theorem adn:∀l,(rm l≠0->fJ l=rm l)∧(rm l=0->fJ l=su l∧(su l=0∨su l=7)∧∀s,s∈l->eg s=0∨eg s=7)
 |[]=>⟨fun h=>absurd rfl h,fun _=>⟨rfl,.inl rfl,fun s h=>by cases h⟩⟩
 |s::l=>by
  have h1:=O2 s;obtain⟨i1,i2⟩:=adn l;have hb:=As l;unfold rm;by_cases h:eg s=0∨eg s=7
  ·rw[zab h];have e:fJ (s::l)=o3 (eg s) (fJ l):=zaa (by omega);rw[e];refine⟨fun aF=> ?_,fun aF=> ?_⟩
   ·have:=i1 aF;rw[this]at hb;rw[this];unfold o3;split
    ·rfl
    ·rename_i h0;exfalso;have:rm l=7:=by omega
     exact adm l this
   ·obtain⟨Io,iA,tc⟩:=i2 aF;rw[Io];have T3:su (s::l)=if eg s=0 then su l else eg s:=rfl;refine⟨?_,?_,fun t hm=> ?_⟩
    ·rw[T3];unfold o3;rcases h with h|h<;>rcases iA with j|j<;>rw[h,j]<;>simp
    ·rw[T3];split<;>omega
    ·rcases zap.1 hm with rfl|hm
     ·exact h
     ·exact tc t hm
  ·rw[zaa h];have e:fJ (s::l)=eg s:=zab (by omega);exact⟨fun _=>e,fun h0=>absurd h0 (by omega)⟩
where
 adm:∀l,rm l≠7
  |[]=>by decide
  |s::l=>by
   unfold rm;split
   ·exact adm l
   ·omega
def PT:bN where
 L:=ac cI
 args:=fun l=>[.bb 2 cI gh l]
 pre:=fun l=>l.length<=1048576∧∀s,s∈l->s.1.length<=1048576∧s.2.length<=1048576
 res:=fun l=>.bM [.aZ 6 c2 gQ (iq l),.i .i64 (fJ l)]
def aql(l:ac cI)(k:Nat):ac c2->cr
 |[]=>⟨[],0,[(0,.bb 2 cI gh l),(7,.i .i64 (k:Int)),(6,.nl)]⟩
 |v::vs=>⟨[.a 94 true 6 c2 gQ (v::vs)],1,[(0,.bb 2 cI gh l),(7,.i .i64 (k:Int)),(6,.aN 0 6 0 (vs.length+1) (vs.length+1))]⟩
def apx{s:cI}:(ed s.1≠0->eg s=ed s.1∧¬(eg s=0∨eg s=7))∧(ed s.1=0->ed s.2≠0->eg s=ed s.2∧¬(eg s=0∨eg s=7))∧(ed s.1=0->ed s.2=0->eg s=0∨eg s=7):=by
 have h1:=G2 s.1;have h2:=G2 s.2;refine⟨fun h=> ?_,fun h aC=> ?_,fun h aC=> ?_⟩
 ·rw[(O7 h).1];omega
 ·rw[(O8 h aC).1];omega
 ·rw[(O9 h aC).1];unfold Bq;split<;>omega
def aqk:bw a4.ctx 78 PT.spec:=by
 refine bZ [(29,P4.spec),(147,DA.spec)] Ww.1 ?_;intro(l:ac cI) ⟨(hl:l.length<=1048576),(af:∀s,s∈l->s.1.length<=1048576∧s.2.length<=1048576)⟩ H aK;have bad:∀c,fJ l=c->c≠0->bV (.bM [.nl,.i .i64 c]) (PT.res l):=fun c h h0=>I3.trans (.of (by show _=ae.bM [.aZ 6 c2 gQ (iq l),.i .i64 (fJ l)];unfold iq;rw[h,zaa h0]));obtain⟨eF,z2⟩:=adn l;refine I ?_;refine cw (L:=Nat) (fun k=>k<=l.length∧rm (l.drop k)=rm l) (fun k=>⟨[],0,[(0,.bb 2 cI gh l),(4,.i .i64 (k:Nat))]⟩) (fun k=>l.length-k) [] 0 ⟨zac _,rfl⟩ (by show l.length-0<bc+1;unfold bc;omega) bo ?_;rintro(k:Nat) ⟨hk,av⟩;refine ag 13 ?_;by_cases aE:k<l.length
 ·have hm:=af l[k] (zas aE);rw[fP aE]at av;have av:(if eg l[k]=0∨eg l[k]=7 then rm (l.drop (k+1))else eg l[k])=rm l:=av;have cb:l≠[]:=fun e=>by rw[e]at aE;exact zbd _ aE
  obtain⟨t1,t2,t3⟩:=apx (s:=l[k]);have rg:=O2 l[k];refine v1 13 (show(k:Int)<(l.length:Int) by omega) ?_;refine dS 0 (.aZ 2 cI gh l) rfl (.ga cb) ?_;refine I ?_;refine db l[k] (bE aE) ?_;refine I ?_;refine aX MO l[k].1 hm.1 (ag 23 ?_);by_cases h1:ed l[k].1=0
  case neg=>
   obtain⟨aq,e2⟩:=t1 h1;rw[zaa e2,aq]at av;refine v0 23 h1 (ag 31 ?_);refine v1 31 h1 (I ?_);exact aM rfl (bad _ (by rw[av];exact eF (by omega)) h1)
  refine v1 23 h1 (I ?_);refine db l[k] (bE aE) ?_;refine I ?_;refine aX MO l[k].2 hm.2 (ag 31 ?_);by_cases h2:ed l[k].2=0
  case neg=>
   obtain⟨aq,e2⟩:=t2 h1 h2;rw[zaa e2,aq]at av;refine v1 31 h2 (I ?_);exact aM rfl (bad _ (by rw[av];exact eF (by omega)) h2)
  rw[zab (t3 h1 h2)]at av;refine v0 31 (fc h2) (ag 15 ?_);refine b3 15 ((k+1:Nat):Int) ?_;refine dS 0 (.bb 2 cI gh l) rfl .bb ?_;refine I ?_;exact aU [] (k+1) ⟨by omega,aE,av⟩ bo
 refine v0 13 (show¬(k:Int)<(l.length:Int) by omega) ?_;rw[zaY (by omega)]at av;obtain⟨fi,Rk,awe⟩:=z2 av.symm;refine I ?_;refine cw (L:=Nat×ac c2) (fun(k,vs)=>k<=l.length∧vs=(l.take k).map ej∧su (l.drop k)=su l) (fun(k,vs)=>aql l k vs) (fun x=>l.length-x.1) [] (0,[]) ⟨zac _,rfl,rfl⟩ (by show l.length-0<bc+1;unfold bc;omega) bo ?_;rintro⟨k,vs⟩ ⟨hk,jM,hc⟩;have iz:vs.length<=1048576:=by rw[jM,zbu,zay];omega
 by_cases aE:k<l.length
 ·have hm:=af l[k] (zas aE);rw[fP aE]at hc;have hc:(if eg l[k]=0 then su (l.drop (k+1))else eg l[k])=su l:=hc;have yV:(l.take (k+1)).map ej=vs++[ej l[k]]:=by rw[jM,<-zdy aE,zcg];rfl
  have cb:l≠[]:=fun e=>by rw[e]at aE;exact zbd _ aE
  by_cases bH:eg l[k]=0
  ·rw[zab bH]at hc;rcases vs with _|⟨v,vs⟩<;>(
    refine ag 36 ?_;refine v1 36 (show(k:Int)<(l.length:Int) by omega) ?_;refine dS 0 (.aZ 2 cI gh l) rfl (.ga cb) ?_;refine I ?_;refine db l[k] (bE aE) ?_;refine I ?_;refine aX P5 l[k] hm (ag 48 ?_);refine v0 48 (fc bH) (I ?_)
    first|refine l8 gQ [ej l[k]] (eR (R:=gQ) [ej l[k]] rfl) ?_|(refine lI [ej l[k]] (eR (R:=gQ) [ej l[k]] rfl) ?_ (hn:=by simp) (hb:=by simp at iz ⊢;omega);refine ax 53 (.aN 3 6 0 ((vs++[ej l[k]]).length+1) ((vs++[ej l[k]]).length+1)) rfl (by simp) ?_)
    refine ag 38 ?_;refine b3 38 ((k+1:Nat):Int) ?_;refine dS 0 (.bb 2 cI gh l) rfl .bb ?_;refine I ?_
    first|exact aU [2] (k+1,[ej l[k]]) ⟨by omega,aE,yV.symm,hc⟩ bo|exact aU [3] (k+1,v::(vs++[ej l[k]])) ⟨by omega,aE,yV.symm,hc⟩ bo)
  ·rw[zaa bH]at hc;rcases vs with _|⟨v,vs⟩<;>(
    refine ag 36 ?_;refine v1 36 (show(k:Int)<(l.length:Int) by omega) ?_;refine dS 0 (.aZ 2 cI gh l) rfl (.ga cb) ?_;refine I ?_;refine db l[k] (bE aE) ?_;refine I ?_;refine aX P5 l[k] hm (ag 48 ?_);refine v1 48 bH (I ?_);exact aM rfl (bad _ (by rw[hc,<-fi]) bH))
 ·have jv:k=l.length:=by omega
  subst jv;rw[zcn]at hc;rw[zaX]at jM;have hc:0=su l:=hc;rcases vs with _|⟨v,vs⟩<;>(
   refine ag 36 ?_;refine v0 36 (show¬(l.length:Int)<(l.length:Int) by omega) (ag 54 ?_)
   try refine gq 54 ?_
   refine I ?_
   first|exact aM rfl (I3.trans (.of (by show ae.bM [.aZ 6 c2 gQ [],.i .i64 0]=ae.bM [.aZ 6 c2 gQ (iq l),.i .i64 (fJ l)];unfold iq;rw[fi,<-hc,zab rfl,<-jM])))|exact aM rfl (.of (by show ae.bM [.aZ 6 c2 gQ (v::vs),.i .i64 0]=ae.bM [.aZ 6 c2 gQ (iq l),.i .i64 (fJ l)];unfold iq;rw[fi,<-hc,zab rfl,<-jM])))
def Ey{g:ci}:bV (.v (.func (.func g) #[] #[])) (.fn (.func g) [] []):=fun _ _ _ d=>⟨[],[],d,rfl,rfl⟩
def FH{l:ac α}(h:l.length*w<=Ac)(hw:1<=w:=by decide):l.length<=140737488355328:=zag (zci _ hw) h
def Mr(z w:Nat)(α:Type)(R:α->ac ae)(Q:α->Prop)(f:α->α->Bool):bN where
 L:=ac α×ac α
 args:=fun(a,b)=>[.bb z α R a,.bb z α R b]
 pre:=fun(a,_)=>mI w Q a
 res:=fun(a,b)=>.b (ho f a b)
def Sh:bN where
 L:=ac Int×ac Int
 args:=fun(a,b)=>[.bb 1 Int gv a,.bb 1 Int gv b]
 pre:=fun(a,b)=>a.length=b.length∧a.length*8<=Ac
 res:=fun(a,b)=>.i .i64 (qs a b)
def aeD:bw a4.ctx 260 Sh.spec:=by
 refine bZ [] VO.1 ?_;intro⟨a,b⟩ ⟨(hl:a.length=b.length),(af:a.length*8<=Ac)⟩ H aK;have et:=FH af;refine I ?_;refine cw (L:=Nat) (fun k=>k<=a.length∧qs (a.drop k) (b.drop k)=qs a b) (fun(k:Nat)=>⟨[],0,[(0,.bb 1 Int gv a),(1,.bb 1 Int gv b),(5,.i .i64 (k:Int))]⟩) (fun k=>a.length-k) [] 0 ⟨zac _,rfl⟩ yg eW ?_;rintro(k:Nat) ⟨hk,av⟩;refine ag 9 ?_;by_cases aE:k<a.length
 ·have kF:k<b.length:=by omega
  rw[fP aE,fP kF]at av;have av:(if a[k]<b[k]then(-1:Int)else if b[k]<a[k]then 1 else qs (a.drop (k+1)) (b.drop (k+1)))=qs a b:=av;refine v1 9 (show(k:Int)<(a.length:Int) by omega) ?_;refine dS 0 (.aZ 1 Int gv a) rfl (.ga (ne_of_lt aE)) ?_;refine dS 1 (.aZ 1 Int gv b) rfl (.ga (ne_of_lt kF)) ?_;refine I ?_;refine dp a[k] (bE aE) ?_;refine I ?_;refine dp b[k] (bE kF) ?_;refine ag 20 ?_;by_cases h1:a[k]<b[k]
  ·rw[zab h1]at av;refine hJ 20 h1 (I ?_);exact aM rfl (.of (by show ae.i .i64 (-1)= .i .i64 (qs a b);rw[av]))
  rw[zaa h1]at av;refine ij 20 h1 (I ?_);refine dp a[k] (bE aE) ?_;refine I ?_;refine dp b[k] (bE kF) ?_;refine ag 29 ?_;by_cases h2:b[k]<a[k]
  ·rw[zab h2]at av;refine hJ 29 h2 (I ?_);exact aM rfl (.of (by show ae.i .i64 1= .i .i64 (qs a b);rw[av]))
  rw[zaa h2]at av;refine ij 29 h2 (ag 11 ?_);refine b3 11 ((k+1:Nat):Int) ?_;refine dS 0 (.bb 1 Int gv a) rfl .bb ?_;refine dS 1 (.bb 1 Int gv b) rfl .bb ?_;refine I ?_;exact aU [] (k+1) ⟨by omega,aE,av⟩ eW
 ·refine v0 9 (show¬(k:Int)<(a.length:Int) by omega) ?_;rw[zaY (by omega),zaY (by omega)]at av;refine I ?_;exact aM rfl (.of (by show ae.i .i64 0= .i .i64 (qs a b);rw[<-av];rfl))
abbrev PQ:=Mr 2 40 b5 c5 K2 mi
def aqh:bw a4.ctx 207 PQ.spec:=by
 refine bZ [(260,Sh.spec)] Vp.1 ?_;intro⟨a,b⟩ (af:mI 40 K2 a) H aK;have et:=FH af.1;refine ag 10 ?_;by_cases hl:a.length=b.length
 case neg=>
  refine v1 10 (show(a.length:Int)≠(b.length:Int) by omega) (I ?_);exact aM rfl (.of (jU (AN hl).symm))
 refine v0 10 (fc (show(a.length:Int)=(b.length:Int) by omega)) (I ?_);refine cw (L:=Nat) (fun k=>k<=a.length∧ho mi (a.drop k) (b.drop k)=ho mi a b) (fun(k:Nat)=>⟨[],0,[(0,.bb 2 b5 c5 a),(1,.bb 2 b5 c5 b),(5,.i .i64 (k:Int))]⟩) (fun k=>a.length-k) [] 0 ⟨zac _,rfl⟩ yg eW ?_;rintro(k:Nat) ⟨hk,av⟩;refine ag 14 ?_;by_cases aE:k<a.length
 case neg=>
  refine v0 14 (show¬(k:Int)<(a.length:Int) by omega) ?_;rw[zaY (by omega),zaY (by omega)]at av;refine I ?_;exact aM rfl (.of (jU av))
 have kF:k<b.length:=by omega
 rw[fP aE,fP kF]at av;have av:(mi a[k] b[k]&&ho mi (a.drop (k+1)) (b.drop (k+1)))=ho mi a b:=av;have no:mi a[k] b[k]=false->bV (.b false) (PQ.res (a,b)):=fun h=>.of (jU (by rw[h]at av;exact av));refine v1 14 (show(k:Int)<(a.length:Int) by omega) ?_;refine dS 0 (.aZ 2 b5 c5 a) rfl (.ga (ne_of_lt aE)) ?_;refine dS 1 (.aZ 2 b5 c5 b) rfl (.ga (ne_of_lt kF)) ?_;refine I ?_;refine dp a[k] (bE aE) ?_;refine I ?_;refine dp b[k] (bE kF) ?_;refine ag 27 ?_;by_cases h1:a[k].dN=b[k].dN
 case neg=>
  refine dO 27 (.b true) rfl rfl (by rw[zaJ.2 h1];rfl) ?_;refine I ?_;exact aM rfl (no (by unfold mi;rw[zai h1];rfl))
 refine dO 27 (.b false) rfl rfl (by rw[h1,zbT];rfl) ?_;refine I ?_;refine dp a[k] (bE aE) ?_;refine I ?_;refine dp b[k] (bE kF) ?_;refine ag 41 ?_;by_cases h2:a[k].cp.length=b[k].cp.length
 case neg=>
  refine hJ 41 (show(a[k].cp.length:Int)≠(b[k].cp.length:Int) by omega) (I ?_);exact aM rfl (no (by unfold mi;rw[zad h1,AN h2];rfl))
 refine ij 41 (fc (show(a[k].cp.length:Int)=(b[k].cp.length:Int) by omega)) (I ?_);refine dp a[k] (bE aE) ?_;refine I ?_;refine dp b[k] (bE kF) ?_;refine I ?_;refine bC aeD (a[k].cp,b[k].cp) ⟨h2,af.get aE⟩ (ag 55 ?_);by_cases ab:qs a[k].cp b[k].cp=0
 case neg=>
  refine v1 55 ab (I ?_);exact aM rfl (no (by
   unfold mi;rw[zad h1,eq_false_of_ne_true (fun h=>ab ((Lt h2).2 h))];rfl))
 refine v0 55 (fc ab) ?_;rw[show mi a[k] b[k]=true by unfold mi;rw[zad h1,(Lt h2).1 ab];rfl,zbx]at av;refine ag 16 ?_;refine b3 16 ((k+1:Nat):Int) ?_;refine dS 0 (.bb 2 b5 c5 a) rfl .bb ?_;refine dS 1 (.bb 2 b5 c5 b) rfl .bb ?_;refine I ?_;exact aU [] (k+1) ⟨by omega,aE,av⟩ eW
abbrev PO:=Mr 3 48 eG ez vO mO
def aaL:bw a4.ctx 168 PO.spec:=by
 refine bZ [(207,PQ.spec)] U8.1 ?_;intro⟨a,b⟩ (af:mI 48 vO a) H aK;have et:=FH af.1;refine ag 10 ?_;by_cases hl:a.length=b.length
 case neg=>
  refine v1 10 (show(a.length:Int)≠(b.length:Int) by omega) (I ?_);exact aM rfl (.of (jU (AN hl).symm))
 refine v0 10 (fc (show(a.length:Int)=(b.length:Int) by omega)) (I ?_);refine cw (L:=Nat) (fun k=>k<=a.length∧ho mO (a.drop k) (b.drop k)=ho mO a b) (fun(k:Nat)=>⟨[],0,[(0,.bb 3 eG ez a),(1,.bb 3 eG ez b),(5,.i .i64 (k:Int))]⟩) (fun k=>a.length-k) [] 0 ⟨zac _,rfl⟩ yg eW ?_;rintro(k:Nat) ⟨hk,av⟩;refine ag 14 ?_;by_cases aE:k<a.length
 case neg=>
  refine v0 14 (show¬(k:Int)<(a.length:Int) by omega) ?_;rw[zaY (by omega),zaY (by omega)]at av;refine I ?_;exact aM rfl (.of (jU av))
 have kF:k<b.length:=by omega
 rw[fP aE,fP kF]at av;have av:(mO a[k] b[k]&&ho mO (a.drop (k+1)) (b.drop (k+1)))=ho mO a b:=av;have no:mO a[k] b[k]=false->bV (.b false) (PO.res (a,b)):=fun h=>.of (jU (by rw[h]at av;exact av));refine v1 14 (show(k:Int)<(a.length:Int) by omega) ?_;refine dS 0 (.aZ 3 eG ez a) rfl (.ga (ne_of_lt aE)) ?_;refine dS 1 (.aZ 3 eG ez b) rfl (.ga (ne_of_lt kF)) ?_;refine I ?_;refine dp a[k] (bE aE) ?_;refine I ?_;refine dp b[k] (bE kF) ?_;refine ag 27 ?_;by_cases h1:a[k].dN=b[k].dN
 case neg=>
  refine dO 27 (.b true) rfl rfl (by rw[zaJ.2 h1];rfl) ?_;refine I ?_;exact aM rfl (no (by unfold mO;rw[zai h1];rfl))
 refine dO 27 (.b false) rfl rfl (by rw[h1,zbT];rfl) ?_;refine I ?_;refine dp a[k] (bE aE) ?_;refine I ?_;refine dp b[k] (bE kF) ?_;refine ag 39 ?_;by_cases h2:a[k].dQ=b[k].dQ
 case neg=>
  refine hJ 39 h2 (I ?_);exact aM rfl (no (by unfold mO;rw[zad h1,zai h2];rfl))
 refine ij 39 (fc h2) (I ?_);refine dp a[k] (bE aE) ?_;refine I ?_;refine dp b[k] (bE kF) ?_;refine I ?_;refine bC aqh (a[k].w5,b[k].w5) (af.get aE) ?_;cases ab:ho mi a[k].w5 b[k].w5 with
 |false=>
  refine ev 52 ab (I ?_);exact aM rfl (no (by unfold mO;rw[zad h1,zad h2,ab];rfl))
 |true=>
 refine ev 52 ab ?_;rw[show mO a[k] b[k]=true by unfold mO;rw[zad h1,zad h2,ab];rfl,zbx]at av;refine ag 16 ?_;refine b3 16 ((k+1:Nat):Int) ?_;refine dS 0 (.bb 3 eG ez a) rfl .bb ?_;refine dS 1 (.bb 3 eG ez b) rfl .bb ?_;refine I ?_;exact aU [] (k+1) ⟨by omega,aE,av⟩ eW
abbrev PN:=Mr 6 104 me oj F8 lu
def aaI:bw a4.ctx 103 PN.spec:=by
 refine bZ [(168,PO.spec)] Uv.1 ?_;intro⟨a,b⟩ (af:mI 104 F8 a) H aK;have et:=FH af.1;refine ag 12 ?_;by_cases hl:a.length=b.length
 case neg=>
  refine v1 12 (show(a.length:Int)≠(b.length:Int) by omega) (I ?_);exact aM rfl (.of (jU (AN hl).symm))
 refine v0 12 (fc (show(a.length:Int)=(b.length:Int) by omega)) (I ?_);refine cw (L:=Nat) (fun k=>k<=a.length∧ho lu (a.drop k) (b.drop k)=ho lu a b) (fun(k:Nat)=>⟨[],0,[(0,.bb 6 me oj a),(1,.bb 6 me oj b),(5,.i .i64 (k:Int))]⟩) (fun k=>a.length-k) [] 0 ⟨zac _,rfl⟩ yg eW ?_;rintro(k:Nat) ⟨hk,av⟩;refine ag 16 ?_;by_cases aE:k<a.length
 case neg=>
  refine v0 16 (show¬(k:Int)<(a.length:Int) by omega) ?_;rw[zaY (by omega),zaY (by omega)]at av;refine I ?_;exact aM rfl (.of (jU av))
 have kF:k<b.length:=by omega
 rw[fP aE,fP kF]at av;have av:(lu a[k] b[k]&&ho lu (a.drop (k+1)) (b.drop (k+1)))=ho lu a b:=av;have no:lu a[k] b[k]=false->bV (.b false) (PN.res (a,b)):=fun h=>.of (jU (by rw[h]at av;exact av));refine v1 16 (show(k:Int)<(a.length:Int) by omega) ?_;refine dS 0 (.aZ 6 me oj a) rfl (.ga (ne_of_lt aE)) ?_;refine dS 1 (.aZ 6 me oj b) rfl (.ga (ne_of_lt kF)) ?_;refine I ?_;refine dp a[k] (bE aE) ?_;refine I ?_;refine dp b[k] (bE kF) ?_;refine ag 31 ?_;by_cases h1:a[k].Fw=b[k].Fw
 case neg=>
  refine v1 31 h1 (I ?_);exact aM rfl (no (by unfold lu;rw[zai h1];rfl))
 refine v0 31 (fc h1) (ag 37 ?_);by_cases h2:a[k].lo=b[k].lo
 case neg=>
  refine ax 37 (.b true) rfl (by rw[zaJ.2 h2];rfl) (I ?_);exact aM rfl (no (by unfold lu;rw[zad h1,zai h2];rfl))
 refine ax 37 (.b false) rfl (by rw[h2,zbT];rfl) (ag 44 ?_);by_cases ab:a[k].aa=b[k].aa
 case neg=>
  refine ax 44 (.b true) rfl (by rw[zaJ.2 ab];rfl) (I ?_);exact aM rfl (no (by unfold lu;rw[zad h1,zad h2,zai ab];rfl))
 refine ax 44 (.b false) rfl (by rw[ab,zbT];rfl) (ag 51 ?_);by_cases aD:a[k].err=b[k].err
 case neg=>
  refine ax 51 (.b true) rfl (by rw[zaJ.2 aD];rfl) (I ?_);exact aM rfl (no (by unfold lu;rw[zad h1,zad h2,zad ab,zai aD];rfl))
 refine ax 51 (.b false) rfl (by rw[aD,zbT];rfl) (I ?_);refine aX aaL (a[k].low,b[k].low) (af.get aE).1 ?_;cases aH:ho mO a[k].low b[k].low with
 |false=>
  refine ev 58 aH (I ?_);exact aM rfl (no (by unfold lu;rw[zad h1,zad h2,zad ab,zad aD,aH];rfl))
 |true=>
 refine ev 58 aH (I ?_);refine aX aaL (a[k].high,b[k].high) (af.get aE).2 ?_;cases aI:ho mO a[k].high b[k].high with
 |false=>
  refine ev 66 aI (I ?_);exact aM rfl (no (by unfold lu;rw[zad h1,zad h2,zad ab,zad aD,aH,aI];rfl))
 |true=>
 refine ev 66 aI ?_;rw[show lu a[k] b[k]=true by unfold lu;rw[zad h1,zad h2,zad ab,zad aD,aH,aI];rfl,zbx]at av;refine ag 18 ?_;refine b3 18 ((k+1:Nat):Int) ?_;refine dS 0 (.bb 6 me oj a) rfl .bb ?_;refine dS 1 (.bb 6 me oj b) rfl .bb ?_;refine I ?_;exact aU [] (k+1) ⟨by omega,aE,av⟩ eW
def JP:bN where
 L:=Ag×Ag
 args:=fun(x,y)=>[.agg (E2 x),.agg (E2 y)]
 pre:=fun(x,_)=>RB x
 res:=fun(x,y)=>.b (rM x y)
def aqG:bw a4.ctx 39 JP.spec:=by
 refine bZ [(103,PN.spec)] V5.1 ?_;intro⟨x,y⟩ (af:mI 80 CI x.fu) H aK;have et:=FH af.1;have zn:rM x y=false->bV (.b false) (JP.res (x,y)):=fun h=>.of (jU h.symm);refine ag 12 ?_;by_cases h1:x.lo=y.lo
 case neg=>
  refine ax 12 (.b true) rfl (by rw[zaJ.2 h1];rfl) (I ?_);exact aM rfl (zn (by unfold rM;rw[zai h1];rfl))
 refine ax 12 (.b false) rfl (by rw[h1,zbT];rfl) (ag 18 ?_);by_cases h2:x.aa=y.aa
 case neg=>
  refine ax 18 (.b true) rfl (by rw[zaJ.2 h2];rfl) (I ?_);exact aM rfl (zn (by unfold rM;rw[zad h1,zai h2];rfl))
 refine ax 18 (.b false) rfl (by rw[h2,zbT];rfl) (ag 25 ?_);by_cases ab:x.err=y.err
 case neg=>
  refine ax 25 (.b true) rfl (by rw[zaJ.2 ab];rfl) (I ?_);exact aM rfl (zn (by unfold rM;rw[zad h1,zad h2,zai ab];rfl))
 refine ax 25 (.b false) rfl (by rw[ab,zbT];rfl) (ag 34 ?_);by_cases hl:x.fu.length=y.fu.length
 case neg=>
  refine v1 34 (show(x.fu.length:Int)≠(y.fu.length:Int) by omega) (I ?_);exact aM rfl (zn (by unfold rM;rw[zad h1,zad h2,zad ab,AN hl];rfl))
 refine v0 34 (fc (show(x.fu.length:Int)=(y.fu.length:Int) by omega)) ?_;have eZ:rM x y=ho kg x.fu y.fu:=by unfold rM;rw[zad h1,zad h2,zad ab];rfl
 clear h1 h2 ab;refine I ?_;refine cw (L:=Nat) (fun k=>k<=x.fu.length∧ho kg (x.fu.drop k) (y.fu.drop k)=ho kg x.fu y.fu) (fun(k:Nat)=>⟨[.c 108 (E2 x),.c 108 (E2 y)],2,[(2,.p 0 0),(3,.p 1 0),(5,.i .i64 (k:Int))]⟩) (fun k=>x.fu.length-k) [0,1] 0 ⟨zac _,rfl⟩ yg xp ?_;rintro(k:Nat) ⟨hk,av⟩;rw[<-eZ]at av;refine ag 40 ?_;by_cases aE:k<x.fu.length
 case neg=>
  refine v0 40 (show¬(k:Int)<(x.fu.length:Int) by omega) ?_;rw[zaY (by omega),zaY (by omega)]at av;refine I ?_;exact aM rfl (.of (jU av))
 have kF:k<y.fu.length:=by omega
 rw[fP aE,fP kF]at av;have av:(kg x.fu[k] y.fu[k]&&ho kg (x.fu.drop (k+1)) (y.fu.drop (k+1)))=rM x y:=av;have no:kg x.fu[k] y.fu[k]=false->bV (.b false) (JP.res (x,y)):=fun h=>.of (jU (by rw[h]at av;exact av));refine v1 40 (show(k:Int)<(x.fu.length:Int) by omega) (I ?_);refine dp x.fu[k] (bE aE) ?_;refine I ?_;refine dp y.fu[k] (bE kF) ?_;refine ag 57 ?_;by_cases h1:x.fu[k].kind=y.fu[k].kind
 case neg=>
  refine v1 57 h1 (I ?_);exact aM rfl (no (by unfold kg;rw[zai h1];rfl))
 refine v0 57 (fc h1) (ag 63 ?_);by_cases h2:x.fu[k].dQ=y.fu[k].dQ
 case neg=>
  refine v1 63 h2 (I ?_);exact aM rfl (no (by unfold kg;rw[zad h1,zai h2];rfl))
 refine v0 63 (fc h2) (ag 70 ?_);by_cases ab:x.fu[k].cut=y.fu[k].cut
 case neg=>
  refine ax 70 (.b true) rfl (by rw[zaJ.2 ab];rfl) (I ?_);exact aM rfl (no (by unfold kg;rw[zad h1,zad h2,zai ab];rfl))
 refine ax 70 (.b false) rfl (by rw[ab,zbT];rfl) (I ?_);refine aX aaI (x.fu[k].fj,y.fu[k].fj) (af.get aE).1 ?_;cases aH:ho lu x.fu[k].fj y.fu[k].fj with
 |false=>
  refine ev 77 aH (I ?_);exact aM rfl (no (by unfold kg;rw[zad h1,zad h2,zad ab,aH];rfl))
 |true=>
 refine ev 77 aH (I ?_);refine aX aaI (x.fu[k].st,y.fu[k].st) (af.get aE).2 ?_;cases aI:ho lu x.fu[k].st y.fu[k].st with
 |false=>
  refine ev 85 aI (I ?_);exact aM rfl (no (by unfold kg;rw[zad h1,zad h2,zad ab,aH,aI];rfl))
 |true=>
 refine ev 85 aI ?_;rw[show kg x.fu[k] y.fu[k]=true by unfold kg;rw[zad h1,zad h2,zad ab,aH,aI];rfl,zbx,eZ]at av;refine ag 42 ?_;refine b3 42 ((k+1:Nat):Int) (I ?_);exact aU [0,1] (k+1) ⟨by omega,aE,av⟩ xp
