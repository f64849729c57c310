/- What the functions of the program and of the document compute, for every input (part 3); conditions as in the statements. -/
import Derived.Test.YtoepefenkpijoaaGreatDoorX
import Derived.Test.YtoepefenkpijoaaGreatDoorC2
import Derived.Test.YtoepefenkpijoaaGreatDoorS2
set_option linter.all false
namespace Go.ar.a9
open Go.ar
set_option maxRecDepth 100000
set_option maxHeartbeats 4000000
def abA:bD where
 L:=ac bv
 args:=fun s=>[.s s]
 pre:=fun s=>jW s∧s.length<=2100
 res:=fun s=>dq (b7 s)
def zm(v:Nat)(rest:ac bv):ac bj:=[.c 58 [dq v],.c 9 [.s rest]]
def Ey{v k K:Nat}(h:v<10^k)(ab:k<=K):ev K v:=Bf (fM h (zag (zdc (by decide) k) (zaJ (by decide) ab)))
def vk:ci->eY:=b5 [(167,BB.spec),(159,IG.spec),(253,KZ.spec)]
def PO:bl aT.ctx 166 abA.spec:=by
 refine ago aT.dY eR vk (xf:=T0.1) (by kernel_rfl) (fun l vs st ⟨_,_,_,d⟩=>by rw[h9 d];exact jF rfl) ?_;rintro⟨s,H⟩ vs st ⟨⟨ea,ah⟩,_,aw,aA⟩;have ea:jW s:=ea;have ah:s.length<=2100:=ah;have aw:Fit H [] st [] 0:=aw;have aA:de H [.s s] [] vs:=aA;have ae:=c9.zero aA;obtain⟨dC,cu,H1,XT,aC,QA,rm,f1,n1⟩:=seg (call:=b9 aZ (cg aT.ctx vk) (bV+1)) (b4:=bV+1) (fn:=166) (ops:=[C.m 2 C.bw]) (s:=⟨[],0,mA 0 [.s s]⟩) (t:=⟨[],0,[(2,.nl),(0,.s s)]⟩) rfl (by
  intro H1 i1 s1 _ _;refine I ?_;exact eP ⟨rfl,rfl⟩) aw ae
 obtain⟨lb,ch,KG,awY,e2,QB,jG,f2,qj⟩:=seg (call:=b9 aZ (cg aT.ctx vk) (bV+1)) (b4:=bV+1) (fn:=166) (ops:=[C.hX 3 [C.N] 58]) (s:=⟨[],0,[(2,.nl),(0,.s s)]⟩) (t:=⟨[.c 58 [dq 0]],1,[(3,.p 0 0),(2,.nl),(0,.s s)]⟩) rfl (by
  intro H1 i1 s1 _ _
  iterate 1 refine gZ ?_
  refine arM 0 (cs:=[.nl]) [dq 0] ⟨bS.nl.trans (.of (by show dg []=dg (aY _ 0);rw[gE])),trivial⟩ ?_;refine I ?_;exact eP ⟨rfl,rfl⟩) rm f1
 obtain⟨wq,fk,sz,sZ,b3,QC,QD,f3,vf⟩:=seg (call:=b9 aZ (cg aT.ctx vk) (bV+1)) (b4:=bV+1) (fn:=166) (ops:=[C.m 6 0,C.c 7 277 [6]]) (s:=⟨[.c 58 [dq 0]],1,[(3,.p 0 0),(2,.nl),(0,.s s)]⟩) (t:=⟨zm 0 s,2,[(7,.fn (.func 368) [] [.p 1 0]),(6,.s s),(3,.p 0 0),(2,.nl),(0,.s s)]⟩) rfl (by
  intro H1 i1 s1 _ _;refine I ?_;refine zl UR.1 (by kernel_rfl) ?_;intro KG i2 s2 _ _;refine I ?_;refine eP ⟨.inr rfl,_,rfl,?_⟩;refine I ?_;exact eP ⟨rfl,rfl⟩) jG f2
 have qQ:wq.b0=none:=vf.trans (qj.trans n1);obtain⟨qD,xv,adJ,aw8,fo,t4,d4,uR,adH,QE,aqL,cf,q0,aeY⟩:=avE (X:=aT.ctx) (aZ:=aZ) (bY:=vk) (b4:=bV+1) (n:=4611686018427387902) (fn:=166) qQ QD f3 (f:=7) (ps:=[8,9]) (dB:=C.q (C.R [C.m 4 8]) (C.R [C.m 5 9])) (body:=C.K 1 (.rH [C.D (C.m 11 5) [5],C.D (C.hY 12 .u64 11) [11],C.E (C.c 13 167 [12]),C.KD (C.l 10 3) 1 [3],C.E (C.c 14 159 [10,13]),C.KD (C.m 15 4) 2 [4],C.KD (C.hY 16 .u64 15) 2 [15],C.E (C.c 17 167 [16]),C.E (C.c 18 253 [14,17]),C.E (C.st 1 3 18)] [1,2,3,0,4,5,6,7,8,9] [10,15,16] [0,1,3,0,15,0,32,127,255,511])) (g:=368) (xf:=Vx.1) (caps:=[.p 1 0]) (fun o=>o=zm (b7 s) []) (by kernel_rfl) rfl rfl (jF rfl) (by
  intro s1 l hlen kl p5 hv DE aW;have hlen:sZ.length=2:=hlen;refine I ?_;refine cN (L:=ac bv×Nat) (fun(rest,v)=>jW rest∧rest.length<=s.length∧v<10^(s.length-rest.length)∧b7 s=b7 rest+10^rest.length*v) (fun(rest,v)=>⟨zm v rest,2,[(0,.v (.func (.yield l) #[] #[])),(1,.p 1 0)]⟩) (fun l=>l.1.length) [0,1] (s,0) ⟨ea,b8 _,by simp,by simp⟩ (by show List.length s<4611686018427387904;omega) (pz ⟨rfl,rfl,trivial⟩ ⟨_,rfl,rfl⟩ ⟨_,rfl,rfl⟩ (hp:=by show pinned sZ.length _ _=_;rw[hlen];rfl)) ?_;rintro⟨rest,v⟩ ⟨g1,aM,bc,cf⟩;refine I ?_;refine cA (fun aE=> ?_) (fun aE=> ?_)
  ·have aE:0<rest.length:=by omega
   refine I ?_;refine pw (L:=ac bv×ac bv) (fun(w,dV)=>rest=w++dV∧w.length<=9∧w≠[]) (fun(w,dV)=>⟨zm v dV,2,[(0,.v (.func (.yield l) #[] #[])),(1,.p 1 0),(3,.i .u32 (b7 w:Nat)),(4,.i .u32 ((10^w.length:Nat):Int))]⟩) ?_ ?_
   ·refine cN (L:=ac bv×ac bv) (fun(w,dV)=>rest=w++dV∧w.length<=9) (fun(w,dV)=>⟨zm v dV,2,[(0,.v (.func (.yield l) #[] #[])),(1,.p 1 0),(3,.i .u32 (b7 w:Nat)),(4,.i .u32 ((10^w.length:Nat):Int)),(5,.i .i64 (w.length:Nat))]⟩) (fun l=>9-l.1.length) [0,1] ([],rest) ⟨rfl,by decide⟩ (by show 9-0<4611686018427387904;decide) (pz ⟨rfl,rfl,rfl,rfl,rfl,trivial⟩ ⟨_,rfl,rfl⟩ ⟨_,rfl,rfl⟩ (hp:=by show pinned sZ.length _ _=_;rw[hlen];rfl)) ?_;rintro⟨w,dV⟩ ⟨ba,bx⟩;have hw:jW w:=fun c hc=>g1 c (by rw[ba];exact zcV _ hc);have Ej:=sl hw;refine aq 11 ?_;by_cases iZ:w.length<9
    ·refine ax 11 (.b true) rfl (congrArg aj.b (zac (by omega))) ?_;cases dV with
     |nil=>
      refine I ?_;exact bf [0,1] (w,[]) ⟨ba,bx,fun e=>by rw[e]at ba;rw[ba]at aE;simp at aE⟩ (pz ⟨rfl,rfl,rfl,rfl,trivial⟩ ⟨_,rfl,rfl⟩ ⟨_,rfl,rfl⟩ (hp:=by show pinned sZ.length _ _=_;rw[hlen];rfl))
     |cons c dV=>
      have hc:=g1 c (by rw[ba];simp);have yA:10^w.length<=100000000:=zag (zaJ (by decide) (show w.length<=8 by omega)) (by decide);have wL:=PJ w c;have j4:10^(w++[c]).length=10*10^w.length:=by rw[zay,List.length_singleton,zal,zam]
      refine aq 15 ?_;refine ax 15 (.b true) rfl (by simp) (I ?_);refine nu c (j:=0) rfl ?_;have ahh:(c.toNat+(256*48-48))%256=c.toNat-48:=by omega
      have ahi:(10*b7 w%4294967296+(c.toNat-48)%4294967296)%4294967296=b7 (w++[c]):=by rw[wL];generalize b7 w=x at *;generalize 10^w.length=P at *;omega
      have Dg:10*10^w.length%4294967296=10^(w++[c]).length:=by rw[j4];generalize 10^w.length=P at *;omega
      refine aq 22 ?_;refine ax 22 (.i .u8 ((c.toNat-48:Nat):Int)) rfl (congrArg (fun n:Nat=>aj.i .u8 (n:Int)) ahh) (aq 24 ?_);refine ax 24 (.i .u32 (b7 (w++[c]):Nat)) rfl (congrArg (fun n:Nat=>aj.i .u32 (n:Int)) ahi) (aq 26 ?_);refine ax 26 (.i .u32 ((10^(w++[c]).length:Nat):Int)) rfl (congrArg (fun n:Nat=>aj.i .u32 (n:Int)) Dg) (I ?_);refine sk (p:=1) dV ?_ (hp:=by simp) (hq:=by simp);refine I ?_;exact bf [0,1] (w++[c],dV) ⟨by simp;omega,by rw[ba];simp,by simp;omega⟩ (pz ⟨rfl,rfl,rfl,rfl,congrArg (fun n=>some (aj.i .i64 n)) (vz (by simp) (by omega) (by omega)),trivial⟩ ⟨_,rfl,rfl⟩ ⟨_,rfl,rfl⟩ (hp:=by show pinned sZ.length _ _=_;rw[hlen];rfl))
    ·refine ax 11 (.b false) rfl (congrArg aj.b (zad (by omega))) (I ?_);exact bf [0,1] (w,dV) ⟨ba,bx,fun e=>by rw[e]at iZ;simp at iZ⟩ (pz ⟨rfl,rfl,rfl,rfl,trivial⟩ ⟨_,rfl,rfl⟩ ⟨_,rfl,rfl⟩ (hp:=by show pinned sZ.length _ _=_;rw[hlen];rfl))
   rintro⟨w,dV⟩ ⟨ba,bx,dE⟩;refine I ?_;have hw:jW w:=fun c hc=>g1 c (by rw[ba];exact zcV _ hc);have Ej:=sl hw;have yA:10^w.length<=1000000000:=zag (zaJ (by decide) bx) (by decide);have Xl:rest.length=w.length+dV.length:=by rw[ba,zay]
   have rZ:b7 rest=b7 dV+10^dV.length*b7 w:=by rw[ba,PH]
   have H3:v*10^w.length+b7 w<10^(s.length-dV.length):=by
    rw[show s.length-dV.length=(s.length-rest.length)+w.length by omega,zar];refine fM (Nat.add_lt_add_left Ej _) ?_;rw[<-zcK];exact iq _ bc
   have uF:b7 s=b7 dV+10^dV.length*(v*10^w.length+b7 w):=by
    rw[cf,rZ,Xl,zar,zaH];rw[zam (10^w.length) (10^dV.length),zax,zam (10^w.length) v];omega
   have Ob:ev 2100 v:=Ey bc (by omega);have YB:ev 2100 (10^w.length):=Ey (k:=w.length+1) (Nat.pow_lt_pow_right (by decide) (zbo _)) (by omega);have lw:ev 2100 (b7 w):=Ey Ej (by omega);have alH:10^w.length%18446744073709551616=10^w.length:=gP (zbq yA (by decide));have alJ:b7 w%18446744073709551616=b7 w:=gP (fM Ej (zag yA (by decide)));refine ar6 kl p5 hv DE aW (e2:=[(5,.i .u32 ((10^w.length:Nat):Int)),(4,.i .u32 (b7 w:Nat)),(9,.i .u32 ((10^w.length:Nat):Int)),(8,.i .u32 (b7 w:Nat)),(7,.fn (.func 368) [] [.p 1 0]),(6,.s s),(3,.p 0 0),(2,.nl),(0,.s s)]) ?_ ?_
   ·intro adK i5 asJ;refine I ?_;exact eP ⟨rfl,rfl⟩
   ·intro adK i5 asJ Xc _;have Xc:i5.length=2:=Xc;refine aq 12 ?_;refine di 12 (.i .u64 ((10^w.length:Nat):Int)) rfl rfl (congrArg (fun n:Nat=>aj.i .u64 (n:Int)) alH) ?_;refine bQ u6 (10^w.length:Nat) (zbq yA (by decide)) (I ?_);refine bQ Bq (v,10^w.length) ⟨dT Ob (by decide),dT YB (by decide)⟩ (aq 16 ?_);refine di 16 (.i .u64 (b7 w:Nat)) rfl rfl (congrArg (fun n:Nat=>aj.i .u64 (n:Int)) alJ) ?_;refine bQ u6 (b7 w) (fM Ej (zag yA (by decide))) ?_;refine bQ QP (v*10^w.length,b7 w) ⟨dT (oF Ob YB) (by decide),dT lw (by decide)⟩ (I ?_);refine eP ⟨rfl,zm (v*10^w.length+b7 w) dV,[0,1],rfl,pz trivial ⟨_,rfl,rfl⟩ ⟨_,rfl,rfl⟩,?_⟩;refine I ?_;exact bf [0,1] (dV,v*10^w.length+b7 w) ⟨by rw[Xl];have:=zaN.2 dE;show dV.length<_;omega,fun c hc=>g1 c (by rw[ba];exact zed _ hc),by omega,H3,uF⟩ (pz ⟨rfl,rfl,trivial⟩ ⟨_,rfl,rfl⟩ ⟨_,rfl,rfl⟩ (hp:=by show pinned sZ.length _ _=_;rw[hlen];rfl))
  ·have aE:rest=[]:=zen.1 (by omega);subst aE;have aD:b7 s=v:=by rw[cf];simp[b7,nJ,val]
   refine I ?_;exact eP ⟨.inl rfl,⟨_,rfl⟩,zm (b7 s) [],[0,1],rfl,pz trivial ⟨_,rfl,by rw[aD];rfl⟩ ⟨_,rfl,rfl⟩,rfl⟩)
 subst aqL;obtain⟨b,hL,p3⟩:=f3.get 3 (.p 0 0) rfl;have anL:qD.tmp 3= .pointer (some ⟨b,0,none⟩):=by
  have e:qD.tmp 3=wq.tmp 3:=by unfold aP.tmp;rw[t4]
  rw[e];exact p3
 obtain⟨⟨ws,a4,v,us,rfl,d5,d6⟩,_⟩:=QE.own 0 (.c 58 [dq (b7 s)]) b rfl hL;have d6:us=[]:=d6;subst d6;have uz:bK (b9 aZ (cg aT.ctx vk) (bV+1)) (.j8 (.tmp 3)) qD xv= .ok v qD xv:=Bg (by show qD.tmp 3=_;exact anL) a4 rfl;have a0:=((QA.trans QB).trans QC).trans adH;have ov:st.ai<=fk.ai:=((QA.trans QB).trans QC).ai;have yD:fk.ai∉sZ:=fun hm=>by have:=QD.lt _ hm;omega
 refine Kv aC (Kv e2 (Kv (asR b3 (aeO fo)) ?_));refine Kv (dC:=(qD.put (some 19) v).put (some 2) v) (cu:=xv) ?_ ?_
 ·show gG (b9 aZ (cg aT.ctx vk) (bV+1)) (⟨some 19,.j8 (.tmp 3),none⟩::[⟨some 2,.ie (.tmp 19),none⟩]) qD xv=_;rw[Sym.rK,uz,Sym.tg,Sym.rK];show gG (b9 aZ (cg aT.ctx vk) (bV+1)) [] ((qD.put (some 19) v).put (some 2) ((qD.put (some 19) v).tmp 19)) xv=_;rw[sr,zab rfl];rfl
 ·refine⟨.ret,(qD.put (some 19) v).put (some 2) v,xv,rfl,.inr rfl,v,⟨xv.h.set fk.ai (.jI none),xv.ai⟩,?_,adJ,?_,?_,?_⟩
  ·have ux:((qD.put (some 19) v).put (some 2) v).cS=[{target:=.collected fk.ai,args:= #[]}]:=by
    rw[(tm _ _ _).1,(tm _ _ _).1,d4,f3.pl.cS]
   have yn:((qD.put (some 19) v).put (some 2) v).cB=false:=by
    rw[(tm _ _ _).2.2.1,(tm _ _ _).2.2.1,uR,f3.pl.cB]
   have:=aih (call:=b9 aZ (cg aT.ctx vk) (bV+1)) (t:=2) ux yn cf;rw[sr,zab rfl]at this;exact this
  ·exact(QE.other q0 yD aeY (.jI none)).less
  ·exact(a0.other ov (.jI none)).less
  ·exact Db _ rfl d5 _
def pF(n:Bool)(P q:ac bv)(js:Bool):Prop:=iu P∧¬(n=true∧P=[48])∧(js=true->iu q∧q≠[48]∧q≠[49])
instance(n:Bool)(P q:ac bv)(js:Bool):Decidable (pF n P q js):=by unfold pF;infer_instance
def O2{N:Nat}{s:ac bv}(ah:s.length<=N):∃P q js,pQ (ed s).2= .bP [.s P,.s q,.b js]∧(ed s).2.length<=N∧P.length<=N∧q.length<=N∧(¬pF (ed s).1 P q js->cJ s=none)∧
 (pF (ed s).1 P q js->js=false->cJ s=some (mkRat (jl (ed s).1 (b7 P)) 1))∧(pF (ed s).1 P q js->js=true->cJ s=if Nat.gcd (b7 P) (b7 q)=1 then some (mkRat (jl (ed s).1 (b7 P)) (b7 q))else none):=by
 have lG:=abM s;unfold cJ pQ;obtain⟨⟨n,t⟩,aR⟩:∃g,g=ed s:=⟨_,rfl⟩;rw[<-aR]at lG⊢;simp only at lG⊢;have yI:t.length<=N:=by have:=congrArg List.length lG;rw[zay]at this;omega
 obtain⟨e0,fT,oe⟩:=Sk t;obtain⟨⟨P,Q⟩,hq⟩:∃g,g=cutAt t:=⟨_,rfl⟩;rw[<-hq]at e0 fT oe⊢;simp only at e0 fT oe⊢;cases Q with
 |none=>
  have My:=oe rfl;subst My;refine⟨t,[],false,rfl,yI,yI,by exact zae _,fun h=>zaa (fun aG=>h ⟨aG.1,aG.2,fun e=>by cases e⟩),fun h _=>zab ⟨h.1,h.2.1⟩,fun _ h=>by cases h⟩
 |some q=>
  have aW:=fT q rfl;have N0:P.length+q.length<=N:=by have:=congrArg List.length aW;rw[zay,zaq]at this;omega
  refine⟨P,q,true,rfl,yI,by omega,by omega,fun h=> ?_,(fun _ h=>by cases h),fun h _=> ?_⟩
  ·by_cases J:iu P∧¬(n=true∧P=[48])
   ·rw[zab J];exact zaa (fun aG=>h ⟨J.1,J.2,fun _=>⟨aG.1,aG.2.1,aG.2.2.1⟩⟩)
   ·rw[zaa J]
  ·obtain⟨J,U,ag⟩:=h;obtain⟨ag,az,a4⟩:=ag rfl;rw[zab ⟨J,U⟩];by_cases HA:Nat.gcd (b7 P) (b7 q)=1
   ·rw[zab HA];exact zab ⟨ag,az,a4,HA⟩
   ·rw[zaa HA];exact zaa (fun aG=>HA aG.2.2.2)
def nq(s:ac bv):aj:=match cJ s with
 |some x=>.bP [cO x,.i .i64 0]
 |none=>.bP [cO 0,.i .i64 6]
def B8:bD where
 L:=ac bv
 args:=fun s=>[.s s]
 pre:=fun s=>s.length<=2000
 res:=fun s=>nq s
def Fj:bl aT.ctx 75 B8.spec:=by
 refine bI [(162,GC.spec),(163,C8.spec),(164,abv.spec),(166,abA.spec),(167,BB.spec),(165,EB.spec),(169,Ml.spec),(168,NR.spec)] Wf.1 ?_;intro(s:ac bv) (ah:s.length<=2000) H aK;have hp:∀{r},cJ s=r->bS (match r with|some x=>.bP [cO x,.i .i64 0]|none=>.bP [cO 0,.i .i64 6]) (B8.res s):=fun h=>.of (by subst h;rfl);have fail:cJ s=none->bS (.bP [.agg [.b false,.nl,.nl],.i .i64 6]) (B8.res s):=fun h=>apc.trans (hp h);obtain⟨P,q,js,hC,aW,ja,hq,AF,hint,A1⟩:=O2 ah;obtain⟨n,hn⟩:∃n,n=(ed s).1:=⟨_,rfl⟩;rw[<-hn]at AF hint A1;refine I ?_;refine aX afp s (by show s.length<=_;omega) ?_;refine ax 13 (.bP [.s (ed s).2,.b n]) rfl (by rw[hn];rfl) (I ?_);refine aX agw (ed s).2 (by show(ed s).2.length<=_;omega) ?_;refine ax 18 _ rfl hC (I ?_);refine ij (L:=Bool) (fun b=>b= !decide (pF n P q js)) (fun b=>⟨[.c 60 [.b false,.nl,.nl]],1,[(2,.p 0 0),(3,.i .i64 0),(5,.b n),(6,.s P),(7,.s q),(8,.b js),(22,.b b)]⟩) ?_ ?_
 ·have bad:¬pF n P q js->true= !decide (pF n P q js):=fun h=>by rw[zad h];rfl
  have dY:pF n P q js->false= !decide (pF n P q js):=fun h=>by rw[zac h];rfl
  refine aX PN P (by show P.length<=_;omega) (aq 26 ?_);by_cases J:iu P
  ·refine ax 26 (.b false) rfl (by show aj.b (!decide _)=_;rw[zac J];rfl) (aq 33 ?_);by_cases U:n=true∧P=[48]
   ·obtain⟨rfl,rfl⟩:=U;refine I ?_;exact bf [0] true (bad fun h=>h.2.1 ⟨rfl,rfl⟩) dI
   ·cases n with
    |false=>
     cases js with
     |false=>
      refine I ?_;exact bf [0] false (dY ⟨J,U,fun e=>by cases e⟩) dI
     |true=>
      refine I ?_;refine aX PN q (by show q.length<=_;omega) (aq 39 ?_);by_cases ag:iu q
      ·refine ax 39 (.b false) rfl (by show aj.b (!decide _)=_;rw[zac ag];rfl) (aq 43 ?_);by_cases az:q=[48]
       ·refine ax 43 (.b true) rfl (by rw[az];rfl) (I ?_);exact bf [0] true (bad fun h=>(h.2.2 rfl).2.1 az) dI
       refine ax 43 (.b false) rfl (by rw[zat.2 az]) (aq 45 ?_);by_cases a4:q=[49]
       ·refine ax 45 (.b true) rfl (by rw[a4];rfl) (I ?_);exact bf [0] true (bad fun h=>(h.2.2 rfl).2.2 a4) dI
       refine ax 45 (.b false) rfl (by rw[zat.2 a4]) (I ?_);exact bf [0] false (dY ⟨J,U,fun _=>⟨ag,az,a4⟩⟩) dI
      ·refine ax 39 (.b true) rfl (by show aj.b (!decide _)=_;rw[zad ag];rfl) (I ?_);exact bf [0] true (bad fun h=>ag (h.2.2 rfl).1) dI
    |true=>
     have sT:P≠[48]:=fun e=>U ⟨rfl,e⟩;refine aq 30 ?_;refine ax 30 (.b false) rfl (by rw[zat.2 sT]) ?_;cases js with
     |false=>
      refine I ?_;exact bf [0] false (dY ⟨J,U,fun e=>by cases e⟩) dI
     |true=>
      refine I ?_;refine aX PN q (by show q.length<=_;omega) (aq 39 ?_);by_cases ag:iu q
      ·refine ax 39 (.b false) rfl (by show aj.b (!decide _)=_;rw[zac ag];rfl) (aq 43 ?_);by_cases az:q=[48]
       ·refine ax 43 (.b true) rfl (by rw[az];rfl) (I ?_);exact bf [0] true (bad fun h=>(h.2.2 rfl).2.1 az) dI
       refine ax 43 (.b false) rfl (by rw[zat.2 az]) (aq 45 ?_);by_cases a4:q=[49]
       ·refine ax 45 (.b true) rfl (by rw[a4];rfl) (I ?_);exact bf [0] true (bad fun h=>(h.2.2 rfl).2.2 a4) dI
       refine ax 45 (.b false) rfl (by rw[zat.2 a4]) (I ?_);exact bf [0] false (dY ⟨J,U,fun _=>⟨ag,az,a4⟩⟩) dI
      ·refine ax 39 (.b true) rfl (by show aj.b (!decide _)=_;rw[zad ag];rfl) (I ?_);exact bf [0] true (bad fun h=>ag (h.2.2 rfl).1) dI
  ·refine ax 26 (.b true) rfl (by show aj.b (!decide _)=_;rw[zad J];rfl) (I ?_);exact bf [0] true (bad fun h=>J h.1) dI
 intro b hb;by_cases c5:pF n P q js
 ·have hb:b=false:=by rw[hb,zac c5];rfl
  subst hb;obtain⟨g1,aM,bc⟩:=c5;have vJ:=Ey (K:=2000) (sl g1.2.1) (by omega);refine aq 56 ?_;refine ax 56 (.b false) rfl (congrArg aj.b (zad (by omega))) (I ?_);cases js with
  |false=>
   refine I ?_;refine aX PO P ⟨g1.2.1,by show P.length<=_;omega⟩ ?_;refine aX u6 (1:Nat) (by show 1<_;decide) ?_;refine aX wX (n,b7 P,1) ⟨dT vJ (by decide),dT (s6 (by decide)) (by decide),by decide⟩ (I ?_);exact au rfl (hp (hint ⟨g1,aM,bc⟩ rfl))
  |true=>
   obtain⟨ag,az,a4⟩:=bc rfl;have adM:=Ey (K:=2000) (sl ag.2.1) (by omega);have oL:b7 q≠0:=fun h=>az (xQ ag h);have cv:b7 q≠1:=fun h=>a4 (RL ag h);have aE:=A1 ⟨g1,aM,bc⟩ rfl;refine I ?_;refine aX PO P ⟨g1.2.1,by show P.length<=_;omega⟩ (I ?_);refine aX PO q ⟨ag.2.1,by show q.length<=_;omega⟩ (I ?_);refine aX Ww (b7 P,b7 q) ⟨dT vJ (by decide),dT adM (by decide)⟩ ?_;refine aX Ig (Nat.gcd (b7 P) (b7 q)) trivial (I ?_);refine BX (fun aR=> ?_) (fun aR=> ?_)
   ·refine I ?_;exact au rfl (fail (by rw[aE,zaa aR]))
   ·refine I ?_;rw[zab aR]at aE;obtain⟨aC,e2⟩:=Ok (jl n (b7 P)) (b7 q) oL;rw[vr,aR]at aC e2;have hle:bS (.agg [.b n,dq (b7 P),dq (b7 q)]) (cO (mkRat (jl n (b7 P)) (b7 q))):=N4 (q:=b7 q) (by rw[aC];exact Int.ediv_one _) (by rw[e2,zce]) (fun h=>cv (by rw[h,zer]at aR;exact aR)) (Yp cv oL);exact au rfl ((show bS (.bP [.agg [.b n,dq (b7 P),dq (b7 q)],.i .i64 0]) (.bP [cO (mkRat (jl n (b7 P)) (b7 q)),.i .i64 0])from .bP ⟨hle,.refl _,trivial⟩).trans (hp aE))
 ·have hb:b=true:=by rw[hb,zad c5];rfl
  subst hb;refine I ?_;exact au rfl (fail (AF c5))
structure gR where
 op:Int
 a:Int
 b:Int
 c:Int
 d:Int
 f:Int
 v:ac bv
structure lr where
 f:Int
 aQ:ac bv
 af:ac bv
structure xJ where
 i:Int
 n:Int
structure dK where
 bB:ac (Int×Int)
 mode:Int
 ins:ac lr
 bw:ac gR
 head:Int
 tail:Int
 fA:ac xJ
 out:Int
def lK(n:gR):ac aj:=[.i .i64 n.op,.i .i64 n.a,.i .i64 n.b,.i .i64 n.c,.i .i64 n.d,.i .i64 n.f,.s n.v]
def Bc(x:lr):ac aj:=[.i .i64 x.f,.s x.aQ,.s x.af]
def Tp(x:Int×Int):ac aj:=[.i .i64 x.1,.i .i64 x.2]
def aci(x:xJ):ac aj:=[.i .i64 x.i,.i .i64 x.n]
def ih(p:dK):ac aj:=[.cc 2 (Int×Int) Tp p.bB,.i .i64 p.mode,.cc 3 lr Bc p.ins,.cc 7 gR lK p.bw,.i .i64 p.head,.i .i64 p.tail,.cc 2 xJ aci p.fA,.i .i64 p.out]
def jQ(p:dK):aj:=.agg (ih p)
def bM{a b:Bool}(h:a=b):aj.b a=aj.b b:=by rw[h]
def X3:bD where
 L:=Rat
 args:=fun x=>[cO x]
 pre:=fun _=>True
 res:=fun x=>.b (decide (x.den=1))
def aox:bl aT.ctx 270 X3.spec:=by
 refine bI [] UK.1 ?_;intro(x:Rat) _ H aK;refine aq 4 ?_;by_cases aA:x.den=1
 ·refine ax 4 (.jP 1 Nat fQ []) rfl (by show sK x.den=_;rw[aA];rfl) (I ?_);exact au rfl (.of (bM (zac aA).symm))
 ·refine ax 4 (.jP 1 Nat fQ (aY 4294967296 x.den)) rfl (Da aA) ?_;have cd:(aY 4294967296 x.den).isEmpty=false:=zdt.2 (fun e=>x.den_nz ((pT (by decide)).1 e));refine I ?_;exact au rfl (.of (bM (by rw[zad aA];show mr false _=false;rw[cd];rfl)))
def rI(s:ac bv):Int:=if(cJ s).isSome then 0 else 6
def SN:bD where
 L:=ac bv
 args:=fun s=>[.s s]
 pre:=fun s=>s.length<=2000
 res:=fun s=>.i .i64 (rI s)
def ahq:bl aT.ctx 153 SN.spec:=by
 refine bI [(75,B8.spec)] TN.1 ?_;intro(s:ac bv) ah H aK;refine I ?_;refine aX Fj s ah ?_;cases h:cJ s with
 |some x=>
  refine ax 7 (.bP [cO x,.i .i64 0]) rfl (by show nq s=_;unfold nq;rw[h]) (I ?_);exact au rfl (.of (by show _=aj.i .i64 (rI s);unfold rI;rw[h];rfl))
 |none=>
  refine ax 7 (.bP [cO 0,.i .i64 6]) rfl (by show nq s=_;unfold nq;rw[h]) (I ?_);exact au rfl (.of (by show _=aj.i .i64 (rI s);unfold rI;rw[h];rfl))
def tG:bD where
 L:=Int×Int
 args:=fun(n,m)=>[.i .i64 n,.i .i64 m]
 pre:=fun _=>True
 res:=fun(n,m)=>.b (decide (0<=n∧n<m))
def zF:bl aT.ctx 72 tG.spec:=by
 refine bI [] Wc.1 ?_;intro⟨n,m⟩ _ H aK;refine aq 6 ?_;by_cases h:0<=n
 ·refine dS 6 h (I ?_);exact au rfl (.of (bM (decide_eq_decide.2 ⟨fun aG=>⟨h,aG⟩,fun aG=>aG.2⟩)))
 ·refine eu 6 h (I ?_);exact au rfl (.of (bM (zad (fun aG=>h aG.1)).symm))
def NW:bD where
 L:=Int
 args:=fun n=>[.i .i64 n]
 pre:=fun _=>True
 res:=fun n=>.b (decide (1<=n∧n<=15))
def Yg:bl aT.ctx 151 NW.spec:=by
 refine bI [] TL.1 ?_;intro(n:Int) _ H aK;refine aq 4 ?_;by_cases h:1<=n
 ·refine dS 4 h (I ?_);exact au rfl (.of (bM (decide_eq_decide.2 ⟨fun aG=>⟨h,aG⟩,fun aG=>aG.2⟩)))
 ·refine eu 4 h (I ?_);exact au rfl (.of (bM (zad (fun aG=>h aG.1)).symm))
def gY(p:dK)(i:Int):Int:=if i<p.head then 0 else if i<p.tail then 1 else 2
def xq:bD where
 L:=dK×Int
 args:=fun(p,i)=>[jQ p,.i .i64 i]
 pre:=fun _=>True
 res:=fun(p,i)=>.i .i64 (gY p i)
def PW:bl aT.ctx 73 xq.spec:=by
 refine bI [] Wd.1 ?_;intro⟨p,i⟩ _ H aK;have aC:∀{c:Int},gY p i=c->bS (.i .i64 c) (xq.res (p,i)):=fun h=>.of (by rw[<-h];rfl);refine aq 5 ?_;by_cases h:i<p.head
 ·refine dS 5 h (I ?_);exact au rfl (aC (zab h))
 refine eu 5 h (aq 11 ?_);by_cases U:i<p.tail
 ·refine dS 11 U (I ?_);exact au rfl (aC ((zaa h).trans (zab U)))
 refine eu 11 U (I ?_);exact au rfl (aC ((zaa h).trans (zaa U)))
def xr(p:dK)(i k:Int):Bool:=decide (0<=k∧k<i∧(gY p k=0∨gY p k=gY p i))
def xt:bD where
 L:=dK×Int×Int
 args:=fun(p,i,k)=>[jQ p,.i .i64 i,.i .i64 k]
 pre:=fun _=>True
 res:=fun(p,i,k)=>.b (xr p i k)
def asQ:bl aT.ctx 155 xt.spec:=by
 refine bI [(73,xq.spec)] TP.1 ?_;intro⟨p,i,k⟩ _ H aK;have no:¬(0<=k∧k<i∧(gY p k=0∨gY p k=gY p i))->bS (.b false) (xt.res (p,i,k)):=fun h=>.of (bM (zad h).symm);have yes:(0<=k∧k<i∧(gY p k=0∨gY p k=gY p i))->bS (.b true) (xt.res (p,i,k)):=fun h=>.of (bM (zac h).symm);refine aq 9 ?_;by_cases h:k<0
 ·refine dS 9 h (I ?_);exact au rfl (no (by omega))
 refine eu 9 h (aq 13 ?_);by_cases U:i<=k
 ·refine dS 13 U (I ?_);exact au rfl (no (by omega))
 refine eu 13 U (I ?_);refine aX PW (p,k) trivial ?_;refine ax 17 (.i .i64 (gY p k)) rfl rfl (aq 19 ?_);by_cases ag:gY p k=0
 ·refine dS 19 ag (I ?_);exact au rfl (yes ⟨by omega,by omega,.inl ag⟩)
 refine eu 19 ag (I ?_);refine aX PW (p,i) trivial ?_;refine ax 24 (.i .i64 (gY p i)) rfl rfl (aq 25 ?_);by_cases az:gY p k=gY p i
 ·refine dS 25 az (I ?_);exact au rfl (yes ⟨by omega,by omega,.inr az⟩)
 refine eu 25 az (I ?_);exact au rfl (no (fun h=>h.2.2.elim ag az))
def so(e p:Int)(x:Rat):Int:=max (j7 x.num.natAbs x.den) (1-fb e)-p+1
def k3(e p:Int)(x:Rat):Prop:=gj e p∧(x.num=0∨(eh x (-so e p x)).den=1∧¬oq e p<jr x)
instance(e p:Int)(x:Rat):Decidable (k3 e p x):=by unfold k3;infer_instance
def hasB(e p:Int)(x:Rat):Bool:=decide (k3 e p x)
def auj{e p:Int}{x:Rat}(h:gj e p)(aa:eF 250 x): -9000<=so e p x∧so e p x<=9000:=by
 have c3:=Iv x.num.natAbs x.den;have dP:=Be aa.1;have jY:=Be aa.2;obtain⟨J,U,ag,az,a4⟩:=h;have:=qu J U;unfold so;omega
def G2:bD where
 L:=Int×Int×Rat
 args:=fun(e,p,x)=>[qC e p,cO x]
 pre:=fun(e,p,x)=>eF 250 x
 res:=fun(e,p,x)=>.b (hasB e p x)
def Te:bl aT.ctx 150 G2.spec:=by
 refine bI [(266,Kx.spec),(158,Kb.spec),(269,To.spec),(268,YY.spec),(267,Mc.spec),(270,X3.spec),(252,QN.spec),(271,YS.spec),(74,BZ.spec)] TK.1 ?_;intro⟨e,p,x⟩ (aa:eF 250 x) H aK;have no:¬k3 e p x->bS (.b false) (G2.res (e,p,x)):=fun h=>.of (bM (by unfold hasB;exact(zad h).symm));have yes:k3 e p x->bS (.b true) (G2.res (e,p,x)):=fun h=>.of (bM (by unfold hasB;exact(zac h).symm));refine I ?_;refine aX avT (e,p) trivial ?_;by_cases h:gj e p
 ·refine ax 9 (.bP [uX e p 0 (fb e),.i .i64 0]) rfl (zab h) (I ?_);refine aX Kc x trivial (I ?_);refine cA (fun h0=> ?_) (fun h0=> ?_)
  ·have h0:x.num=0:=zcC.1 h0;refine I ?_;exact au rfl (yes ⟨h,.inl h0⟩)
  have h0:x.num≠0:=fun e=>h0 (by rw[e];rfl);have c3:=Iv x.num.natAbs x.den;have dP:=Be aa.1;have jY:=Be aa.2;obtain⟨s1,s2⟩:=auj h aa;refine I ?_;refine bQ ais x ⟨kI aa (by decide),h0⟩ (I ?_);refine bQ apC (e,p,j7 x.num.natAbs x.den) ⟨h,by show _<=j7 _ _;omega,by show j7 _ _<=_;omega⟩ (aq 24 ?_);refine ax 24 (.i .i64 (-so e p x)) rfl (by show aj.i .i64 (IntKind.i64.wrap (-so e p x))=_;exact ct rfl (by omega) (by omega)) (I ?_);refine bQ Tx (x,-so e p x) ⟨kI aa (by decide),by show _<= -so e p x;omega,by show -so e p x<=_;omega⟩ (I ?_);refine bQ aox (eh x (-so e p x)) trivial ?_;by_cases aA:(eh x (-so e p x)).den=1
  ·refine dS 26 aA (I ?_);refine bQ adX x trivial (I ?_);refine bQ apy (e,p) h (I ?_);refine bQ B0 (jr x,oq e p) ⟨kI (apK aa) (by decide),kI (apM h) (by decide)⟩ (aq 33 ?_);by_cases aR:oq e p<jr x
   ·have hc:=xU.2 aR;refine ax 33 (.b false) rfl (bM (zad (by show¬gd _ _<=0;omega))) (I ?_);exact au rfl (no (fun aG=>aG.2.elim h0 (fun aG=>aG.2 aR)))
   ·have hc:¬0<gd (jr x) (oq e p):=fun h=>aR (xU.1 h);refine ax 33 (.b true) rfl (bM (zac (by show gd _ _<=0;omega))) (I ?_);exact au rfl (yes ⟨h,.inr ⟨aA,aR⟩⟩)
  ·refine eu 26 aA (I ?_);exact au rfl (no (fun aG=>aG.2.elim h0 (fun aG=>aA aG.1)))
 ·refine ax 9 (.bP [uX 0 0 0 0,.i .i64 2]) rfl (zaa h) (I ?_);exact au rfl (no (fun aG=>h aG.1))
def qG(p:dK):Int:=
 if(6<(p.bB.length:Int)∨6<(p.ins.length:Int)∨64<(p.bw.length:Int)∨4<(p.fA.length:Int))then 3
 else if((p.bB.length:Int)=0∨(p.bw.length:Int)=0∨p.mode<0∨4<p.mode)then 2
 else if(p.head<0∨p.tail<p.head∨(p.bw.length:Int)<p.tail)then 2
 else if((p.fA.length:Int)=0∧p.head≠(p.bw.length:Int))then 2 else 0
def Az:bD where
 L:=dK
 args:=fun p=>[jQ p]
 pre:=fun _=>True
 res:=fun p=>.i .i64 (qG p)
def ala:bl aT.ctx 67 Az.spec:=by
 refine bI [] V7.1 ?_;intro(p:dK) _ H aK;have a3:∀{c:Int},qG p=c->bS (.i .i64 c) (Az.res p):=fun h=>.of (by rw[<-h];rfl);refine aq 13 ?_;by_cases J:6<(p.bB.length:Int)
 ·refine dS 13 J (I ?_);exact au rfl (a3 (zab (.inl J)))
 refine eu 13 J (aq 18 ?_);by_cases U:6<(p.ins.length:Int)
 ·refine dS 18 U (I ?_);exact au rfl (a3 (zab (.inr (.inl U))))
 refine eu 18 U (aq 20 ?_);by_cases ag:64<(p.bw.length:Int)
 ·refine dS 20 ag (I ?_);exact au rfl (a3 (zab (.inr (.inr (.inl ag)))))
 refine eu 20 ag (aq 25 ?_);by_cases az:4<(p.fA.length:Int)
 ·refine dS 25 az (I ?_);exact au rfl (a3 (zab (.inr (.inr (.inr az)))))
 refine eu 25 az ?_;have kW:¬(6<(p.bB.length:Int)∨6<(p.ins.length:Int)∨64<(p.bw.length:Int)∨4<(p.fA.length:Int)):=fun h=>h.elim J fun h=>h.elim U fun h=>h.elim ag az;have aC:=fun{c} h=> @a3 c ((zaa kW).trans h);refine aq 31 ?_;by_cases g1:(p.bB.length:Int)=0
 ·refine ax 31 (.b true) rfl (bM (zac g1)) (I ?_);exact au rfl (aC (zab (.inl g1)))
 refine ax 31 (.b false) rfl (bM (zad g1)) (aq 33 ?_);by_cases aM:(p.bw.length:Int)=0
 ·refine ax 33 (.b true) rfl (bM (zac aM)) (I ?_);exact au rfl (aC (zab (.inr (.inl aM))))
 refine ax 33 (.b false) rfl (bM (zad aM)) (aq 37 ?_);by_cases bc:p.mode<0
 ·refine ax 37 (.b true) rfl (bM (zac bc)) (I ?_);exact au rfl (aC (zab (.inr (.inr (.inl bc)))))
 refine ax 37 (.b false) rfl (bM (zad bc)) (aq 41 ?_);by_cases cf:4<p.mode
 ·refine ax 41 (.b true) rfl (bM (zac cf)) (I ?_);exact au rfl (aC (zab (.inr (.inr (.inr cf)))))
 refine ax 41 (.b false) rfl (bM (zad cf)) ?_;have fi:¬((p.bB.length:Int)=0∨(p.bw.length:Int)=0∨p.mode<0∨4<p.mode):=fun h=>h.elim g1 fun h=>h.elim aM fun h=>h.elim bc cf;have e2:=fun{c} h=> @aC c ((zaa fi).trans h);refine aq 46 ?_;by_cases ba:p.head<0
 ·refine ax 46 (.b true) rfl (bM (zac ba)) (I ?_);exact au rfl (e2 (zab (.inl ba)))
 refine ax 46 (.b false) rfl (bM (zad ba)) (aq 53 ?_);by_cases bx:p.tail<p.head
 ·refine ax 53 (.b true) rfl (bM (zac bx)) (I ?_);exact au rfl (e2 (zab (.inr (.inl bx))))
 refine ax 53 (.b false) rfl (bM (zad bx)) (aq 58 ?_);by_cases dE:(p.bw.length:Int)<p.tail
 ·refine ax 58 (.b true) rfl (bM (zac dE)) (I ?_);exact au rfl (e2 (zab (.inr (.inr dE))))
 refine ax 58 (.b false) rfl (bM (zad dE)) ?_;have pk:¬(p.head<0∨p.tail<p.head∨(p.bw.length:Int)<p.tail):=fun h=>h.elim ba fun h=>h.elim bx dE;have b3:=fun{c} h=> @e2 c ((zaa pk).trans h);refine aq 64 ?_;by_cases eg:(p.fA.length:Int)=0
 ·refine ax 64 (.b true) rfl (bM (zac eg)) (aq 70 ?_);by_cases fh:p.head≠(p.bw.length:Int)
  ·refine ax 70 (.b true) rfl (bM (zac fh)) (I ?_);exact au rfl (b3 (zab ⟨eg,fh⟩))
  ·refine ax 70 (.b false) rfl (bM (zad fh)) (I ?_);exact au rfl (b3 (zaa (fun h=>fh h.2)))
 ·refine ax 64 (.b false) rfl (bM (zad eg)) (I ?_);exact au rfl (b3 (zaa (fun h=>eg h.1)))
def Ts:bD where
 L:=dK×Nat×Int×Int
 args:=fun(p,j,e,q)=>[jQ p,.i .i64 (j:Int)]
 pre:=fun(p,j,e,q)=>p.bB[j]? =some (e,q)
 res:=fun(p,j,e,q)=>.i .i64 (if gj e q then 0 else 2)
def aiw:bl aT.ctx 68 Ts.spec:=by
 refine bI [(149,G1.spec)] V8.1 ?_;intro⟨p,j,e,q⟩ hj H aK;refine I ?_;refine dr (e,q) hj ?_;refine I ?_;refine aX Tb (e,q) trivial (I ?_);exact au rfl (.refl _)
def J6:ac (Nat×Nat):=[(0,0),(0,1),(0,1),(0,0),(1,1),(1,1),(1,1),(1,1),(2,2),(2,2),(2,2),(2,2),(2,2),(2,2),(3,3),(4,4)]
def Fp:ac aj:=J6.flatMap fun p=>[.i .i64 (p.1:Int),.i .i64 (p.2:Int)]
def oC(o:Nat):Nat:=(J6.getD o (0,0)).1
def vw(o:Nat):Nat:=(J6.getD o (0,0)).2
def abP:∀o,o<16->Fp.drop (o*2)= .i .i64 (oC o:Int):: .i .i64 (vw o:Int)::Fp.drop (o*2+2):=by
 intro o h;rcases(show o=0∨o=1∨o=2∨o=3∨o=4∨o=5∨o=6∨o=7∨o=8∨o=9∨o=10∨o=11∨o=12∨o=13∨o=14∨o=15 by omega)with h|h|h|h|h|h|h|h|h|h|h|h|h|h|h|h<;>subst h<;>rfl
def J7:∀o,o<16->oC o<=4∧vw o<=4:=by decide +kernel
def oZ(H:bC):Prop:=∃vs el bg a8,H 3=some (.cells vs el bg a8)∧∀bn,de bn Fp [] vs
def oZ.up{H bn:bC}(h:du H bn):oZ H->oZ bn:=fun⟨vs,el,bg,a8,J,U⟩=>⟨vs,el,bg,a8,h _ _ J,U⟩
def eZ(n:Int):ac aj:=[.i .i64 n]
def fc(n:gR):ac Int:=[n.a,n.b,n.c,n.d]
def r4(n:gR):Bool:=((fc n).drop (vw n.op.toNat)).all (fun x=>x==0)&&(n.v.isEmpty||decide (n.op=3))
def XR:bD where
 L:=gR
 args:=fun n=>[.agg (lK n)]
 pre:=fun n=>1<=n.op∧n.op<=15
 res:=fun n=>.b (r4 n)
 hp:=oZ
 hm:=oZ.up
def XS{l:ac Int}{k:Nat}(ab:k<l.length)(h:(l.take k).all (fun x=>x==0)=true)(U:l[k]=0):(l.take (k+1)).all (fun x=>x==0)=true:=by
 rw[zaY ab,zet,h,U];rfl
def aod:bl aT.ctx 152 XR.spec:=by
 refine sF [] TM.1 ?_;intro(n:gR) ⟨(J:1<=n.op),(U:n.op<=15)⟩ H aK ⟨vs,el,bg,a8,aR,aA⟩;obtain⟨o,al⟩:∃o:Nat,n.op=(o:Int):=⟨n.op.toNat,by omega⟩;have kD:n.op.toNat=o:=by omega
 have aN:o<16:=by omega
 obtain⟨_,hu⟩:=J7 o aN;have aW:=abP o aN;have a0:r4 n=(((fc n).drop (vw o)).all (fun x=>x==0)&&(n.v.isEmpty||decide (n.op=3))):=by unfold r4;rw[kD]
 generalize vw o=u at *;refine aq 16 ?_;refine ax 16 (.i .i64 (o:Int)) rfl (by rw[<-al]) ?_;refine abc aR aA (j:=o) ?_;refine ax 17 (.ip (.i .i64 (oC o:Int):: .i .i64 (u:Int)::Fp.drop (o*2+2))) rfl (by rw[aW]) (aq 19 ?_);refine oN 1 eZ (fc n) ?_;refine fJ (aua (p:=u) (q:=4) rfl rfl ⟨_,rfl⟩ rfl (by omega) (by decide)) ?_;obtain⟨bh,hx⟩:∃bh,bh=if 4=u then 0 else u:=⟨_,rfl⟩;rw[<-hx];refine I ?_;refine cN (L:=Nat) (fun k=>k<=4-u∧(((fc n).drop u).take k).all (fun x=>x==0)=true) (fun(k:Nat)=>⟨[.c 143 (lK n),.a 339 false 1 Int eZ (fc n)],2,[(1,.p 0 0),(2,.b false),(20,.a5 1 1 bh (4-u) (4-u)),(21,.i .i64 ((4-u:Nat):Int)),(22,.i .i64 (k:Int))]⟩) (fun k=>4-u-k) [0,1] 0 ⟨zae _,rfl⟩ (by show 4-u-0<bV+1;unfold bV;omega) jS ?_;rintro(k:Nat) ⟨ab,an⟩;have hlen:((fc n).drop u).length=4-u:=by rw[zaA];rfl
 refine aq 23 ?_;by_cases hl:k<4-u
 ·refine ax 23 (.b true) rfl (bM (zac (by omega))) (I ?_);refine vj ?_;rw[zaa (by omega)]at hx;have hx:=hx.symm;subst hx;have kl:(fc n)[u+k]? =some ((fc n).drop u)[k]:=by rw[<-zaB,zcF (by omega)]
  refine tt ((fc n).drop u)[k] kl ?_;refine aq 27 ?_;by_cases aa:((fc n).drop u)[k]=0
  ·refine ax 27 (.b false) rfl (bM (zad (by rw[aa];decide))) (aq 28 ?_);refine ax 28 (.i .i64 ((k+1:Nat):Int)) rfl ct (I ?_);exact bf [0,1] (k+1) ⟨by omega,by omega,XS (by omega) an aa⟩ jS
  ·refine dS 27 aa (I ?_);refine au rfl (.of (bM ?_));rw[a0];have:((fc n).drop u).all (fun x=>x==0)=false:=by
    rw[List.all_eq_false];exact⟨((fc n).drop u)[k],zdJ (by rw[hlen];exact hl),by simpa using aa⟩
   rw[this];rfl
 ·refine ax 23 (.b false) rfl (bM (zad (by omega))) ?_;have p8:((fc n).drop u).all (fun x=>x==0)=true:=by
   rw[zas (by omega)]at an;exact an
  rw[p8,zbk]at a0;refine aq 31 ?_;by_cases aD:n.v=[]
  ·refine ax 31 (.b true) rfl (by rw[aD];rfl) (I ?_);exact au rfl (.of (bM (by rw[a0,aD];rfl)))
  ·refine ax 31 (.b false) rfl (bM (by simpa using aD)) (I ?_);exact au rfl (.of (bM (by rw[a0];cases hq:n.v with|nil=>exact absurd hq aD|cons a l=>rfl)))
def LD:bD where
 L:=ac Int
 args:=fun l=>[.a6 1 Int eZ l]
 pre:=fun l=>l.length<=17592186044416
 res:=fun l=>.cc 1 Int eZ l
def C2:bl aT.ctx 148 LD.spec:=by
 refine bI [] TI.1 ?_;intro(l:ac Int) (hl:l.length<=17592186044416) H aK;by_cases cd:l=[]
 ·subst cd;refine I ?_;refine arW ?_ (fun _=> ?_)
  ·refine I ?_;refine oN 0 eZ ([]:ac Int) ?_;refine arG (R:=eZ) ?_;refine kb 7 ?_;refine I ?_;exact au rfl (.refl _)
  ·refine I ?_;exact au rfl .nl
 refine dz 0 (.cc 1 Int eZ l) rfl (.eG cd) ?_;refine I ?_;refine arX ?_ (fun h=> ?_)
 ·refine I ?_;refine oN 0 eZ ([]:ac Int) ?_;have AU:=zaN.2 cd;refine aa7 (R:=eZ) l (n3 rfl (fun _=>rfl) (fun _=>rfl)) l ?_ (h0:=cd);refine kb 7 ?_;refine I ?_;exact au rfl (.refl _)
 ·exact absurd h cd
def hO(n:gR):ac Int:=if 1<=n.op∧n.op<=15 then(fc n).take (oC n.op.toNat)else[]
def NV:bD where
 L:=gR
 args:=fun n=>[.agg (lK n)]
 pre:=fun n=>True
 res:=fun n=>.cc 1 Int eZ (hO n)
 hp:=oZ
 hm:=oZ.up
def aoN:bl aT.ctx 154 NV.spec:=by
 refine sF [(151,NW.spec),(148,LD.spec)] TO.1 ?_;intro(n:gR) _ H aK ⟨vs,el,bg,a8,aR,aA⟩;have aC:∀{l},hO n=l->bS (.cc 1 Int eZ l) (NV.res n):=fun h=>.of (by rw[<-h];rfl);refine I ?_;refine aX Yg n.op trivial ?_;by_cases h:1<=n.op∧n.op<=15
 ·refine dS 6 h ?_;obtain⟨J,U⟩:=h;obtain⟨o,al⟩:∃o:Nat,n.op=(o:Int):=⟨n.op.toNat,by omega⟩;have kD:n.op.toNat=o:=by omega
  have aN:o<16:=by omega
  obtain⟨hu,_⟩:=J7 o aN;have aW:=abP o aN;have a0:hO n=(fc n).take (oC o):=by unfold hO;rw[kD];exact zab ⟨J,U⟩
  generalize oC o=u at *;refine aq 18 ?_;refine ax 18 (.i .i64 (o:Int)) rfl (by rw[<-al]) ?_;refine abc aR aA (j:=o) ?_;refine ax 19 (.ip (.i .i64 (u:Int):: .i .i64 (vw o:Int)::Fp.drop (o*2+2))) rfl (by rw[aW]) (aq 21 ?_);refine oN 1 eZ (fc n) ?_;refine fJ (Ke (p:=0) (q:=u) rfl rfl rfl ⟨_,rfl⟩ (zae _) (by omega) (.inr rfl)) ?_;refine JU 22 ((fc n).take u) ?_ (hn:=by rw[zao];show min u 4=u-0;omega);refine aX C2 ((fc n).take u) (by show(List.take _ _).length<=_;rw[zao];omega) (I ?_) (he:=by exact⟨.a6,trivial⟩);exact au rfl (aC a0)
 ·refine eu 6 h (I ?_);exact au rfl (bS.trans .nl (aC (zaa h)))
def j5(n:Int)(m:Nat):Prop:=0<=n∧n<(m:Int)
instance(n:Int)(m:Nat):Decidable (j5 n m):=by unfold j5;infer_instance
def u2(p:dK)(i:Nat)(n:gR):Int:=
 if¬(1<=n.op∧n.op<=15)∨r4 n=false then 2
 else if¬j5 n.f p.bB.length then 7
 else if n.op=1∧¬j5 n.a p.ins.length then 7
 else if n.op=1∧(p.ins[n.a.toNat]?).map lr.f≠some n.f then 143
 else if n.op=2∧((i:Int)<p.head∨¬j5 n.a p.fA.length)then 7
 else if n.op=3 then rI n.v
 else if(hO n).all (fun k=>xr p i k)then 0 else 7
def Ov:bD where
 L:=dK×Nat×gR
 args:=fun(p,i,n)=>[jQ p,.i .i64 (i:Int)]
 pre:=fun(p,i,n)=>p.bw[i]? =some n∧n.v.length<=2000
 res:=fun(p,i,n)=>.i .i64 (u2 p i n)
 hp:=oZ
 hm:=oZ.up
def Yd(n:gR):(hO n).length<=4:=by
 unfold hO;split
 ·rw[zao];exact Nat.min_le_right _ 4
 ·exact zae _
def ap4:bl aT.ctx 70 Ov.spec:=by
 refine sF [(151,NW.spec),(152,XR.spec),(72,tG.spec),(153,SN.spec),(154,NV.spec),(155,xt.spec)] Wa.1 ?_;intro⟨p,i,n⟩ ⟨hj,aD⟩ H aK e5;have a3:∀{c:Int},u2 p i n=c->bS (.i .i64 c) (Ov.res (p,i,n)):=fun h=>.of (by rw[<-h];rfl);refine I ?_;refine dr n hj ?_
 iterate 7 refine gZ ?_
 refine pw (L:=Unit) (fun _=>u2 p i n=if(hO n).all (fun k=>xr p i k)then 0 else 7) (fun _=>⟨[.c 158 (ih p),.c 143 (lK n)],2,[(1,.i .i64 (i:Int)),(2,.p 0 0),(4,.i .i64 0),(5,.p 1 0)]⟩) ?_ ?_
 ·refine I ?_;refine aX Yg n.op trivial ?_;by_cases J:1<=n.op∧n.op<=15
  case neg=>
   refine eu 17 J (I ?_);exact au rfl (a3 (zab (.inl J)))
  refine dS 17 J (I ?_);refine aX aod n J ?_ (hh:=e5);cases U:r4 n with
  |false=>
   refine ax 21 (.b false) rfl (bM U) (I ?_);exact au rfl (a3 (zab (.inr U)))
  |true=>
  refine ax 21 (.b true) rfl (bM U) ?_;have g1:¬(¬(1<=n.op∧n.op<=15)∨r4 n=false):=fun h=>h.elim (fun h=>h J) (fun h=>Bool.noConfusion (U.symm.trans h));refine I ?_;refine aX zF (n.f,(p.bB.length:Int)) trivial ?_;by_cases ag:j5 n.f p.bB.length
  case neg=>
   refine eu 31 ag (I ?_);exact au rfl (a3 ((zaa g1).trans (zab ag)))
  refine dS 31 ag ?_;have aM:¬¬j5 n.f p.bB.length:=fun h=>h ag;have e2:=fun{c} h=> @a3 c ((zaa g1).trans ((zaa aM).trans h));have f2:=fun{c} h=>((zaa g1).trans ((zaa aM).trans h):u2 p i n=c);clear a3;refine aq 36 ?_;by_cases af:n.op=1
  ·refine dS 36 af (I ?_);refine aX zF (n.a,(p.ins.length:Int)) trivial ?_;by_cases az:j5 n.a p.ins.length
   case neg=>
    refine eu 44 az (I ?_);exact au rfl (e2 (zab ⟨af,az⟩))
   refine dS 44 az ?_;have bc:¬(n.op=1∧¬j5 n.a p.ins.length):=fun h=>h.2 az;refine aq 50 ?_;refine di 50 (.b true) rfl rfl (bM (zac af)) ?_;obtain⟨a,ha⟩:∃a:Nat,n.a=(a:Int):=⟨n.a.toNat,by have:=az.1;omega⟩;have um:n.a.toNat=a:=by omega
   have lC:a<p.ins.length:=by have:=az.2;omega
   refine aq 56 ?_;refine di 56 (.i .i64 (a:Int)) rfl rfl (by rw[ha]) ?_;refine I ?_;refine eU p.ins[a] (bm lC) ?_;refine aq 62 ?_;by_cases a4:(p.ins[a]).f=n.f
   case neg=>
    refine di 62 (.b true) rfl rfl (bM (zac a4)) ?_;refine I ?_;exact au rfl (e2 ((zaa bc).trans (zab ⟨af,by rw[um,bm lC];simpa using a4⟩)))
   refine di 62 (.b false) rfl rfl (bM (zad (fun h=>h a4))) ?_;refine aq 67 ?_;refine ax 67 (.b false) rfl (bM (zad (by omega))) (aq 88 ?_);refine ax 88 (.b false) rfl (bM (zad (by omega))) (I ?_);refine bf [0,1] () (f2 ((zaa bc).trans ((zaa ?_).trans ((zaa (by omega)).trans (zaa (by omega)))))) jS;rintro⟨_,h⟩;exact h (by rw[um,bm lC];simp[a4])
  ·refine eu 36 af ?_;have f3:=fun{c} h=> @f2 c ((zaa (fun h=>af h.1)).trans ((zaa (fun h=>af h.1)).trans h));have b3:=fun{c} h=> @e2 c ((zaa (fun h=>af h.1)).trans ((zaa (fun h=>af h.1)).trans h));refine aq 50 ?_;refine di 50 (.b false) rfl rfl (bM (zad af)) ?_;refine aq 67 ?_;by_cases ah:n.op=2
   ·refine dS 67 ah (aq 73 ?_);by_cases az:(i:Int)<p.head
    ·refine dS 73 az (I ?_);exact au rfl (b3 (zab ⟨ah,.inl az⟩))
    refine eu 73 az (I ?_);refine aX zF (n.a,(p.fA.length:Int)) trivial ?_;by_cases a4:j5 n.a p.fA.length
    case neg=>
     refine eu 81 a4 (I ?_);exact au rfl (b3 (zab ⟨ah,.inr a4⟩))
    refine dS 81 a4 (aq 88 ?_);refine ax 88 (.b false) rfl (bM (zad (by omega))) (I ?_);exact bf [0,1] () (f3 ((zaa (fun h=>h.2.elim az (fun h=>h a4))).trans (zaa (by omega)))) jS
   ·refine eu 67 ah ?_;have f4:=fun{c} h=> @f3 c ((zaa (fun h=>ah h.1)).trans h);have fo:=fun{c} h=> @b3 c ((zaa (fun h=>ah h.1)).trans h);refine aq 88 ?_;by_cases hc:n.op=3
    ·refine dS 88 hc (I ?_);refine aX ahq n.v aD (I ?_);exact au rfl (fo (zab hc))
    ·refine eu 88 hc (I ?_);exact bf [0,1] () (f4 (zaa hc)) jS
 intro _ lB;have ab:=Yd n;refine I ?_;refine aX aoN n trivial (I ?_) (hh:=e5);refine cN (L:=Nat) (fun k=>k<=(hO n).length∧((hO n).take k).all (fun k=>xr p i k)=true) (fun(k:Nat)=>⟨[.c 158 (ih p),.c 143 (lK n)],2,[(1,.i .i64 (i:Int)),(2,.p 0 0),(4,.i .i64 0),(93,.cc 1 Int eZ (hO n)),(94,.i .i64 ((hO n).length:Int)),(95,.i .i64 (k:Int))]⟩) (fun k=>(hO n).length-k) [0,1] 0 ⟨zae _,rfl⟩ hF jS ?_;rintro(k:Nat) ⟨km,an⟩;refine aq 96 ?_;by_cases hl:k<(hO n).length
 ·refine ax 96 (.b true) rfl (bM (zac (by omega))) (I ?_);refine dr (hO n)[k] (bm hl) ?_;refine I ?_;refine aX asQ (p,(i:Int),(hO n)[k]) trivial ?_;cases ah:xr p i (hO n)[k]with
  |false=>
   refine ax 102 (.b false) rfl (bM ah) (I ?_);refine au rfl (a3 (lB.trans (zaa ?_)));intro h;rw[zaP]at h;have:=h _ (dy hl);rw[ah]at this;cases this
  |true=>
   refine ax 102 (.b true) rfl (bM ah) (aq 104 ?_);refine ax 104 (.i .i64 ((k+1:Nat):Int)) rfl ct (I ?_);exact bf [0,1] (k+1) ⟨by omega,hl,by rw[zaY hl,zet,an];simp[ah]⟩ jS
 ·refine ax 96 (.b false) rfl (bM (zad (by omega))) (I ?_);exact au rfl (a3 (lB.trans (zab (by rw[zas (by omega)]at an;exact an))))
def qW(e q:Int)(x:lr):Int:=
 match cJ x.aQ,cJ x.af with
 |some a,some b=>if k3 e q a∧k3 e q b∧¬b<a then 0 else 7
 |_,_=>6
def uK(p:dK)(x:lr):Int:=
 if j5 x.f p.bB.length then(match p.bB[x.f.toNat]? with|some f=>qW f.1 f.2 x|none=>7)else 7
def Yn{v k:Nat}(h:v<10^k)(ab:k<=2000):ev 250 v:=Bf (fM h (zag (zaJ (by decide) ab) (by decide +kernel)))
def q3{s:ac bv}(ah:s.length<=2000){x:Rat}(h:cJ s=some x):eF 250 x:=by
 obtain⟨P,q,js,_,_,ja,hq,AF,hint,A1⟩:=O2 ah;by_cases c5:pF (ed s).1 P q js
 ·obtain⟨g1,aM,bc⟩:=c5;have vJ:=Yn (sl g1.2.1) (by omega);cases js with
  |false=>
   have e:=hint ⟨g1,aM,bc⟩ rfl;rw[h]at e;cases e;exact Bt (by rw[vr];exact vJ) (dT (s6 (by decide)) (by decide)) (by decide)
  |true=>
   obtain⟨ag,az,a4⟩:=bc rfl;have oL:b7 q≠0:=fun h=>az (xQ ag h);have e:=A1 ⟨g1,aM,bc⟩ rfl;rw[h]at e;split at e
   ·cases e;exact Bt (by rw[vr];exact vJ) (Yn (sl ag.2.1) (by omega)) oL
   ·cases e
 ·rw[AF c5]at h;cases h
def iK(s:ac bv):Rat:=(cJ s).getD 0
def ahA(x:lr):Nat->ac aj
 |0=>[.b false,.nl,.nl,.b false,.nl,.nl]
 |1=>rn (iK x.aQ)++[.b false,.nl,.nl]
 |_=>rn (iK x.aQ)++rn (iK x.af)
def axe{own:ac bj}{n p:Nat}{e bL:bO}{o q r t:bj}(h:k5 [0,1,2,3] bL e)(al:∃bh,own[0]? =some bh∧gQ [0,1,2,3] o bh)(hq:∃bh,own[1]? =some bh∧gQ [0,1,2,3] q bh)(aE:∃bh,own[2]? =some bh∧gQ [0,1,2,3] r bh)(aW:∃bh,own[3]? =some bh∧gQ [0,1,2,3] t bh)(hp:pinned p [0,1,2,3] 0=true:=by rfl):Sub p [0,1,2,3] ⟨own,n,e⟩ ⟨[o,q,r,t],4,bL⟩:=⟨by simp,rfl,⟨al,hq,aE,aW,trivial⟩,h,hp⟩
def Et:bD where
 L:=dK×Nat×lr
 args:=fun(p,i,x)=>[jQ p,.i .i64 (i:Int)]
 pre:=fun(p,i,x)=>p.ins[i]? =some x∧x.aQ.length<=2000∧x.af.length<=2000
 res:=fun(p,i,x)=>.i .i64 (uK p x)
def aog:bl aT.ctx 69 Et.spec:=by
 refine bI [(72,tG.spec),(75,B8.spec),(150,G2.spec),(74,BZ.spec)] V9.1 ?_;intro⟨p,i,x⟩ ⟨hj,gU,ht⟩ H aK;have a3:∀{c:Int},uK p x=c->bS (.i .i64 c) (Et.res (p,i,x)):=fun h=>.of (by rw[<-h];rfl);refine I ?_;refine dr x hj ?_;refine I ?_;refine aX zF (x.f,(p.bB.length:Int)) trivial ?_;by_cases ag:j5 x.f p.bB.length
 case neg=>
  refine eu 24 ag (I ?_);exact au rfl (a3 (zaa ag))
 refine dS 24 ag ?_;obtain⟨f,ae⟩:∃f:Nat,x.f=(f:Int):=⟨x.f.toNat,by have:=ag.1;omega⟩;have uw:x.f.toNat=f:=by omega
 have rT:f<p.bB.length:=by have:=ag.2;omega
 obtain⟨⟨kB,kC⟩,hq⟩:∃w,p.bB[f]? =some w:=⟨_,bm rT⟩;have aC:∀{c:Int},qW kB kC x=c->bS (.i .i64 c) (Et.res (p,i,x)):=fun h=>a3 (by unfold uK;rw[zab ag,uw,hq];exact h);refine I ?_;refine cN (L:=Nat) (fun k=>k<=2∧(1<=k->cJ x.aQ=some (iK x.aQ))∧(2<=k->cJ x.af=some (iK x.af))) (fun(k:Nat)=>⟨[.c 158 (ih p),.c 95 (Bc x),.c 249 (ahA x k),.c 28 [.s x.aQ,.s x.af]],4,[(2,.p 0 0),(4,.i .i64 0),(5,.p 1 0),(6,.p 2 0),(30,.a5 3 1 0 2 2),(31,.i .i64 2),(32,.i .i64 (k:Int))]⟩) (fun k=>2-k) [0,1,2,3] 0 ⟨by omega,fun h=>absurd h (by decide),fun h=>absurd h (by decide)⟩ (by show 2-0<bV+1;unfold bV;omega) sn ?_;rintro(k:Nat) ⟨ab,WO,al0⟩;rcases(show k=0∨k=1∨k=2 by omega)with rfl|rfl|rfl
 ·refine I ?_;refine kK (j:=0) ?_;refine I ?_;refine aX Fj x.aQ gU ?_;cases h:cJ x.aQ with
  |none=>
   refine ax 39 (.bP [cO 0,.i .i64 6]) rfl (by show nq x.aQ=_;unfold nq;rw[h]) (I ?_);exact au rfl (aC (by unfold qW;rw[h]))
  |some X=>
  have aG:cJ x.aQ=some (iK x.aQ):=by unfold iK;rw[h];rfl
  refine ax 39 (.bP [cO (iK x.aQ),.i .i64 0]) rfl (by show nq x.aQ=_;unfold nq;rw[aG]) (I ?_);refine fJ (wP (j:=0) rfl rfl (by decide)) ?_;refine I ?_;exact bf [0,1,2,3] 1 ⟨by decide,by decide,fun _=>h.symm.trans aG,fun h=>absurd h (by decide)⟩ sn
 ·have fE:=WO (by decide);refine I ?_;refine kK (j:=1) ?_;refine I ?_;refine aX Fj x.af ht ?_;cases h:cJ x.af with
  |none=>
   refine ax 39 (.bP [cO 0,.i .i64 6]) rfl (by show nq x.af=_;unfold nq;rw[h]) (I ?_);exact au rfl (aC (by unfold qW;rw[h,fE]))
  |some X=>
  have aG:cJ x.af=some (iK x.af):=by unfold iK;rw[h];rfl
  refine ax 39 (.bP [cO (iK x.af),.i .i64 0]) rfl (by show nq x.af=_;unfold nq;rw[aG]) (I ?_);refine fJ (wP (j:=1) rfl rfl (by decide)) ?_;refine I ?_;exact bf [0,1,2,3] 2 ⟨by decide,by decide,fun _=>fE,fun _=>h.symm.trans aG⟩ sn
 ·have fE:=WO (by decide);have a0:=al0 (by decide);have iM:qW kB kC x=if k3 kB kC (iK x.aQ)∧k3 kB kC (iK x.af)∧¬iK x.af<iK x.aQ then 0 else 7:=by unfold qW;rw[fE,a0]
  refine aq 53 ?_;refine ax 53 (.i .i64 (f:Int)) rfl (by rw[ae]) (I ?_);refine dr (kB,kC) hq ?_;refine I ?_;have EI:=q3 gU fE;have EJ:=q3 ht a0;have no:¬(k3 kB kC (iK x.aQ)∧k3 kB kC (iK x.af)∧¬iK x.af<iK x.aQ)->bS (.i .i64 7) (Et.res (p,i,x)):=fun h=>aC (iM.trans (zaa h));refine fJ (wP (j:=0) rfl rfl (by decide)) ?_;refine I ?_;refine aX Te (kB,kC,iK x.aQ) EI ?_;by_cases cv:k3 kB kC (iK x.aQ)
  case neg=>
   refine eu 59 cv (I ?_);exact au rfl (no (fun h=>cv h.1))
  refine dS 59 cv (I ?_);refine fJ (wP (j:=1) rfl rfl (by decide)) ?_;refine I ?_;refine aX Te (kB,kC,iK x.af) EJ ?_;by_cases cF:k3 kB kC (iK x.af)
  case neg=>
   refine eu 65 cF (I ?_);exact au rfl (no (fun h=>cF h.2.1))
  refine dS 65 cF (I ?_);refine fJ (wP (j:=0) rfl rfl (by decide)) ?_;refine I ?_;refine fJ (wP (j:=1) rfl rfl (by decide)) ?_;refine I ?_;refine aX B0 (iK x.aQ,iK x.af) ⟨kI EI (by decide),kI EJ (by decide)⟩ (aq 74 ?_);by_cases dU:iK x.af<iK x.aQ
  ·have hc:=xU.2 dU;refine dS 74 hc (I ?_);exact au rfl (no (fun h=>h.2.2 dU))
  ·have hc:¬0<gd (iK x.aQ) (iK x.af):=fun h=>dU (xU.1 h);refine eu 74 hc (I ?_);exact au rfl (aC (iM.trans (zab ⟨cv,cF,dU⟩)))
def kq(i f:Int)(n:gR):Bool:=decide (n.op=2)&&(decide (n.a=i)&&decide (n.f≠f))
def Z2:bD where
 L:=gR×Int×Int
 args:=fun(n,i,f)=>[.agg (lK n),.ip [.i .i64 i],.ip [.i .i64 f]]
 pre:=fun _=>True
 res:=fun(n,i,f)=>.b (kq i f n)
def aqJ:bl aT.ctx 156 Z2.spec:=by
 refine bI [] TQ.1 ?_;intro⟨n,i,f⟩ _ H aK;refine aq 7 ?_;by_cases J:n.op=2
 ·refine dS 7 J (aq 12 ?_);by_cases U:n.a=i
  ·refine dS 12 U (I ?_);exact au rfl (.of (bM (by unfold kq;rw[zac J,zac U];rfl)))
  ·refine eu 12 U (I ?_);exact au rfl (.of (bM (by unfold kq;rw[zac J,zad U];rfl)))
 ·refine eu 7 J (I ?_);exact au rfl (.of (bM (by unfold kq;rw[zad J];rfl)))
def r5(q:gR->Bool):ac gR->Nat->Int
 |[],_=> -1
 |n::l,k=>if q n=true then k else r5 q l (k+1)
theorem XV(q:gR->Bool):∀(l:ac gR) (k:Nat),decide (0<=r5 q l k)=l.any q
 |[],_=>rfl
 |n::l,k=>by
  unfold r5;rw[List.any_cons];cases h:q n with
  |true=>simp
  |false=>simpa using XV q l (k+1)
def OU(i f:Int):aj:=.fn (.func 156) [] [.ip [.i .i64 i],.ip [.i .i64 f]]
def XY:bD where
 L:=ac gR×Int×Int
 args:=fun(l,i,f)=>[.cc 7 gR lK l,OU i f]
 pre:=fun(l,i,f)=>l.length<=1000000
 res:=fun(l,i,f)=>.i .i64 (r5 (kq i f) l 0)
def aof:bl aT.ctx 272 XY.spec:=by
 refine bI [(156,Z2.spec)] UM.1 ?_;intro⟨l,i,f⟩ (hl:l.length<=1000000) H aK;refine I ?_;refine cN (L:=Nat) (fun k=>k<=l.length∧r5 (kq i f) (l.drop k) k=r5 (kq i f) l 0) (fun(k:Nat)=>⟨[],0,[(0,.cc 7 gR lK l),(1,OU i f),(4,.i .i64 0),(7,.i .i64 (l.length:Int)),(8,.i .i64 (k:Int))]⟩) (fun k=>l.length-k) [] 0 ⟨zae _,rfl⟩ hF dj ?_;rintro(k:Nat) ⟨ab,an⟩;refine aq 9 ?_;by_cases aN:k<l.length
 ·refine ax 9 (.b true) rfl (bM (zac (by omega))) (I ?_);refine dr l[k] (bm aN) ?_;refine I ?_;have aA:l.drop k=l[k]::l.drop (k+1):=eX aN;rw[aA]at an;refine vi aqJ (l[k],i,f) trivial ?_;cases h:kq i f l[k]with
  |true=>
   refine ax 16 (.b true) rfl (bM h) (I ?_);exact au rfl (.of (by show aj.i _ _=aj.i .i64 (r5 (kq i f) l 0);rw[<-an];unfold r5;rw[zab h]))
  |false=>
   refine ax 16 (.b false) rfl (bM h) (aq 18 ?_);refine ax 18 (.i .i64 ((k+1:Nat):Int)) rfl ct (I ?_);refine bf [] (k+1) ⟨by omega,aN,?_⟩ dj;rw[<-an];conv=>rhs;unfold r5
   rw[zaa (by rw[h];decide)]
 ·refine ax 9 (.b false) rfl (bM (zad (by omega))) (I ?_);exact au rfl (.of (by show aj.i _ _=aj.i .i64 (r5 (kq i f) l 0);rw[<-an,zan (by omega)];rfl))
def Sd:bD where
 L:=ac gR×Int×Int
 args:=fun(l,i,f)=>[.cc 7 gR lK l,OU i f]
 pre:=fun(l,i,f)=>l.length<=1000000
 res:=fun(l,i,f)=>.b (l.any (kq i f))
def afn:bl aT.ctx 157 Sd.spec:=by
 refine bI [(272,XY.spec)] TR.1 ?_;intro⟨l,i,f⟩ hl H aK;refine I ?_;refine aX aof (l,i,f) hl ?_;refine ax 7 (.i .i64 (r5 (kq i f) l 0)) rfl rfl (I ?_);exact au rfl (.of (bM (XV _ l 0)))
def Ch(p:dK)(i:Nat)(s:xJ):Int:=
 if¬(0<=s.i∧s.i<p.head)∨¬(0<=s.n∧s.n<p.tail)then 7
 else match p.bw[s.i.toNat]?,p.bw[s.n.toNat]? with
  |some a,some b=>if b.f≠a.f∨p.bw.any (kq i a.f)=true then 143 else 0
  |_,_=>0
def vu:bD where
 L:=dK×Nat×xJ
 args:=fun(p,i,s)=>[jQ p,.i .i64 (i:Int)]
 pre:=fun(p,i,s)=>p.fA[i]? =some s∧p.head<=(p.bw.length:Int)∧p.tail<=(p.bw.length:Int)∧p.bw.length<=1000000
 res:=fun(p,i,s)=>.i .i64 (Ch p i s)
def auD:bl aT.ctx 71 vu.spec:=by
 refine bI [(72,tG.spec),(157,Sd.spec)] Wb.1 ?_;intro⟨p,i,s⟩ ⟨hj,hh,aW,hl⟩ H aK;have a3:∀{c:Int},Ch p i s=c->bS (.i .i64 c) (vu.res (p,i,s)):=fun h=>.of (by rw[<-h];rfl);refine I ?_;refine dr s hj ?_;refine I ?_;refine aX zF (s.i,p.head) trivial ?_;by_cases J:0<=s.i∧s.i<p.head
 case neg=>
  refine eu 19 J (I ?_);exact au rfl (a3 (zab (.inl J)))
 refine dS 19 J (I ?_);refine aX zF (s.n,p.tail) trivial ?_;by_cases U:0<=s.n∧s.n<p.tail
 case neg=>
  refine eu 27 U (I ?_);exact au rfl (a3 (zab (.inr U)))
 refine dS 27 U ?_;obtain⟨a,ha⟩:∃a:Nat,s.i=(a:Int):=⟨s.i.toNat,by omega⟩;obtain⟨b,hb⟩:∃b:Nat,s.n=(b:Int):=⟨s.n.toNat,by omega⟩;have um:s.i.toNat=a:=by omega
 have hL:s.n.toNat=b:=by omega
 have lC:a<p.bw.length:=by omega
 have ot:b<p.bw.length:=by omega
 have aC:∀{c:Int},(if(p.bw[b]).f≠(p.bw[a]).f∨p.bw.any (kq i (p.bw[a]).f)=true then 143 else 0)=c->bS (.i .i64 c) (vu.res (p,i,s)):=fun h=>a3 (by
  unfold Ch;rw[zaa (fun h=>h.elim (fun h=>h J) (fun h=>h U)),um,hL,bm lC,bm ot];exact h)
 refine aq 34 ?_;refine ax 34 (.i .i64 (a:Int)) rfl (by rw[ha]) ?_;refine dr p.bw[a] (bm lC) ?_;refine aq 37 ?_
 iterate 2 refine gZ ?_
 refine aba 3 ?_;refine aba 6 ?_;refine aq 43 ?_;refine di 43 (.i .i64 (b:Int)) rfl rfl (by rw[hb]) ?_;refine I ?_;refine eU p.bw[b] (bm ot) ?_;refine aq 48 ?_;by_cases ag:(p.bw[b]).f≠(p.bw[a]).f
 ·refine di 48 (.b true) rfl rfl (bM (zac ag)) ?_;refine I ?_;exact au rfl (aC (zab (.inl ag)))
 refine di 48 (.b false) rfl rfl (bM (zad ag)) ?_;refine I ?_;refine bQ afn (p.bw,(i:Int),(p.bw[a]).f) hl ?_;cases az:p.bw.any (kq i (p.bw[a]).f)with
 |true=>
  refine ax 54 (.b true) rfl (bM az) (I ?_);exact au rfl (aC (zab (.inr az)))
 |false=>
  refine ax 54 (.b false) rfl (bM az) (I ?_);exact au rfl (aC (zaa (fun h=>h.elim ag (fun h=>Bool.noConfusion (az.symm.trans h)))))
def fD{α:Type}(g:Nat->α->Int):ac α->Nat->am (Nat×Int)
 |[],_=>none
 |x::l,k=>if g k x=0 then fD g l (k+1)else some (k,g k x)
def wo{α:Type}{g:Nat->α->Int}{l:ac α}{j:Nat}(hj:j<l.length):fD g (l.drop j) j=if g j l[j]=0 then fD g (l.drop (j+1)) (j+1)else some (j,g j l[j]):=by
 rw[eX hj];rfl
def nE(_:dK)(_:Nat)(x:Int×Int):Int:=if gj x.1 x.2 then 0 else 2
def nF(p:dK)(_:Nat)(x:lr):Int:=uK p x
def og(p:dK)(i:Nat)(n:gR):Int:=u2 p i n
def oh(p:dK)(i:Nat)(s:xJ):Int:=Ch p i s
def m8(p:dK):Int×Int×Int:=
 match fD (nE p) p.bB 0 with
 |some x=>(1,x.1,x.2)
 |none=>match fD (nF p) p.ins 0 with
  |some x=>(2,x.1,x.2)
  |none=>match fD (og p) p.bw 0 with
   |some x=>(3,x.1,x.2)
   |none=>match fD (oh p) p.fA 0 with
    |some x=>(4,x.1,x.2)
    |none=>if¬j5 p.out p.bw.length∨gY p p.out=1 then(5,0,7)else(0,0,0)
def dL(p:dK):Int×Int×Int:=if qG p=0 then m8 p else(0,0,qG p)
def z2(x:Int×Int×Int):aj:=.bP [.i .i64 x.1,.i .i64 x.2.1,.i .i64 x.2.2]
def xL(p:dK):Prop:=(∀x∈p.ins,x.aQ.length<=2000∧x.af.length<=2000)∧∀n∈p.bw,n.v.length<=2000
variable{x:Rat}
def Gj:bD where
 L:=dK
 args:=fun p=>[jQ p]
 pre:=xL
 res:=fun p=>z2 (dL p)
 hp:=oZ
 hm:=oZ.up
def C0(p:dK):ac aj:=[.i .i64 (p.bB.length:Int),.fn (.func 68) [jQ p] [],.i .i64 (p.ins.length:Int),.fn (.func 69) [jQ p] [],.i .i64 (p.bw.length:Int),.fn (.func 70) [jQ p] [],.i .i64 (p.fA.length:Int),.fn (.func 71) [jQ p] []]
def Mm{p:dK}(h:qG p=0):p.bB.length<=6∧p.ins.length<=6∧p.bw.length<=64∧p.fA.length<=4∧p.tail<=(p.bw.length:Int)∧p.head<=p.tail∧0<=p.head:=by
 unfold qG at h;split at h
 ·cases h
 split at h
 ·cases h
 split at h
 ·cases h
 omega
def afe:bl aT.ctx 22 Gj.spec:=by
 refine sF [(67,Az.spec),(68,Ts.spec),(69,Et.spec),(70,Ov.spec),(71,vu.spec),(72,tG.spec),(73,xq.spec)] Us.1 ?_;intro(p:dK) ⟨cb,lB⟩ H aK e5;have a3:∀{c:Int×Int×Int},dL p=c->bS (z2 c) (Gj.res p):=fun h=>.of (by rw[<-h];rfl);refine I ?_;refine aX ala p trivial ?_;refine ax 15 (.i .i64 (qG p)) rfl rfl (aq 17 ?_);by_cases aR:qG p=0
 case neg=>
  refine dS 17 aR (I ?_);exact au rfl (a3 (zaa aR))
 refine ax 17 (.b false) rfl (bM (zad (fun h=>h aR))) ?_;have aC:∀{c:Int×Int×Int},m8 p=c->bS (z2 c) (Gj.res p):=fun h=>a3 ((zab aR).trans h);obtain⟨e6,iC,r7,Ex,yP,NZ,ao1⟩:=Mm aR;refine I ?_;refine cN (L:=Nat) (fun k=>k<=4∧(1<=k->fD (nE p) p.bB 0=none)∧(2<=k->fD (nF p) p.ins 0=none)∧(3<=k->fD (og p) p.bw 0=none)∧(4<=k->fD (oh p) p.fA 0=none)) (fun(k:Nat)=>⟨[.c 27 (ih p),.c 158 (ih p),.c 161 (C0 p)],3,[(1,.p 0 0),(5,.p 1 0),(44,.a5 2 2 0 4 4),(45,.i .i64 4),(46,.i .i64 (k:Int))]⟩) (fun k=>4-k) [0,1,2] 0 ⟨by omega,fun h=>absurd h (by decide),fun h=>absurd h (by decide),fun h=>absurd h (by decide),fun h=>absurd h (by decide)⟩ (by show 4-0<bV+1;unfold bV;omega) rh ?_;rintro(k:Nat) ⟨ab,fa,fR,m6,CE⟩;rcases(show k=0∨k=1∨k=2∨k=3∨k=4 by omega)with rfl|rfl|rfl|rfl|rfl
 ·refine I ?_;refine kK (j:=0) ?_;refine I ?_;refine cN (L:=Nat) (fun j=>j<=p.bB.length∧fD (nE p) (p.bB.drop j) j=fD (nE p) p.bB 0) (fun(j:Nat)=>⟨[.c 27 (ih p),.c 158 (ih p),.c 161 (C0 p),.c 161 [.i .i64 (p.bB.length:Int),.fn (.func 68) [jQ p] []]],4,[(1,.p 0 0),(5,.p 1 0),(44,.a5 2 2 0 4 4),(45,.i .i64 4),(46,.i .i64 (0:Nat)),(8,.i .i64 (0:Nat)),(9,.p 3 0),(52,.i .i64 (p.bB.length:Int)),(53,.i .i64 (j:Int))]⟩) (fun j=>p.bB.length-j) [0,1,2,3] 0 ⟨zae _,rfl⟩ hF sn ?_;rintro(j:Nat) ⟨gT,an⟩;refine aq 54 ?_;by_cases hj:j<p.bB.length
  ·refine ax 54 (.b true) rfl (bM (zac (by omega))) (I ?_);rw[wo hj]at an;refine vi aiw (p,j,(p.bB[j]).1,(p.bB[j]).2) (bm hj) ?_;refine ax 59 (.i .i64 (nE p j p.bB[j])) rfl rfl (aq 61 ?_);by_cases he:nE p j p.bB[j]=0
   ·rw[zab he]at an;refine ax 61 (.b false) rfl (bM (zad (fun h=>h he))) (aq 66 ?_);refine ax 66 (.i .i64 ((j+1:Nat):Int)) rfl ct (I ?_);exact bf [0,1,2,3] (j+1) ⟨by omega,hj,an⟩ sn
   ·rw[zaa he]at an;refine dS 61 he (I ?_);refine au rfl (aC (c:=(1,(j:Int),nE p j p.bB[j])) ?_);unfold m8;simp only[<-an]
  ·refine ax 54 (.b false) rfl (bM (zad (by omega))) ?_;have an:fD (nE p) p.bB 0=none:=by rw[<-an,zan (by omega)];rfl
   refine I ?_;exact bf [0,1,2] 1 ⟨by decide,by decide,fun _=>an,fun h=>absurd h (by decide),fun h=>absurd h (by decide),fun h=>absurd h (by decide)⟩ rh
 ·refine I ?_;refine kK (j:=1) ?_;refine I ?_;refine cN (L:=Nat) (fun j=>j<=p.ins.length∧fD (nF p) (p.ins.drop j) j=fD (nF p) p.ins 0) (fun(j:Nat)=>⟨[.c 27 (ih p),.c 158 (ih p),.c 161 (C0 p),.c 161 [.i .i64 (p.ins.length:Int),.fn (.func 69) [jQ p] []]],4,[(1,.p 0 0),(5,.p 1 0),(44,.a5 2 2 0 4 4),(45,.i .i64 4),(46,.i .i64 (1:Nat)),(8,.i .i64 (1:Nat)),(9,.p 3 0),(52,.i .i64 (p.ins.length:Int)),(53,.i .i64 (j:Int))]⟩) (fun j=>p.ins.length-j) [0,1,2,3] 0 ⟨zae _,rfl⟩ hF sn ?_;rintro(j:Nat) ⟨gT,an⟩;refine aq 54 ?_;by_cases hj:j<p.ins.length
  ·refine ax 54 (.b true) rfl (bM (zac (by omega))) (I ?_);rw[wo hj]at an;refine vi aog (p,j,p.ins[j]) ⟨bm hj,cb _ (dy hj)⟩ ?_;refine ax 59 (.i .i64 (nF p j p.ins[j])) rfl rfl (aq 61 ?_);by_cases he:nF p j p.ins[j]=0
   ·rw[zab he]at an;refine ax 61 (.b false) rfl (bM (zad (fun h=>h he))) (aq 66 ?_);refine ax 66 (.i .i64 ((j+1:Nat):Int)) rfl ct (I ?_);exact bf [0,1,2,3] (j+1) ⟨by omega,hj,an⟩ sn
   ·rw[zaa he]at an;refine dS 61 he (I ?_);refine au rfl (aC (c:=(2,(j:Int),nF p j p.ins[j])) ?_);unfold m8;simp only[fa (by decide),<-an]
  ·refine ax 54 (.b false) rfl (bM (zad (by omega))) ?_;have an:fD (nF p) p.ins 0=none:=by rw[<-an,zan (by omega)];rfl
   refine I ?_;exact bf [0,1,2] 2 ⟨by decide,by decide,fun _=>fa (by decide),fun _=>an,fun h=>absurd h (by decide),fun h=>absurd h (by decide)⟩ rh
 ·refine I ?_;refine kK (j:=2) ?_;refine I ?_;refine cN (L:=Nat) (fun j=>j<=p.bw.length∧fD (og p) (p.bw.drop j) j=fD (og p) p.bw 0) (fun(j:Nat)=>⟨[.c 27 (ih p),.c 158 (ih p),.c 161 (C0 p),.c 161 [.i .i64 (p.bw.length:Int),.fn (.func 70) [jQ p] []]],4,[(1,.p 0 0),(5,.p 1 0),(44,.a5 2 2 0 4 4),(45,.i .i64 4),(46,.i .i64 (2:Nat)),(8,.i .i64 (2:Nat)),(9,.p 3 0),(52,.i .i64 (p.bw.length:Int)),(53,.i .i64 (j:Int))]⟩) (fun j=>p.bw.length-j) [0,1,2,3] 0 ⟨zae _,rfl⟩ hF sn ?_;rintro(j:Nat) ⟨gT,an⟩;refine aq 54 ?_;by_cases hj:j<p.bw.length
  ·refine ax 54 (.b true) rfl (bM (zac (by omega))) (I ?_);rw[wo hj]at an;refine vi ap4 (p,j,p.bw[j]) ⟨bm hj,lB _ (dy hj)⟩ ?_ (hh:=e5);refine ax 59 (.i .i64 (og p j p.bw[j])) rfl rfl (aq 61 ?_);by_cases he:og p j p.bw[j]=0
   ·rw[zab he]at an;refine ax 61 (.b false) rfl (bM (zad (fun h=>h he))) (aq 66 ?_);refine ax 66 (.i .i64 ((j+1:Nat):Int)) rfl ct (I ?_);exact bf [0,1,2,3] (j+1) ⟨by omega,hj,an⟩ sn
   ·rw[zaa he]at an;refine dS 61 he (I ?_);refine au rfl (aC (c:=(3,(j:Int),og p j p.bw[j])) ?_);unfold m8;simp only[fa (by decide),fR (by decide),<-an]
  ·refine ax 54 (.b false) rfl (bM (zad (by omega))) ?_;have an:fD (og p) p.bw 0=none:=by rw[<-an,zan (by omega)];rfl
   refine I ?_;exact bf [0,1,2] 3 ⟨by decide,by decide,fun _=>fa (by decide),fun _=>fR (by decide),fun _=>an,fun h=>absurd h (by decide)⟩ rh
 ·refine I ?_;refine kK (j:=3) ?_;refine I ?_;refine cN (L:=Nat) (fun j=>j<=p.fA.length∧fD (oh p) (p.fA.drop j) j=fD (oh p) p.fA 0) (fun(j:Nat)=>⟨[.c 27 (ih p),.c 158 (ih p),.c 161 (C0 p),.c 161 [.i .i64 (p.fA.length:Int),.fn (.func 71) [jQ p] []]],4,[(1,.p 0 0),(5,.p 1 0),(44,.a5 2 2 0 4 4),(45,.i .i64 4),(46,.i .i64 (3:Nat)),(8,.i .i64 (3:Nat)),(9,.p 3 0),(52,.i .i64 (p.fA.length:Int)),(53,.i .i64 (j:Int))]⟩) (fun j=>p.fA.length-j) [0,1,2,3] 0 ⟨zae _,rfl⟩ hF sn ?_;rintro(j:Nat) ⟨gT,an⟩;refine aq 54 ?_;by_cases hj:j<p.fA.length
  ·refine ax 54 (.b true) rfl (bM (zac (by omega))) (I ?_);rw[wo hj]at an;refine vi auD (p,j,p.fA[j]) ⟨bm hj,by omega,yP,by omega⟩ ?_;refine ax 59 (.i .i64 (oh p j p.fA[j])) rfl rfl (aq 61 ?_);by_cases he:oh p j p.fA[j]=0
   ·rw[zab he]at an;refine ax 61 (.b false) rfl (bM (zad (fun h=>h he))) (aq 66 ?_);refine ax 66 (.i .i64 ((j+1:Nat):Int)) rfl ct (I ?_);exact bf [0,1,2,3] (j+1) ⟨by omega,hj,an⟩ sn
   ·rw[zaa he]at an;refine dS 61 he (I ?_);refine au rfl (aC (c:=(4,(j:Int),oh p j p.fA[j])) ?_);unfold m8;simp only[fa (by decide),fR (by decide),m6 (by decide),<-an]
  ·refine ax 54 (.b false) rfl (bM (zad (by omega))) ?_;have an:fD (oh p) p.fA 0=none:=by rw[<-an,zan (by omega)];rfl
   refine I ?_;exact bf [0,1,2] 4 ⟨by decide,by decide,fun _=>fa (by decide),fun _=>fR (by decide),fun _=>m6 (by decide),fun _=>an⟩ rh
 ·have c3:=fa (by decide);have dP:=fR (by decide);have jY:=m6 (by decide);have vS:=CE (by decide);have cT:m8 p=if¬j5 p.out p.bw.length∨gY p p.out=1 then(5,0,7)else(0,0,0):=by unfold m8;simp only[c3,dP,jY,vS]
  refine I ?_;refine aX zF (p.out,(p.bw.length:Int)) trivial ?_;by_cases J:j5 p.out p.bw.length
  case neg=>
   refine eu 73 J (I ?_);exact au rfl (aC (c:=(5,0,7)) (cT.trans (zab (.inl J))))
  refine dS 73 J (I ?_);refine aX PW (p,p.out) trivial ?_;refine ax 79 (.i .i64 (gY p p.out)) rfl rfl (aq 80 ?_);by_cases U:gY p p.out=1
  ·refine dS 80 U (I ?_);exact au rfl (aC (c:=(5,0,7)) (cT.trans (zab (.inr U))))
  ·refine eu 80 U (I ?_);exact au rfl (aC (c:=(0,0,0)) (cT.trans (zaa (fun h=>h.elim (fun h=>h J) U))))
def JE(x:Rat)(k:Int):mkRat (x.num*((eh (mkRat 1 1) k).den:Int)) (x.den*(eh (mkRat 1 1) k).num.natAbs)=eh x (-k):=by
 obtain⟨aC,e2⟩:=zq k;rw[aC,e2,zdE];unfold eh;by_cases h: -k<0
 ·rw[zab h,show(-k).toNat=0 by omega,show(-(-k))=k by omega];simp
 ·rw[zaa h,show k.toNat=0 by omega];simp
def abQ(h:x.num=0)(k:Int):(eh x k).den=1:=by
 unfold eh;rw[h];split<;>simp[Rat.zero_mkRat,Rat.mkRat_zero]
def asY(h:0<=x.num)(k:Int):0<=(eh x k).num:=by
 unfold eh;split
 ·rw[(y0 _ _ (zbs x.den_nz (by have:=zaD (-k).toNat;omega))).1];exact Int.ediv_nonneg h (by omega)
 ·rw[(y0 _ _ x.den_nz).1];exact Int.ediv_nonneg (Int.mul_nonneg h (by exact Int.le_of_lt (Int.pow_pos (by decide)))) (by omega)
def aln{e p:Int}(h:gj e p):0<=(oq e p).num:=by
 unfold oq;apply asY;have:mkRat 1 1<=eh (mkRat 1 1) p:=by
  rw[Rat.le_iff,(zq p).1,(zq p).2,show(-p).toNat=0 by have:=h.2.2.1;omega];have:(1:Int)<=2^p.toNat:=by have:=zaD p.toNat;have U:((2^p.toNat:Nat):Int)=2^p.toNat:=by simp
                                                                                                       omega
  show(1:Int)*((2^0:Nat):Int)<=2^p.toNat*1;omega
 exact Rat.num_nonneg.2 ((Rat.le_iff_sub_nonneg _ _).1 this)
def FR(e p:Int)(x:Rat):Prop:=gj e p∧¬oq e p<jr x∧(mkRat (x.num*((eh (mkRat 1 1) (n4 e p x)).den:Int)) (x.den*(eh (mkRat 1 1) (n4 e p x)).num.natAbs)).den=1
def has_eq(e p:Int)(x:Rat):FR e p x↔k3 e p x:=by
 unfold FR k3;constructor
 ·rintro⟨J,U,ag⟩;rw[JE]at ag;by_cases h0:x.num=0
  ·exact⟨J,.inl h0⟩
  ·rw[<-acv h0]at ag;unfold Kg at ag;rw[zaa h0]at ag;exact⟨J,.inr ⟨ag,U⟩⟩
 ·rintro⟨J,h0|⟨ag,U⟩⟩
  ·refine⟨J,?_,by rw[JE];exact abQ h0 _⟩;intro h;have hn:=aln J;rw[Rat.lt_iff,(rv x).1,(rv x).2,h0]at h;have:0<=(oq e p).num*(x.den:Int):=Int.mul_nonneg hn (by omega);simp at h;omega
  ·by_cases h0:x.num=0
   ·exact⟨J,U,by rw[JE];exact abQ h0 _⟩
   ·refine⟨J,U,?_⟩;rw[JE,<-acv h0];unfold Kg;rw[zaa h0];exact ag
theorem Dw{α:Type}{g:Nat->α->Int}:∀{l:ac α} {k:Nat} {x:Nat×Int},fD g l k=some x->x.2≠0
 |[],_,_,h=>by cases h
 |a::l,k,x,h=>by
  unfold fD at h;split at h
  ·exact Dw h
  ·cases h;assumption
def RZ{p:dK}(h:(dL p).2.2=0):dL p=(0,0,0):=by
 unfold dL at h⊢;by_cases aR:qG p=0
 case neg=>rw[zaa aR]at h;exact absurd h aR
 rw[zab aR]at h⊢;unfold m8 at h⊢;cases aC:fD (nE p) p.bB 0 with
 |some x=>rw[aC]at h;exact absurd h (Dw aC)
 |none=>
 rw[aC]at h;cases e2:fD (nF p) p.ins 0 with
 |some x=>rw[e2]at h;exact absurd h (Dw e2)
 |none=>
 rw[e2]at h;cases b3:fD (og p) p.bw 0 with
 |some x=>rw[b3]at h;exact absurd h (Dw b3)
 |none=>
 rw[b3]at h;cases fo:fD (oh p) p.fA 0 with
 |some x=>rw[fo]at h;exact absurd h (Dw fo)
 |none=>
 rw[fo]at h;by_cases lY:¬j5 p.out p.bw.length∨gY p p.out=1
 ·have h:(if¬j5 p.out p.bw.length∨gY p p.out=1 then((5,0,7):Int×Int×Int)else(0,0,0)).2.2=0:=h;rw[zab lY]at h;cases h
 ·exact zaa lY
theorem Tk{α:Type}{g:Nat->α->Int}:∀{l:ac α} {k:Nat},fD g l k=none->∀(i:Nat) (x:α),l[i]? =some x->g (k+i) x=0
 |[],_,_,i,x,h=>by simp at h
 |a::l,k,h,i,x,aa=>by
  unfold fD at h;split at h
  ·rename_i h0;cases i with
   |zero=>simp at aa;subst aa;exact h0
   |succ i=>
    have:=Tk h i x (by simpa using aa);rw[show k+1+i=k+(i+1) by omega]at this;exact this
  ·cases h
def iV(N:ac Bool)(l:ac Int):ac Bool:=l.foldl (fun N (k:Int)=>N.set k.toNat true) N
def aau:bD where
 L:=ac bv
 args:=fun s=>[.s s]
 pre:=fun s=>s.length<=2000
 res:=fun s=>.i .i64 (rI s)
def aq9:bl aT.ctx 281 aau.spec:=by
 refine bI [(32,BM.spec)] UX.1 ?_;intro(s:ac bv) ah H aK;refine I ?_;refine aX q8 s ah ?_;cases h:cJ s with
 |some x=>
  refine ax 7 (.bP [cG x,.i .i64 0]) rfl (by show fI s=_;unfold fI;rw[h]) (I ?_);exact au rfl (.of (by show _=aj.i .i64 (rI s);unfold rI;rw[h];rfl))
 |none=>
  refine ax 7 (.bP [cG 0,.i .i64 6]) rfl (by show fI s=_;unfold fI;rw[h]) (I ?_);exact au rfl (.of (by show _=aj.i .i64 (rI s);unfold rI;rw[h];rfl))
def ve(x y:Rat):Rat:=mkRat (x.num*(y.den:Int)) (x.den*y.num.natAbs)
def aaR:bD where
 L:=Rat×Rat
 args:=fun(x,y)=>[cG x,cG y]
 pre:=fun(x,y)=>dW 60000 x∧dW 60000 y∧0<y.num
 res:=fun(x,y)=>.bP [cG (ve x y),.i .i64 0]
def arv:bl aT.ctx 403 aaR.spec:=by
 refine bI [(83,zh.spec),(84,zd.spec),(80,xc.spec)] VN.1 ?_;intro⟨x,y⟩ ⟨(aa:dW _ x),(aL:dW _ y),(hp:0<y.num)⟩ H aK;have hS:=Cb x.num;have ny:y.num.sign=1:=zbA hp;have av0:y.num≠0:=by omega
 refine aq 8 ?_;refine v0 8 (show¬y.num.sign=0 by omega) (aq 18 ?_);refine di 18 (cZ y.den) rfl rfl (by rw[zaa av0];rfl) ?_;refine bQ q7 (x.num.natAbs,y.den) ⟨c2 aa.1 (by decide),c2 aL.2 (by decide)⟩ (I ?_);refine bQ sf x trivial (I ?_);refine bQ q7 (x.den,y.num.natAbs) ⟨c2 aa.2 (by decide),c2 aL.1 (by decide)⟩ (aq 14 ?_);refine ax 14 (.i .i64 x.num.sign) rfl (by rw[ny,Int.mul_one];exact ct rfl (by omega) (by omega)) (I ?_);refine bQ vc (x.num.sign,x.num.natAbs*y.den,x.den*y.num.natAbs) ⟨hS.1,hS.2,c2 (nt aa.1 aL.2) (by decide),c2 (nt aa.2 aL.1) (by decide),zbs x.den_nz (by omega)⟩ ?_;have e:mkRat (x.num.sign*((x.num.natAbs*y.den:Nat):Int)) (x.den*y.num.natAbs)=ve x y:=by
  unfold ve;rw[zaV,<-zbr,zcB]
 refine ax 25 (cG (ve x y)) rfl (congrArg cG e) (I ?_);exact au rfl (.refl _)
def aaQ:bD where
 L:=Rat×Rat
 args:=fun(x,y)=>[cG x,cG y]
 pre:=fun(x,y)=>dW 60000 x∧dW 60000 y∧0<y.num
 res:=fun(x,y)=>cG (ve x y)
def aru:bl aT.ctx 370 aaQ.spec:=by
 refine bI [(403,aaR.spec)] VA.1 ?_;intro⟨x,y⟩ hp H aK;refine I ?_;refine aX arv (x,y) hp ?_;refine ax 10 (.bP [cG (ve x y),.i .i64 0]) rfl rfl (I ?_);exact au rfl (.refl _)
def aas:bD where
 L:=Int×Int×Rat
 args:=fun(e,p,x)=>[qC e p,cG x]
 pre:=fun(e,p,x)=>gj e p∧dW 60000 x
 res:=fun(e,p,x)=>.b (decide (oq e p<jr x))
def aq4:bl aT.ctx 369 aas.spec:=by
 refine bI [(401,Jn.spec),(402,aax.spec),(33,xg.spec)] Vy.1 ?_;intro⟨e,p,x⟩ ⟨aw,(aa:dW _ x)⟩ H aK;refine I ?_;refine bQ Pa x trivial (I ?_);refine bQ arc (e,p) aw (I ?_);refine bQ xh (jr x,oq e p) ⟨eC (Ow aa) (by decide),eC (ap8 aw) (by decide)⟩ (I ?_);exact au rfl (.of (bM (decide_eq_decide.2 xU)))
def aaC:bD where
 L:=Rat
 args:=fun x=>[cG x]
 pre:=fun x=>ee 268435456 x.den
 res:=fun x=>.b (decide (x.den=1))
def arf:bl aT.ctx 86 aaC.spec:=by
 refine bI [(84,zd.spec),(179,xe.spec),(82,tq.spec)] Mk.1 ?_;intro(x:Rat) aa H aK;refine I ?_;refine aX sf x trivial (I ?_);refine aX vd () trivial (I ?_);refine aX sg (x.den,1) ⟨c2 aa (by decide),E7⟩ (I ?_);refine au rfl (.of (bM (decide_eq_decide.2 ?_)));show iY x.den 1=0↔x.den=1;unfold iY;have:=x.den_nz;by_cases h:x.den=1
 ·rw[zaa (by omega),zab h];exact⟨fun _=>h,fun _=>rfl⟩
 ·rw[zaa (by omega),zaa h];exact⟨(fun h=>by cases h),fun aG=>absurd aG h⟩
def auF{e p:Int}(h:gj e p)(aa:dW 300 x): -20000<=n4 e p x∧n4 e p x<=20000:=by
 obtain⟨J,U,ag,az,a4⟩:=h;obtain⟨c3,dP⟩:=qu J U;have jY:=Iv x.num.natAbs x.den;have vS:=q6 aa.1;have CP:=q6 aa.2;unfold n4;split<;>omega
def Jv:bD where
 L:=Int×Int×Rat
 args:=fun(e,p,x)=>[qC e p,cG x]
 pre:=fun(e,p,x)=>dW 300 x
 res:=fun(e,p,x)=>.b (hasB e p x)
def aaz:bl aT.ctx 278 Jv.spec:=by
 refine bI [(172,Jr.spec),(369,aas.spec),(371,aaY.spec),(370,aaQ.spec),(86,aaC.spec)] US.1 ?_;intro⟨e,p,x⟩ (aa:dW 300 x) H aK;have no:¬FR e p x->bS (.b false) (Jv.res (e,p,x)):=fun h=>.of (bM (by unfold hasB;exact(zad (fun aG=>h ((has_eq e p x).2 aG))).symm));have yes:FR e p x->bS (.b true) (Jv.res (e,p,x)):=fun h=>.of (bM (by unfold hasB;exact(zac ((has_eq e p x).1 h)).symm));refine I ?_;refine bQ aat (e,p) trivial ?_;by_cases J:gj e p
 case neg=>
  refine ax 6 (.i .i64 2) rfl (congrArg (aj.i .i64) (zaa J)) (I ?_);exact au rfl (no (fun h=>J h.1))
 refine ax 6 (.i .i64 0) rfl (congrArg (aj.i .i64) (zab J)) (I ?_);refine bQ aq4 (e,p,x) ⟨J,eC aa (by decide)⟩ ?_;by_cases U:oq e p<jr x
 ·refine dS 11 U (I ?_);exact au rfl (no (fun h=>h.2.1 U))
 refine eu 11 U ?_;obtain⟨ba,bx⟩:=auF J aa;have OB:=Oy (c:=20000) (k:=n4 e p x) (by omega) (by omega);have av2:0<(eh (mkRat 1 1) (n4 e p x)).num:=by
  rw[(zq _).1];exact Int.pow_pos (by decide)
 refine I ?_;refine bQ arC (e,p,x) ⟨J,eC aa (by decide)⟩ (I ?_);refine bQ aru (x,eh (mkRat 1 1) (n4 e p x)) ⟨eC aa (by decide),eC OB (by decide),av2⟩ ?_;have c8:dW 60000 (ve x (eh (mkRat 1 1) (n4 e p x))):=by
  refine y4 ?_ (c2 (nt aa.2 OB.1) (by decide)) (zbs x.den_nz (by omega));rw[zcg,Int.natAbs_natCast];exact c2 (nt aa.1 OB.2) (by decide)
 refine I ?_;refine bQ arf (ve x (eh (mkRat 1 1) (n4 e p x))) (c2 c8.2 (by decide)) ?_;by_cases ag:(ve x (eh (mkRat 1 1) (n4 e p x))).den=1
 ·refine dS 20 ag (I ?_);exact au rfl (yes ⟨J,U,ag⟩)
 ·refine eu 20 ag (I ?_);exact au rfl (no (fun h=>ag h.2.2))
def zg:bl aT.ctx 176 tG.spec:=by
 refine bI [] Ub.1 ?_;intro⟨n,m⟩ _ H aK;refine aq 6 ?_;by_cases h:0<=n
 ·refine v1 6 h (I ?_);exact au rfl (.of (bM (decide_eq_decide.2 ⟨fun aG=>⟨h,aG⟩,fun aG=>aG.2⟩)))
 ·refine v0 6 h (I ?_);exact au rfl (.of (bM (zad (fun aG=>h aG.1)).symm))
def Jy:bl aT.ctx 177 xq.spec:=by
 refine bI [] Uc.1 ?_;intro⟨p,i⟩ _ H aK;have aC:∀{c:Int},gY p i=c->bS (.i .i64 c) (xq.res (p,i)):=fun h=>.of (by rw[<-h];rfl);refine aq 8 ?_;by_cases h:i<p.head
 ·refine v1 8 h (I ?_);exact au rfl (aC (zab h))
 refine v0 8 h (aq 12 ?_);by_cases U:i<p.tail
 ·refine v1 12 U (I ?_);exact au rfl (aC ((zaa h).trans (zab U)))
 refine v0 12 U (I ?_);exact au rfl (aC ((zaa h).trans (zaa U)))
def arA:bl aT.ctx 283 xt.spec:=by
 refine bI [(177,xq.spec)] UZ.1 ?_;intro⟨p,i,k⟩ _ H aK;have no:¬(0<=k∧k<i∧(gY p k=0∨gY p k=gY p i))->bS (.b false) (xt.res (p,i,k)):=fun h=>.of (bM (zad h).symm);have yes:(0<=k∧k<i∧(gY p k=0∨gY p k=gY p i))->bS (.b true) (xt.res (p,i,k)):=fun h=>.of (bM (zac h).symm);refine aq 8 ?_;by_cases h:0<=k
 case neg=>
  refine hK 8 h (I ?_);exact au rfl (no (by omega))
 refine e9 8 h (aq 12 ?_);by_cases U:k<i
 case neg=>
  refine hK 12 U (I ?_);exact au rfl (no (by omega))
 refine e9 12 U (I ?_);refine bQ Jy (p,k) trivial ?_;refine ax 17 (.i .i64 (gY p k)) rfl rfl (aq 18 ?_);by_cases ag:gY p k=0
 ·refine v1 18 ag (I ?_);exact au rfl (yes ⟨h,U,.inl ag⟩)
 refine v0 18 ag (I ?_);refine bQ Jy (p,k) trivial ?_;refine ax 22 (.i .i64 (gY p k)) rfl rfl (I ?_);refine bQ Jy (p,i) trivial ?_;refine ax 25 (.i .i64 (gY p i)) rfl rfl (aq 26 ?_);by_cases az:gY p k=gY p i
 ·refine v1 26 az (I ?_);exact au rfl (yes ⟨h,U,.inr az⟩)
 refine v0 26 az (I ?_);exact au rfl (no (fun h=>h.2.2.elim ag az))
def rA(op:Int):Int:=if 1<=op∧op<=15 then(oC op.toNat:Int)else -1
def zV:bD where
 L:=Int
 args:=fun n=>[.i .i64 n]
 pre:=fun _=>True
 res:=fun n=>.i .i64 (rA n)
def aoM:∀o,o<16->1<=o->oC o=if o<=3 then 0 else if o<=7 then 1 else if o<=13 then 2 else if o=14 then 3 else 4:=by decide +kernel
def ave:∀o,o<16->1<=o->vw o=if o=1∨o=2 then 1 else oC o:=by decide +kernel
def zW:bl aT.ctx 279 zV.spec:=by
 refine bI [] UT.1 ?_;intro(n:Int) _ H aK;have aC:∀{c:Int},rA n=c->bS (.i .i64 c) (zV.res n):=fun h=>.of (by rw[<-h];rfl);refine aq 5 ?_;by_cases J:n<1
 ·refine v1 5 J (I ?_);exact au rfl (aC (zaa (by omega)))
 refine v0 5 J (aq 8 ?_);by_cases U:15<n
 ·refine v1 8 U (I ?_);exact au rfl (aC (zaa (by omega)))
 refine v0 8 U ?_;obtain⟨o,al⟩:∃o:Nat,n=(o:Int):=⟨n.toNat,by omega⟩;have ab:=aoM o (by omega) (by omega);have e2:∀{c:Nat},oC o=c->bS (.i .i64 (c:Int)) (zV.res n):=fun h=>aC (by unfold rA;rw[zab (by omega),al,zbR,h]);refine aq 12 ?_;by_cases ag:n<=3
 ·refine v1 12 ag (I ?_);exact au rfl (e2 (c:=0) (ab.trans (zab (by omega))))
 refine v0 12 ag ?_;rw[zaa (by omega)]at ab;refine aq 15 ?_;by_cases az:n<=7
 ·refine v1 15 az (I ?_);exact au rfl (e2 (c:=1) (ab.trans (zab (by omega))))
 refine v0 15 az ?_;rw[zaa (by omega)]at ab;refine aq 18 ?_;by_cases a4:n<=13
 ·refine v1 18 a4 (I ?_);exact au rfl (e2 (c:=2) (ab.trans (zab (by omega))))
 refine v0 18 a4 ?_;rw[zaa (by omega)]at ab;refine aq 21 ?_;by_cases cl:n=14
 ·refine v1 21 cl (I ?_);exact au rfl (e2 (c:=3) (ab.trans (zab (by omega))))
 refine v0 21 cl (I ?_);exact au rfl (e2 (c:=4) (ab.trans (zaa (by omega))))
def L8(n:gR):ac aj:=[.i .i64 n.a,.i .i64 n.b,.i .i64 n.c,.i .i64 n.d]
def L4:bD where
 L:=gR
 args:=fun n=>[.agg (lK n)]
 pre:=fun _=>True
 res:=fun n=>.agg (L8 n)
def Tf:bl aT.ctx 372 L4.spec:=by
 refine bI [] VC.1 ?_;intro(n:gR) _ H aK;refine I ?_;exact au rfl (.refl _)
def ari(n:gR):Nat×ac Int->cz
 |(k,[])=>⟨[.c 143 (lK n),.a 339 false 1 Int eZ (fc n)],2,[(1,.p 0 0),(3,.p 1 0),(4,.nl),(5,.i .i64 (k:Int))]⟩
 |(k,d::ds)=>⟨[.c 143 (lK n),.a 339 false 1 Int eZ (fc n),.a 3 true 1 Int eZ (d::ds)],3,[(1,.p 0 0),(3,.p 1 0),(4,.a5 2 1 0 (ds.length+1) (ds.length+1)),(5,.i .i64 (k:Int))]⟩
def aaD:bD where
 L:=gR
 args:=fun n=>[.agg (lK n)]
 pre:=fun n=>1<=n.op∧n.op<=15
 res:=fun n=>.cc 1 Int eZ (hO n)
def auK{own:ac bj}{n p:Nat}{e bL:bO}{m:Nat}{o q r:bj}(h:k5 [0,1,m] bL e)(al:∃bh,own[0]? =some bh∧gQ [0,1,m] o bh)(hq:∃bh,own[1]? =some bh∧gQ [0,1,m] q bh)(aE:∃bh,own[m]? =some bh∧gQ [0,1,m] r bh)(hm:1<m:=by decide)(hp:pinned p [0,1,m] 0=true:=by rfl):Sub p [0,1,m] ⟨own,n,e⟩ ⟨[o,q,r],3,bL⟩:=⟨by simp;omega,rfl,⟨al,hq,aE,trivial⟩,h,hp⟩
def arj:bl aT.ctx 282 aaD.spec:=by
 refine bI [(372,L4.spec),(279,zV.spec)] UY.1 ?_;intro(n:gR) ⟨(J:1<=n.op),(U:n.op<=15)⟩ H aK;obtain⟨o,al⟩:∃o:Nat,n.op=(o:Int):=⟨n.op.toNat,by omega⟩;have kD:n.op.toNat=o:=by omega
 obtain⟨hu,_⟩:=J7 o (by omega);have a0:hO n=(fc n).take (oC o):=by unfold hO;rw[kD];exact zab ⟨J,U⟩
 have fE:rA n.op=(oC o:Int):=by unfold rA;rw[zab ⟨J,U⟩,kD]
 generalize oC o=u at *;refine I ?_;refine aX Tf n trivial ?_;refine ax 7 (.agg (L8 n)) rfl rfl (aq 5 ?_);refine oN 1 eZ (fc n) ?_;refine I ?_;refine cN (L:=Nat×ac Int) (fun(k,l)=>k<=u∧l=(fc n).take k) (ari n) (fun l=>u-l.1) [0,1] (0,[]) ⟨zae _,rfl⟩ (by show u-0<bV+1;unfold bV;omega) jS ?_;rintro⟨k,l⟩ ⟨ab,an⟩;have rT:(fc n).length=4:=rfl;have nR:l.length=k:=by rw[an,zao];omega
 by_cases aN:k<u
 ·have MX:k<(fc n).length:=by omega
  have eH:(fc n).take (k+1)=l++[(fc n)[k]]:=by rw[zaY MX,an]
  cases l with
  |nil=>
   refine I ?_;refine aX zW n.op trivial ?_;refine ax 11 (.i .i64 (u:Int)) rfl (congrArg (aj.i .i64) fE) (aq 12 ?_);refine v1 12 (show(k:Int)<u by omega) (I ?_);refine JV (j:=k) ?_;refine tt (fc n)[k] (bm MX) ?_;refine I ?_;refine vh eZ [(fc n)[k]] (jj (R:=eZ) [(fc n)[k]] rfl) ?_;refine aq 14 ?_;refine e8 14 ((k+1:Nat):Int) (I ?_);exact bf [0,1,3] (k+1,[(fc n)[k]]) ⟨by show u-(k+1)<u-k;omega,aN,eH.symm⟩ rh
  |cons d ds=>
   have iN:ds.length+1=k:=nR;refine I ?_;refine aX zW n.op trivial ?_;refine ax 11 (.i .i64 (u:Int)) rfl (congrArg (aj.i .i64) fE) (aq 12 ?_);refine v1 12 (show(k:Int)<u by omega) (I ?_);refine JV (j:=k) ?_;refine tt (fc n)[k] (bm MX) ?_;refine I ?_;refine vg (R:=eZ) [(fc n)[k]] (jj (R:=eZ) [(fc n)[k]] rfl) ?_;refine aq 14 ?_;refine e8 14 ((k+1:Nat):Int) (I ?_);exact bf [0,1,4] (k+1,d::(ds++[(fc n)[k]])) ⟨by show u-(k+1)<u-k;omega,aN,eH.symm⟩ (auK ⟨rfl,rfl,congrArg (fun k=>some (aj.a5 4 1 0 k k)) (by simp),rfl,trivial⟩ ⟨_,rfl,rfl⟩ ⟨_,rfl,rfl,fun _=>rfl⟩ ⟨_,rfl,rfl,fun _=>rfl⟩)
 ·obtain rfl:k=u:=by omega
  rw[<-a0]at an;cases l with
  |nil=>
   refine I ?_;refine aX zW n.op trivial ?_;refine ax 11 (.i .i64 (k:Int)) rfl (congrArg (aj.i .i64) fE) (aq 12 ?_);refine v0 12 (show¬(k:Int)<k by omega) (I ?_);exact au rfl (bS.nl.trans (.of (by show aj.cc 1 Int eZ []=aj.cc 1 Int eZ (hO n);rw[<-an])))
  |cons d ds=>
   refine I ?_;refine aX zW n.op trivial ?_;refine ax 11 (.i .i64 (k:Int)) rfl (congrArg (aj.i .i64) fE) (aq 12 ?_);refine v0 12 (show¬(k:Int)<k by omega) (aq 21 ?_);refine kb 21 ?_;refine I ?_;exact au rfl (.of (by show aj.cc 1 Int eZ (d::ds)=aj.cc 1 Int eZ (hO n);rw[<-an]))
def acJ:bD where
 L:=gR
 args:=fun n=>[.agg (lK n)]
 pre:=fun n=>1<=n.op∧n.op<=15
 res:=fun n=>.b (!r4 n)
def auO:bl aT.ctx 280 acJ.spec:=by
 refine bI [(372,L4.spec),(279,zV.spec)] UW.1 ?_;intro(n:gR) ⟨(J:1<=n.op),(U:n.op<=15)⟩ H aK;obtain⟨o,al⟩:∃o:Nat,n.op=(o:Int):=⟨n.op.toNat,by omega⟩;have kD:n.op.toNat=o:=by omega
 obtain⟨_,hu⟩:=J7 o (by omega);have aW:=ave o (by omega) (by omega);have fE:rA n.op=(oC o:Int):=by unfold rA;rw[zab ⟨J,U⟩,kD]
 have a0:r4 n=(((fc n).drop (vw o)).all (fun x=>x==0)&&(n.v.isEmpty||decide (n.op=3))):=by unfold r4;rw[kD]
 generalize vw o=u at *;refine I ?_;refine aX zW n.op trivial ?_;refine ax 8 (.i .i64 (oC o:Int)) rfl (congrArg (aj.i .i64) fE) (aq 3 ?_)
 iterate 3 refine gZ ?_
 refine ij (L:=Unit) (fun _=>True) (fun _=>⟨[.c 143 (lK n)],1,[(1,.p 0 0),(3,.i .i64 (u:Int))]⟩) ?_ ?_
 ·refine aq 11 ?_;by_cases e0:n.op=1
  ·refine v1 11 e0 ?_;rw[zab (.inl (by omega))]at aW;subst aW;refine I ?_;exact bf [0] () trivial dI
  refine v0 11 e0 (aq 15 ?_);by_cases fT:n.op=2
  ·refine v1 15 fT ?_;rw[zab (.inr (by omega))]at aW;subst aW;refine I ?_;exact bf [0] () trivial dI
  refine v0 15 fT ?_;rw[zaa (by omega)]at aW;subst aW;refine I ?_;exact bf [0] () trivial dI
 intro _ _;refine I ?_;refine aX Tf n trivial ?_;refine ax 18 (.agg (L8 n)) rfl rfl (aq 19 ?_);refine oN 1 eZ (fc n) ?_;refine I ?_;refine cN (L:=Nat) (fun k=>u<=k∧k<=4∧(((fc n).drop u).take (k-u)).all (fun x=>x==0)=true) (fun(k:Nat)=>⟨[.c 143 (lK n),.a 339 false 1 Int eZ (fc n)],2,[(1,.p 0 0),(4,.p 1 0),(5,.i .i64 (k:Int))]⟩) (fun k=>4-k) [0,1] u ⟨zaK _,hu,by rw[zdo];rfl⟩ (by show 4-u<bV+1;unfold bV;omega) jS ?_;rintro(k:Nat) ⟨Xg,ab,an⟩;have rT:(fc n).length=4:=rfl;have hlen:((fc n).drop u).length=4-u:=by rw[zaA];rfl
 refine aq 21 ?_;by_cases hl:k<4
 ·refine v1 21 (show(k:Int)<4 by omega) ?_;have M1:k-u<((fc n).drop u).length:=by omega
  have kl:(fc n)[k]? =some ((fc n).drop u)[k-u]:=by
   rw[<-bm M1,zaB,show u+(k-u)=k by omega]
  refine I ?_;refine JV (j:=k) ?_;refine tt ((fc n).drop u)[k-u] kl ?_;refine aq 27 ?_;by_cases aa:((fc n).drop u)[k-u]=0
  ·refine v0 27 (fi aa) (aq 23 ?_);refine e8 23 ((k+1:Nat):Int) (I ?_);exact bf [0,1] (k+1) ⟨by omega,by omega,hl,by rw[show k+1-u=(k-u)+1 by omega];exact XS M1 an aa⟩ jS
  ·refine v1 27 aa (I ?_);refine au rfl (.of (bM ?_));have:((fc n).drop u).all (fun x=>x==0)=false:=by
    rw[List.all_eq_false];exact⟨((fc n).drop u)[k-u],dy M1,by simpa using aa⟩
   rw[a0,this];rfl
 ·refine v0 21 (show¬(k:Int)<4 by omega) ?_;have p8:((fc n).drop u).all (fun x=>x==0)=true:=by
   rw[zas (by omega)]at an;exact an
  refine aq 30 ?_;by_cases ag:n.op=3
  ·refine v0 30 (fi ag) (I ?_);exact au rfl (.of (bM (by rw[a0,p8,zac ag];simp)))
  ·refine v1 30 ag (aq 34 ?_);cases aD:n.v with
   |nil=>
    refine ax 34 (.b false) rfl rfl (I ?_);exact au rfl (.of (bM (by rw[a0,p8,aD];rfl)))
   |cons c v=>
    refine ax 34 (.b true) rfl rfl (I ?_);exact au rfl (.of (bM (by rw[a0,p8,aD,zad ag];rfl)))
def avO:bl aT.ctx 171 Az.spec:=by
 refine bI [] T6.1 ?_;intro(p:dK) _ H aK;have a3:∀{c:Int},qG p=c->bS (.i .i64 c) (Az.res p):=fun h=>.of (by rw[<-h];rfl);refine aq 10 ?_;by_cases J:6<(p.bB.length:Int)
 ·refine v1 10 J (I ?_);exact au rfl (a3 (zab (.inl J)))
 refine v0 10 J (aq 15 ?_);by_cases U:6<(p.ins.length:Int)
 ·refine v1 15 U (I ?_);exact au rfl (a3 (zab (.inr (.inl U))))
 refine v0 15 U (aq 19 ?_);by_cases ag:64<(p.bw.length:Int)
 ·refine v1 19 ag (I ?_);exact au rfl (a3 (zab (.inr (.inr (.inl ag)))))
 refine v0 19 ag (aq 25 ?_);by_cases az:4<(p.fA.length:Int)
 ·refine v1 25 az (I ?_);exact au rfl (a3 (zab (.inr (.inr (.inr az)))))
 refine v0 25 az ?_;have kW:¬(6<(p.bB.length:Int)∨6<(p.ins.length:Int)∨64<(p.bw.length:Int)∨4<(p.fA.length:Int)):=fun h=>h.elim J fun h=>h.elim U fun h=>h.elim ag az;have aC:=fun{c} h=> @a3 c ((zaa kW).trans h);refine aq 30 ?_;by_cases g1:(p.bB.length:Int)=0
 ·refine v1 30 g1 (I ?_);exact au rfl (aC (zab (.inl g1)))
 refine v0 30 g1 (aq 33 ?_);by_cases aM:(p.bw.length:Int)=0
 ·refine v1 33 aM (I ?_);exact au rfl (aC (zab (.inr (.inl aM))))
 refine v0 33 aM (aq 38 ?_);by_cases bc:p.mode<0
 ·refine v1 38 bc (I ?_);exact au rfl (aC (zab (.inr (.inr (.inl bc)))))
 refine v0 38 bc (aq 43 ?_);by_cases cf:4<p.mode
 ·refine v1 43 cf (I ?_);exact au rfl (aC (zab (.inr (.inr (.inr cf)))))
 refine v0 43 cf ?_;have fi:¬((p.bB.length:Int)=0∨(p.bw.length:Int)=0∨p.mode<0∨4<p.mode):=fun h=>h.elim g1 fun h=>h.elim aM fun h=>h.elim bc cf;have e2:=fun{c} h=> @aC c ((zaa fi).trans h);refine aq 47 ?_;by_cases ba:p.head<0
 ·refine v1 47 ba (I ?_);exact au rfl (e2 (zab (.inl ba)))
 refine v0 47 ba (aq 53 ?_);by_cases bx:p.tail<p.head
 ·refine v1 53 bx (I ?_);exact au rfl (e2 (zab (.inr (.inl bx))))
 refine v0 53 bx (aq 59 ?_);by_cases dE:(p.bw.length:Int)<p.tail
 ·refine v1 59 dE (I ?_);exact au rfl (e2 (zab (.inr (.inr dE))))
 refine v0 59 dE ?_;have pk:¬(p.head<0∨p.tail<p.head∨(p.bw.length:Int)<p.tail):=fun h=>h.elim ba fun h=>h.elim bx dE;have b3:=fun{c} h=> @e2 c ((zaa pk).trans h);refine aq 65 ?_;by_cases eg:(p.fA.length:Int)=0
 ·refine v1 65 eg (aq 70 ?_);by_cases fh:p.head<(p.bw.length:Int)
  ·refine v1 70 fh (I ?_);exact au rfl (b3 (zab ⟨eg,by omega⟩))
  ·refine v0 70 fh (I ?_);exact au rfl (b3 (zaa (fun h=>h.2 (by omega))))
 ·refine v0 65 eg (I ?_);exact au rfl (b3 (zaa (fun h=>eg h.1)))
def aaq{v k:Nat}(h:v<10^k)(ab:k<=2000):ee 300 v:=by
 refine jZ (by decide) (zdH h (zag (zaJ (by decide) ab) ?_));decide +kernel
def se{s:ac bv}(ah:s.length<=2000)(h:cJ s=some x):dW 300 x:=by
 obtain⟨P,q,js,_,_,ja,hq,AF,hint,A1⟩:=O2 ah;by_cases c5:pF (ed s).1 P q js
 ·obtain⟨g1,aM,bc⟩:=c5;have vJ:=aaq (sl g1.2.1) (by omega);cases js with
  |false=>
   have e:=hint ⟨g1,aM,bc⟩ rfl;rw[h]at e;cases e;exact y4 (by rw[vr];exact vJ) (by show(aY _ 1).length<=_;rw[wc];exact jF rfl) (by decide)
  |true=>
   obtain⟨ag,az,a4⟩:=bc rfl;have oL:b7 q≠0:=fun h=>az (xQ ag h);have e:=A1 ⟨g1,aM,bc⟩ rfl;rw[h]at e;split at e
   ·cases e;exact y4 (by rw[vr];exact vJ) (aaq (sl ag.2.1) (by omega)) oL
   ·cases e
 ·rw[AF c5]at h;cases h
def E8:bD where
 L:=dK×lr
 args:=fun(p,x)=>[jQ p,.agg (Bc x)]
 pre:=fun(p,x)=>x.aQ.length<=2000∧x.af.length<=2000
 res:=fun(p,x)=>.i .i64 (uK p x)
def ard:bl aT.ctx 173 E8.spec:=by
 refine bI [(176,tG.spec),(32,BM.spec),(278,Jv.spec),(33,xg.spec)] T8.1 ?_;intro⟨p,x⟩ ⟨gU,ht⟩ H aK;have a3:∀{c:Int},uK p x=c->bS (.i .i64 c) (E8.res (p,x)):=fun h=>.of (by rw[<-h];rfl);refine I ?_;refine aX zg (x.f,(p.bB.length:Int)) trivial ?_;by_cases ag:j5 x.f p.bB.length
 case neg=>
  refine eu 14 ag (I ?_);exact au rfl (a3 (zaa ag))
 refine dS 14 ag ?_;obtain⟨f,ae⟩:∃f:Nat,x.f=(f:Int):=⟨x.f.toNat,by have:=ag.1;omega⟩;have uw:x.f.toNat=f:=by omega
 have rT:f<p.bB.length:=by have:=ag.2;omega
 obtain⟨⟨kB,kC⟩,hq⟩:∃w,p.bB[f]? =some w:=⟨_,bm rT⟩;have aC:∀{c:Int},qW kB kC x=c->bS (.i .i64 c) (E8.res (p,x)):=fun h=>a3 (by unfold uK;rw[zab ag,uw,hq];exact h);refine I ?_;refine aX q8 x.aQ gU ?_;cases fE:cJ x.aQ with
 |none=>
  refine ax 19 (.bP [cG 0,.i .i64 6]) rfl (by show fI x.aQ=_;unfold fI;rw[fE]) (I ?_);exact au rfl (aC (by unfold qW;rw[fE]))
 |some X=>
 refine ax 19 (.bP [cG X,.i .i64 0]) rfl (by show fI x.aQ=_;unfold fI;rw[fE]) (I ?_);refine aX q8 x.af ht ?_;cases a0:cJ x.af with
 |none=>
  refine ax 28 (.bP [cG 0,.i .i64 6]) rfl (by show fI x.af=_;unfold fI;rw[a0]) (I ?_);exact au rfl (aC (by unfold qW;rw[fE,a0]))
 |some Y=>
 refine ax 28 (.bP [cG Y,.i .i64 0]) rfl (by show fI x.af=_;unfold fI;rw[a0]) ?_;have EI:=se gU fE;have EJ:=se ht a0;have iM:qW kB kC x=if k3 kB kC X∧k3 kB kC Y∧¬Y<X then 0 else 7:=by unfold qW;rw[fE,a0]
 have no:¬(k3 kB kC X∧k3 kB kC Y∧¬Y<X)->bS (.i .i64 7) (E8.res (p,x)):=fun h=>aC (iM.trans (zaa h));refine aq 37 ?_;refine ax 37 (.i .i64 (f:Int)) rfl (by rw[ae]) ?_;refine dr (kB,kC) hq ?_;refine I ?_;refine aX aaz (kB,kC,X) EI ?_;by_cases cv:k3 kB kC X
 case neg=>
  refine eu 42 cv (I ?_);exact au rfl (no (fun h=>cv h.1))
 refine dS 42 cv (I ?_);refine aX aaz (kB,kC,Y) EJ ?_;by_cases cF:k3 kB kC Y
 case neg=>
  refine eu 47 cF (I ?_);exact au rfl (no (fun h=>cF h.2.1))
 refine dS 47 cF (I ?_);refine aX xh (X,Y) ⟨eC EI (by decide),eC EJ (by decide)⟩ (aq 54 ?_);by_cases dU:Y<X
 ·refine v1 54 (xU.2 dU) (I ?_);exact au rfl (no (fun h=>h.2.2 dU))
 ·refine v0 54 (fun h=>dU (xU.1 h)) (I ?_);exact au rfl (aC (iM.trans (zab ⟨cv,cF,dU⟩)))
