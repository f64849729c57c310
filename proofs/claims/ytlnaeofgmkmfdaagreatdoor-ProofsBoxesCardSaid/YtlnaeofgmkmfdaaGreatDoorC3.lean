/- What the functions of the program and of the document compute, for every input (part 3); conditions as in the statements. -/
import Derived.Test.YtlnaeofgmkmfdaaGreatDoorX
import Derived.Test.YtlnaeofgmkmfdaaGreatDoorC2
import Derived.Test.YtlnaeofgmkmfdaaGreatDoorS2
set_option linter.all false
namespace Go.an.a7
open Go.an
set_option maxRecDepth 100000
set_option maxHeartbeats 4000000
def ab3:bU where
 L:=ac ce
 args:=fun s=>[.s s]
 pre:=fun s=>jZ s∧s.length<=2100
 res:=fun s=>dH (cd s)
def FP(v:Nat)(rest:ac ce):ac aY:=[.c 62 [dH v],.c 9 [.s rest]]
def EZ{v k K:Nat}(h:v<10^k)(ab:k<=K):eO K v:=BH (fx h (zag (zdA (by decide) k) (zaL (by decide) ab)))
def vx:co->eE:=cn [(158,B3.spec),(161,I7.spec),(240,Lg.spec)]
def Qe:bD aX.ctx 157 ab3.spec:=by
 refine agT aX.ek eM vx (xf:=UA.1) (by kernel_rfl) (fun l vs st ⟨_,_,_,d⟩=>by rw[hP d];exact jw rfl) ?_;rintro⟨s,H⟩ vs st ⟨⟨dZ,ah⟩,_,ao,ay⟩;have dZ:jZ s:=dZ;have ah:s.length<=2100:=ah;have ao:Fit H [] st [] 0:=ao;have ay:c4 H [.s s] [] vs:=ay;have af:=cU.zero ay;obtain⟨dC,cp,H1,ID,az,CT,pb,f1,g2⟩:=Qn (call:=bH aS (bO aX.ctx vx) (b0+1)) (bE:=b0+1) (fn:=157) (ops:=[C.m 2 C.bs]) (s:=⟨[],0,jB 0 [.s s]⟩) (t:=⟨[],0,[(2,.nl),(0,.s s)]⟩) rfl (by
  intro H1 i1 s1 _ _;refine J ?_;exact c8 ⟨rfl,rfl⟩) ao af
 obtain⟨j2,cc,Ad,BB,e2,Gp,jg,f2,kO⟩:=Qn (call:=bH aS (bO aX.ctx vx) (b0+1)) (bE:=b0+1) (fn:=157) (ops:=[C.hZ 3 [C.N] 62]) (s:=⟨[],0,[(2,.nl),(0,.s s)]⟩) (t:=⟨[.c 62 [dH 0]],1,[(3,.p 0 0),(2,.nl),(0,.s s)]⟩) rfl (by
  intro H1 i1 s1 _ _
  iterate 1 refine iL ?_
  refine asi 0 (cs:=[.nl]) [dH 0] ⟨b7.nl.trans (.of (by show dr []=dr (bb _ 0);rw[hQ])),trivial⟩ ?_;refine J ?_;exact c8 ⟨rfl,rfl⟩) pb f1
 obtain⟨n0,dB,iz,hr,b8,Gq,KW,f3,vv⟩:=Qn (call:=bH aS (bO aX.ctx vx) (b0+1)) (bE:=b0+1) (fn:=157) (ops:=[C.m 6 0,C.c 7 270 [6]]) (s:=⟨[.c 62 [dH 0]],1,[(3,.p 0 0),(2,.nl),(0,.s s)]⟩) (t:=⟨FP 0 s,2,[(7,.fn (.func 364) [] [.p 1 0]),(6,.s s),(3,.p 0 0),(2,.nl),(0,.s s)]⟩) rfl (by
  intro H1 i1 s1 _ _;refine J ?_;refine P3 Vl.1 (by kernel_rfl) ?_;intro Ad i2 s2 _ _;refine J ?_;refine c8 ⟨.inr rfl,_,rfl,?_⟩;refine J ?_;exact c8 ⟨rfl,rfl⟩) jg f2
 have pv:n0.bW=none:=vv.trans (kO.trans g2);obtain⟨lW,xM,ad4,IE,axs,fa,Q2,Q5,⟨lf,aar⟩,cu,E9,afo,y1⟩:=adQ (X:=aX.ctx) (aS:=aS) (bC:=vx) (bE:=b0+1) (n:=4611686018427387902) (fn:=157) pv KW f3 (f:=7) (ps:=[8,9]) (dt:=C.q (C.R [C.m 4 8]) (C.R [C.m 5 9])) (body:=C.K 1 (.rP [C.D (C.m 11 5) [5],C.D (C.h1 12 .u64 11) [11],C.E (C.c 13 158 [12]),C.CW (C.l 10 3) 1 [3],C.E (C.c 14 161 [10,13]),C.CW (C.m 15 4) 2 [4],C.CW (C.h1 16 .u64 15) 2 [15],C.E (C.c 17 158 [16]),C.E (C.c 18 240 [14,17]),C.E (C.st 1 3 18)] [1,2,3,0,4,5,6,7,8,9] [10,15,16] [0,1,3,0,15,0,32,127,255,511])) (g:=364) (xf:=V0.1) (caps:=[.p 1 0]) (fun r o=>r=none∧o=FP (cd s) []) (by kernel_rfl) rfl rfl (jw rfl) (by
  intro s1 l hlen ft;have hlen:hr.length=2:=hlen;refine J ?_;refine df (L:=ac ce×Nat) (fun(rest,v)=>jZ rest∧rest.length<=s.length∧v<10^(s.length-rest.length)∧cd s=cd rest+10^rest.length*v) (fun(rest,v)=>⟨FP v rest,2,[(0,.v (.func (.yield l) #[] #[])),(1,.p 1 0)]⟩) (fun l=>l.1.length) [0,1] (s,0) ⟨dZ,cf _,by simp,by simp⟩ (by show List.length s<4611686018427387904;omega) (sE ⟨rfl,rfl,trivial⟩ ⟨_,rfl,rfl⟩ ⟨_,rfl,rfl⟩ (hp:=by show pinned hr.length _ _=_;rw[hlen];rfl)) ?_;rintro⟨rest,v⟩ ⟨g1,aP,bd,cu⟩;refine J ?_;refine cV (fun aD=> ?_) (fun aD=> ?_)
  ·have aD:0<rest.length:=by omega
   refine J ?_;refine nH (L:=ac ce×ac ce) (fun(w,dV)=>rest=w++dV∧w.length<=9∧w≠[]) (fun(w,dV)=>⟨FP v dV,2,[(0,.v (.func (.yield l) #[] #[])),(1,.p 1 0),(3,.i .u32 (cd w:Nat)),(4,.i .u32 ((10^w.length:Nat):Int))]⟩) ?_ ?_
   ·refine df (L:=ac ce×ac ce) (fun(w,dV)=>rest=w++dV∧w.length<=9) (fun(w,dV)=>⟨FP v dV,2,[(0,.v (.func (.yield l) #[] #[])),(1,.p 1 0),(3,.i .u32 (cd w:Nat)),(4,.i .u32 ((10^w.length:Nat):Int)),(5,.i .i64 (w.length:Nat))]⟩) (fun l=>9-l.1.length) [0,1] ([],rest) ⟨rfl,by decide⟩ (by show 9-0<4611686018427387904;decide) (sE ⟨rfl,rfl,rfl,rfl,rfl,trivial⟩ ⟨_,rfl,rfl⟩ ⟨_,rfl,rfl⟩ (hp:=by show pinned hr.length _ _=_;rw[hlen];rfl)) ?_;rintro⟨w,dV⟩ ⟨bl,bK⟩;have hw:jZ w:=fun c hc=>g1 c (by rw[bl];exact zcU _ hc);have EK:=sy hw;refine av 11 ?_;by_cases jl:w.length<9
    ·refine aB 11 (.b true) rfl (congrArg aj.b (zae (by omega))) ?_;cases dV with
     |nil=>
      refine J ?_;exact br [0,1] (w,[]) ⟨bl,bK,fun e=>by rw[e]at bl;rw[bl]at aD;simp at aD⟩ (sE ⟨rfl,rfl,rfl,rfl,trivial⟩ ⟨_,rfl,rfl⟩ ⟨_,rfl,rfl⟩ (hp:=by show pinned hr.length _ _=_;rw[hlen];rfl))
     |cons c dV=>
      have hc:=g1 c (by rw[bl];simp);have yZ:10^w.length<=100000000:=zag (zaL (by decide) (show w.length<=8 by omega)) (by decide);have w2:=P8 w c;have km:10^(w++[c]).length=10*10^w.length:=by rw[zap,List.length_singleton,zan,zam]
      refine av 15 ?_;refine aB 15 (.b true) rfl (by simp) (J ?_);refine o4 c (j:=0) rfl ?_;have ahL:(c.toNat+(256*48-48))%256=c.toNat-48:=by omega
      have ahM:(10*cd w%4294967296+(c.toNat-48)%4294967296)%4294967296=cd (w++[c]):=by rw[w2];generalize cd w=x at *;generalize 10^w.length=P at *;omega
      have DK:10*10^w.length%4294967296=10^(w++[c]).length:=by rw[km];generalize 10^w.length=P at *;omega
      refine av 22 ?_;refine aB 22 (.i .u8 ((c.toNat-48:Nat):Int)) rfl (congrArg (fun n:Nat=>aj.i .u8 (n:Int)) ahL) (av 24 ?_);refine aB 24 (.i .u32 (cd (w++[c]):Nat)) rfl (congrArg (fun n:Nat=>aj.i .u32 (n:Int)) ahM) (av 26 ?_);refine aB 26 (.i .u32 ((10^(w++[c]).length:Nat):Int)) rfl (congrArg (fun n:Nat=>aj.i .u32 (n:Int)) DK) (J ?_);refine zM (p:=1) dV ?_ (hp:=by simp) (hq:=by simp);refine J ?_;exact br [0,1] (w++[c],dV) ⟨by simp;omega,by rw[bl];simp,by simp;omega⟩ (sE ⟨rfl,rfl,rfl,rfl,congrArg (fun n=>some (aj.i .i64 n)) (vJ (by simp) (by omega) (by omega)),trivial⟩ ⟨_,rfl,rfl⟩ ⟨_,rfl,rfl⟩ (hp:=by show pinned hr.length _ _=_;rw[hlen];rfl))
    ·refine aB 11 (.b false) rfl (congrArg aj.b (zad (by omega))) (J ?_);exact br [0,1] (w,dV) ⟨bl,bK,fun e=>by rw[e]at jl;simp at jl⟩ (sE ⟨rfl,rfl,rfl,rfl,trivial⟩ ⟨_,rfl,rfl⟩ ⟨_,rfl,rfl⟩ (hp:=by show pinned hr.length _ _=_;rw[hlen];rfl))
   rintro⟨w,dV⟩ ⟨bl,bK,ee⟩;refine J ?_;have hw:jZ w:=fun c hc=>g1 c (by rw[bl];exact zcU _ hc);have EK:=sy hw;have yZ:10^w.length<=1000000000:=zag (zaL (by decide) bK) (by decide);have XI:rest.length=w.length+dV.length:=by rw[bl,zap]
   have r3:cd rest=cd dV+10^dV.length*cd w:=by rw[bl,P6]
   have w5:v*10^w.length+cd w<10^(s.length-dV.length):=by
    rw[show s.length-dV.length=(s.length-rest.length)+w.length by omega,zat];refine fx (Nat.add_lt_add_left EK _) ?_;rw[<-zcL];exact ix _ bd
   have uY:cd s=cd dV+10^dV.length*(v*10^w.length+cd w):=by
    rw[cu,r3,XI,zat,zaI];rw[zam (10^w.length) (10^dV.length),zaA,zam (10^w.length) v];omega
   have Ox:eO 2100 v:=EZ bd (by omega);have YV:eO 2100 (10^w.length):=EZ (k:=w.length+1) (Nat.pow_lt_pow_right (by decide) (zbJ _)) (by omega);have lw:eO 2100 (cd w):=EZ EK (by omega);have amg:10^w.length%18446744073709551616=10^w.length:=hy (zbD yZ (by decide));have amh:cd w%18446744073709551616=cd w:=hy (fx EK (zag yZ (by decide)));refine P5 ft (e2:=[(5,.i .u32 ((10^w.length:Nat):Int)),(4,.i .u32 (cd w:Nat)),(9,.i .u32 ((10^w.length:Nat):Int)),(8,.i .u32 (cd w:Nat)),(7,.fn (.func 364) [] [.p 1 0]),(6,.s s),(3,.p 0 0),(2,.nl),(0,.s s)]) ?_ ?_
   ·intro CX i5 FW;refine J ?_;exact c8 ⟨rfl,rfl⟩
   ·intro CX i5 FW H8 _;have H8:i5.length=2:=H8;refine av 12 ?_;refine eU 12 (.i .u64 ((10^w.length:Nat):Int)) rfl rfl (congrArg (fun n:Nat=>aj.i .u64 (n:Int)) amg) ?_;refine cq vn (10^w.length:Nat) (zbD yZ (by decide)) (J ?_);refine cq BR (v,10^w.length) ⟨eg Ox,eg YV⟩ (av 16 ?_);refine eU 16 (.i .u64 (cd w:Nat)) rfl rfl (congrArg (fun n:Nat=>aj.i .u64 (n:Int)) amh) ?_;refine cq vn (cd w) (fx EK (zag yZ (by decide))) ?_;refine cq Rm (v*10^w.length,cd w) ⟨eg (oU Ox YV),eg lw⟩ (J ?_);refine c8 ⟨rfl,?_⟩;refine J ?_;exact br [0,1] (dV,v*10^w.length+cd w) ⟨by rw[XI];have:=zbi.2 ee;show dV.length<_;omega,fun c hc=>g1 c (by rw[bl];exact zee _ hc),by omega,w5,uY⟩ (sE ⟨rfl,rfl,trivial⟩ ⟨_,rfl,rfl⟩ ⟨_,rfl,rfl⟩ (hp:=by show pinned hr.length _ _=_;rw[hlen];rfl))
  ·have aD:rest=[]:=zen.1 (by omega);subst aD;have aE:cd s=v:=by rw[cu];simp[cd,nX,val]
   refine J ?_;exact c8 (.inl ⟨.inl rfl,⟨_,rfl⟩,rfl,by rw[aE]⟩))
 subst lf;subst aar;obtain⟨oE,uL⟩:∃fr,fr=(⟨n0.t,{target:=.collected dB.ai,args:= #[]}::n0.cL,n0.aQ,n0.cx,n0.bW⟩:aO):=⟨_,rfl⟩;rw[<-uL]at fa;have t4:oE.t=n0.t:=by rw[uL]
 have d4:oE.cL={target:=.collected dB.ai,args:= #[]}::n0.cL:=by rw[uL]
 have va:oE.cx=n0.cx:=by rw[uL]
 obtain⟨b,jn,oH⟩:=f3.get 3 (.p 0 0) rfl;have aog:oE.tmp 3= .pointer (some ⟨b,0,none⟩):=by
  have e:oE.tmp 3=n0.tmp 3:=by unfold aO.tmp;rw[t4]
  rw[e];exact oH
 obtain⟨⟨ws,a0,v,us,rfl,d5,d6⟩,_⟩:=Q5.own 0 (.c 62 [dH (cd s)]) b rfl (Q2.iY 0 b jn);have d6:us=[]:=d6;subst d6;have uQ:bG (bH aS (bO aX.ctx vx) (b0+1)) (.jr (.tmp 3)) oE xM= .ok v oE xM:=BI (by show oE.tmp 3=_;exact aog) a0 rfl;have a3:=((CT.trans Gp).trans Gq).trans Q2;have oM:st.ai<=dB.ai:=((CT.trans Gp).trans Gq).ai;refine KM az (KM e2 (KM (ath b8 (ae9 fa)) ?_));refine KM (dC:=(oE.put (some 19) v).put (some 2) v) (cp:=xM) ?_ ?_
 ·show fT (bH aS (bO aX.ctx vx) (b0+1)) (⟨some 19,.jr (.tmp 3),none⟩::[⟨some 2,.iu (.tmp 19),none⟩]) oE xM=_;rw[Sym.rS,uQ,Sym.sl,Sym.rS];show fT (bH aS (bO aX.ctx vx) (b0+1)) [] ((oE.put (some 19) v).put (some 2) ((oE.put (some 19) v).tmp 19)) xM=_;rw[sG,zab rfl];rfl
 ·refine⟨.ret,(oE.put (some 19) v).put (some 2) v,xM,rfl,.inr rfl,v,⟨xM.h.set dB.ai (.hG none),xM.ai⟩,?_,ad4,?_,?_,?_⟩
  ·have uK:((oE.put (some 19) v).put (some 2) v).cL=[{target:=.collected dB.ai,args:= #[]}]:=by
    rw[(sq _ _ _).1,(sq _ _ _).1,d4,f3.pl.cL]
   have am9:((oE.put (some 19) v).put (some 2) v).cx=false:=by
    rw[(sq _ _ _).2.2.1,(sq _ _ _).2.2.1,va,f3.pl.cx]
   have:=aiE (call:=bH aS (bO aX.ctx vx) (b0+1)) (t:=2) uK am9 cu;rw[sG,zab rfl]at this;exact this
  ·exact(Q5.other E9 y1 afo (.hG none)).less
  ·exact(a3.other oM (.hG none)).less
  ·exact AK _ rfl d5 _
def pK(n:Bool)(P q:ac ce)(jA:Bool):Prop:=iy P∧¬(n=true∧P=[48])∧(jA=true->iy q∧q≠[48]∧q≠[49])
instance(n:Bool)(P q:ac ce)(jA:Bool):Decidable (pK n P q jA):=by unfold pK;infer_instance
def Pr{N:Nat}{s:ac ce}(ah:s.length<=N):∃P q jA,pV (ec s).2= .bn [.s P,.s q,.b jA]∧(ec s).2.length<=N∧P.length<=N∧q.length<=N∧(¬pK (ec s).1 P q jA->cF s=none)∧
 (pK (ec s).1 P q jA->jA=false->cF s=some (mkRat (jt (ec s).1 (cd P)) 1))∧(pK (ec s).1 P q jA->jA=true->cF s=if Nat.gcd (cd P) (cd q)=1 then some (mkRat (jt (ec s).1 (cd P)) (cd q))else none):=by
 have tg:=ach s;unfold cF pV;obtain⟨⟨n,t⟩,aM⟩:∃g,g=ec s:=⟨_,rfl⟩;rw[<-aM]at tg⊢;simp only at tg⊢;have y5:t.length<=N:=by have:=congrArg List.length tg;rw[zap]at this;omega
 obtain⟨eF,e5,nh⟩:=SZ t;obtain⟨⟨P,Q⟩,hq⟩:∃g,g=cutAt t:=⟨_,rfl⟩;rw[<-hq]at eF e5 nh⊢;simp only at eF e5 nh⊢;cases Q with
 |none=>
  have MS:=nh rfl;subst MS;refine⟨t,[],false,rfl,y5,y5,by exact zaf _,fun h=>zaa (fun aG=>h ⟨aG.1,aG.2,fun e=>by cases e⟩),fun h _=>zab ⟨h.1,h.2.1⟩,fun _ h=>by cases h⟩
 |some q=>
  have aV:=e5 q rfl;have Oj:P.length+q.length<=N:=by have:=congrArg List.length aV;rw[zap,zay]at this;omega
  refine⟨P,q,true,rfl,y5,by omega,by omega,fun h=> ?_,(fun _ h=>by cases h),fun h _=> ?_⟩
  ·by_cases I:iy P∧¬(n=true∧P=[48])
   ·rw[zab I];exact zaa (fun aG=>h ⟨I.1,I.2,fun _=>⟨aG.1,aG.2.1,aG.2.2.1⟩⟩)
   ·rw[zaa I]
  ·obtain⟨I,U,ag⟩:=h;obtain⟨ag,au,a0⟩:=ag rfl;rw[zab ⟨I,U⟩];by_cases H5:Nat.gcd (cd P) (cd q)=1
   ·rw[zab H5];exact zab ⟨ag,au,a0,H5⟩
   ·rw[zaa H5];exact zaa (fun aG=>H5 aG.2.2.2)
def nC(s:ac ce):aj:=match cF s with
 |some x=>.bn [dz x,.i .i64 0]
 |none=>.bn [dz 0,.i .i64 6]
def Cy:bU where
 L:=ac ce
 args:=fun s=>[.s s]
 pre:=fun s=>s.length<=2000
 res:=fun s=>nC s
def FU:bD aX.ctx 71 Cy.spec:=by
 refine b3 [(153,G8.spec),(154,DD.spec),(155,abY.spec),(157,ab3.spec),(158,B3.spec),(156,E3.spec),(160,MG.spec),(159,Oa.spec)] Wy.1 ?_;intro(s:ac ce) (ah:s.length<=2000) H aN;have hp:∀{r},cF s=r->b7 (match r with|some x=>.bn [dz x,.i .i64 0]|none=>.bn [dz 0,.i .i64 6]) (Cy.res s):=fun h=>.of (by subst h;rfl);have fail:cF s=none->b7 (.bn [.agg [.b false,.nl,.nl],.i .i64 6]) (Cy.res s):=fun h=>apJ.trans (hp h);obtain⟨P,q,jA,hC,aV,hi,hq,Ba,hint,Br⟩:=Pr ah;obtain⟨n,hn⟩:∃n,n=(ec s).1:=⟨_,rfl⟩;rw[<-hn]at Ba hint Br;refine J ?_;refine a9 afY s (by show s.length<=_;omega) ?_;refine aB 13 (.bn [.s (ec s).2,.b n]) rfl (by rw[hn];rfl) (J ?_);refine a9 ag1 (ec s).2 (by show(ec s).2.length<=_;omega) ?_;refine aB 18 _ rfl hC (J ?_);refine ks (L:=Bool) (fun b=>b= !decide (pK n P q jA)) (fun b=>⟨[.c 64 [.b false,.nl,.nl]],1,[(2,.p 0 0),(3,.i .i64 0),(5,.b n),(6,.s P),(7,.s q),(8,.b jA),(22,.b b)]⟩) ?_ ?_
 ·have bad:¬pK n P q jA->true= !decide (pK n P q jA):=fun h=>by rw[zad h];rfl
  have ek:pK n P q jA->false= !decide (pK n P q jA):=fun h=>by rw[zae h];rfl
  refine a9 Qd P (by show P.length<=_;omega) (av 26 ?_);by_cases I:iy P
  ·refine aB 26 (.b false) rfl (by show aj.b (!decide _)=_;rw[zae I];rfl) (av 33 ?_);by_cases U:n=true∧P=[48]
   ·obtain⟨rfl,rfl⟩:=U;refine J ?_;exact br [0] true (bad fun h=>h.2.1 ⟨rfl,rfl⟩) dX
   ·cases n with
    |false=>
     cases jA with
     |false=>
      refine J ?_;exact br [0] false (ek ⟨I,U,fun e=>by cases e⟩) dX
     |true=>
      refine J ?_;refine a9 Qd q (by show q.length<=_;omega) (av 39 ?_);by_cases ag:iy q
      ·refine aB 39 (.b false) rfl (by show aj.b (!decide _)=_;rw[zae ag];rfl) (av 43 ?_);by_cases au:q=[48]
       ·refine aB 43 (.b true) rfl (by rw[au];rfl) (J ?_);exact br [0] true (bad fun h=>(h.2.2 rfl).2.1 au) dX
       refine aB 43 (.b false) rfl (by rw[zaM.2 au]) (av 45 ?_);by_cases a0:q=[49]
       ·refine aB 45 (.b true) rfl (by rw[a0];rfl) (J ?_);exact br [0] true (bad fun h=>(h.2.2 rfl).2.2 a0) dX
       refine aB 45 (.b false) rfl (by rw[zaM.2 a0]) (J ?_);exact br [0] false (ek ⟨I,U,fun _=>⟨ag,au,a0⟩⟩) dX
      ·refine aB 39 (.b true) rfl (by show aj.b (!decide _)=_;rw[zad ag];rfl) (J ?_);exact br [0] true (bad fun h=>ag (h.2.2 rfl).1) dX
    |true=>
     have tc:P≠[48]:=fun e=>U ⟨rfl,e⟩;refine av 30 ?_;refine aB 30 (.b false) rfl (by rw[zaM.2 tc]) ?_;cases jA with
     |false=>
      refine J ?_;exact br [0] false (ek ⟨I,U,fun e=>by cases e⟩) dX
     |true=>
      refine J ?_;refine a9 Qd q (by show q.length<=_;omega) (av 39 ?_);by_cases ag:iy q
      ·refine aB 39 (.b false) rfl (by show aj.b (!decide _)=_;rw[zae ag];rfl) (av 43 ?_);by_cases au:q=[48]
       ·refine aB 43 (.b true) rfl (by rw[au];rfl) (J ?_);exact br [0] true (bad fun h=>(h.2.2 rfl).2.1 au) dX
       refine aB 43 (.b false) rfl (by rw[zaM.2 au]) (av 45 ?_);by_cases a0:q=[49]
       ·refine aB 45 (.b true) rfl (by rw[a0];rfl) (J ?_);exact br [0] true (bad fun h=>(h.2.2 rfl).2.2 a0) dX
       refine aB 45 (.b false) rfl (by rw[zaM.2 a0]) (J ?_);exact br [0] false (ek ⟨I,U,fun _=>⟨ag,au,a0⟩⟩) dX
      ·refine aB 39 (.b true) rfl (by show aj.b (!decide _)=_;rw[zad ag];rfl) (J ?_);exact br [0] true (bad fun h=>ag (h.2.2 rfl).1) dX
  ·refine aB 26 (.b true) rfl (by show aj.b (!decide _)=_;rw[zad I];rfl) (J ?_);exact br [0] true (bad fun h=>I h.1) dX
 intro b hb;by_cases db:pK n P q jA
 ·have hb:b=false:=by rw[hb,zae db];rfl
  subst hb;obtain⟨g1,aP,bd⟩:=db;have vU:=EZ (K:=2000) (sy g1.2.1) (by omega);refine av 56 ?_;refine aB 56 (.b false) rfl (congrArg aj.b (zad (by omega))) (J ?_);cases jA with
  |false=>
   refine J ?_;refine a9 Qe P ⟨g1.2.1,by show P.length<=_;omega⟩ ?_;refine a9 vn (1:Nat) (by show 1<_;decide) ?_;refine a9 xg (n,cd P,1) ⟨eg vU,eg (tq (by decide)),by decide⟩ (J ?_);exact aA rfl (hp (hint ⟨g1,aP,bd⟩ rfl))
  |true=>
   obtain⟨ag,au,a0⟩:=bd rfl;have ad6:=EZ (K:=2000) (sy ag.2.1) (by omega);have o1:cd q≠0:=fun h=>au (yd ag h);have cO:cd q≠1:=fun h=>a0 (Sk ag h);have aD:=Br ⟨g1,aP,bd⟩ rfl;refine J ?_;refine a9 Qe P ⟨g1.2.1,by show P.length<=_;omega⟩ (J ?_);refine a9 Qe q ⟨ag.2.1,by show q.length<=_;omega⟩ (J ?_);refine a9 WI (cd P,cd q) ⟨eg vU,eg ad6⟩ ?_;refine a9 IH (Nat.gcd (cd P) (cd q)) trivial (J ?_);refine Co (fun aM=> ?_) (fun aM=> ?_)
   ·refine J ?_;exact aA rfl (fail (by rw[aD,zaa aM]))
   ·refine J ?_;rw[zab aM]at aD;obtain⟨az,e2⟩:=OF (jt n (cd P)) (cd q) o1;rw[vB,aM]at az e2;have hle:b7 (.agg [.b n,dH (cd P),dH (cd q)]) (dz (mkRat (jt n (cd P)) (cd q))):=On (q:=cd q) (by rw[az];exact Int.ediv_one _) (by rw[e2,zcb]) (fun h=>cO (by rw[h,zet]at aM;exact aM)) (YM cO o1);exact aA rfl ((show b7 (.bn [.agg [.b n,dH (cd P),dH (cd q)],.i .i64 0]) (.bn [dz (mkRat (jt n (cd P)) (cd q)),.i .i64 0])from .bn ⟨hle,.refl _,trivial⟩).trans (hp aD))
 ·have hb:b=true:=by rw[hb,zad db];rfl
  subst hb;refine J ?_;exact aA rfl (fail (Ba db))
structure gM where
 op:Int
 a:Int
 b:Int
 c:Int
 d:Int
 f:Int
 v:ac ce
structure nb where
 f:Int
 aK:ac ce
 ae:ac ce
structure x5 where
 i:Int
 n:Int
structure cz where
 bJ:ac (Int×Int)
 mode:Int
 ins:ac nb
 bs:ac gM
 head:Int
 tail:Int
 eX:ac x5
 out:Int
def lV(n:gM):ac aj:=[.i .i64 n.op,.i .i64 n.a,.i .i64 n.b,.i .i64 n.c,.i .i64 n.d,.i .i64 n.f,.s n.v]
def BC(x:nb):ac aj:=[.i .i64 x.f,.s x.aK,.s x.ae]
def TU(x:Int×Int):ac aj:=[.i .i64 x.1,.i .i64 x.2]
def acL(x:x5):ac aj:=[.i .i64 x.i,.i .i64 x.n]
def eS(p:cz):ac aj:=[.bq 2 (Int×Int) TU p.bJ,.i .i64 p.mode,.bq 3 nb BC p.ins,.bq 7 gM lV p.bs,.i .i64 p.head,.i .i64 p.tail,.bq 2 x5 acL p.eX,.i .i64 p.out]
def jc(p:cz):aj:=.agg (eS p)
def cA{a b:Bool}(h:a=b):aj.b a=aj.b b:=by rw[h]
def Yw:bU where
 L:=Rat
 args:=fun x=>[dz x]
 pre:=fun _=>True
 res:=fun x=>.b (decide (x.den=1))
def ao6:bD aX.ctx 294 Yw.spec:=by
 refine b3 [] VA.1 ?_;intro(x:Rat) _ H aN;refine av 4 ?_;by_cases ay:x.den=1
 ·refine aB 4 (.jT 1 Nat fR []) rfl (by show uu x.den=_;rw[ay];rfl) (J ?_);exact aA rfl (.of (cA (zae ay).symm))
 ·refine aB 4 (.jT 1 Nat fR (bb 4294967296 x.den)) rfl (Hg ay) ?_;have hne:(bb 4294967296 x.den).isEmpty=false:=zdW.2 (fun e=>x.den_nz ((sX (by decide)).1 e));refine J ?_;exact aA rfl (.of (cA (by rw[zad ay];show l8 false _=false;rw[hne];rfl)))
def rQ(s:ac ce):Int:=if(cF s).isSome then 0 else 6
def To:bU where
 L:=ac ce
 args:=fun s=>[.s s]
 pre:=fun s=>s.length<=2000
 res:=fun s=>.i .i64 (rQ s)
def ahR:bD aX.ctx 250 To.spec:=by
 refine b3 [(71,Cy.spec)] U4.1 ?_;intro(s:ac ce) ah H aN;refine J ?_;refine a9 FU s ah ?_;cases h:cF s with
 |some x=>
  refine aB 7 (.bn [dz x,.i .i64 0]) rfl (by show nC s=_;unfold nC;rw[h]) (J ?_);exact aA rfl (.of (by show _=aj.i .i64 (rQ s);unfold rQ;rw[h];rfl))
 |none=>
  refine aB 7 (.bn [dz 0,.i .i64 6]) rfl (by show nC s=_;unfold nC;rw[h]) (J ?_);exact aA rfl (.of (by show _=aj.i .i64 (rQ s);unfold rQ;rw[h];rfl))
def tW:bU where
 L:=Int×Int
 args:=fun(n,m)=>[.i .i64 n,.i .i64 m]
 pre:=fun _=>True
 res:=fun(n,m)=>.b (decide (0<=n∧n<m))
def z6:bD aX.ctx 132 tW.spec:=by
 refine b3 [] Uh.1 ?_;intro⟨n,m⟩ _ H aN;refine av 6 ?_;by_cases h:0<=n
 ·refine dS 6 h (J ?_);exact aA rfl (.of (cA (decide_eq_decide.2 ⟨fun aG=>⟨h,aG⟩,fun aG=>aG.2⟩)))
 ·refine ep 6 h (J ?_);exact aA rfl (.of (cA (zad (fun aG=>h aG.1)).symm))
def Of:bU where
 L:=Int
 args:=fun n=>[.i .i64 n]
 pre:=fun _=>True
 res:=fun n=>.b (decide (1<=n∧n<=15))
def YE:bD aX.ctx 248 Of.spec:=by
 refine b3 [] U1.1 ?_;intro(n:Int) _ H aN;refine av 4 ?_;by_cases h:1<=n
 ·refine dS 4 h (J ?_);exact aA rfl (.of (cA (decide_eq_decide.2 ⟨fun aG=>⟨h,aG⟩,fun aG=>aG.2⟩)))
 ·refine ep 4 h (J ?_);exact aA rfl (.of (cA (zad (fun aG=>h aG.1)).symm))
def gU(p:cz)(i:Int):Int:=if i<p.head then 0 else if i<p.tail then 1 else 2
def xI:bU where
 L:=cz×Int
 args:=fun(p,i)=>[jc p,.i .i64 i]
 pre:=fun _=>True
 res:=fun(p,i)=>.i .i64 (gU p i)
def Qm:bD aX.ctx 133 xI.spec:=by
 refine b3 [] Ui.1 ?_;intro⟨p,i⟩ _ H aN;have az:∀{c:Int},gU p i=c->b7 (.i .i64 c) (xI.res (p,i)):=fun h=>.of (by rw[<-h];rfl);refine av 5 ?_;by_cases h:i<p.head
 ·refine dS 5 h (J ?_);exact aA rfl (az (zab h))
 refine ep 5 h (av 11 ?_);by_cases U:i<p.tail
 ·refine dS 11 U (J ?_);exact aA rfl (az ((zaa h).trans (zab U)))
 refine ep 11 U (J ?_);exact aA rfl (az ((zaa h).trans (zaa U)))
def xJ(p:cz)(i k:Int):Bool:=decide (0<=k∧k<i∧(gU p k=0∨gU p k=gU p i))
def xK:bU where
 L:=cz×Int×Int
 args:=fun(p,i,k)=>[jc p,.i .i64 i,.i .i64 k]
 pre:=fun _=>True
 res:=fun(p,i,k)=>.b (xJ p i k)
def atg:bD aX.ctx 251 xK.spec:=by
 refine b3 [(133,xI.spec)] U5.1 ?_;intro⟨p,i,k⟩ _ H aN;have no:¬(0<=k∧k<i∧(gU p k=0∨gU p k=gU p i))->b7 (.b false) (xK.res (p,i,k)):=fun h=>.of (cA (zad h).symm);have yes:(0<=k∧k<i∧(gU p k=0∨gU p k=gU p i))->b7 (.b true) (xK.res (p,i,k)):=fun h=>.of (cA (zae h).symm);refine av 9 ?_;by_cases h:k<0
 ·refine dS 9 h (J ?_);exact aA rfl (no (by omega))
 refine ep 9 h (av 13 ?_);by_cases U:i<=k
 ·refine dS 13 U (J ?_);exact aA rfl (no (by omega))
 refine ep 13 U (J ?_);refine a9 Qm (p,k) trivial ?_;refine aB 17 (.i .i64 (gU p k)) rfl rfl (av 19 ?_);by_cases ag:gU p k=0
 ·refine dS 19 ag (J ?_);exact aA rfl (yes ⟨by omega,by omega,.inl ag⟩)
 refine ep 19 ag (J ?_);refine a9 Qm (p,i) trivial ?_;refine aB 24 (.i .i64 (gU p i)) rfl rfl (av 25 ?_);by_cases au:gU p k=gU p i
 ·refine dS 25 au (J ?_);exact aA rfl (yes ⟨by omega,by omega,.inr au⟩)
 refine ep 25 au (J ?_);exact aA rfl (no (fun h=>h.2.2.elim ag au))
def sD(e p:Int)(x:Rat):Int:=max (kc x.num.natAbs x.den) (1-e9 e)-p+1
def lo(e p:Int)(x:Rat):Prop:=fY e p∧(x.num=0∨(ef x (-sD e p x)).den=1∧¬oG e p<jz x)
instance(e p:Int)(x:Rat):Decidable (lo e p x):=by unfold lo;infer_instance
def hasB(e p:Int)(x:Rat):Bool:=decide (lo e p x)
def auE{e p:Int}{x:Rat}(h:fY e p)(aa:fy 250 x): -9000<=sD e p x∧sD e p x<=9000:=by
 have c1:=IV x.num.natAbs x.den;have dx:=BG aa.1;have j1:=BG aa.2;obtain⟨I,U,ag,au,a0⟩:=h;have:=qF I U;unfold sD;omega
def Hw:bU where
 L:=Int×Int×Rat
 args:=fun(e,p,x)=>[qT e p,dz x]
 pre:=fun(e,p,x)=>fy 250 x
 res:=fun(e,p,x)=>.b (hasB e p x)
def TJ:bD aX.ctx 202 Hw.spec:=by
 refine b3 [(290,KO.spec),(142,F1.spec),(293,TT.spec),(292,Zf.spec),(291,MA.spec),(294,Yw.spec),(239,Rk.spec),(295,Za.spec),(72,Cq.spec)] US.1 ?_;intro⟨e,p,x⟩ (aa:fy 250 x) H aN;have no:¬lo e p x->b7 (.b false) (Hw.res (e,p,x)):=fun h=>.of (cA (by unfold hasB;exact(zad h).symm));have yes:lo e p x->b7 (.b true) (Hw.res (e,p,x)):=fun h=>.of (cA (by unfold hasB;exact(zae h).symm));refine J ?_;refine a9 awe (e,p) trivial ?_;by_cases h:fY e p
 ·refine aB 9 (.bn [vf e p 0 (e9 e),.i .i64 0]) rfl (zab h) (J ?_);refine a9 F2 x trivial (J ?_);refine cV (fun h0=> ?_) (fun h0=> ?_)
  ·have h0:x.num=0:=zcE.1 h0;refine J ?_;exact aA rfl (yes ⟨h,.inl h0⟩)
  have h0:x.num≠0:=fun e=>h0 (by rw[e];rfl);have c1:=IV x.num.natAbs x.den;have dx:=BG aa.1;have j1:=BG aa.2;obtain⟨s1,s2⟩:=auE h aa;refine J ?_;refine cq aiQ x ⟨lU aa,h0⟩ (J ?_);refine cq aqb (e,p,kc x.num.natAbs x.den,0) ⟨h,by show _<=kc _ _;omega,by show kc _ _<=_;omega⟩ (av 24 ?_);refine aB 24 (.i .i64 (-sD e p x)) rfl (by show aj.i .i64 (IntKind.i64.wrap (-sD e p x))=_;exact cX rfl (by omega) (by omega)) (J ?_);refine cq T3 (x,-sD e p x) ⟨lU aa,by show _<= -sD e p x;omega,by show -sD e p x<=_;omega⟩ (J ?_);refine cq ao6 (ef x (-sD e p x)) trivial ?_;by_cases ay:(ef x (-sD e p x)).den=1
  ·refine dS 26 ay (J ?_);refine cq aei x trivial (J ?_);refine cq ap7 (e,p,0) h (J ?_);refine cq zN (jz x,oG e p) ⟨lU (aqe aa),lU (aqg h)⟩ (av 33 ?_);by_cases aM:oG e p<jz x
   ·have hc:=yk.2 aM;refine aB 33 (.b false) rfl (cA (zad (by show¬ej _ _<=0;omega))) (J ?_);exact aA rfl (no (fun aG=>aG.2.elim h0 (fun aG=>aG.2 aM)))
   ·have hc:¬0<ej (jz x) (oG e p):=fun h=>aM (yk.1 h);refine aB 33 (.b true) rfl (cA (zae (by show ej _ _<=0;omega))) (J ?_);exact aA rfl (yes ⟨h,.inr ⟨ay,aM⟩⟩)
  ·refine ep 26 ay (J ?_);exact aA rfl (no (fun aG=>aG.2.elim h0 (fun aG=>ay aG.1)))
 ·refine aB 9 (.bn [vf 0 0 0 0,.i .i64 2]) rfl (zaa h) (J ?_);exact aA rfl (no (fun aG=>h aG.1))
def qW(p:cz):Int:=
 if(6<(p.bJ.length:Int)∨6<(p.ins.length:Int)∨64<(p.bs.length:Int)∨4<(p.eX.length:Int))then 3
 else if((p.bJ.length:Int)=0∨(p.bs.length:Int)=0∨p.mode<0∨4<p.mode)then 2
 else if(p.head<0∨p.tail<p.head∨(p.bs.length:Int)<p.tail)then 2
 else if((p.eX.length:Int)=0∧p.head≠(p.bs.length:Int))then 2 else 0
def A4:bU where
 L:=cz
 args:=fun p=>[jc p]
 pre:=fun _=>True
 res:=fun p=>.i .i64 (qW p)
def alL:bD aX.ctx 127 A4.spec:=by
 refine b3 [] Ub.1 ?_;intro(p:cz) _ H aN;have a6:∀{c:Int},qW p=c->b7 (.i .i64 c) (A4.res p):=fun h=>.of (by rw[<-h];rfl);refine av 13 ?_;by_cases I:6<(p.bJ.length:Int)
 ·refine dS 13 I (J ?_);exact aA rfl (a6 (zab (.inl I)))
 refine ep 13 I (av 18 ?_);by_cases U:6<(p.ins.length:Int)
 ·refine dS 18 U (J ?_);exact aA rfl (a6 (zab (.inr (.inl U))))
 refine ep 18 U (av 20 ?_);by_cases ag:64<(p.bs.length:Int)
 ·refine dS 20 ag (J ?_);exact aA rfl (a6 (zab (.inr (.inr (.inl ag)))))
 refine ep 20 ag (av 25 ?_);by_cases au:4<(p.eX.length:Int)
 ·refine dS 25 au (J ?_);exact aA rfl (a6 (zab (.inr (.inr (.inr au)))))
 refine ep 25 au ?_;have iK:¬(6<(p.bJ.length:Int)∨6<(p.ins.length:Int)∨64<(p.bs.length:Int)∨4<(p.eX.length:Int)):=fun h=>h.elim I fun h=>h.elim U fun h=>h.elim ag au;have az:=fun{c} h=> @a6 c ((zaa iK).trans h);refine av 31 ?_;by_cases g1:(p.bJ.length:Int)=0
 ·refine aB 31 (.b true) rfl (cA (zae g1)) (J ?_);exact aA rfl (az (zab (.inl g1)))
 refine aB 31 (.b false) rfl (cA (zad g1)) (av 33 ?_);by_cases aP:(p.bs.length:Int)=0
 ·refine aB 33 (.b true) rfl (cA (zae aP)) (J ?_);exact aA rfl (az (zab (.inr (.inl aP))))
 refine aB 33 (.b false) rfl (cA (zad aP)) (av 37 ?_);by_cases bd:p.mode<0
 ·refine aB 37 (.b true) rfl (cA (zae bd)) (J ?_);exact aA rfl (az (zab (.inr (.inr (.inl bd)))))
 refine aB 37 (.b false) rfl (cA (zad bd)) (av 41 ?_);by_cases cu:4<p.mode
 ·refine aB 41 (.b true) rfl (cA (zae cu)) (J ?_);exact aA rfl (az (zab (.inr (.inr (.inr cu)))))
 refine aB 41 (.b false) rfl (cA (zad cu)) ?_;have gH:¬((p.bJ.length:Int)=0∨(p.bs.length:Int)=0∨p.mode<0∨4<p.mode):=fun h=>h.elim g1 fun h=>h.elim aP fun h=>h.elim bd cu;have e2:=fun{c} h=> @az c ((zaa gH).trans h);refine av 46 ?_;by_cases bl:p.head<0
 ·refine aB 46 (.b true) rfl (cA (zae bl)) (J ?_);exact aA rfl (e2 (zab (.inl bl)))
 refine aB 46 (.b false) rfl (cA (zad bl)) (av 53 ?_);by_cases bK:p.tail<p.head
 ·refine aB 53 (.b true) rfl (cA (zae bK)) (J ?_);exact aA rfl (e2 (zab (.inr (.inl bK))))
 refine aB 53 (.b false) rfl (cA (zad bK)) (av 58 ?_);by_cases ee:(p.bs.length:Int)<p.tail
 ·refine aB 58 (.b true) rfl (cA (zae ee)) (J ?_);exact aA rfl (e2 (zab (.inr (.inr ee))))
 refine aB 58 (.b false) rfl (cA (zad ee)) ?_;have qj:¬(p.head<0∨p.tail<p.head∨(p.bs.length:Int)<p.tail):=fun h=>h.elim bl fun h=>h.elim bK ee;have b8:=fun{c} h=> @e2 c ((zaa qj).trans h);refine av 64 ?_;by_cases eK:(p.eX.length:Int)=0
 ·refine aB 64 (.b true) rfl (cA (zae eK)) (av 70 ?_);by_cases fV:p.head≠(p.bs.length:Int)
  ·refine aB 70 (.b true) rfl (cA (zae fV)) (J ?_);exact aA rfl (b8 (zab ⟨eK,fV⟩))
  ·refine aB 70 (.b false) rfl (cA (zad fV)) (J ?_);exact aA rfl (b8 (zaa (fun h=>fV h.2)))
 ·refine aB 64 (.b false) rfl (cA (zad eK)) (J ?_);exact aA rfl (b8 (zaa (fun h=>eK h.1)))
def TX:bU where
 L:=cz×Nat×Int×Int
 args:=fun(p,j,e,q)=>[jc p,.i .i64 (j:Int)]
 pre:=fun(p,j,e,q)=>p.bJ[j]? =some (e,q)
 res:=fun(p,j,e,q)=>.i .i64 (if fY e q then 0 else 2)
def aiU:bD aX.ctx 128 TX.spec:=by
 refine b3 [(197,Hv.spec)] Uc.1 ?_;intro⟨p,j,e,q⟩ hj H aN;refine J ?_;refine dv (e,q) hj ?_;refine J ?_;refine a9 TG (e,q) trivial (J ?_);exact aA rfl (.refl _)
def Kl:ac (Nat×Nat):=[(0,0),(0,1),(0,1),(0,0),(1,1),(1,1),(1,1),(1,1),(2,2),(2,2),(2,2),(2,2),(2,2),(2,2),(3,3),(4,4)]
def F0:ac aj:=Kl.flatMap fun p=>[.i .i64 (p.1:Int),.i .i64 (p.2:Int)]
def oS(o:Nat):Nat:=(Kl.getD o (0,0)).1
def vH(o:Nat):Nat:=(Kl.getD o (0,0)).2
def acj:∀o,o<16->F0.drop (o*2)= .i .i64 (oS o:Int):: .i .i64 (vH o:Int)::F0.drop (o*2+2):=by
 intro o h;rcases(show o=0∨o=1∨o=2∨o=3∨o=4∨o=5∨o=6∨o=7∨o=8∨o=9∨o=10∨o=11∨o=12∨o=13∨o=14∨o=15 by omega)with h|h|h|h|h|h|h|h|h|h|h|h|h|h|h|h<;>subst h<;>rfl
def Km:∀o,o<16->oS o<=4∧vH o<=4:=by decide +kernel
def l6(H:bm):Prop:=∃vs el bk bc,H 3=some (.cells vs el bk bc)∧∀a2,c4 a2 F0 [] vs
def l6.up{H a2:bm}(h:dm H a2):l6 H->l6 a2:=fun⟨vs,el,bk,bc,I,U⟩=>⟨vs,el,bk,bc,h _ _ I,U⟩
def ie(n:Int):ac aj:=[.i .i64 n]
def fb(n:gM):ac Int:=[n.a,n.b,n.c,n.d]
def sa(n:gM):Bool:=((fb n).drop (vH n.op.toNat)).all (fun x=>x==0)&&(n.v.isEmpty||decide (n.op=3))
def Yg:bU where
 L:=gM
 args:=fun n=>[.agg (lV n)]
 pre:=fun n=>1<=n.op∧n.op<=15
 res:=fun n=>.b (sa n)
 hp:=l6
 hm:=l6.up
def Yh{l:ac Int}{k:Nat}(ab:k<l.length)(h:(l.take k).all (fun x=>x==0)=true)(U:l[k]=0):(l.take (k+1)).all (fun x=>x==0)=true:=by
 rw[zaP ab,zev,h,U];rfl
def aoL:bD aX.ctx 249 Yg.spec:=by
 refine Ds [] U2.1 ?_;intro(n:gM) ⟨(I:1<=n.op),(U:n.op<=15)⟩ H aN ⟨vs,el,bk,bc,aM,ay⟩;obtain⟨o,al⟩:∃o:Nat,n.op=(o:Int):=⟨n.op.toNat,by omega⟩;have mf:n.op.toNat=o:=by omega
 have aT:o<16:=by omega
 obtain⟨_,hu⟩:=Km o aT;have aV:=acj o aT;have a3:sa n=(((fb n).drop (vH o)).all (fun x=>x==0)&&(n.v.isEmpty||decide (n.op=3))):=by unfold sa;rw[mf]
 generalize vH o=u at *;refine av 16 ?_;refine aB 16 (.i .i64 (o:Int)) rfl (by rw[<-al]) ?_;refine abE aM ay (j:=o) ?_;refine aB 17 (.ip (.i .i64 (oS o:Int):: .i .i64 (u:Int)::F0.drop (o*2+2))) rfl (by rw[aV]) (av 19 ?_);refine oi 1 ie (fb n) ?_;refine hd (auv (p:=u) (q:=4) rfl rfl ⟨_,rfl⟩ rfl (by omega) (by decide)) ?_;obtain⟨a8,hk⟩:∃a8,a8=if 4=u then 0 else u:=⟨_,rfl⟩;rw[<-hk];refine J ?_;refine df (L:=Nat) (fun k=>k<=4-u∧(((fb n).drop u).take k).all (fun x=>x==0)=true) (fun(k:Nat)=>⟨[.c 137 (lV n),.a 359 false 1 Int ie (fb n)],2,[(1,.p 0 0),(2,.b false),(20,.a5 1 1 a8 (4-u) (4-u)),(21,.i .i64 ((4-u:Nat):Int)),(22,.i .i64 (k:Int))]⟩) (fun k=>4-u-k) [0,1] 0 ⟨zaf _,rfl⟩ (by show 4-u-0<b0+1;unfold b0;omega) lj ?_;rintro(k:Nat) ⟨ab,ax⟩;have hlen:((fb n).drop u).length=4-u:=by rw[zaz];rfl
 refine av 23 ?_;by_cases hl:k<4-u
 ·refine aB 23 (.b true) rfl (cA (zae (by omega))) (J ?_);refine vw ?_;rw[zaa (by omega)]at hk;have hk:=hk.symm;subst hk;have me:(fb n)[u+k]? =some ((fb n).drop u)[k]:=by rw[<-zaw,zcf (by omega)]
  refine tO ((fb n).drop u)[k] me ?_;refine av 27 ?_;by_cases aa:((fb n).drop u)[k]=0
  ·refine aB 27 (.b false) rfl (cA (zad (by rw[aa];decide))) (av 28 ?_);refine aB 28 (.i .i64 ((k+1:Nat):Int)) rfl cX (J ?_);exact br [0,1] (k+1) ⟨by omega,by omega,Yh (by omega) ax aa⟩ lj
  ·refine dS 27 aa (J ?_);refine aA rfl (.of (cA ?_));rw[a3];have:((fb n).drop u).all (fun x=>x==0)=false:=by
    rw[List.all_eq_false];exact⟨((fb n).drop u)[k],zdF (by rw[hlen];exact hl),by simpa using aa⟩
   rw[this];rfl
 ·refine aB 23 (.b false) rfl (cA (zad (by omega))) ?_;have qe:((fb n).drop u).all (fun x=>x==0)=true:=by
   rw[zau (by omega)]at ax;exact ax
  rw[qe,Bool.true_and]at a3;refine av 31 ?_;by_cases aE:n.v=[]
  ·refine aB 31 (.b true) rfl (by rw[aE];rfl) (J ?_);exact aA rfl (.of (cA (by rw[a3,aE];rfl)))
  ·refine aB 31 (.b false) rfl (cA (by simpa using aE)) (J ?_);exact aA rfl (.of (cA (by rw[a3];cases hq:n.v with|nil=>exact absurd hq aE|cons a l=>rfl)))
def SI:bU where
 L:=ac Int
 args:=fun l=>[.cw 1 Int ie l]
 pre:=fun l=>l.length<=17592186044416
 res:=fun l=>.bq 1 Int ie l
def afS:bD aX.ctx 141 SI.spec:=by
 refine b3 [] Uk.1 ?_;intro(l:ac Int) (hl:l.length<=17592186044416) H aN;by_cases hne:l=[]
 ·subst hne;refine J ?_;refine asr ?_ (fun _=> ?_)
  ·refine J ?_;refine oi 0 ie ([]:ac Int) ?_;refine asf (R:=ie) ?_;refine iw 7 ?_;refine J ?_;exact aA rfl (.refl _)
  ·refine J ?_;exact aA rfl .nl
 refine pF 0 (.bq 1 Int ie l) rfl (.iQ hne) ?_;refine J ?_;refine abG ?_ (fun h=> ?_)
 ·refine J ?_;refine oi 0 ie ([]:ac Int) ?_;have Ic:=zbi.2 hne;refine J8 (R:=ie) l (tS rfl (fun _=>rfl) (fun _=>rfl)) l ?_ (h0:=hne);refine iw 7 ?_;refine J ?_;exact aA rfl (.refl _)
 ·exact absurd h hne
def hT(n:gM):ac Int:=if 1<=n.op∧n.op<=15 then(fb n).take (oS n.op.toNat)else[]
def Oe:bU where
 L:=gM
 args:=fun n=>[.agg (lV n)]
 pre:=fun n=>True
 res:=fun n=>.bq 1 Int ie (hT n)
 hp:=l6
 hm:=l6.up
def apj:bD aX.ctx 209 Oe.spec:=by
 refine Ds [(248,Of.spec),(141,SI.spec)] UT.1 ?_;intro(n:gM) _ H aN ⟨vs,el,bk,bc,aM,ay⟩;have az:∀{l},hT n=l->b7 (.bq 1 Int ie l) (Oe.res n):=fun h=>.of (by rw[<-h];rfl);refine J ?_;refine a9 YE n.op trivial ?_;by_cases h:1<=n.op∧n.op<=15
 ·refine dS 6 h ?_;obtain⟨I,U⟩:=h;obtain⟨o,al⟩:∃o:Nat,n.op=(o:Int):=⟨n.op.toNat,by omega⟩;have mf:n.op.toNat=o:=by omega
  have aT:o<16:=by omega
  obtain⟨hu,_⟩:=Km o aT;have aV:=acj o aT;have a3:hT n=(fb n).take (oS o):=by unfold hT;rw[mf];exact zab ⟨I,U⟩
  generalize oS o=u at *;refine av 18 ?_;refine aB 18 (.i .i64 (o:Int)) rfl (by rw[<-al]) ?_;refine abE aM ay (j:=o) ?_;refine aB 19 (.ip (.i .i64 (u:Int):: .i .i64 (vH o:Int)::F0.drop (o*2+2))) rfl (by rw[aV]) (av 21 ?_);refine oi 1 ie (fb n) ?_;refine hd (auu (p:=0) (q:=u) rfl rfl rfl ⟨_,rfl⟩ (zaf _) (by omega) (.inr rfl)) ?_;refine J9 22 ((fb n).take u) ?_ (hn:=by rw[zao];show min u 4=u-0;omega);refine a9 afS ((fb n).take u) (by show(List.take _ _).length<=_;rw[zao];omega) (J ?_) (he:=by exact⟨.cw,trivial⟩);exact aA rfl (az a3)
 ·refine ep 6 h (J ?_);exact aA rfl (b7.trans .nl (az (zaa h)))
def ka(n:Int)(m:Nat):Prop:=0<=n∧n<(m:Int)
instance(n:Int)(m:Nat):Decidable (ka n m):=by unfold ka;infer_instance
def vl(p:cz)(i:Nat)(n:gM):Int:=
 if¬(1<=n.op∧n.op<=15)∨sa n=false then 2
 else if¬ka n.f p.bJ.length then 7
 else if n.op=1∧¬ka n.a p.ins.length then 7
 else if n.op=1∧(p.ins[n.a.toNat]?).map nb.f≠some n.f then 143
 else if n.op=2∧((i:Int)<p.head∨¬ka n.a p.eX.length)then 7
 else if n.op=3 then rQ n.v
 else if(hT n).all (fun k=>xJ p i k)then 0 else 7
def OM:bU where
 L:=cz×Nat×gM
 args:=fun(p,i,n)=>[jc p,.i .i64 (i:Int)]
 pre:=fun(p,i,n)=>p.bs[i]? =some n∧n.v.length<=2000
 res:=fun(p,i,n)=>.i .i64 (vl p i n)
 hp:=l6
 hm:=l6.up
def YB(n:gM):(hT n).length<=4:=by
 unfold hT;split
 ·rw[zao];exact Nat.min_le_right _ 4
 ·exact zaf _
def aqv:bD aX.ctx 130 OM.spec:=by
 refine Ds [(248,Of.spec),(249,Yg.spec),(132,tW.spec),(250,To.spec),(209,Oe.spec),(251,xK.spec)] Uf.1 ?_;intro⟨p,i,n⟩ ⟨hj,aE⟩ H aN fc;have a6:∀{c:Int},vl p i n=c->b7 (.i .i64 c) (OM.res (p,i,n)):=fun h=>.of (by rw[<-h];rfl);refine J ?_;refine dv n hj ?_
 iterate 7 refine iL ?_
 refine nH (L:=Unit) (fun _=>vl p i n=if(hT n).all (fun k=>xJ p i k)then 0 else 7) (fun _=>⟨[.c 230 (eS p),.c 137 (lV n)],2,[(1,.i .i64 (i:Int)),(2,.p 0 0),(4,.i .i64 0),(5,.p 1 0)]⟩) ?_ ?_
 ·refine J ?_;refine a9 YE n.op trivial ?_;by_cases I:1<=n.op∧n.op<=15
  case neg=>
   refine ep 17 I (J ?_);exact aA rfl (a6 (zab (.inl I)))
  refine dS 17 I (J ?_);refine a9 aoL n I ?_ (hh:=fc);cases U:sa n with
  |false=>
   refine aB 21 (.b false) rfl (cA U) (J ?_);exact aA rfl (a6 (zab (.inr U)))
  |true=>
  refine aB 21 (.b true) rfl (cA U) ?_;have g1:¬(¬(1<=n.op∧n.op<=15)∨sa n=false):=fun h=>h.elim (fun h=>h I) (fun h=>Bool.noConfusion (U.symm.trans h));refine J ?_;refine a9 z6 (n.f,(p.bJ.length:Int)) trivial ?_;by_cases ag:ka n.f p.bJ.length
  case neg=>
   refine ep 31 ag (J ?_);exact aA rfl (a6 ((zaa g1).trans (zab ag)))
  refine dS 31 ag ?_;have aP:¬¬ka n.f p.bJ.length:=fun h=>h ag;have e2:=fun{c} h=> @a6 c ((zaa g1).trans ((zaa aP).trans h));have f2:=fun{c} h=>((zaa g1).trans ((zaa aP).trans h):vl p i n=c);clear a6;refine av 36 ?_;by_cases ae:n.op=1
  ·refine dS 36 ae (J ?_);refine a9 z6 (n.a,(p.ins.length:Int)) trivial ?_;by_cases au:ka n.a p.ins.length
   case neg=>
    refine ep 44 au (J ?_);exact aA rfl (e2 (zab ⟨ae,au⟩))
   refine dS 44 au ?_;have bd:¬(n.op=1∧¬ka n.a p.ins.length):=fun h=>h.2 au;refine av 50 ?_;refine eU 50 (.b true) rfl rfl (cA (zae ae)) ?_;obtain⟨a,ha⟩:∃a:Nat,n.a=(a:Int):=⟨n.a.toNat,by have:=au.1;omega⟩;have uE:n.a.toNat=a:=by omega
   have lQ:a<p.ins.length:=by have:=au.2;omega
   refine av 56 ?_;refine eU 56 (.i .i64 (a:Int)) rfl rfl (by rw[ha]) ?_;refine J ?_;refine e3 p.ins[a] (bg lQ) ?_;refine av 62 ?_;by_cases a0:(p.ins[a]).f=n.f
   case neg=>
    refine eU 62 (.b true) rfl rfl (cA (zae a0)) ?_;refine J ?_;exact aA rfl (e2 ((zaa bd).trans (zab ⟨ae,by rw[uE,bg lQ];simpa using a0⟩)))
   refine eU 62 (.b false) rfl rfl (cA (zad (fun h=>h a0))) ?_;refine av 67 ?_;refine aB 67 (.b false) rfl (cA (zad (by omega))) (av 88 ?_);refine aB 88 (.b false) rfl (cA (zad (by omega))) (J ?_);refine br [0,1] () (f2 ((zaa bd).trans ((zaa ?_).trans ((zaa (by omega)).trans (zaa (by omega)))))) lj;rintro⟨_,h⟩;exact h (by rw[uE,bg lQ];simp[a0])
  ·refine ep 36 ae ?_;have f3:=fun{c} h=> @f2 c ((zaa (fun h=>ae h.1)).trans ((zaa (fun h=>ae h.1)).trans h));have b8:=fun{c} h=> @e2 c ((zaa (fun h=>ae h.1)).trans ((zaa (fun h=>ae h.1)).trans h));refine av 50 ?_;refine eU 50 (.b false) rfl rfl (cA (zad ae)) ?_;refine av 67 ?_;by_cases ah:n.op=2
   ·refine dS 67 ah (av 73 ?_);by_cases au:(i:Int)<p.head
    ·refine dS 73 au (J ?_);exact aA rfl (b8 (zab ⟨ah,.inl au⟩))
    refine ep 73 au (J ?_);refine a9 z6 (n.a,(p.eX.length:Int)) trivial ?_;by_cases a0:ka n.a p.eX.length
    case neg=>
     refine ep 81 a0 (J ?_);exact aA rfl (b8 (zab ⟨ah,.inr a0⟩))
    refine dS 81 a0 (av 88 ?_);refine aB 88 (.b false) rfl (cA (zad (by omega))) (J ?_);exact br [0,1] () (f3 ((zaa (fun h=>h.2.elim au (fun h=>h a0))).trans (zaa (by omega)))) lj
   ·refine ep 67 ah ?_;have f4:=fun{c} h=> @f3 c ((zaa (fun h=>ah h.1)).trans h);have fa:=fun{c} h=> @b8 c ((zaa (fun h=>ah h.1)).trans h);refine av 88 ?_;by_cases hc:n.op=3
    ·refine dS 88 hc (J ?_);refine a9 ahR n.v aE (J ?_);exact aA rfl (fa (zab hc))
    ·refine ep 88 hc (J ?_);exact br [0,1] () (f4 (zaa hc)) lj
 intro _ gP;have ab:=YB n;refine J ?_;refine a9 apj n trivial (J ?_) (hh:=fc);refine df (L:=Nat) (fun k=>k<=(hT n).length∧((hT n).take k).all (fun k=>xJ p i k)=true) (fun(k:Nat)=>⟨[.c 230 (eS p),.c 137 (lV n)],2,[(1,.i .i64 (i:Int)),(2,.p 0 0),(4,.i .i64 0),(93,.bq 1 Int ie (hT n)),(94,.i .i64 ((hT n).length:Int)),(95,.i .i64 (k:Int))]⟩) (fun k=>(hT n).length-k) [0,1] 0 ⟨zaf _,rfl⟩ jk lj ?_;rintro(k:Nat) ⟨hI,ax⟩;refine av 96 ?_;by_cases hl:k<(hT n).length
 ·refine aB 96 (.b true) rfl (cA (zae (by omega))) (J ?_);refine dv (hT n)[k] (bg hl) ?_;refine J ?_;refine a9 atg (p,(i:Int),(hT n)[k]) trivial ?_;cases ah:xJ p i (hT n)[k]with
  |false=>
   refine aB 102 (.b false) rfl (cA ah) (J ?_);refine aA rfl (a6 (gP.trans (zaa ?_)));intro h;rw[zaN]at h;have:=h _ (dp hl);rw[ah]at this;cases this
  |true=>
   refine aB 102 (.b true) rfl (cA ah) (av 104 ?_);refine aB 104 (.i .i64 ((k+1:Nat):Int)) rfl cX (J ?_);exact br [0,1] (k+1) ⟨by omega,hl,by rw[zaP hl,zev,ax];simp[ah]⟩ lj
 ·refine aB 96 (.b false) rfl (cA (zad (by omega))) (J ?_);exact aA rfl (a6 (gP.trans (zab (by rw[zau (by omega)]at ax;exact ax))))
def rb(e q:Int)(x:nb):Int:=
 match cF x.aK,cF x.ae with
 |some a,some b=>if lo e q a∧lo e q b∧¬b<a then 0 else 7
 |_,_=>6
def u3(p:cz)(x:nb):Int:=
 if ka x.f p.bJ.length then(match p.bJ[x.f.toNat]? with|some f=>rb f.1 f.2 x|none=>7)else 7
def YK{v k:Nat}(h:v<10^k)(ab:k<=2000):eO 250 v:=BH (fx h (zag (zaL (by decide) ab) (by decide +kernel)))
def so{s:ac ce}(ah:s.length<=2000){x:Rat}(h:cF s=some x):fy 250 x:=by
 obtain⟨P,q,jA,_,_,hi,hq,Ba,hint,Br⟩:=Pr ah;by_cases db:pK (ec s).1 P q jA
 ·obtain⟨g1,aP,bd⟩:=db;have vU:=YK (sy g1.2.1) (by omega);cases jA with
  |false=>
   have e:=hint ⟨g1,aP,bd⟩ rfl;rw[h]at e;cases e;exact BS (by rw[vB];exact vU) (eg (tq (by decide))) (by decide)
  |true=>
   obtain⟨ag,au,a0⟩:=bd rfl;have o1:cd q≠0:=fun h=>au (yd ag h);have e:=Br ⟨g1,aP,bd⟩ rfl;rw[h]at e;split at e
   ·cases e;exact BS (by rw[vB];exact vU) (YK (sy ag.2.1) (by omega)) o1
   ·cases e
 ·rw[Ba db]at h;cases h
def iR(s:ac ce):Rat:=(cF s).getD 0
def ah3(x:nb):Nat->ac aj
 |0=>[.b false,.nl,.nl,.b false,.nl,.nl]
 |1=>hN (iR x.aK)++[.b false,.nl,.nl]
 |_=>hN (iR x.aK)++hN (iR x.ae)
def axy{own:ac aY}{n p:Nat}{e bS:bQ}{o q r t:aY}(h:kZ [0,1,2,3] bS e)(al:∃a8,own[0]? =some a8∧gm [0,1,2,3] o a8)(hq:∃a8,own[1]? =some a8∧gm [0,1,2,3] q a8)(aD:∃a8,own[2]? =some a8∧gm [0,1,2,3] r a8)(aV:∃a8,own[3]? =some a8∧gm [0,1,2,3] t a8)(hp:pinned p [0,1,2,3] 0=true:=by rfl):Sub p [0,1,2,3] ⟨own,n,e⟩ ⟨[o,q,r,t],4,bS⟩:=⟨by simp,rfl,⟨al,hq,aD,aV,trivial⟩,h,hp⟩
def EU:bU where
 L:=cz×Nat×nb
 args:=fun(p,i,x)=>[jc p,.i .i64 (i:Int)]
 pre:=fun(p,i,x)=>p.ins[i]? =some x∧x.aK.length<=2000∧x.ae.length<=2000
 res:=fun(p,i,x)=>.i .i64 (u3 p x)
def aoP:bD aX.ctx 129 EU.spec:=by
 refine b3 [(132,tW.spec),(71,Cy.spec),(202,Hw.spec),(72,Cq.spec)] Ud.1 ?_;intro⟨p,i,x⟩ ⟨hj,gx,g0⟩ H aN;have a6:∀{c:Int},u3 p x=c->b7 (.i .i64 c) (EU.res (p,i,x)):=fun h=>.of (by rw[<-h];rfl);refine J ?_;refine dv x hj ?_;refine J ?_;refine a9 z6 (x.f,(p.bJ.length:Int)) trivial ?_;by_cases ag:ka x.f p.bJ.length
 case neg=>
  refine ep 24 ag (J ?_);exact aA rfl (a6 (zaa ag))
 refine dS 24 ag ?_;obtain⟨f,af⟩:∃f:Nat,x.f=(f:Int):=⟨x.f.toNat,by have:=ag.1;omega⟩;have uJ:x.f.toNat=f:=by omega
 have oJ:f<p.bJ.length:=by have:=ag.2;omega
 obtain⟨⟨kD,kE⟩,hq⟩:∃w,p.bJ[f]? =some w:=⟨_,bg oJ⟩;have az:∀{c:Int},rb kD kE x=c->b7 (.i .i64 c) (EU.res (p,i,x)):=fun h=>a6 (by unfold u3;rw[zab ag,uJ,hq];exact h);refine J ?_;refine df (L:=Nat) (fun k=>k<=2∧(1<=k->cF x.aK=some (iR x.aK))∧(2<=k->cF x.ae=some (iR x.ae))) (fun(k:Nat)=>⟨[.c 230 (eS p),.c 164 (BC x),.c 294 (ah3 x k),.c 29 [.s x.aK,.s x.ae]],4,[(2,.p 0 0),(4,.i .i64 0),(5,.p 1 0),(6,.p 2 0),(30,.a5 3 1 0 2 2),(31,.i .i64 2),(32,.i .i64 (k:Int))]⟩) (fun k=>2-k) [0,1,2,3] 0 ⟨by omega,fun h=>absurd h (by decide),fun h=>absurd h (by decide)⟩ (by show 2-0<b0+1;unfold b0;omega) sC ?_;rintro(k:Nat) ⟨ab,Xa,amx⟩;rcases(show k=0∨k=1∨k=2 by omega)with rfl|rfl|rfl
 ·refine J ?_;refine kt (j:=0) ?_;refine J ?_;refine a9 FU x.aK gx ?_;cases h:cF x.aK with
  |none=>
   refine aB 39 (.bn [dz 0,.i .i64 6]) rfl (by show nC x.aK=_;unfold nC;rw[h]) (J ?_);exact aA rfl (az (by unfold rb;rw[h]))
  |some X=>
  have aG:cF x.aK=some (iR x.aK):=by unfold iR;rw[h];rfl
  refine aB 39 (.bn [dz (iR x.aK),.i .i64 0]) rfl (by show nC x.aK=_;unfold nC;rw[aG]) (J ?_);refine hd (y8 (j:=0) rfl rfl (by decide)) ?_;refine J ?_;exact br [0,1,2,3] 1 ⟨by decide,by decide,fun _=>h.symm.trans aG,fun h=>absurd h (by decide)⟩ sC
 ·have e6:=Xa (by decide);refine J ?_;refine kt (j:=1) ?_;refine J ?_;refine a9 FU x.ae g0 ?_;cases h:cF x.ae with
  |none=>
   refine aB 39 (.bn [dz 0,.i .i64 6]) rfl (by show nC x.ae=_;unfold nC;rw[h]) (J ?_);exact aA rfl (az (by unfold rb;rw[h,e6]))
  |some X=>
  have aG:cF x.ae=some (iR x.ae):=by unfold iR;rw[h];rfl
  refine aB 39 (.bn [dz (iR x.ae),.i .i64 0]) rfl (by show nC x.ae=_;unfold nC;rw[aG]) (J ?_);refine hd (y8 (j:=1) rfl rfl (by decide)) ?_;refine J ?_;exact br [0,1,2,3] 2 ⟨by decide,by decide,fun _=>e6,fun _=>h.symm.trans aG⟩ sC
 ·have e6:=Xa (by decide);have a3:=amx (by decide);have iS:rb kD kE x=if lo kD kE (iR x.aK)∧lo kD kE (iR x.ae)∧¬iR x.ae<iR x.aK then 0 else 7:=by unfold rb;rw[e6,a3]
  refine av 53 ?_;refine aB 53 (.i .i64 (f:Int)) rfl (by rw[af]) (J ?_);refine dv (kD,kE) hq ?_;refine J ?_;have Fa:=so gx e6;have Fb:=so g0 a3;have no:¬(lo kD kE (iR x.aK)∧lo kD kE (iR x.ae)∧¬iR x.ae<iR x.aK)->b7 (.i .i64 7) (EU.res (p,i,x)):=fun h=>az (iS.trans (zaa h));refine hd (y8 (j:=0) rfl rfl (by decide)) ?_;refine J ?_;refine a9 TJ (kD,kE,iR x.aK) Fa ?_;by_cases cO:lo kD kE (iR x.aK)
  case neg=>
   refine ep 59 cO (J ?_);exact aA rfl (no (fun h=>cO h.1))
  refine dS 59 cO (J ?_);refine hd (y8 (j:=1) rfl rfl (by decide)) ?_;refine J ?_;refine a9 TJ (kD,kE,iR x.ae) Fb ?_;by_cases cS:lo kD kE (iR x.ae)
  case neg=>
   refine ep 65 cS (J ?_);exact aA rfl (no (fun h=>cS h.2.1))
  refine dS 65 cS (J ?_);refine hd (y8 (j:=0) rfl rfl (by decide)) ?_;refine J ?_;refine hd (y8 (j:=1) rfl rfl (by decide)) ?_;refine J ?_;refine a9 zN (iR x.aK,iR x.ae) ⟨lU Fa,lU Fb⟩ (av 74 ?_);by_cases et:iR x.ae<iR x.aK
  ·have hc:=yk.2 et;refine dS 74 hc (J ?_);exact aA rfl (no (fun h=>h.2.2 et))
  ·have hc:¬0<ej (iR x.aK) (iR x.ae):=fun h=>et (yk.1 h);refine ep 74 hc (J ?_);exact aA rfl (az (iS.trans (zab ⟨cO,cS,et⟩)))
def kq(i f:Int)(n:gM):Bool:=decide (n.op=2)&&(decide (n.a=i)&&decide (n.f≠f))
def aap:bU where
 L:=gM×Int×Int
 args:=fun(n,i,f)=>[.agg (lV n),.ip [.i .i64 i],.ip [.i .i64 f]]
 pre:=fun _=>True
 res:=fun(n,i,f)=>.b (kq i f n)
def aq9:bD aX.ctx 252 aap.spec:=by
 refine b3 [] U6.1 ?_;intro⟨n,i,f⟩ _ H aN;refine av 7 ?_;by_cases I:n.op=2
 ·refine dS 7 I (av 12 ?_);by_cases U:n.a=i
  ·refine dS 12 U (J ?_);exact aA rfl (.of (cA (by unfold kq;rw[zae I,zae U];rfl)))
  ·refine ep 12 U (J ?_);exact aA rfl (.of (cA (by unfold kq;rw[zae I,zad U];rfl)))
 ·refine ep 7 I (J ?_);exact aA rfl (.of (cA (by unfold kq;rw[zad I];rfl)))
def sb(q:gM->Bool):ac gM->Nat->Int
 |[],_=> -1
 |n::l,k=>if q n=true then k else sb q l (k+1)
theorem Yj(q:gM->Bool):∀(l:ac gM) (k:Nat),decide (0<=sb q l k)=l.any q
 |[],_=>rfl
 |n::l,k=>by
  unfold sb;rw[List.any_cons];cases h:q n with
  |true=>simp
  |false=>simpa using Yj q l (k+1)
def Pe(i f:Int):aj:=.fn (.func 252) [] [.ip [.i .i64 i],.ip [.i .i64 f]]
def Yp:bU where
 L:=ac gM×Int×Int
 args:=fun(l,i,f)=>[.bq 7 gM lV l,Pe i f]
 pre:=fun(l,i,f)=>l.length<=1000000
 res:=fun(l,i,f)=>.i .i64 (sb (kq i f) l 0)
def aoO:bD aX.ctx 336 Yp.spec:=by
 refine b3 [(252,aap.spec)] VJ.1 ?_;intro⟨l,i,f⟩ (hl:l.length<=1000000) H aN;refine J ?_;refine df (L:=Nat) (fun k=>k<=l.length∧sb (kq i f) (l.drop k) k=sb (kq i f) l 0) (fun(k:Nat)=>⟨[],0,[(0,.bq 7 gM lV l),(1,Pe i f),(4,.i .i64 0),(7,.i .i64 (l.length:Int)),(8,.i .i64 (k:Int))]⟩) (fun k=>l.length-k) [] 0 ⟨zaf _,rfl⟩ jk dW ?_;rintro(k:Nat) ⟨ab,ax⟩;refine av 9 ?_;by_cases aT:k<l.length
 ·refine aB 9 (.b true) rfl (cA (zae (by omega))) (J ?_);refine dv l[k] (bg aT) ?_;refine J ?_;have ay:l.drop k=l[k]::l.drop (k+1):=hx aT;rw[ay]at ax;refine Cn aq9 (l[k],i,f) trivial ?_;cases h:kq i f l[k]with
  |true=>
   refine aB 16 (.b true) rfl (cA h) (J ?_);exact aA rfl (.of (by show aj.i _ _=aj.i .i64 (sb (kq i f) l 0);rw[<-ax];unfold sb;rw[zab h]))
  |false=>
   refine aB 16 (.b false) rfl (cA h) (av 18 ?_);refine aB 18 (.i .i64 ((k+1:Nat):Int)) rfl cX (J ?_);refine br [] (k+1) ⟨by omega,aT,?_⟩ dW;rw[<-ax];conv=>rhs;unfold sb
   rw[zaa (by rw[h];decide)]
 ·refine aB 9 (.b false) rfl (cA (zad (by omega))) (J ?_);exact aA rfl (.of (by show aj.i _ _=aj.i .i64 (sb (kq i f) l 0);rw[<-ax,zaH (by omega)];rfl))
def SR:bU where
 L:=ac gM×Int×Int
 args:=fun(l,i,f)=>[.bq 7 gM lV l,Pe i f]
 pre:=fun(l,i,f)=>l.length<=1000000
 res:=fun(l,i,f)=>.b (l.any (kq i f))
def afW:bD aX.ctx 253 SR.spec:=by
 refine b3 [(336,Yp.spec)] U7.1 ?_;intro⟨l,i,f⟩ hl H aN;refine J ?_;refine a9 aoO (l,i,f) hl ?_;refine aB 7 (.i .i64 (sb (kq i f) l 0)) rfl rfl (J ?_);exact aA rfl (.of (cA (Yj _ l 0)))
def CE(p:cz)(i:Nat)(s:x5):Int:=
 if¬(0<=s.i∧s.i<p.head)∨¬(0<=s.n∧s.n<p.tail)then 7
 else match p.bs[s.i.toNat]?,p.bs[s.n.toNat]? with
  |some a,some b=>if b.f≠a.f∨p.bs.any (kq i a.f)=true then 143 else 0
  |_,_=>0
def vD:bU where
 L:=cz×Nat×x5
 args:=fun(p,i,s)=>[jc p,.i .i64 (i:Int)]
 pre:=fun(p,i,s)=>p.eX[i]? =some s∧p.head<=(p.bs.length:Int)∧p.tail<=(p.bs.length:Int)∧p.bs.length<=1000000
 res:=fun(p,i,s)=>.i .i64 (CE p i s)
def auX:bD aX.ctx 131 vD.spec:=by
 refine b3 [(132,tW.spec),(253,SR.spec)] Ug.1 ?_;intro⟨p,i,s⟩ ⟨hj,hh,aV,hl⟩ H aN;have a6:∀{c:Int},CE p i s=c->b7 (.i .i64 c) (vD.res (p,i,s)):=fun h=>.of (by rw[<-h];rfl);refine J ?_;refine dv s hj ?_;refine J ?_;refine a9 z6 (s.i,p.head) trivial ?_;by_cases I:0<=s.i∧s.i<p.head
 case neg=>
  refine ep 19 I (J ?_);exact aA rfl (a6 (zab (.inl I)))
 refine dS 19 I (J ?_);refine a9 z6 (s.n,p.tail) trivial ?_;by_cases U:0<=s.n∧s.n<p.tail
 case neg=>
  refine ep 27 U (J ?_);exact aA rfl (a6 (zab (.inr U)))
 refine dS 27 U ?_;obtain⟨a,ha⟩:∃a:Nat,s.i=(a:Int):=⟨s.i.toNat,by omega⟩;obtain⟨b,hb⟩:∃b:Nat,s.n=(b:Int):=⟨s.n.toNat,by omega⟩;have uE:s.i.toNat=a:=by omega
 have jn:s.n.toNat=b:=by omega
 have lQ:a<p.bs.length:=by omega
 have n3:b<p.bs.length:=by omega
 have az:∀{c:Int},(if(p.bs[b]).f≠(p.bs[a]).f∨p.bs.any (kq i (p.bs[a]).f)=true then 143 else 0)=c->b7 (.i .i64 c) (vD.res (p,i,s)):=fun h=>a6 (by
  unfold CE;rw[zaa (fun h=>h.elim (fun h=>h I) (fun h=>h U)),uE,jn,bg lQ,bg n3];exact h)
 refine av 34 ?_;refine aB 34 (.i .i64 (a:Int)) rfl (by rw[ha]) ?_;refine dv p.bs[a] (bg lQ) ?_;refine av 37 ?_
 iterate 2 refine iL ?_
 refine P2 3 ?_;refine P2 6 ?_;refine av 43 ?_;refine eU 43 (.i .i64 (b:Int)) rfl rfl (by rw[hb]) ?_;refine J ?_;refine e3 p.bs[b] (bg n3) ?_;refine av 48 ?_;by_cases ag:(p.bs[b]).f≠(p.bs[a]).f
 ·refine eU 48 (.b true) rfl rfl (cA (zae ag)) ?_;refine J ?_;exact aA rfl (az (zab (.inl ag)))
 refine eU 48 (.b false) rfl rfl (cA (zad ag)) ?_;refine J ?_;refine cq afW (p.bs,(i:Int),(p.bs[a]).f) hl ?_;cases au:p.bs.any (kq i (p.bs[a]).f)with
 |true=>
  refine aB 54 (.b true) rfl (cA au) (J ?_);exact aA rfl (az (zab (.inr au)))
 |false=>
  refine aB 54 (.b false) rfl (cA au) (J ?_);exact aA rfl (az (zaa (fun h=>h.elim ag (fun h=>Bool.noConfusion (au.symm.trans h)))))
def fz{α:Type}(g:Nat->α->Int):ac α->Nat->am (Nat×Int)
 |[],_=>none
 |x::l,k=>if g k x=0 then fz g l (k+1)else some (k,g k x)
def wH{α:Type}{g:Nat->α->Int}{l:ac α}{j:Nat}(hj:j<l.length):fz g (l.drop j) j=if g j l[j]=0 then fz g (l.drop (j+1)) (j+1)else some (j,g j l[j]):=by
 rw[hx hj];rfl
def nV(_:cz)(_:Nat)(x:Int×Int):Int:=if fY x.1 x.2 then 0 else 2
def nW(p:cz)(_:Nat)(x:nb):Int:=u3 p x
def ox(p:cz)(i:Nat)(n:gM):Int:=vl p i n
def oy(p:cz)(i:Nat)(s:x5):Int:=CE p i s
def ni(p:cz):Int×Int×Int:=
 match fz (nV p) p.bJ 0 with
 |some x=>(1,x.1,x.2)
 |none=>match fz (nW p) p.ins 0 with
  |some x=>(2,x.1,x.2)
  |none=>match fz (ox p) p.bs 0 with
   |some x=>(3,x.1,x.2)
   |none=>match fz (oy p) p.eX 0 with
    |some x=>(4,x.1,x.2)
    |none=>if¬ka p.out p.bs.length∨gU p p.out=1 then(5,0,7)else(0,0,0)
def dU(p:cz):Int×Int×Int:=if qW p=0 then ni p else(0,0,qW p)
def Ax(x:Int×Int×Int):aj:=.bn [.i .i64 x.1,.i .i64 x.2.1,.i .i64 x.2.2]
def sN(p:cz):Prop:=(∀x∈p.ins,x.aK.length<=2000∧x.ae.length<=2000)∧∀n∈p.bs,n.v.length<=2000
variable{x:Rat}
def GY:bU where
 L:=cz
 args:=fun p=>[jc p]
 pre:=sN
 res:=fun p=>Ax (dU p)
 hp:=l6
 hm:=l6.up
def Dw(p:cz):ac aj:=[.i .i64 (p.bJ.length:Int),.fn (.func 128) [jc p] [],.i .i64 (p.ins.length:Int),.fn (.func 129) [jc p] [],.i .i64 (p.bs.length:Int),.fn (.func 130) [jc p] [],.i .i64 (p.eX.length:Int),.fn (.func 131) [jc p] []]
def MH{p:cz}(h:qW p=0):p.bJ.length<=6∧p.ins.length<=6∧p.bs.length<=64∧p.eX.length<=4∧p.tail<=(p.bs.length:Int)∧p.head<=p.tail∧0<=p.head:=by
 unfold qW at h;split at h
 ·cases h
 split at h
 ·cases h
 split at h
 ·cases h
 omega
def afG:bD aX.ctx 57 GY.spec:=by
 refine Ds [(127,A4.spec),(128,TX.spec),(129,EU.spec),(130,OM.spec),(131,vD.spec),(132,tW.spec),(133,xI.spec)] Wq.1 ?_;intro(p:cz) ⟨cj,gP⟩ H aN fc;have a6:∀{c:Int×Int×Int},dU p=c->b7 (Ax c) (GY.res p):=fun h=>.of (by rw[<-h];rfl);refine J ?_;refine a9 alL p trivial ?_;refine aB 15 (.i .i64 (qW p)) rfl rfl (av 17 ?_);by_cases aM:qW p=0
 case neg=>
  refine dS 17 aM (J ?_);exact aA rfl (a6 (zaa aM))
 refine aB 17 (.b false) rfl (cA (zad (fun h=>h aM))) ?_;have az:∀{c:Int×Int×Int},ni p=c->b7 (Ax c) (GY.res p):=fun h=>a6 ((zab aM).trans h);obtain⟨fO,ja,se,EY,zc,Oi,apw⟩:=MH aM;refine J ?_;refine df (L:=Nat) (fun k=>k<=4∧(1<=k->fz (nV p) p.bJ 0=none)∧(2<=k->fz (nW p) p.ins 0=none)∧(3<=k->fz (ox p) p.bs 0=none)∧(4<=k->fz (oy p) p.eX 0=none)) (fun(k:Nat)=>⟨[.c 27 (eS p),.c 230 (eS p),.c 233 (Dw p)],3,[(1,.p 0 0),(5,.p 1 0),(44,.a5 2 2 0 4 4),(45,.i .i64 4),(46,.i .i64 (k:Int))]⟩) (fun k=>4-k) [0,1,2] 0 ⟨by omega,fun h=>absurd h (by decide),fun h=>absurd h (by decide),fun h=>absurd h (by decide),fun h=>absurd h (by decide)⟩ (by show 4-0<b0+1;unfold b0;omega) sB ?_;rintro(k:Nat) ⟨ab,eW,eQ,nd,C7⟩;rcases(show k=0∨k=1∨k=2∨k=3∨k=4 by omega)with rfl|rfl|rfl|rfl|rfl
 ·refine J ?_;refine kt (j:=0) ?_;refine J ?_;refine df (L:=Nat) (fun j=>j<=p.bJ.length∧fz (nV p) (p.bJ.drop j) j=fz (nV p) p.bJ 0) (fun(j:Nat)=>⟨[.c 27 (eS p),.c 230 (eS p),.c 233 (Dw p),.c 233 [.i .i64 (p.bJ.length:Int),.fn (.func 128) [jc p] []]],4,[(1,.p 0 0),(5,.p 1 0),(44,.a5 2 2 0 4 4),(45,.i .i64 4),(46,.i .i64 (0:Nat)),(8,.i .i64 (0:Nat)),(9,.p 3 0),(52,.i .i64 (p.bJ.length:Int)),(53,.i .i64 (j:Int))]⟩) (fun j=>p.bJ.length-j) [0,1,2,3] 0 ⟨zaf _,rfl⟩ jk sC ?_;rintro(j:Nat) ⟨hR,ax⟩;refine av 54 ?_;by_cases hj:j<p.bJ.length
  ·refine aB 54 (.b true) rfl (cA (zae (by omega))) (J ?_);rw[wH hj]at ax;refine Cn aiU (p,j,(p.bJ[j]).1,(p.bJ[j]).2) (bg hj) ?_;refine aB 59 (.i .i64 (nV p j p.bJ[j])) rfl rfl (av 61 ?_);by_cases he:nV p j p.bJ[j]=0
   ·rw[zab he]at ax;refine aB 61 (.b false) rfl (cA (zad (fun h=>h he))) (av 66 ?_);refine aB 66 (.i .i64 ((j+1:Nat):Int)) rfl cX (J ?_);exact br [0,1,2,3] (j+1) ⟨by omega,hj,ax⟩ sC
   ·rw[zaa he]at ax;refine dS 61 he (J ?_);refine aA rfl (az (c:=(1,(j:Int),nV p j p.bJ[j])) ?_);unfold ni;simp only[<-ax]
  ·refine aB 54 (.b false) rfl (cA (zad (by omega))) ?_;have ax:fz (nV p) p.bJ 0=none:=by rw[<-ax,zaH (by omega)];rfl
   refine J ?_;exact br [0,1,2] 1 ⟨by decide,by decide,fun _=>ax,fun h=>absurd h (by decide),fun h=>absurd h (by decide),fun h=>absurd h (by decide)⟩ sB
 ·refine J ?_;refine kt (j:=1) ?_;refine J ?_;refine df (L:=Nat) (fun j=>j<=p.ins.length∧fz (nW p) (p.ins.drop j) j=fz (nW p) p.ins 0) (fun(j:Nat)=>⟨[.c 27 (eS p),.c 230 (eS p),.c 233 (Dw p),.c 233 [.i .i64 (p.ins.length:Int),.fn (.func 129) [jc p] []]],4,[(1,.p 0 0),(5,.p 1 0),(44,.a5 2 2 0 4 4),(45,.i .i64 4),(46,.i .i64 (1:Nat)),(8,.i .i64 (1:Nat)),(9,.p 3 0),(52,.i .i64 (p.ins.length:Int)),(53,.i .i64 (j:Int))]⟩) (fun j=>p.ins.length-j) [0,1,2,3] 0 ⟨zaf _,rfl⟩ jk sC ?_;rintro(j:Nat) ⟨hR,ax⟩;refine av 54 ?_;by_cases hj:j<p.ins.length
  ·refine aB 54 (.b true) rfl (cA (zae (by omega))) (J ?_);rw[wH hj]at ax;refine Cn aoP (p,j,p.ins[j]) ⟨bg hj,cj _ (dp hj)⟩ ?_;refine aB 59 (.i .i64 (nW p j p.ins[j])) rfl rfl (av 61 ?_);by_cases he:nW p j p.ins[j]=0
   ·rw[zab he]at ax;refine aB 61 (.b false) rfl (cA (zad (fun h=>h he))) (av 66 ?_);refine aB 66 (.i .i64 ((j+1:Nat):Int)) rfl cX (J ?_);exact br [0,1,2,3] (j+1) ⟨by omega,hj,ax⟩ sC
   ·rw[zaa he]at ax;refine dS 61 he (J ?_);refine aA rfl (az (c:=(2,(j:Int),nW p j p.ins[j])) ?_);unfold ni;simp only[eW (by decide),<-ax]
  ·refine aB 54 (.b false) rfl (cA (zad (by omega))) ?_;have ax:fz (nW p) p.ins 0=none:=by rw[<-ax,zaH (by omega)];rfl
   refine J ?_;exact br [0,1,2] 2 ⟨by decide,by decide,fun _=>eW (by decide),fun _=>ax,fun h=>absurd h (by decide),fun h=>absurd h (by decide)⟩ sB
 ·refine J ?_;refine kt (j:=2) ?_;refine J ?_;refine df (L:=Nat) (fun j=>j<=p.bs.length∧fz (ox p) (p.bs.drop j) j=fz (ox p) p.bs 0) (fun(j:Nat)=>⟨[.c 27 (eS p),.c 230 (eS p),.c 233 (Dw p),.c 233 [.i .i64 (p.bs.length:Int),.fn (.func 130) [jc p] []]],4,[(1,.p 0 0),(5,.p 1 0),(44,.a5 2 2 0 4 4),(45,.i .i64 4),(46,.i .i64 (2:Nat)),(8,.i .i64 (2:Nat)),(9,.p 3 0),(52,.i .i64 (p.bs.length:Int)),(53,.i .i64 (j:Int))]⟩) (fun j=>p.bs.length-j) [0,1,2,3] 0 ⟨zaf _,rfl⟩ jk sC ?_;rintro(j:Nat) ⟨hR,ax⟩;refine av 54 ?_;by_cases hj:j<p.bs.length
  ·refine aB 54 (.b true) rfl (cA (zae (by omega))) (J ?_);rw[wH hj]at ax;refine Cn aqv (p,j,p.bs[j]) ⟨bg hj,gP _ (dp hj)⟩ ?_ (hh:=fc);refine aB 59 (.i .i64 (ox p j p.bs[j])) rfl rfl (av 61 ?_);by_cases he:ox p j p.bs[j]=0
   ·rw[zab he]at ax;refine aB 61 (.b false) rfl (cA (zad (fun h=>h he))) (av 66 ?_);refine aB 66 (.i .i64 ((j+1:Nat):Int)) rfl cX (J ?_);exact br [0,1,2,3] (j+1) ⟨by omega,hj,ax⟩ sC
   ·rw[zaa he]at ax;refine dS 61 he (J ?_);refine aA rfl (az (c:=(3,(j:Int),ox p j p.bs[j])) ?_);unfold ni;simp only[eW (by decide),eQ (by decide),<-ax]
  ·refine aB 54 (.b false) rfl (cA (zad (by omega))) ?_;have ax:fz (ox p) p.bs 0=none:=by rw[<-ax,zaH (by omega)];rfl
   refine J ?_;exact br [0,1,2] 3 ⟨by decide,by decide,fun _=>eW (by decide),fun _=>eQ (by decide),fun _=>ax,fun h=>absurd h (by decide)⟩ sB
 ·refine J ?_;refine kt (j:=3) ?_;refine J ?_;refine df (L:=Nat) (fun j=>j<=p.eX.length∧fz (oy p) (p.eX.drop j) j=fz (oy p) p.eX 0) (fun(j:Nat)=>⟨[.c 27 (eS p),.c 230 (eS p),.c 233 (Dw p),.c 233 [.i .i64 (p.eX.length:Int),.fn (.func 131) [jc p] []]],4,[(1,.p 0 0),(5,.p 1 0),(44,.a5 2 2 0 4 4),(45,.i .i64 4),(46,.i .i64 (3:Nat)),(8,.i .i64 (3:Nat)),(9,.p 3 0),(52,.i .i64 (p.eX.length:Int)),(53,.i .i64 (j:Int))]⟩) (fun j=>p.eX.length-j) [0,1,2,3] 0 ⟨zaf _,rfl⟩ jk sC ?_;rintro(j:Nat) ⟨hR,ax⟩;refine av 54 ?_;by_cases hj:j<p.eX.length
  ·refine aB 54 (.b true) rfl (cA (zae (by omega))) (J ?_);rw[wH hj]at ax;refine Cn auX (p,j,p.eX[j]) ⟨bg hj,by omega,zc,by omega⟩ ?_;refine aB 59 (.i .i64 (oy p j p.eX[j])) rfl rfl (av 61 ?_);by_cases he:oy p j p.eX[j]=0
   ·rw[zab he]at ax;refine aB 61 (.b false) rfl (cA (zad (fun h=>h he))) (av 66 ?_);refine aB 66 (.i .i64 ((j+1:Nat):Int)) rfl cX (J ?_);exact br [0,1,2,3] (j+1) ⟨by omega,hj,ax⟩ sC
   ·rw[zaa he]at ax;refine dS 61 he (J ?_);refine aA rfl (az (c:=(4,(j:Int),oy p j p.eX[j])) ?_);unfold ni;simp only[eW (by decide),eQ (by decide),nd (by decide),<-ax]
  ·refine aB 54 (.b false) rfl (cA (zad (by omega))) ?_;have ax:fz (oy p) p.eX 0=none:=by rw[<-ax,zaH (by omega)];rfl
   refine J ?_;exact br [0,1,2] 4 ⟨by decide,by decide,fun _=>eW (by decide),fun _=>eQ (by decide),fun _=>nd (by decide),fun _=>ax⟩ sB
 ·have c1:=eW (by decide);have dx:=eQ (by decide);have j1:=nd (by decide);have wa:=C7 (by decide);have cZ:ni p=if¬ka p.out p.bs.length∨gU p p.out=1 then(5,0,7)else(0,0,0):=by unfold ni;simp only[c1,dx,j1,wa]
  refine J ?_;refine a9 z6 (p.out,(p.bs.length:Int)) trivial ?_;by_cases I:ka p.out p.bs.length
  case neg=>
   refine ep 73 I (J ?_);exact aA rfl (az (c:=(5,0,7)) (cZ.trans (zab (.inl I))))
  refine dS 73 I (J ?_);refine a9 Qm (p,p.out) trivial ?_;refine aB 79 (.i .i64 (gU p p.out)) rfl rfl (av 80 ?_);by_cases U:gU p p.out=1
  ·refine dS 80 U (J ?_);exact aA rfl (az (c:=(5,0,7)) (cZ.trans (zab (.inr U))))
  ·refine ep 80 U (J ?_);exact aA rfl (az (c:=(0,0,0)) (cZ.trans (zaa (fun h=>h.elim (fun h=>h I) U))))
def JT(x:Rat)(k:Int):mkRat (x.num*((ef (mkRat 1 1) k).den:Int)) (x.den*(ef (mkRat 1 1) k).num.natAbs)=ef x (-k):=by
 obtain⟨az,e2⟩:=zR k;rw[az,e2,zdz];unfold ef;by_cases h: -k<0
 ·rw[zab h,show(-k).toNat=0 by omega,show(-(-k))=k by omega];simp
 ·rw[zaa h,show k.toNat=0 by omega];simp
def ack(h:x.num=0)(k:Int):(ef x k).den=1:=by
 unfold ef;rw[h];split<;>simp[Rat.zero_mkRat,Rat.mkRat_zero]
def ato(h:0<=x.num)(k:Int):0<=(ef x k).num:=by
 unfold ef;split
 ·rw[(zr _ _ (zbx x.den_nz (by have:=zaE (-k).toNat;omega))).1];exact Int.ediv_nonneg h (by omega)
 ·rw[(zr _ _ x.den_nz).1];exact Int.ediv_nonneg (Int.mul_nonneg h (by exact Int.le_of_lt (Int.pow_pos (by decide)))) (by omega)
def alW{e p:Int}(h:fY e p):0<=(oG e p).num:=by
 unfold oG;apply ato;have:mkRat 1 1<=ef (mkRat 1 1) p:=by
  rw[Rat.le_iff,(zR p).1,(zR p).2,show(-p).toNat=0 by have:=h.2.2.1;omega];have:(1:Int)<=2^p.toNat:=by have:=zaE p.toNat;have U:((2^p.toNat:Nat):Int)=2^p.toNat:=by simp
                                                                                                       omega
  show(1:Int)*((2^0:Nat):Int)<=2^p.toNat*1;omega
 exact Rat.num_nonneg.2 ((Rat.le_iff_sub_nonneg _ _).1 this)
def Gy(e p:Int)(x:Rat):Prop:=fY e p∧¬oG e p<jz x∧(mkRat (x.num*((ef (mkRat 1 1) (om e p x)).den:Int)) (x.den*(ef (mkRat 1 1) (om e p x)).num.natAbs)).den=1
def has_eq(e p:Int)(x:Rat):Gy e p x↔lo e p x:=by
 unfold Gy lo;constructor
 ·rintro⟨I,U,ag⟩;rw[JT]at ag;by_cases h0:x.num=0
  ·exact⟨I,.inl h0⟩
  ·rw[<-acW h0]at ag;unfold Ku at ag;rw[zaa h0]at ag;exact⟨I,.inr ⟨ag,U⟩⟩
 ·rintro⟨I,h0|⟨ag,U⟩⟩
  ·refine⟨I,?_,by rw[JT];exact ack h0 _⟩;intro h;have hn:=alW I;rw[Rat.lt_iff,(rK x).1,(rK x).2,h0]at h;have:0<=(oG e p).num*(x.den:Int):=Int.mul_nonneg hn (by omega);simp at h;omega
  ·by_cases h0:x.num=0
   ·exact⟨I,U,by rw[JT];exact ack h0 _⟩
   ·refine⟨I,U,?_⟩;rw[JT,<-acW h0];unfold Ku;rw[zaa h0];exact ag
theorem DW{α:Type}{g:Nat->α->Int}:∀{l:ac α} {k:Nat} {x:Nat×Int},fz g l k=some x->x.2≠0
 |[],_,_,h=>by cases h
 |a::l,k,x,h=>by
  unfold fz at h;split at h
  ·exact DW h
  ·cases h;assumption
def SA{p:cz}(h:(dU p).2.2=0):dU p=(0,0,0):=by
 unfold dU at h⊢;by_cases aM:qW p=0
 case neg=>rw[zaa aM]at h;exact absurd h aM
 rw[zab aM]at h⊢;unfold ni at h⊢;cases az:fz (nV p) p.bJ 0 with
 |some x=>rw[az]at h;exact absurd h (DW az)
 |none=>
 rw[az]at h;cases e2:fz (nW p) p.ins 0 with
 |some x=>rw[e2]at h;exact absurd h (DW e2)
 |none=>
 rw[e2]at h;cases b8:fz (ox p) p.bs 0 with
 |some x=>rw[b8]at h;exact absurd h (DW b8)
 |none=>
 rw[b8]at h;cases fa:fz (oy p) p.eX 0 with
 |some x=>rw[fa]at h;exact absurd h (DW fa)
 |none=>
 rw[fa]at h;by_cases l9:¬ka p.out p.bs.length∨gU p p.out=1
 ·have h:(if¬ka p.out p.bs.length∨gU p p.out=1 then((5,0,7):Int×Int×Int)else(0,0,0)).2.2=0:=h;rw[zab l9]at h;cases h
 ·exact zaa l9
theorem TO{α:Type}{g:Nat->α->Int}:∀{l:ac α} {k:Nat},fz g l k=none->∀(i:Nat) (x:α),l[i]? =some x->g (k+i) x=0
 |[],_,_,i,x,h=>by simp at h
 |a::l,k,h,i,x,aa=>by
  unfold fz at h;split at h
  ·rename_i h0;cases i with
   |zero=>simp at aa;subst aa;exact h0
   |succ i=>
    have:=TO h i x (by simpa using aa);rw[show k+1+i=k+(i+1) by omega]at this;exact this
  ·cases h
def jd(N:ac Bool)(l:ac Int):ac Bool:=l.foldl (fun N (k:Int)=>N.set k.toNat true) N
def afp(K:ac (Nat×eE)){f:co}(xf:cJ){S:vV}(h:∀l,S.pre l->∀H aN,S.hp H->aW.ok ⟨bH aS (bO aX.ctx (cn K)) (b0+1),b0+1,f,H,[],aN,Q6 S l xf.res⟩ ⟨[],.c xf.body,⟨[],0,jB 0 (S.args l)⟩⟩)
 (aa:aS.get f=some xf:=by kernel_rfl) (hl:∀l,(S.args l).length<=xf.aI:=by exact fun _=>Nat.le_of_ble_eq_true rfl):bD aX.ctx f S.spec:=agX aX.ek eM (cn K) aa hl h
def aaV:bU where
 L:=ac ce
 args:=fun s=>[.s s]
 pre:=fun s=>s.length<=2000
 res:=fun s=>.i .i64 (rQ s)
def arH:bD aX.ctx 263 aaV.spec:=by
 refine b3 [(35,vr.spec)] Vd.1 ?_;intro(s:ac ce) ah H aN;refine J ?_;refine a9 o3 s ah ?_;cases h:cF s with
 |some x=>
  refine aB 7 (.bn [cT x,.i .i64 0]) rfl (by show nD s=_;unfold nD;rw[h]) (J ?_);exact aA rfl (.of (by show _=aj.i .i64 (rQ s);unfold rQ;rw[h];rfl))
 |none=>
  refine aB 7 (.bn [cT 0,.i .i64 6]) rfl (by show nD s=_;unfold nD;rw[h]) (J ?_);exact aA rfl (.of (by show _=aj.i .i64 (rQ s);unfold rQ;rw[h];rfl))
def vu(x y:Rat):Rat:=mkRat (x.num*(y.den:Int)) (x.den*y.num.natAbs)
def abh:bU where
 L:=Rat×Rat
 args:=fun(x,y)=>[cT x,cT y]
 pre:=fun(x,y)=>ev 60000 x∧ev 60000 y∧0<y.num
 res:=fun(x,y)=>.bn [cT (vu x y),.i .i64 0]
def ar1:bD aX.ctx 394 abh.spec:=by
 refine b3 [(172,zI.spec),(173,zE.spec),(74,xx.spec)] V9.1 ?_;intro⟨x,y⟩ ⟨(aa:ev _ x),(aJ:ev _ y),(hp:0<y.num)⟩ H aN;have hV:=CA x.num;have nL:y.num.sign=1:=zbE hp;have awl:y.num≠0:=by omega
 refine av 8 ?_;refine v0 8 (show¬y.num.sign=0 by omega) (av 18 ?_);refine eU 18 (c9 y.den) rfl rfl (by rw[zaa awl];rfl) ?_;refine cq rq (x.num.natAbs,y.den) ⟨de aa.1,de aJ.2⟩ (J ?_);refine cq sr x trivial (J ?_);refine cq rq (x.den,y.num.natAbs) ⟨de aa.2,de aJ.1⟩ (av 14 ?_);refine aB 14 (.i .i64 x.num.sign) rfl (by rw[nL,Int.mul_one];exact cX rfl (by omega) (by omega)) (J ?_);refine cq vp (x.num.sign,x.num.natAbs*y.den,x.den*y.num.natAbs) ⟨hV.1,hV.2,de (nG aa.1 aJ.2),de (nG aa.2 aJ.1),zbx x.den_nz (by omega)⟩ ?_;have e:mkRat (x.num.sign*((x.num.natAbs*y.den:Nat):Int)) (x.den*y.num.natAbs)=vu x y:=by
  unfold vu;rw[zaY,<-zbw,zcD]
 refine aB 25 (cT (vu x y)) rfl (congrArg cT e) (J ?_);exact aA rfl (.refl _)
def abg:bU where
 L:=Rat×Rat
 args:=fun(x,y)=>[cT x,cT y]
 pre:=fun(x,y)=>ev 60000 x∧ev 60000 y∧0<y.num
 res:=fun(x,y)=>cT (vu x y)
def ar0:bD aX.ctx 349 abg.spec:=by
 refine b3 [(394,abh.spec)] VN.1 ?_;intro⟨x,y⟩ hp H aN;refine J ?_;refine a9 ar1 (x,y) hp ?_;refine aB 10 (.bn [cT (vu x y),.i .i64 0]) rfl rfl (J ?_);exact aA rfl (.refl _)
def aaS:bU where
 L:=Int×Int×Rat
 args:=fun(e,p,x)=>[qT e p,cT x]
 pre:=fun(e,p,x)=>fY e p∧ev 60000 x
 res:=fun(e,p,x)=>.b (decide (oG e p<jz x))
def arC:bD aX.ctx 348 aaS.spec:=by
 refine b3 [(392,JE.spec),(393,aaY.spec),(77,xz.spec)] VM.1 ?_;intro⟨e,p,x⟩ ⟨ao,(aa:ev _ x)⟩ H aN;refine J ?_;refine cq Pw x trivial (J ?_);refine cq arL (e,p) ao (J ?_);refine cq vt (jz x,oG e p) ⟨jH (ON aa),jH (aqz ao)⟩ (J ?_);exact aA rfl (.of (cA (decide_eq_decide.2 yk)))
def aa3:bU where
 L:=Rat
 args:=fun x=>[cT x]
 pre:=fun x=>ed 268435456 x.den
 res:=fun x=>.b (decide (x.den=1))
def arP:bD aX.ctx 171 aa3.spec:=by
 refine b3 [(173,zE.spec),(166,xy.spec),(165,tL.spec)] MD.1 ?_;intro(x:Rat) aa H aN;refine J ?_;refine a9 sr x trivial (J ?_);refine a9 vq () trivial (J ?_);refine a9 ss (x.den,1) ⟨de aa,FD⟩ (J ?_);refine aA rfl (.of (cA (decide_eq_decide.2 ?_)));show ji x.den 1=0↔x.den=1;unfold ji;have:=x.den_nz;by_cases h:x.den=1
 ·rw[zaa (by omega),zab h];exact⟨fun _=>h,fun _=>rfl⟩
 ·rw[zaa (by omega),zaa h];exact⟨(fun h=>by cases h),fun aG=>absurd aG h⟩
def auZ{e p:Int}(h:fY e p)(aa:ev 300 x): -20000<=om e p x∧om e p x<=20000:=by
 obtain⟨I,U,ag,au,a0⟩:=h;obtain⟨c1,dx⟩:=qF I U;have j1:=IV x.num.natAbs x.den;have wa:=rp aa.1;have Dj:=rp aa.2;unfold om;split<;>omega
def JL:bU where
 L:=Int×Int×Rat
 args:=fun(e,p,x)=>[qT e p,cT x]
 pre:=fun(e,p,x)=>ev 300 x
 res:=fun(e,p,x)=>.b (hasB e p x)
def aa0:bD aX.ctx 260 JL.spec:=by
 refine b3 [(146,JH.spec),(348,aaS.spec),(350,abo.spec),(349,abg.spec),(171,aa3.spec)] Va.1 ?_;intro⟨e,p,x⟩ (aa:ev 300 x) H aN;have no:¬Gy e p x->b7 (.b false) (JL.res (e,p,x)):=fun h=>.of (cA (by unfold hasB;exact(zad (fun aG=>h ((has_eq e p x).2 aG))).symm));have yes:Gy e p x->b7 (.b true) (JL.res (e,p,x)):=fun h=>.of (cA (by unfold hasB;exact(zae ((has_eq e p x).1 h)).symm));refine J ?_;refine cq aaU (e,p) trivial ?_;by_cases I:fY e p
 case neg=>
  refine aB 6 (.i .i64 2) rfl (congrArg (aj.i .i64) (zaa I)) (J ?_);exact aA rfl (no (fun h=>I h.1))
 refine aB 6 (.i .i64 0) rfl (congrArg (aj.i .i64) (zab I)) (J ?_);refine cq arC (e,p,x) ⟨I,jH aa⟩ ?_;by_cases U:oG e p<jz x
 ·refine dS 11 U (J ?_);exact aA rfl (no (fun h=>h.2.1 U))
 refine ep 11 U ?_;obtain⟨bl,bK⟩:=auZ I aa;have OS:=OP (c:=20000) (k:=om e p x) (by omega) (by omega);have awn:0<(ef (mkRat 1 1) (om e p x)).num:=by
  rw[(zR _).1];exact Int.pow_pos (by decide)
 refine J ?_;refine cq asa (e,p,x) ⟨I,jH aa⟩ (J ?_);refine cq ar0 (x,ef (mkRat 1 1) (om e p x)) ⟨jH aa,jH OS,awn⟩ ?_;have g9:ev 60000 (vu x (ef (mkRat 1 1) (om e p x))):=by
  refine zv ?_ (de (nG aa.2 OS.1)) (zbx x.den_nz (by omega));rw[zcd,Int.natAbs_natCast];exact de (nG aa.1 OS.2)
 refine J ?_;refine cq arP (vu x (ef (mkRat 1 1) (om e p x))) (de g9.2) ?_;by_cases ag:(vu x (ef (mkRat 1 1) (om e p x))).den=1
 ·refine dS 20 ag (J ?_);exact aA rfl (yes ⟨I,U,ag⟩)
 ·refine ep 20 ag (J ?_);exact aA rfl (no (fun h=>ag h.2.2))
def zH:bD aX.ctx 150 tW.spec:=by
 refine b3 [] Ut.1 ?_;intro⟨n,m⟩ _ H aN;refine av 6 ?_;by_cases h:0<=n
 ·refine v1 6 h (J ?_);exact aA rfl (.of (cA (decide_eq_decide.2 ⟨fun aG=>⟨h,aG⟩,fun aG=>aG.2⟩)))
 ·refine v0 6 h (J ?_);exact aA rfl (.of (cA (zad (fun aG=>h aG.1)).symm))
def JN:bD aX.ctx 151 xI.spec:=by
 refine b3 [] Uu.1 ?_;intro⟨p,i⟩ _ H aN;have az:∀{c:Int},gU p i=c->b7 (.i .i64 c) (xI.res (p,i)):=fun h=>.of (by rw[<-h];rfl);refine av 8 ?_;by_cases h:i<p.head
 ·refine v1 8 h (J ?_);exact aA rfl (az (zab h))
 refine v0 8 h (av 12 ?_);by_cases U:i<p.tail
 ·refine v1 12 U (J ?_);exact aA rfl (az ((zaa h).trans (zab U)))
 refine v0 12 U (J ?_);exact aA rfl (az ((zaa h).trans (zaa U)))
def ar7:bD aX.ctx 265 xK.spec:=by
 refine b3 [(151,xI.spec)] Vf.1 ?_;intro⟨p,i,k⟩ _ H aN;have no:¬(0<=k∧k<i∧(gU p k=0∨gU p k=gU p i))->b7 (.b false) (xK.res (p,i,k)):=fun h=>.of (cA (zad h).symm);have yes:(0<=k∧k<i∧(gU p k=0∨gU p k=gU p i))->b7 (.b true) (xK.res (p,i,k)):=fun h=>.of (cA (zae h).symm);refine av 8 ?_;by_cases h:0<=k
 case neg=>
  refine fi 8 h (J ?_);exact aA rfl (no (by omega))
 refine dT 8 h (av 12 ?_);by_cases U:k<i
 case neg=>
  refine fi 12 U (J ?_);exact aA rfl (no (by omega))
 refine dT 12 U (J ?_);refine cq JN (p,k) trivial ?_;refine aB 17 (.i .i64 (gU p k)) rfl rfl (av 18 ?_);by_cases ag:gU p k=0
 ·refine v1 18 ag (J ?_);exact aA rfl (yes ⟨h,U,.inl ag⟩)
 refine v0 18 ag (J ?_);refine cq JN (p,k) trivial ?_;refine aB 22 (.i .i64 (gU p k)) rfl rfl (J ?_);refine cq JN (p,i) trivial ?_;refine aB 25 (.i .i64 (gU p i)) rfl rfl (av 26 ?_);by_cases au:gU p k=gU p i
 ·refine v1 26 au (J ?_);exact aA rfl (yes ⟨h,U,.inr au⟩)
 refine v0 26 au (J ?_);exact aA rfl (no (fun h=>h.2.2.elim ag au))
def rM(op:Int):Int:=if 1<=op∧op<=15 then(oS op.toNat:Int)else -1
def Ao:bU where
 L:=Int
 args:=fun n=>[.i .i64 n]
 pre:=fun _=>True
 res:=fun n=>.i .i64 (rM n)
def api:∀o,o<16->1<=o->oS o=if o<=3 then 0 else if o<=7 then 1 else if o<=13 then 2 else if o=14 then 3 else 4:=by decide +kernel
def avy:∀o,o<16->1<=o->vH o=if o=1∨o=2 then 1 else oS o:=by decide +kernel
def Ap:bD aX.ctx 261 Ao.spec:=by
 refine b3 [] Vb.1 ?_;intro(n:Int) _ H aN;have az:∀{c:Int},rM n=c->b7 (.i .i64 c) (Ao.res n):=fun h=>.of (by rw[<-h];rfl);refine av 5 ?_;by_cases I:n<1
 ·refine v1 5 I (J ?_);exact aA rfl (az (zaa (by omega)))
 refine v0 5 I (av 8 ?_);by_cases U:15<n
 ·refine v1 8 U (J ?_);exact aA rfl (az (zaa (by omega)))
 refine v0 8 U ?_;obtain⟨o,al⟩:∃o:Nat,n=(o:Int):=⟨n.toNat,by omega⟩;have ab:=api o (by omega) (by omega);have e2:∀{c:Nat},oS o=c->b7 (.i .i64 (c:Int)) (Ao.res n):=fun h=>az (by unfold rM;rw[zab (by omega),al,zbb,h]);refine av 12 ?_;by_cases ag:n<=3
 ·refine v1 12 ag (J ?_);exact aA rfl (e2 (c:=0) (ab.trans (zab (by omega))))
 refine v0 12 ag ?_;rw[zaa (by omega)]at ab;refine av 15 ?_;by_cases au:n<=7
 ·refine v1 15 au (J ?_);exact aA rfl (e2 (c:=1) (ab.trans (zab (by omega))))
 refine v0 15 au ?_;rw[zaa (by omega)]at ab;refine av 18 ?_;by_cases a0:n<=13
 ·refine v1 18 a0 (J ?_);exact aA rfl (e2 (c:=2) (ab.trans (zab (by omega))))
 refine v0 18 a0 ?_;rw[zaa (by omega)]at ab;refine av 21 ?_;by_cases b5:n=14
 ·refine v1 21 b5 (J ?_);exact aA rfl (e2 (c:=3) (ab.trans (zab (by omega))))
 refine v0 21 b5 (J ?_);exact aA rfl (e2 (c:=4) (ab.trans (zaa (by omega))))
def Mr(n:gM):ac aj:=[.i .i64 n.a,.i .i64 n.b,.i .i64 n.c,.i .i64 n.d]
def Mm:bU where
 L:=gM
 args:=fun n=>[.agg (lV n)]
 pre:=fun _=>True
 res:=fun n=>.agg (Mr n)
def TK:bD aX.ctx 351 Mm.spec:=by
 refine b3 [] VQ.1 ?_;intro(n:gM) _ H aN;refine J ?_;exact aA rfl (.refl _)
def arQ(n:gM):Nat×ac Int->cB
 |(k,[])=>⟨[.c 137 (lV n),.a 359 false 1 Int ie (fb n)],2,[(1,.p 0 0),(3,.p 1 0),(4,.nl),(5,.i .i64 (k:Int))]⟩
 |(k,d::ds)=>⟨[.c 137 (lV n),.a 359 false 1 Int ie (fb n),.a 3 true 1 Int ie (d::ds)],3,[(1,.p 0 0),(3,.p 1 0),(4,.a5 2 1 0 (ds.length+1) (ds.length+1)),(5,.i .i64 (k:Int))]⟩
def aa5:bU where
 L:=gM
 args:=fun n=>[.agg (lV n)]
 pre:=fun n=>1<=n.op∧n.op<=15
 res:=fun n=>.bq 1 Int ie (hT n)
def au4{own:ac aY}{n p:Nat}{e bS:bQ}{m:Nat}{o q r:aY}(h:kZ [0,1,m] bS e)(al:∃a8,own[0]? =some a8∧gm [0,1,m] o a8)(hq:∃a8,own[1]? =some a8∧gm [0,1,m] q a8)(aD:∃a8,own[m]? =some a8∧gm [0,1,m] r a8)(hm:1<m:=by decide)(hp:pinned p [0,1,m] 0=true:=by rfl):Sub p [0,1,m] ⟨own,n,e⟩ ⟨[o,q,r],3,bS⟩:=⟨by simp;omega,rfl,⟨al,hq,aD,trivial⟩,h,hp⟩
def arR:bD aX.ctx 264 aa5.spec:=by
 refine b3 [(351,Mm.spec),(261,Ao.spec)] Ve.1 ?_;intro(n:gM) ⟨(I:1<=n.op),(U:n.op<=15)⟩ H aN;obtain⟨o,al⟩:∃o:Nat,n.op=(o:Int):=⟨n.op.toNat,by omega⟩;have mf:n.op.toNat=o:=by omega
 obtain⟨hu,_⟩:=Km o (by omega);have a3:hT n=(fb n).take (oS o):=by unfold hT;rw[mf];exact zab ⟨I,U⟩
 have e6:rM n.op=(oS o:Int):=by unfold rM;rw[zab ⟨I,U⟩,mf]
 generalize oS o=u at *;refine J ?_;refine a9 TK n trivial ?_;refine aB 7 (.agg (Mr n)) rfl rfl (av 5 ?_);refine oi 1 ie (fb n) ?_;refine J ?_;refine df (L:=Nat×ac Int) (fun(k,l)=>k<=u∧l=(fb n).take k) (arQ n) (fun l=>u-l.1) [0,1] (0,[]) ⟨zaf _,rfl⟩ (by show u-0<b0+1;unfold b0;omega) lj ?_;rintro⟨k,l⟩ ⟨ab,ax⟩;have oJ:(fb n).length=4:=rfl;have q3:l.length=k:=by rw[ax,zao];omega
 by_cases aT:k<u
 ·have Ni:k<(fb n).length:=by omega
  have eJ:(fb n).take (k+1)=l++[(fb n)[k]]:=by rw[zaP Ni,ax]
  cases l with
  |nil=>
   refine J ?_;refine a9 Ap n.op trivial ?_;refine aB 11 (.i .i64 (u:Int)) rfl (congrArg (aj.i .i64) e6) (av 12 ?_);refine v1 12 (show(k:Int)<u by omega) (J ?_);refine Ka (j:=k) ?_;refine tO (fb n)[k] (bg Ni) ?_;refine J ?_;refine FL ie [(fb n)[k]] (h9 (R:=ie) [(fb n)[k]] rfl) ?_;refine av 14 ?_;refine eY 14 ((k+1:Nat):Int) (J ?_);exact br [0,1,3] (k+1,[(fb n)[k]]) ⟨by show u-(k+1)<u-k;omega,aT,eJ.symm⟩ sB
  |cons d ds=>
   have iT:ds.length+1=k:=q3;refine J ?_;refine a9 Ap n.op trivial ?_;refine aB 11 (.i .i64 (u:Int)) rfl (congrArg (aj.i .i64) e6) (av 12 ?_);refine v1 12 (show(k:Int)<u by omega) (J ?_);refine Ka (j:=k) ?_;refine tO (fb n)[k] (bg Ni) ?_;refine J ?_;refine FK (R:=ie) [(fb n)[k]] (h9 (R:=ie) [(fb n)[k]] rfl) ?_;refine av 14 ?_;refine eY 14 ((k+1:Nat):Int) (J ?_);exact br [0,1,4] (k+1,d::(ds++[(fb n)[k]])) ⟨by show u-(k+1)<u-k;omega,aT,eJ.symm⟩ (au4 ⟨rfl,rfl,congrArg (fun k=>some (aj.a5 4 1 0 k k)) (by simp),rfl,trivial⟩ ⟨_,rfl,rfl⟩ ⟨_,rfl,rfl,fun _=>rfl⟩ ⟨_,rfl,rfl,fun _=>rfl⟩)
 ·obtain rfl:k=u:=by omega
  rw[<-a3]at ax;cases l with
  |nil=>
   refine J ?_;refine a9 Ap n.op trivial ?_;refine aB 11 (.i .i64 (k:Int)) rfl (congrArg (aj.i .i64) e6) (av 12 ?_);refine v0 12 (show¬(k:Int)<k by omega) (J ?_);exact aA rfl (b7.nl.trans (.of (by show aj.bq 1 Int ie []=aj.bq 1 Int ie (hT n);rw[<-ax])))
  |cons d ds=>
   refine J ?_;refine a9 Ap n.op trivial ?_;refine aB 11 (.i .i64 (k:Int)) rfl (congrArg (aj.i .i64) e6) (av 12 ?_);refine v0 12 (show¬(k:Int)<k by omega) (av 21 ?_);refine iw 21 ?_;refine J ?_;exact aA rfl (.of (by show aj.bq 1 Int ie (d::ds)=aj.bq 1 Int ie (hT n);rw[<-ax]))
def ac7:bU where
 L:=gM
 args:=fun n=>[.agg (lV n)]
 pre:=fun n=>1<=n.op∧n.op<=15
 res:=fun n=>.b (!sa n)
def au8:bD aX.ctx 262 ac7.spec:=by
 refine b3 [(351,Mm.spec),(261,Ao.spec)] Vc.1 ?_;intro(n:gM) ⟨(I:1<=n.op),(U:n.op<=15)⟩ H aN;obtain⟨o,al⟩:∃o:Nat,n.op=(o:Int):=⟨n.op.toNat,by omega⟩;have mf:n.op.toNat=o:=by omega
 obtain⟨_,hu⟩:=Km o (by omega);have aV:=avy o (by omega) (by omega);have e6:rM n.op=(oS o:Int):=by unfold rM;rw[zab ⟨I,U⟩,mf]
 have a3:sa n=(((fb n).drop (vH o)).all (fun x=>x==0)&&(n.v.isEmpty||decide (n.op=3))):=by unfold sa;rw[mf]
 generalize vH o=u at *;refine J ?_;refine a9 Ap n.op trivial ?_;refine aB 8 (.i .i64 (oS o:Int)) rfl (congrArg (aj.i .i64) e6) (av 3 ?_)
 iterate 3 refine iL ?_
 refine ks (L:=Unit) (fun _=>True) (fun _=>⟨[.c 137 (lV n)],1,[(1,.p 0 0),(3,.i .i64 (u:Int))]⟩) ?_ ?_
 ·refine av 11 ?_;by_cases eF:n.op=1
  ·refine v1 11 eF ?_;rw[zab (.inl (by omega))]at aV;subst aV;refine J ?_;exact br [0] () trivial dX
  refine v0 11 eF (av 15 ?_);by_cases e5:n.op=2
  ·refine v1 15 e5 ?_;rw[zab (.inr (by omega))]at aV;subst aV;refine J ?_;exact br [0] () trivial dX
  refine v0 15 e5 ?_;rw[zaa (by omega)]at aV;subst aV;refine J ?_;exact br [0] () trivial dX
 intro _ _;refine J ?_;refine a9 TK n trivial ?_;refine aB 18 (.agg (Mr n)) rfl rfl (av 19 ?_);refine oi 1 ie (fb n) ?_;refine J ?_;refine df (L:=Nat) (fun k=>u<=k∧k<=4∧(((fb n).drop u).take (k-u)).all (fun x=>x==0)=true) (fun(k:Nat)=>⟨[.c 137 (lV n),.a 359 false 1 Int ie (fb n)],2,[(1,.p 0 0),(4,.p 1 0),(5,.i .i64 (k:Int))]⟩) (fun k=>4-k) [0,1] u ⟨zaO _,hu,by rw[zbZ];rfl⟩ (by show 4-u<b0+1;unfold b0;omega) lj ?_;rintro(k:Nat) ⟨XB,ab,ax⟩;have oJ:(fb n).length=4:=rfl;have hlen:((fb n).drop u).length=4-u:=by rw[zaz];rfl
 refine av 21 ?_;by_cases hl:k<4
 ·refine v1 21 (show(k:Int)<4 by omega) ?_;have Nl:k-u<((fb n).drop u).length:=by omega
  have me:(fb n)[k]? =some ((fb n).drop u)[k-u]:=by
   rw[<-bg Nl,zaw,show u+(k-u)=k by omega]
  refine J ?_;refine Ka (j:=k) ?_;refine tO ((fb n).drop u)[k-u] me ?_;refine av 27 ?_;by_cases aa:((fb n).drop u)[k-u]=0
  ·refine v0 27 (gH aa) (av 23 ?_);refine eY 23 ((k+1:Nat):Int) (J ?_);exact br [0,1] (k+1) ⟨by omega,by omega,hl,by rw[show k+1-u=(k-u)+1 by omega];exact Yh Nl ax aa⟩ lj
  ·refine v1 27 aa (J ?_);refine aA rfl (.of (cA ?_));have:((fb n).drop u).all (fun x=>x==0)=false:=by
    rw[List.all_eq_false];exact⟨((fb n).drop u)[k-u],dp Nl,by simpa using aa⟩
   rw[a3,this];rfl
 ·refine v0 21 (show¬(k:Int)<4 by omega) ?_;have qe:((fb n).drop u).all (fun x=>x==0)=true:=by
   rw[zau (by omega)]at ax;exact ax
  refine av 30 ?_;by_cases ag:n.op=3
  ·refine v0 30 (gH ag) (J ?_);exact aA rfl (.of (cA (by rw[a3,qe,zae ag];simp)))
  ·refine v1 30 ag (av 34 ?_);cases aE:n.v with
   |nil=>
    refine aB 34 (.b false) rfl rfl (J ?_);exact aA rfl (.of (cA (by rw[a3,qe,aE];rfl)))
   |cons c v=>
    refine aB 34 (.b true) rfl rfl (J ?_);exact aA rfl (.of (cA (by rw[a3,qe,aE,zad ag];rfl)))
def av9:bD aX.ctx 145 A4.spec:=by
 refine b3 [] Uo.1 ?_;intro(p:cz) _ H aN;have a6:∀{c:Int},qW p=c->b7 (.i .i64 c) (A4.res p):=fun h=>.of (by rw[<-h];rfl);refine av 10 ?_;by_cases I:6<(p.bJ.length:Int)
 ·refine v1 10 I (J ?_);exact aA rfl (a6 (zab (.inl I)))
 refine v0 10 I (av 15 ?_);by_cases U:6<(p.ins.length:Int)
 ·refine v1 15 U (J ?_);exact aA rfl (a6 (zab (.inr (.inl U))))
 refine v0 15 U (av 19 ?_);by_cases ag:64<(p.bs.length:Int)
 ·refine v1 19 ag (J ?_);exact aA rfl (a6 (zab (.inr (.inr (.inl ag)))))
 refine v0 19 ag (av 25 ?_);by_cases au:4<(p.eX.length:Int)
 ·refine v1 25 au (J ?_);exact aA rfl (a6 (zab (.inr (.inr (.inr au)))))
 refine v0 25 au ?_;have iK:¬(6<(p.bJ.length:Int)∨6<(p.ins.length:Int)∨64<(p.bs.length:Int)∨4<(p.eX.length:Int)):=fun h=>h.elim I fun h=>h.elim U fun h=>h.elim ag au;have az:=fun{c} h=> @a6 c ((zaa iK).trans h);refine av 30 ?_;by_cases g1:(p.bJ.length:Int)=0
 ·refine v1 30 g1 (J ?_);exact aA rfl (az (zab (.inl g1)))
 refine v0 30 g1 (av 33 ?_);by_cases aP:(p.bs.length:Int)=0
 ·refine v1 33 aP (J ?_);exact aA rfl (az (zab (.inr (.inl aP))))
 refine v0 33 aP (av 38 ?_);by_cases bd:p.mode<0
 ·refine v1 38 bd (J ?_);exact aA rfl (az (zab (.inr (.inr (.inl bd)))))
 refine v0 38 bd (av 43 ?_);by_cases cu:4<p.mode
 ·refine v1 43 cu (J ?_);exact aA rfl (az (zab (.inr (.inr (.inr cu)))))
 refine v0 43 cu ?_;have gH:¬((p.bJ.length:Int)=0∨(p.bs.length:Int)=0∨p.mode<0∨4<p.mode):=fun h=>h.elim g1 fun h=>h.elim aP fun h=>h.elim bd cu;have e2:=fun{c} h=> @az c ((zaa gH).trans h);refine av 47 ?_;by_cases bl:p.head<0
 ·refine v1 47 bl (J ?_);exact aA rfl (e2 (zab (.inl bl)))
 refine v0 47 bl (av 53 ?_);by_cases bK:p.tail<p.head
 ·refine v1 53 bK (J ?_);exact aA rfl (e2 (zab (.inr (.inl bK))))
 refine v0 53 bK (av 59 ?_);by_cases ee:(p.bs.length:Int)<p.tail
 ·refine v1 59 ee (J ?_);exact aA rfl (e2 (zab (.inr (.inr ee))))
 refine v0 59 ee ?_;have qj:¬(p.head<0∨p.tail<p.head∨(p.bs.length:Int)<p.tail):=fun h=>h.elim bl fun h=>h.elim bK ee;have b8:=fun{c} h=> @e2 c ((zaa qj).trans h);refine av 65 ?_;by_cases eK:(p.eX.length:Int)=0
 ·refine v1 65 eK (av 70 ?_);by_cases fV:p.head<(p.bs.length:Int)
  ·refine v1 70 fV (J ?_);exact aA rfl (b8 (zab ⟨eK,by omega⟩))
  ·refine v0 70 fV (J ?_);exact aA rfl (b8 (zaa (fun h=>h.2 (by omega))))
 ·refine v0 65 eK (J ?_);exact aA rfl (b8 (zaa (fun h=>eK h.1)))
def aaQ{v k:Nat}(h:v<10^k)(ab:k<=2000):ed 300 v:=by
 refine mD (by decide) (zdD h (zag (zaL (by decide) ab) ?_));decide +kernel
def tI{s:ac ce}(ah:s.length<=2000)(h:cF s=some x):ev 300 x:=by
 obtain⟨P,q,jA,_,_,hi,hq,Ba,hint,Br⟩:=Pr ah;by_cases db:pK (ec s).1 P q jA
 ·obtain⟨g1,aP,bd⟩:=db;have vU:=aaQ (sy g1.2.1) (by omega);cases jA with
  |false=>
   have e:=hint ⟨g1,aP,bd⟩ rfl;rw[h]at e;cases e;exact zv (by rw[vB];exact vU) (by show(bb _ 1).length<=_;rw[wA];exact jw rfl) (by decide)
  |true=>
   obtain⟨ag,au,a0⟩:=bd rfl;have o1:cd q≠0:=fun h=>au (yd ag h);have e:=Br ⟨g1,aP,bd⟩ rfl;rw[h]at e;split at e
   ·cases e;exact zv (by rw[vB];exact vU) (aaQ (sy ag.2.1) (by omega)) o1
   ·cases e
 ·rw[Ba db]at h;cases h
def FE:bU where
 L:=cz×nb
 args:=fun(p,x)=>[jc p,.agg (BC x)]
 pre:=fun(p,x)=>x.aK.length<=2000∧x.ae.length<=2000
 res:=fun(p,x)=>.i .i64 (u3 p x)
def arN:bD aX.ctx 147 FE.spec:=by
 refine b3 [(150,tW.spec),(35,vr.spec),(260,JL.spec),(77,xz.spec)] Uq.1 ?_;intro⟨p,x⟩ ⟨gx,g0⟩ H aN;have a6:∀{c:Int},u3 p x=c->b7 (.i .i64 c) (FE.res (p,x)):=fun h=>.of (by rw[<-h];rfl);refine J ?_;refine a9 zH (x.f,(p.bJ.length:Int)) trivial ?_;by_cases ag:ka x.f p.bJ.length
 case neg=>
  refine ep 14 ag (J ?_);exact aA rfl (a6 (zaa ag))
 refine dS 14 ag ?_;obtain⟨f,af⟩:∃f:Nat,x.f=(f:Int):=⟨x.f.toNat,by have:=ag.1;omega⟩;have uJ:x.f.toNat=f:=by omega
 have oJ:f<p.bJ.length:=by have:=ag.2;omega
 obtain⟨⟨kD,kE⟩,hq⟩:∃w,p.bJ[f]? =some w:=⟨_,bg oJ⟩;have az:∀{c:Int},rb kD kE x=c->b7 (.i .i64 c) (FE.res (p,x)):=fun h=>a6 (by unfold u3;rw[zab ag,uJ,hq];exact h);refine J ?_;refine a9 o3 x.aK gx ?_;cases e6:cF x.aK with
 |none=>
  refine aB 19 (.bn [cT 0,.i .i64 6]) rfl (by show nD x.aK=_;unfold nD;rw[e6]) (J ?_);exact aA rfl (az (by unfold rb;rw[e6]))
 |some X=>
 refine aB 19 (.bn [cT X,.i .i64 0]) rfl (by show nD x.aK=_;unfold nD;rw[e6]) (J ?_);refine a9 o3 x.ae g0 ?_;cases a3:cF x.ae with
 |none=>
  refine aB 28 (.bn [cT 0,.i .i64 6]) rfl (by show nD x.ae=_;unfold nD;rw[a3]) (J ?_);exact aA rfl (az (by unfold rb;rw[e6,a3]))
 |some Y=>
 refine aB 28 (.bn [cT Y,.i .i64 0]) rfl (by show nD x.ae=_;unfold nD;rw[a3]) ?_;have Fa:=tI gx e6;have Fb:=tI g0 a3;have iS:rb kD kE x=if lo kD kE X∧lo kD kE Y∧¬Y<X then 0 else 7:=by unfold rb;rw[e6,a3]
 have no:¬(lo kD kE X∧lo kD kE Y∧¬Y<X)->b7 (.i .i64 7) (FE.res (p,x)):=fun h=>az (iS.trans (zaa h));refine av 37 ?_;refine aB 37 (.i .i64 (f:Int)) rfl (by rw[af]) ?_;refine dv (kD,kE) hq ?_;refine J ?_;refine a9 aa0 (kD,kE,X) Fa ?_;by_cases cO:lo kD kE X
 case neg=>
  refine ep 42 cO (J ?_);exact aA rfl (no (fun h=>cO h.1))
 refine dS 42 cO (J ?_);refine a9 aa0 (kD,kE,Y) Fb ?_;by_cases cS:lo kD kE Y
 case neg=>
  refine ep 47 cS (J ?_);exact aA rfl (no (fun h=>cS h.2.1))
 refine dS 47 cS (J ?_);refine a9 vt (X,Y) ⟨jH Fa,jH Fb⟩ (av 54 ?_);by_cases et:Y<X
 ·refine v1 54 (yk.2 et) (J ?_);exact aA rfl (no (fun h=>h.2.2 et))
 ·refine v0 54 (fun h=>et (yk.1 h)) (J ?_);exact aA rfl (az (iS.trans (zab ⟨cO,cS,et⟩)))
