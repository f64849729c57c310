/- What the functions of the program and of the document compute, for every input (part 3); conditions as in the statements. -/
import Derived.Test.YteenccgikdibpaaGreatDoorX
import Derived.Test.YteenccgikdibpaaGreatDoorC2
import Derived.Test.YteenccgikdibpaaGreatDoorS2
set_option linter.all false
namespace Go.an.bh
open Go.an
set_option maxRecDepth 100000
set_option maxHeartbeats 4000000
def Y8:bE where
 L:=List UInt8
 args:=fun s=>[.s s]
 pre:=fun s=>iX s∧s.length<=2100
 res:=fun s=>dw (b1 s)
def ya(v:Nat)(rest:List UInt8):List a3:=[.c 64 [dw v],.c 9 [.s rest]]
theorem Dc{v k K:Nat}(h:v<10^k)(U:k<=K):eC K v:=zT (e4 h (Nat.le_trans (Nat.pow_le_pow_left (by decide) k) (Nat.pow_le_pow_right (by decide) U)))
def tD:FuncId->List Value->au->Value->au->Prop:=cc [(67,Af.spec),(105,Hf.spec),(124,Jx.spec)]
theorem NJ:bg aC.ctx 66 Y8.spec:=by
 refine aeM aC.cv cA tD (xf:=TQ.1) (by kernel_rfl) (fun l vs st ⟨_,_,_,d⟩=>by rw[hI d];exact kx rfl) ?_;rintro⟨s,H⟩ vs st ⟨⟨ez,ah⟩,_,ar,av⟩;have ez:iX s:=ez;have ah:s.length<=2100:=ah;have ar:Fit H [] st [] 0:=ar;have av:di H [.s s] [] vs:=av;have ab:=c3.zero av;obtain⟨eZ,cm,H1,Vn,aA,OF,mw,f1,ic⟩:=seg (call:=cC aW (c0 aC.ctx tD) (ba+1)) (cd:=ba+1) (fn:=66) (ops:=[C.m 2 C.aD]) (s:=⟨[],0,lS 0 [.s s]⟩) (t:=⟨[],0,[(2,.nl),(0,.s s)]⟩) rfl (by
  intro H1 i1 s1 _ _
  repeat refine I ?_
  exact mi ⟨rfl,rfl⟩) ar ab
 obtain⟨m8,ek,abr,auO,e2,OG,iG,f2,kL⟩:=seg (call:=cC aW (c0 aC.ctx tD) (ba+1)) (cd:=ba+1) (fn:=66) (ops:=[C.hP 3 [C.N] 64]) (s:=⟨[],0,[(2,.nl),(0,.s s)]⟩) (t:=⟨[.c 64 [dw 0]],1,[(3,.p 0 0),(2,.nl),(0,.s s)]⟩) rfl (by
  intro H1 i1 s1 _ _
  iterate 1 refine I ?_
  refine apN 0 (cs:=[.nl]) [dw 0] ⟨b3.nl.trans (.of (by show da []=da (a1 _ 0);rw[g6])),trivial⟩ ?_
  repeat refine I ?_
  exact mi ⟨rfl,rfl⟩) mw f1
 obtain⟨KP,gI,q7,rN,b0,OH,OI,f3,p3⟩:=seg (call:=cC aW (c0 aC.ctx tD) (ba+1)) (cd:=ba+1) (fn:=66) (ops:=[C.m 6 0,C.c 7 123 [6]]) (s:=⟨[.c 64 [dw 0]],1,[(3,.p 0 0),(2,.nl),(0,.s s)]⟩) (t:=⟨ya 0 s,2,[(7,.fn (.func 217) [] [.p 1 0]),(6,.s s),(3,.p 0 0),(2,.nl),(0,.s s)]⟩) rfl (by
  intro H1 i1 s1 _ _
  repeat refine I ?_
  refine YN RL.1 (by kernel_rfl) ?_;intro abr i2 s2 _ _
  repeat refine I ?_
  refine mi ⟨.inr rfl,_,rfl,?_⟩
  repeat refine I ?_
  exact mi ⟨rfl,rfl⟩) iG f2
 have pK:KP.b4=none:=p3.trans (kL.trans ic);obtain⟨pr,vI,abt,auX,eS,t4,d4,tb,abo,OJ,aoO,cl,xG,yR⟩:=atr (X:=aC.ctx) (aW:=aW) (cp:=tD) (cd:=ba+1) (n:=4611686018427387902) (fn:=66) pK OI f3 (f:=7) (ps:=[8,9]) (du:=C.q (C.R [C.m 4 8]) (C.R [C.m 5 9])) (body:=C.K 1 (.sI [C.D (C.m 11 5) [5],C.D (C.ho 12 .u64 11) [11],C.E (C.c 13 67 [12]),C.Jm (C.l 10 3) 1 [3],C.E (C.c 14 105 [10,13]),C.Jm (C.m 15 4) 2 [4],C.Jm (C.ho 16 .u64 15) 2 [15],C.E (C.c 17 67 [16]),C.E (C.c 18 124 [14,17]),C.E (C.st 1 3 18)] [1,2,3,0,4,5,6,7,8,9] [10,15,16] [0,1,3,0,15,0,32,127,255,511])) (g:=217) (xf:=Sz.1) (caps:=[.p 1 0]) (fun o=>o=ya (b1 s) []) (by kernel_rfl) rfl rfl (kx rfl) (by
  intro s1 l hlen j9 qA gQ Cm aN;have hlen:rN.length=2:=hlen
  repeat refine I ?_
  refine cG (L:=List UInt8×Nat) (fun(rest,v)=>iX rest∧rest.length<=s.length∧v<10^(s.length-rest.length)∧b1 s=b1 rest+10^rest.length*v) (fun(rest,v)=>⟨ya v rest,2,[(0,.v (.func (.yield l) #[] #[])),(1,.p 1 0)]⟩) (fun l=>l.1.length) [0,1] (s,0) ⟨ez,b5 _,by simp,by simp⟩ (by show List.length s<4611686018427387904;omega) (nG ⟨rfl,rfl,trivial⟩ ⟨_,rfl,rfl⟩ ⟨_,rfl,rfl⟩ (hp:=by show pinned rN.length _ _=_;rw[hlen];rfl)) ?_;rintro⟨rest,v⟩ ⟨aL,aR,a7,cl⟩
  repeat refine I ?_
  refine cP (fun aQ=> ?_) (fun aQ=> ?_)
  ·have aQ:0<rest.length:=by omega
   repeat refine I ?_
   refine oV (L:=List UInt8×List UInt8) (fun(w,dH)=>rest=w++dH∧w.length<=9∧w≠[]) (fun(w,dH)=>⟨ya v dH,2,[(0,.v (.func (.yield l) #[] #[])),(1,.p 1 0),(3,.i .u32 (b1 w:Nat)),(4,.i .u32 ((10^w.length:Nat):Int))]⟩) ?_ ?_
   ·refine cG (L:=List UInt8×List UInt8) (fun(w,dH)=>rest=w++dH∧w.length<=9) (fun(w,dH)=>⟨ya v dH,2,[(0,.v (.func (.yield l) #[] #[])),(1,.p 1 0),(3,.i .u32 (b1 w:Nat)),(4,.i .u32 ((10^w.length:Nat):Int)),(5,.i .i64 (w.length:Nat))]⟩) (fun l=>9-l.1.length) [0,1] ([],rest) ⟨rfl,by decide⟩ (by show 9-0<4611686018427387904;decide) (nG ⟨rfl,rfl,rfl,rfl,rfl,trivial⟩ ⟨_,rfl,rfl⟩ ⟨_,rfl,rfl⟩ (hp:=by show pinned rN.length _ _=_;rw[hlen];rfl)) ?_;rintro⟨w,dH⟩ ⟨bj,bM⟩;have hw:iX w:=fun c hc=>aL c (by rw[bj];exact List.mem_append_left _ hc);have CY:=qW hw
    repeat refine al 11 ?_
    by_cases gD:w.length<9
    ·refine az 11 (.b true) rfl (congrArg af.b (decide_eq_true (by omega))) ?_;cases dH with
     |nil=>
      repeat refine I ?_
      exact bc [0,1] (w,[]) ⟨bj,bM,fun e=>by rw[e]at bj;rw[bj]at aQ;simp at aQ⟩ (nG ⟨rfl,rfl,rfl,rfl,trivial⟩ ⟨_,rfl,rfl⟩ ⟨_,rfl,rfl⟩ (hp:=by show pinned rN.length _ _=_;rw[hlen];rfl))
     |cons c dH=>
      have hc:=aL c (by rw[bj];simp);have w4:10^w.length<=100000000:=Nat.le_trans (Nat.pow_le_pow_right (by decide) (show w.length<=8 by omega)) (by decide);have u1:=NG w c;have ju:10^(w++[c]).length=10*10^w.length:=by rw[List.length_append,List.length_singleton,Nat.pow_succ,Nat.mul_comm]
      repeat refine al 15 ?_
      refine az 15 (.b true) rfl (by simp) ?_
      repeat refine I ?_
      refine nz c (j:=0) rfl ?_;have afz:(c.toNat+(256*48-48))%256=c.toNat-48:=by omega
      have afA:(10*b1 w%4294967296+(c.toNat-48)%4294967296)%4294967296=b1 (w++[c]):=by rw[u1];generalize b1 w=x at *;generalize 10^w.length=P at *;omega
      have BY:10*10^w.length%4294967296=10^(w++[c]).length:=by rw[ju];generalize 10^w.length=P at *;omega
      repeat refine al 22 ?_
      refine az 22 (.i .u8 ((c.toNat-48:Nat):Int)) rfl (congrArg (fun n:Nat=>af.i .u8 (n:Int)) afz) ?_
      repeat refine al 24 ?_
      refine az 24 (.i .u32 (b1 (w++[c]):Nat)) rfl (congrArg (fun n:Nat=>af.i .u32 (n:Int)) afA) ?_
      repeat refine al 26 ?_
      refine az 26 (.i .u32 ((10^(w++[c]).length:Nat):Int)) rfl (congrArg (fun n:Nat=>af.i .u32 (n:Int)) BY) ?_
      repeat refine I ?_
      refine x9 (p:=1) dH ?_ (hp:=by simp) (hq:=by simp)
      repeat refine I ?_
      exact bc [0,1] (w++[c],dH) ⟨by simp;omega,by rw[bj];simp,by simp;omega⟩ (nG ⟨rfl,rfl,rfl,rfl,congrArg (fun n=>some (af.i .i64 n)) (tP (by simp) (by omega) (by omega)),trivial⟩ ⟨_,rfl,rfl⟩ ⟨_,rfl,rfl⟩ (hp:=by show pinned rN.length _ _=_;rw[hlen];rfl))
    ·refine az 11 (.b false) rfl (congrArg af.b (decide_eq_false (by omega))) ?_
     repeat refine I ?_
     exact bc [0,1] (w,dH) ⟨bj,bM,fun e=>by rw[e]at gD;simp at gD⟩ (nG ⟨rfl,rfl,rfl,rfl,trivial⟩ ⟨_,rfl,rfl⟩ ⟨_,rfl,rfl⟩ (hp:=by show pinned rN.length _ _=_;rw[hlen];rfl))
   rintro⟨w,dH⟩ ⟨bj,bM,dK⟩
   repeat refine I ?_
   have hw:iX w:=fun c hc=>aL c (by rw[bj];exact List.mem_append_left _ hc);have CY:=qW hw;have w4:10^w.length<=1000000000:=Nat.le_trans (Nat.pow_le_pow_right (by decide) bM) (by decide);have UW:rest.length=w.length+dH.length:=by rw[bj,List.length_append]
   have qC:b1 rest=b1 dH+10^dH.length*b1 w:=by rw[bj,ND]
   have Gz:v*10^w.length+b1 w<10^(s.length-dH.length):=by
    rw[show s.length-dH.length=(s.length-rest.length)+w.length by omega,Nat.pow_add];refine e4 (Nat.add_lt_add_left CY _) ?_;rw[<-Nat.succ_mul];exact hF _ a7
   have s4:b1 s=b1 dH+10^dH.length*(v*10^w.length+b1 w):=by
    rw[cl,qC,UW,Nat.pow_add,Nat.mul_add];rw[Nat.mul_comm (10^w.length) (10^dH.length),Nat.mul_assoc,Nat.mul_comm (10^w.length) v];omega
   have Me:eC 2100 v:=Dc a7 (by omega);have VX:eC 2100 (10^w.length):=Dc (k:=w.length+1) (Nat.pow_lt_pow_right (by decide) (Nat.lt_succ_self _)) (by omega);have lw:eC 2100 (b1 w):=Dc CY (by omega);have ajW:10^w.length%18446744073709551616=10^w.length:=gW (Nat.lt_of_le_of_lt w4 (by decide));have KW:b1 w%18446744073709551616=b1 w:=gW (e4 CY (Nat.le_trans w4 (by decide)));refine ap1 j9 qA gQ Cm aN (e2:=[(5,.i .u32 ((10^w.length:Nat):Int)),(4,.i .u32 (b1 w:Nat)),(9,.i .u32 ((10^w.length:Nat):Int)),(8,.i .u32 (b1 w:Nat)),(7,.fn (.func 217) [] [.p 1 0]),(6,.s s),(3,.p 0 0),(2,.nl),(0,.s s)]) ?_ ?_
   ·intro abu i5 aqq
    repeat refine I ?_
    exact mi ⟨rfl,rfl⟩
   ·intro abu i5 aqq UN _;have UN:i5.length=2:=UN
    repeat refine al 12 ?_
    refine eh 12 (.i .u64 ((10^w.length:Nat):Int)) rfl rfl (congrArg (fun n:Nat=>af.i .u64 (n:Int)) ajW) ?_;refine ck tp (10^w.length:Nat) (Nat.lt_of_le_of_lt w4 (by decide)) ?_
    repeat refine I ?_
    refine ck z4 (v,10^w.length) ⟨dY Me (by decide),dY VX (by decide)⟩ ?_
    repeat refine al 16 ?_
    refine eh 16 (.i .u64 (b1 w:Nat)) rfl rfl (congrArg (fun n:Nat=>af.i .u64 (n:Int)) KW) ?_;refine ck tp (b1 w) (e4 CY (Nat.le_trans w4 (by decide))) ?_;refine ck OT (v*10^w.length,b1 w) ⟨dY (np Me VX) (by decide),dY lw (by decide)⟩ ?_
    repeat refine I ?_
    refine mi ⟨rfl,ya (v*10^w.length+b1 w) dH,[0,1],rfl,nG trivial ⟨_,rfl,rfl⟩ ⟨_,rfl,rfl⟩,?_⟩
    repeat refine I ?_
    exact bc [0,1] (dH,v*10^w.length+b1 w) ⟨by rw[UW];have:=List.length_pos_iff.2 dK;show dH.length<_;omega,fun c hc=>aL c (by rw[bj];exact List.mem_append_right _ hc),by omega,Gz,s4⟩ (nG ⟨rfl,rfl,trivial⟩ ⟨_,rfl,rfl⟩ ⟨_,rfl,rfl⟩ (hp:=by show pinned rN.length _ _=_;rw[hlen];rfl))
  ·have aQ:rest=[]:=List.length_eq_zero_iff.1 (by omega);subst aQ;have aH:b1 s=v:=by rw[cl];simp[b1,mB,val]
   repeat refine I ?_
   exact mi ⟨.inl rfl,⟨_,rfl⟩,ya (b1 s) [],[0,1],rfl,nG trivial ⟨_,rfl,by rw[aH];rfl⟩ ⟨_,rfl,rfl⟩,rfl⟩)
 subst aoO;obtain⟨b,fQ,mE⟩:=f3.get 3 (.p 0 0) rfl;have alR:pr.tmp 3= .pointer (some ⟨b,0,none⟩):=by
  have e:pr.tmp 3=KP.tmp 3:=by unfold aT.tmp;rw[t4]
  rw[e];exact mE
 obtain⟨⟨ws,aY,v,us,rfl,d5,d6⟩,_⟩:=OJ.own 0 (.c 64 [dw (b1 s)]) b rfl fQ;have d6:us=[]:=d6;subst d6;have zx:b2 (cC aW (c0 aC.ctx tD) (ba+1)) (.lE (.tmp 3)) pr vI= .ok v pr vI:=zU (by show pr.tmp 3=_;exact alR) aY rfl;have a5:=((OF.trans OG).trans OH).trans abo;have rG:st.ai<=gI.ai:=((OF.trans OG).trans OH).ai;have xa:gI.ai∉rN:=fun hm=>by have:=OI.lt _ hm;omega
 refine Jf aA (Jf e2 (Jf (aqx b0 (acD eS)) ?_));refine Jf (eZ:=(pr.put (some 19) v).put (some 2) v) (cm:=vI) ?_ ?_
 ·show iJ (cC aW (c0 aC.ctx tD) (ba+1)) (⟨some 19,.lE (.tmp 3),none⟩::[⟨some 2,.l4 (.tmp 19),none⟩]) pr vI=_;rw[Sym.FB,zx,Sym.MO,Sym.FB];show iJ (cC aW (c0 aC.ctx tD) (ba+1)) [] ((pr.put (some 19) v).put (some 2) ((pr.put (some 19) v).tmp 19)) vI=_;rw[sd,if_pos rfl];rfl
 ·refine⟨.ret,(pr.put (some 19) v).put (some 2) v,vI,rfl,.inr rfl,v,⟨vI.h.set gI.ai (.iI none),vI.ai⟩,?_,abt,?_,?_,?_⟩
  ·have sU:((pr.put (some 19) v).put (some 2) v).c4=[{target:=.collected gI.ai,args:= #[]}]:=by
    rw[(vv _ _ _).1,(vv _ _ _).1,d4,f3.pl.c4]
   have akP:((pr.put (some 19) v).put (some 2) v).cF=false:=by
    rw[(vv _ _ _).2.2.1,(vv _ _ _).2.2.1,tb,f3.pl.cF]
   have:=agn (call:=cC aW (c0 aC.ctx tD) (ba+1)) (t:=2) sU akP cl;rw[sd,if_pos rfl]at this;exact this
  ·exact(OJ.other xG xa yR (.iI none)).less
  ·exact(a5.other rG (.iI none)).less
  ·exact BR _ rfl d5 _
def oc(n:Bool)(P q:List UInt8)(ij:Bool):Prop:=hG P∧¬(n=true∧P=[48])∧(ij=true->hG q∧q≠[48]∧q≠[49])
instance(n:Bool)(P q:List UInt8)(ij:Bool):Decidable (oc n P q ij):=by unfold oc;infer_instance
theorem M9{N:Nat}{s:List UInt8}(ah:s.length<=N):∃P q ij,ow (dQ s).2= .bB [.s P,.s q,.b ij]∧(dQ s).2.length<=N∧P.length<=N∧q.length<=N∧(¬oc (dQ s).1 P q ij->gT s=none)∧
 (oc (dQ s).1 P q ij->ij=false->gT s=some (mkRat (ie (dQ s).1 (b1 P)) 1))∧(oc (dQ s).1 P q ij->ij=true->gT s=if Nat.gcd (b1 P) (b1 q)=1 then some (mkRat (ie (dQ s).1 (b1 P)) (b1 q))else none):=by
 have rK:=Zi s;unfold gT ow;obtain⟨⟨n,t⟩,aO⟩:∃g,g=dQ s:=⟨_,rfl⟩;rw[<-aO]at rK⊢;simp only at rK⊢;have xe:t.length<=N:=by have:=congrArg List.length rK;rw[List.length_append]at this;omega
 obtain⟨dh,dC,jH⟩:=QG t;obtain⟨⟨P,Q⟩,hq⟩:∃g,g=cutAt t:=⟨_,rfl⟩;rw[<-hq]at dh dC jH⊢;simp only at dh dC jH⊢;cases Q with
 |none=>
  have KZ:=jH rfl;subst KZ;refine⟨t,[],false,rfl,xe,xe,by exact Nat.zero_le _,fun h=>if_neg (fun aB=>h ⟨aB.1,aB.2,fun e=>by cases e⟩),fun h _=>if_pos ⟨h.1,h.2.1⟩,fun _ h=>by cases h⟩
 |some q=>
  have aN:=dC q rfl;have L5:P.length+q.length<=N:=by have:=congrArg List.length aN;rw[List.length_append,List.length_cons]at this;omega
  refine⟨P,q,true,rfl,xe,by omega,by omega,fun h=> ?_,(fun _ h=>by cases h),fun h _=> ?_⟩
  ·by_cases h1:hG P∧¬(n=true∧P=[48])
   ·rw[if_pos h1];exact if_neg (fun aB=>h ⟨h1.1,h1.2,fun _=>⟨aB.1,aB.2.1,aB.2.2.1⟩⟩)
   ·rw[if_neg h1]
  ·obtain⟨h1,h2,h3⟩:=h;obtain⟨h3,ay,aY⟩:=h3 rfl;rw[if_pos ⟨h1,h2⟩];by_cases Gd:Nat.gcd (b1 P) (b1 q)=1
   ·rw[if_pos Gd];exact if_pos ⟨h3,ay,aY,Gd⟩
   ·rw[if_neg Gd];exact if_neg (fun aB=>Gd aB.2.2.2)
def lb(s:List UInt8):af:=match gT s with
 |some x=>.bB [dG x,.i .i64 0]
 |none=>.bB [dG 0,.i .i64 6]
def yd:bE where
 L:=List UInt8
 args:=fun s=>[.s s]
 pre:=fun s=>s.length<=2000
 res:=fun s=>lb s
theorem D7:bg aC.ctx 22 yd.spec:=by
 refine bR [(62,Fc.spec),(63,BO.spec),(64,Y2.spec),(66,Y8.spec),(67,Af.spec),(65,Di.spec),(69,KU.spec),(68,LY.spec)] SC.1 ?_;intro(s:List UInt8) (ah:s.length<=2000) H aJ;have hp:∀{r},gT s=r->b3 (match r with|some x=>.bB [dG x,.i .i64 0]|none=>.bB [dG 0,.i .i64 6]) (yd.res s):=fun h=>.of (by subst h;rfl);have fail:gT s=none->b3 (.bB [.agg [.b false,.nl,.nl],.i .i64 6]) (yd.res s):=fun h=>ang.trans (hp h);obtain⟨P,q,ij,hC,aN,iq,hq,zn,hint,zH⟩:=M9 ah;obtain⟨n,hn⟩:∃n,n=(dQ s).1:=⟨_,rfl⟩;rw[<-hn]at zn hint zH
 repeat refine I ?_
 refine aX ac8 s (by show s.length<=_;omega) ?_;refine az 13 (.bB [.s (dQ s).2,.b n]) rfl (by rw[hn];rfl) ?_
 repeat refine I ?_
 refine aX aeS (dQ s).2 (by show(dQ s).2.length<=_;omega) ?_;refine az 18 _ rfl hC ?_
 repeat refine I ?_
 refine iS (L:=Bool) (fun b=>b= !decide (oc n P q ij)) (fun b=>⟨[.c 66 [.b false,.nl,.nl]],1,[(2,.p 0 0),(3,.i .i64 0),(5,.b n),(6,.s P),(7,.s q),(8,.b ij),(22,.b b)]⟩) ?_ ?_
 ·have bad:¬oc n P q ij->true= !decide (oc n P q ij):=fun h=>by rw[decide_eq_false h];rfl
  have cv:oc n P q ij->false= !decide (oc n P q ij):=fun h=>by rw[decide_eq_true h];rfl
  refine aX NI P (by show P.length<=_;omega) ?_
  repeat refine al 26 ?_
  by_cases h1:hG P
  ·refine az 26 (.b false) rfl (by show af.b (!decide _)=_;rw[decide_eq_true h1];rfl) ?_
   repeat refine al 33 ?_
   by_cases h2:n=true∧P=[48]
   ·obtain⟨rfl,rfl⟩:=h2
    repeat refine I ?_
    exact bc [0] true (bad fun h=>h.2.1 ⟨rfl,rfl⟩) dP
   ·cases n with
    |false=>
     cases ij with
     |false=>
      repeat refine I ?_
      exact bc [0] false (cv ⟨h1,h2,fun e=>by cases e⟩) dP
     |true=>
      repeat refine I ?_
      refine aX NI q (by show q.length<=_;omega) ?_
      repeat refine al 39 ?_
      by_cases h3:hG q
      ·refine az 39 (.b false) rfl (by show af.b (!decide _)=_;rw[decide_eq_true h3];rfl) ?_
       repeat refine al 43 ?_
       by_cases ay:q=[48]
       ·refine az 43 (.b true) rfl (by rw[ay];rfl) ?_
        repeat refine I ?_
        exact bc [0] true (bad fun h=>(h.2.2 rfl).2.1 ay) dP
       refine az 43 (.b false) rfl (by rw[beq_eq_false_iff_ne.2 ay]) ?_
       repeat refine al 45 ?_
       by_cases aY:q=[49]
       ·refine az 45 (.b true) rfl (by rw[aY];rfl) ?_
        repeat refine I ?_
        exact bc [0] true (bad fun h=>(h.2.2 rfl).2.2 aY) dP
       refine az 45 (.b false) rfl (by rw[beq_eq_false_iff_ne.2 aY]) ?_
       repeat refine I ?_
       exact bc [0] false (cv ⟨h1,h2,fun _=>⟨h3,ay,aY⟩⟩) dP
      ·refine az 39 (.b true) rfl (by show af.b (!decide _)=_;rw[decide_eq_false h3];rfl) ?_
       repeat refine I ?_
       exact bc [0] true (bad fun h=>h3 (h.2.2 rfl).1) dP
    |true=>
     have rI:P≠[48]:=fun e=>h2 ⟨rfl,e⟩
     repeat refine al 30 ?_
     refine az 30 (.b false) rfl (by rw[beq_eq_false_iff_ne.2 rI]) ?_;cases ij with
     |false=>
      repeat refine I ?_
      exact bc [0] false (cv ⟨h1,h2,fun e=>by cases e⟩) dP
     |true=>
      repeat refine I ?_
      refine aX NI q (by show q.length<=_;omega) ?_
      repeat refine al 39 ?_
      by_cases h3:hG q
      ·refine az 39 (.b false) rfl (by show af.b (!decide _)=_;rw[decide_eq_true h3];rfl) ?_
       repeat refine al 43 ?_
       by_cases ay:q=[48]
       ·refine az 43 (.b true) rfl (by rw[ay];rfl) ?_
        repeat refine I ?_
        exact bc [0] true (bad fun h=>(h.2.2 rfl).2.1 ay) dP
       refine az 43 (.b false) rfl (by rw[beq_eq_false_iff_ne.2 ay]) ?_
       repeat refine al 45 ?_
       by_cases aY:q=[49]
       ·refine az 45 (.b true) rfl (by rw[aY];rfl) ?_
        repeat refine I ?_
        exact bc [0] true (bad fun h=>(h.2.2 rfl).2.2 aY) dP
       refine az 45 (.b false) rfl (by rw[beq_eq_false_iff_ne.2 aY]) ?_
       repeat refine I ?_
       exact bc [0] false (cv ⟨h1,h2,fun _=>⟨h3,ay,aY⟩⟩) dP
      ·refine az 39 (.b true) rfl (by show af.b (!decide _)=_;rw[decide_eq_false h3];rfl) ?_
       repeat refine I ?_
       exact bc [0] true (bad fun h=>h3 (h.2.2 rfl).1) dP
  ·refine az 26 (.b true) rfl (by show af.b (!decide _)=_;rw[decide_eq_false h1];rfl) ?_
   repeat refine I ?_
   exact bc [0] true (bad fun h=>h1 h.1) dP
 intro b aa;by_cases dv:oc n P q ij
 ·have aa:b=false:=by rw[aa,decide_eq_true dv];rfl
  subst aa;obtain⟨aL,aR,a7⟩:=dv;have tY:=Dc (K:=2000) (qW aL.2.1) (by omega)
  repeat refine al 56 ?_
  refine az 56 (.b false) rfl (congrArg af.b (decide_eq_false (by omega))) ?_
  repeat refine I ?_
  cases ij with
  |false=>
   repeat refine I ?_
   refine aX NJ P ⟨aL.2.1,by show P.length<=_;omega⟩ ?_;refine aX tp (1:Nat) (by show 1<_;decide) ?_;refine aX vg (n,b1 P,1) ⟨dY tY (by decide),dY (rR (by decide)) (by decide),by decide⟩ ?_
   repeat refine I ?_
   exact aw rfl (hp (hint ⟨aL,aR,a7⟩ rfl))
  |true=>
   obtain⟨h3,ay,aY⟩:=a7 rfl;have abw:=Dc (K:=2000) (qW h3.2.1) (by omega);have me:b1 q≠0:=fun h=>ay (wg h3 h);have cn:b1 q≠1:=fun h=>aY (P9 h3 h);have aQ:=zH ⟨aL,aR,a7⟩ rfl
   repeat refine I ?_
   refine aX NJ P ⟨aL.2.1,by show P.length<=_;omega⟩ ?_
   repeat refine I ?_
   refine aX NJ q ⟨h3.2.1,by show q.length<=_;omega⟩ ?_
   repeat refine I ?_
   refine aX Ua (b1 P,b1 q) ⟨dY tY (by decide),dY abw (by decide)⟩ ?_;refine aX GK (Nat.gcd (b1 P) (b1 q)) trivial ?_
   repeat refine I ?_
   refine AG (fun aO=> ?_) (fun aO=> ?_)
   ·repeat refine I ?_
    exact aw rfl (fail (by rw[aQ,if_neg aO]))
   ·repeat refine I ?_
    rw[if_pos aO]at aQ;obtain⟨aA,e2⟩:=Mn (ie n (b1 P)) (b1 q) me;rw[tI,aO]at aA e2;have hle:b3 (.agg [.b n,dw (b1 P),dw (b1 q)]) (dG (mkRat (ie n (b1 P)) (b1 q))):=L9 (q:=b1 q) (by rw[aA];exact Int.ediv_one _) (by rw[e2,Nat.div_one]) (fun h=>cn (by rw[h,Nat.gcd_zero_left]at aO;exact aO)) (VP cn me);exact aw rfl ((show b3 (.bB [.agg [.b n,dw (b1 P),dw (b1 q)],.i .i64 0]) (.bB [dG (mkRat (ie n (b1 P)) (b1 q)),.i .i64 0])from .bB ⟨hle,.refl _,trivial⟩).trans (hp aQ))
 ·have aa:b=true:=by rw[aa,decide_eq_false dv];rfl
  subst aa
  repeat refine I ?_
  exact aw rfl (fail (zn dv))
structure db where
 op:Int
 a:Int
 b:Int
 c:Int
 d:Int
 f:Int
 v:List UInt8
structure iH where
 f:Int
 bb:List UInt8
 ae:List UInt8
structure jn where
 i:Int
 n:Int
structure bH where
 fs:List (Int×Int)
 mode:Int
 ins:List iH
 aD:List db
 head:Int
 tail:Int
 ca:List jn
 out:Int
def gf(n:db):List af:=[.i .i64 n.op,.i .i64 n.a,.i .i64 n.b,.i .i64 n.c,.i .i64 n.d,.i .i64 n.f,.s n.v]
def lZ(x:iH):List af:=[.i .i64 x.f,.s x.bb,.s x.ae]
def m6(x:Int×Int):List af:=[.i .i64 x.1,.i .i64 x.2]
def nF(x:jn):List af:=[.i .i64 x.i,.i .i64 x.n]
def eB(p:bH):List af:=[.bS 2 (Int×Int) m6 p.fs,.i .i64 p.mode,.bS 3 iH lZ p.ins,.bS 7 db gf p.aD,.i .i64 p.head,.i .i64 p.tail,.bS 2 jn nF p.ca,.i .i64 p.out]
def ed(p:bH):af:=.agg (eB p)
theorem ct{a b:Bool}(h:a=b):af.b a=af.b b:=by rw[h]
def VB:bE where
 L:=Rat
 args:=fun x=>[dG x]
 pre:=fun _=>True
 res:=fun x=>.b (decide (x.den=1))
theorem amG:bg aC.ctx 107 VB.spec:=by
 refine bR [] Ru.1 ?_;intro(x:Rat) _ H aJ
 repeat refine al 4 ?_
 by_cases av:x.den=1
 ·refine az 4 (.iP 1 Nat fv []) rfl (by show sG x.den=_;rw[av];rfl) ?_
  repeat refine I ?_
  exact aw rfl (.of (ct (decide_eq_true av).symm))
 ·refine az 4 (.iP 1 Nat fv (a1 4294967296 x.den)) rfl (Fo av) ?_;have hne:(a1 4294967296 x.den).isEmpty=false:=List.isEmpty_eq_false_iff.2 (fun e=>x.den_nz ((rq (by decide)).1 e))
  repeat refine I ?_
  exact aw rfl (.of (ct (by rw[decide_eq_false av];show kW false _=false;rw[hne];rfl)))
def qo(s:List UInt8):Int:=if(gT s).isSome then 0 else 6
def QY:bE where
 L:=List UInt8
 args:=fun s=>[.s s]
 pre:=fun s=>s.length<=2000
 res:=fun s=>.i .i64 (qo s)
theorem afF:bg aC.ctx 114 QY.spec:=by
 refine bR [(22,yd.spec)] RB.1 ?_;intro(s:List UInt8) ah H aJ
 repeat refine I ?_
 refine aX D7 s ah ?_;cases h:gT s with
 |some x=>
  refine az 7 (.bB [dG x,.i .i64 0]) rfl (by show lb s=_;unfold lb;rw[h]) ?_
  repeat refine I ?_
  exact aw rfl (.of (by show _=af.i .i64 (qo s);unfold qo;rw[h];rfl))
 |none=>
  refine az 7 (.bB [dG 0,.i .i64 6]) rfl (by show lb s=_;unfold lb;rw[h]) ?_
  repeat refine I ?_
  exact aw rfl (.of (by show _=af.i .i64 (qo s);unfold qo;rw[h];rfl))
def qd:bE where
 L:=Int×Int
 args:=fun(n,m)=>[.i .i64 n,.i .i64 m]
 pre:=fun _=>True
 res:=fun(n,m)=>.b (decide (0<=n∧n<m))
theorem vR:bg aC.ctx 58 qd.spec:=by
 refine bR [] TI.1 ?_;intro⟨n,m⟩ _ H aJ
 repeat refine al 6 ?_
 by_cases h:0<=n
 ·refine dx 6 h ?_
  repeat refine I ?_
  exact aw rfl (.of (ct (decide_eq_decide.2 ⟨fun aB=>⟨h,aB⟩,fun aB=>aB.2⟩)))
 ·refine dL 6 h ?_
  repeat refine I ?_
  exact aw rfl (.of (ct (decide_eq_false (fun aB=>h aB.1)).symm))
def L2:bE where
 L:=Int
 args:=fun n=>[.i .i64 n]
 pre:=fun _=>True
 res:=fun n=>.b (decide (1<=n∧n<=15))
theorem VI:bg aC.ctx 112 L2.spec:=by
 refine bR [] Rz.1 ?_;intro(n:Int) _ H aJ
 repeat refine al 4 ?_
 by_cases h:1<=n
 ·refine dx 4 h ?_
  repeat refine I ?_
  exact aw rfl (.of (ct (decide_eq_decide.2 ⟨fun aB=>⟨h,aB⟩,fun aB=>aB.2⟩)))
 ·refine dL 4 h ?_
  repeat refine I ?_
  exact aw rfl (.of (ct (decide_eq_false (fun aB=>h aB.1)).symm))
def fB(p:bH)(i:Int):Int:=if i<p.head then 0 else if i<p.tail then 1 else 2
def vG:bE where
 L:=bH×Int
 args:=fun(p,i)=>[ed p,.i .i64 i]
 pre:=fun _=>True
 res:=fun(p,i)=>.i .i64 (fB p i)
theorem NP:bg aC.ctx 59 vG.spec:=by
 refine bR [] TJ.1 ?_;intro⟨p,i⟩ _ H aJ;have aA:∀{c:Int},fB p i=c->b3 (.i .i64 c) (vG.res (p,i)):=fun h=>.of (by rw[<-h];rfl)
 repeat refine al 5 ?_
 by_cases h:i<p.head
 ·refine dx 5 h ?_
  repeat refine I ?_
  exact aw rfl (aA (if_pos h))
 refine dL 5 h ?_
 repeat refine al 11 ?_
 by_cases h2:i<p.tail
 ·refine dx 11 h2 ?_
  repeat refine I ?_
  exact aw rfl (aA ((if_neg h).trans (if_pos h2)))
 refine dL 11 h2 ?_
 repeat refine I ?_
 exact aw rfl (aA ((if_neg h).trans (if_neg h2)))
def r9(p:bH)(i k:Int):Bool:=decide (0<=k∧k<i∧(fB p k=0∨fB p k=fB p i))
def vH:bE where
 L:=bH×Int×Int
 args:=fun(p,i,k)=>[ed p,.i .i64 i,.i .i64 k]
 pre:=fun _=>True
 res:=fun(p,i,k)=>.b (r9 p i k)
theorem aqw:bg aC.ctx 116 vH.spec:=by
 refine bR [(59,vG.spec)] RD.1 ?_;intro⟨p,i,k⟩ _ H aJ;have no:¬(0<=k∧k<i∧(fB p k=0∨fB p k=fB p i))->b3 (.b false) (vH.res (p,i,k)):=fun h=>.of (ct (decide_eq_false h).symm);have yes:(0<=k∧k<i∧(fB p k=0∨fB p k=fB p i))->b3 (.b true) (vH.res (p,i,k)):=fun h=>.of (ct (decide_eq_true h).symm)
 repeat refine al 9 ?_
 by_cases h:k<0
 ·refine dx 9 h ?_
  repeat refine I ?_
  exact aw rfl (no (by omega))
 refine dL 9 h ?_
 repeat refine al 13 ?_
 by_cases h2:i<=k
 ·refine dx 13 h2 ?_
  repeat refine I ?_
  exact aw rfl (no (by omega))
 refine dL 13 h2 ?_
 repeat refine I ?_
 refine aX NP (p,k) trivial ?_;refine az 17 (.i .i64 (fB p k)) rfl rfl ?_
 repeat refine al 19 ?_
 by_cases h3:fB p k=0
 ·refine dx 19 h3 ?_
  repeat refine I ?_
  exact aw rfl (yes ⟨by omega,by omega,.inl h3⟩)
 refine dL 19 h3 ?_
 repeat refine I ?_
 refine aX NP (p,i) trivial ?_;refine az 24 (.i .i64 (fB p i)) rfl rfl ?_
 repeat refine al 25 ?_
 by_cases ay:fB p k=fB p i
 ·refine dx 25 ay ?_
  repeat refine I ?_
  exact aw rfl (yes ⟨by omega,by omega,.inr ay⟩)
 refine dL 25 ay ?_
 repeat refine I ?_
 exact aw rfl (no (fun h=>h.2.2.elim h3 ay))
def q0(e p:Int)(x:Rat):Int:=max (jg x.num.natAbs x.den) (1-eV e)-p+1
def kh(e p:Int)(x:Rat):Prop:=fD e p∧(x.num=0∨(dV x (-q0 e p x)).den=1∧¬m9 e p<ih x)
instance(e p:Int)(x:Rat):Decidable (kh e p x):=by unfold kh;infer_instance
def hasB(e p:Int)(x:Rat):Bool:=decide (kh e p x)
theorem arW{e p:Int}{x:Rat}(h:fD e p)(J:fk 250 x): -9000<=q0 e p x∧q0 e p x<=9000:=by
 have cZ:=G2 x.num.natAbs x.den;have dz:=zS J.1;have lP:=zS J.2;obtain⟨h1,h2,h3,ay,aY⟩:=h;have:=o9 h1 h2;unfold q0;omega
def FF:bE where
 L:=Int×Int×Rat
 args:=fun(e,p,x)=>[pq e p,dG x]
 pre:=fun(e,p,x)=>fk 250 x
 res:=fun(e,p,x)=>.b (hasB e p x)
theorem Ra:bg aC.ctx 110 FF.spec:=by
 refine bR [(172,Jh.spec),(23,Ee.spec),(199,Rg.spec),(198,Wq.spec),(197,KQ.spec),(107,VB.spec),(96,OR.spec),(200,Wg.spec),(111,NC.spec)] Rx.1 ?_;intro⟨e,p,x⟩ (J:fk 250 x) H aJ;have no:¬kh e p x->b3 (.b false) (FF.res (e,p,x)):=fun h=>.of (ct (by unfold hasB;exact(decide_eq_false h).symm));have yes:kh e p x->b3 (.b true) (FF.res (e,p,x)):=fun h=>.of (ct (by unfold hasB;exact(decide_eq_true h).symm))
 repeat refine I ?_
 refine aX atG (e,p) trivial ?_;by_cases h:fD e p
 ·refine az 9 (.bB [tg e p 0 (eV e),.i .i64 0]) rfl (if_pos h) ?_
  repeat refine I ?_
  refine aX Ef x trivial ?_
  repeat refine I ?_
  refine cP (fun h0=> ?_) (fun h0=> ?_)
  ·have h0:x.num=0:=Int.sign_eq_zero_iff_zero.1 h0
   repeat refine I ?_
   exact aw rfl (yes ⟨h,.inl h0⟩)
  have h0:x.num≠0:=fun e=>h0 (by rw[e];rfl);have cZ:=G2 x.num.natAbs x.den;have dz:=zS J.1;have lP:=zS J.2;obtain⟨s1,s2⟩:=arW h J
  repeat refine I ?_
  refine ck agw x ⟨rU J (by decide),h0⟩ ?_
  repeat refine I ?_
  refine ck anH (e,p,jg x.num.natAbs x.den) ⟨h,by show _<=jg _ _;omega,by show jg _ _<=_;omega⟩ ?_
  repeat refine al 24 ?_
  refine az 24 (.i .i64 (-q0 e p x)) rfl (by show af.i .i64 (IntKind.i64.wrap (-q0 e p x))=_;exact cO rfl (by omega) (by omega)) ?_
  repeat refine I ?_
  refine ck Ro (x,-q0 e p x) ⟨rU J (by decide),by show _<= -q0 e p x;omega,by show -q0 e p x<=_;omega⟩ ?_
  repeat refine I ?_
  refine ck amG (dV x (-q0 e p x)) trivial ?_;by_cases av:(dV x (-q0 e p x)).den=1
  ·refine dx 26 av ?_
   repeat refine I ?_
   refine ck abI x trivial ?_
   repeat refine I ?_
   refine ck anD (e,p) h ?_
   repeat refine I ?_
   refine ck YR (ih x,m9 e p) ⟨rU (anK J) (by decide),rU (anM h) (by decide)⟩ ?_
   repeat refine al 33 ?_
   by_cases aO:m9 e p<ih x
   ·have hc:=wk.2 aO;refine az 33 (.b false) rfl (ct (decide_eq_false (by show¬jo _ _<=0;omega))) ?_
    repeat refine I ?_
    exact aw rfl (no (fun aB=>aB.2.elim h0 (fun aB=>aB.2 aO)))
   ·have hc:¬0<jo (ih x) (m9 e p):=fun h=>aO (wk.1 h);refine az 33 (.b true) rfl (ct (decide_eq_true (by show jo _ _<=0;omega))) ?_
    repeat refine I ?_
    exact aw rfl (yes ⟨h,.inr ⟨av,aO⟩⟩)
  ·refine dL 26 av ?_
   repeat refine I ?_
   exact aw rfl (no (fun aB=>aB.2.elim h0 (fun aB=>av aB.1)))
 ·refine az 9 (.bB [tg 0 0 0 0,.i .i64 2]) rfl (if_neg h) ?_
  repeat refine I ?_
  exact aw rfl (no (fun aB=>h aB.1))
def pt(p:bH):Int:=
 if(6<(p.fs.length:Int)∨6<(p.ins.length:Int)∨64<(p.aD.length:Int)∨4<(p.ca.length:Int))then 3
 else if((p.fs.length:Int)=0∨(p.aD.length:Int)=0∨p.mode<0∨4<p.mode)then 2
 else if(p.head<0∨p.tail<p.head∨(p.aD.length:Int)<p.tail)then 2
 else if((p.ca.length:Int)=0∧p.head≠(p.aD.length:Int))then 2 else 0
def zj:bE where
 L:=bH
 args:=fun p=>[ed p]
 pre:=fun _=>True
 res:=fun p=>.i .i64 (pt p)
theorem ajq:bg aC.ctx 53 zj.spec:=by
 refine bR [] TD.1 ?_;intro(p:bH) _ H aJ;have aU:∀{c:Int},pt p=c->b3 (.i .i64 c) (zj.res p):=fun h=>.of (by rw[<-h];rfl)
 repeat refine al 13 ?_
 by_cases h1:6<(p.fs.length:Int)
 ·refine dx 13 h1 ?_
  repeat refine I ?_
  exact aw rfl (aU (if_pos (.inl h1)))
 refine dL 13 h1 ?_
 repeat refine al 18 ?_
 by_cases h2:6<(p.ins.length:Int)
 ·refine dx 18 h2 ?_
  repeat refine I ?_
  exact aw rfl (aU (if_pos (.inr (.inl h2))))
 refine dL 18 h2 ?_
 repeat refine al 20 ?_
 by_cases h3:64<(p.aD.length:Int)
 ·refine dx 20 h3 ?_
  repeat refine I ?_
  exact aw rfl (aU (if_pos (.inr (.inr (.inl h3)))))
 refine dL 20 h3 ?_
 repeat refine al 25 ?_
 by_cases ay:4<(p.ca.length:Int)
 ·refine dx 25 ay ?_
  repeat refine I ?_
  exact aw rfl (aU (if_pos (.inr (.inr (.inr ay)))))
 refine dL 25 ay ?_;have nq:¬(6<(p.fs.length:Int)∨6<(p.ins.length:Int)∨64<(p.aD.length:Int)∨4<(p.ca.length:Int)):=fun h=>h.elim h1 fun h=>h.elim h2 fun h=>h.elim h3 ay;have aA:=fun{c} h=> @aU c ((if_neg nq).trans h)
 repeat refine al 31 ?_
 by_cases aL:(p.fs.length:Int)=0
 ·refine az 31 (.b true) rfl (ct (decide_eq_true aL)) ?_
  repeat refine I ?_
  exact aw rfl (aA (if_pos (.inl aL)))
 refine az 31 (.b false) rfl (ct (decide_eq_false aL)) ?_
 repeat refine al 33 ?_
 by_cases aR:(p.aD.length:Int)=0
 ·refine az 33 (.b true) rfl (ct (decide_eq_true aR)) ?_
  repeat refine I ?_
  exact aw rfl (aA (if_pos (.inr (.inl aR))))
 refine az 33 (.b false) rfl (ct (decide_eq_false aR)) ?_
 repeat refine al 37 ?_
 by_cases a7:p.mode<0
 ·refine az 37 (.b true) rfl (ct (decide_eq_true a7)) ?_
  repeat refine I ?_
  exact aw rfl (aA (if_pos (.inr (.inr (.inl a7)))))
 refine az 37 (.b false) rfl (ct (decide_eq_false a7)) ?_
 repeat refine al 41 ?_
 by_cases cl:4<p.mode
 ·refine az 41 (.b true) rfl (ct (decide_eq_true cl)) ?_
  repeat refine I ?_
  exact aw rfl (aA (if_pos (.inr (.inr (.inr cl)))))
 refine az 41 (.b false) rfl (ct (decide_eq_false cl)) ?_;have fb:¬((p.fs.length:Int)=0∨(p.aD.length:Int)=0∨p.mode<0∨4<p.mode):=fun h=>h.elim aL fun h=>h.elim aR fun h=>h.elim a7 cl;have e2:=fun{c} h=> @aA c ((if_neg fb).trans h)
 repeat refine al 46 ?_
 by_cases bj:p.head<0
 ·refine az 46 (.b true) rfl (ct (decide_eq_true bj)) ?_
  repeat refine I ?_
  exact aw rfl (e2 (if_pos (.inl bj)))
 refine az 46 (.b false) rfl (ct (decide_eq_false bj)) ?_
 repeat refine al 53 ?_
 by_cases bM:p.tail<p.head
 ·refine az 53 (.b true) rfl (ct (decide_eq_true bM)) ?_
  repeat refine I ?_
  exact aw rfl (e2 (if_pos (.inr (.inl bM))))
 refine az 53 (.b false) rfl (ct (decide_eq_false bM)) ?_
 repeat refine al 58 ?_
 by_cases dK:(p.aD.length:Int)<p.tail
 ·refine az 58 (.b true) rfl (ct (decide_eq_true dK)) ?_
  repeat refine I ?_
  exact aw rfl (e2 (if_pos (.inr (.inr dK))))
 refine az 58 (.b false) rfl (ct (decide_eq_false dK)) ?_;have xF:¬(p.head<0∨p.tail<p.head∨(p.aD.length:Int)<p.tail):=fun h=>h.elim bj fun h=>h.elim bM dK;have b0:=fun{c} h=> @e2 c ((if_neg xF).trans h)
 repeat refine al 64 ?_
 by_cases fK:(p.ca.length:Int)=0
 ·refine az 64 (.b true) rfl (ct (decide_eq_true fK)) ?_
  repeat refine al 70 ?_
  by_cases iQ:p.head≠(p.aD.length:Int)
  ·refine az 70 (.b true) rfl (ct (decide_eq_true iQ)) ?_
   repeat refine I ?_
   exact aw rfl (b0 (if_pos ⟨fK,iQ⟩))
  ·refine az 70 (.b false) rfl (ct (decide_eq_false iQ)) ?_
   repeat refine I ?_
   exact aw rfl (b0 (if_neg (fun h=>iQ h.2)))
 ·refine az 64 (.b false) rfl (ct (decide_eq_false fK)) ?_
  repeat refine I ?_
  exact aw rfl (b0 (if_neg (fun h=>fK h.1)))
def Rk:bE where
 L:=bH×Nat×Int×Int
 args:=fun(p,j,e,q)=>[ed p,.i .i64 (j:Int)]
 pre:=fun(p,j,e,q)=>p.fs[j]? =some (e,q)
 res:=fun(p,j,e,q)=>.i .i64 (if fD e q then 0 else 2)
theorem agA:bg aC.ctx 54 Rk.spec:=by
 refine bR [(109,FE.spec)] TE.1 ?_;intro⟨p,j,e,q⟩ hj H aJ
 repeat refine I ?_
 refine cV (e,q) hj ?_
 repeat refine I ?_
 refine aX Q9 (e,q) trivial ?_
 repeat refine I ?_
 exact aw rfl (.refl _)
def IQ:List (Nat×Nat):=[(0,0),(0,1),(0,1),(0,0),(1,1),(1,1),(1,1),(1,1),(2,2),(2,2),(2,2),(2,2),(2,2),(2,2),(3,3),(4,4)]
def Ed:List af:=IQ.flatMap fun p=>[.i .i64 (p.1:Int),.i .i64 (p.2:Int)]
def nn(o:Nat):Nat:=(IQ.getD o (0,0)).1
def tM(o:Nat):Nat:=(IQ.getD o (0,0)).2
theorem Zk:∀o,o<16->Ed.drop (o*2)= .i .i64 (nn o:Int):: .i .i64 (tM o:Int)::Ed.drop (o*2+2):=by
 intro o h;rcases(show o=0∨o=1∨o=2∨o=3∨o=4∨o=5∨o=6∨o=7∨o=8∨o=9∨o=10∨o=11∨o=12∨o=13∨o=14∨o=15 by omega)with h|h|h|h|h|h|h|h|h|h|h|h|h|h|h|h<;>subst h<;>rfl
theorem IS:∀o,o<16->nn o<=4∧tM o<=4:=by decide +kernel
def gX(H:bF):Prop:=∃vs el bn a8,H 0=some (.cells vs el bn a8)∧∀bs,di bs Ed [] vs
theorem gX.up{H bs:bF}(h:dt H bs):gX H->gX bs:=fun⟨vs,el,bn,a8,h1,h2⟩=>⟨vs,el,bn,a8,h _ _ h1,h2⟩
def cw(n:Int):List af:=[.i .i64 n]
def eW(n:db):List Int:=[n.a,n.b,n.c,n.d]
def qG(n:db):Bool:=((eW n).drop (tM n.op.toNat)).all (fun x=>x==0)&&(n.v.isEmpty||decide (n.op=3))
def Vl:bE where
 L:=db
 args:=fun n=>[.agg (gf n)]
 pre:=fun n=>1<=n.op∧n.op<=15
 res:=fun n=>.b (qG n)
 hp:=gX
 hm:=gX.up
theorem Vm{l:List Int}{k:Nat}(U:k<l.length)(h:(l.take k).all (fun x=>x==0)=true)(h2:l[k]=0):(l.take (k+1)).all (fun x=>x==0)=true:=by
 rw[List.take_succ_eq_append_getElem U,List.all_append,h,h2];rfl
theorem ami:bg aC.ctx 113 Vl.spec:=by
 refine ou [] RA.1 ?_;intro(n:db) ⟨(h1:1<=n.op),(h2:n.op<=15)⟩ H aJ ⟨vs,el,bn,a8,aO,av⟩;obtain⟨o,ak⟩:∃o:Nat,n.op=(o:Int):=⟨n.op.toNat,by omega⟩;have k4:n.op.toNat=o:=by omega
 have aP:o<16:=by omega
 obtain⟨_,hu⟩:=IS o aP;have aN:=Zk o aP;have a5:qG n=(((eW n).drop (tM o)).all (fun x=>x==0)&&(n.v.isEmpty||decide (n.op=3))):=by unfold qG;rw[k4]
 generalize tM o=u at *
 repeat refine al 16 ?_
 refine az 16 (.i .i64 (o:Int)) rfl (by rw[<-ak]) ?_;refine YM aO av (j:=o) ?_;refine az 17 (.ip (.i .i64 (nn o:Int):: .i .i64 (u:Int)::Ed.drop (o*2+2))) rfl (by rw[aN]) ?_
 repeat refine al 19 ?_
 refine mh 1 cw (eW n) ?_;refine g2 (arN (p:=u) (q:=4) rfl rfl ⟨_,rfl⟩ rfl (by omega) (by decide)) ?_;obtain⟨bd,iv⟩:∃bd,bd=if 4=u then 0 else u:=⟨_,rfl⟩;rw[<-iv]
 repeat refine I ?_
 refine cG (L:=Nat) (fun k=>k<=4-u∧(((eW n).drop u).take k).all (fun x=>x==0)=true) (fun(k:Nat)=>⟨[.c 87 (gf n),.a 303 false 1 Int cw (eW n)],2,[(1,.p 0 0),(2,.b false),(20,.a6 1 1 bd (4-u) (4-u)),(21,.i .i64 ((4-u:Nat):Int)),(22,.i .i64 (k:Int))]⟩) (fun k=>4-u-k) [0,1] 0 ⟨Nat.zero_le _,rfl⟩ (by show 4-u-0<ba+1;unfold ba;omega) ej ?_;rintro(k:Nat) ⟨U,ax⟩;have hlen:((eW n).drop u).length=4-u:=by rw[List.length_drop];rfl
 repeat refine al 23 ?_
 by_cases hl:k<4-u
 ·refine az 23 (.b true) rfl (ct (decide_eq_true (by omega))) ?_
  repeat refine I ?_
  refine tC ?_;rw[if_neg (by omega)]at iv;have iv:=iv.symm;subst iv;have j9:(eW n)[u+k]? =some ((eW n).drop u)[k]:=by rw[<-List.getElem?_drop,List.getElem?_eq_getElem (by omega)]
  refine p4 ((eW n).drop u)[k] j9 ?_
  repeat refine al 27 ?_
  by_cases J:((eW n).drop u)[k]=0
  ·refine az 27 (.b false) rfl (ct (decide_eq_false (by rw[J];decide))) ?_
   repeat refine al 28 ?_
   refine az 28 (.i .i64 ((k+1:Nat):Int)) rfl cO ?_
   repeat refine I ?_
   exact bc [0,1] (k+1) ⟨by omega,by omega,Vm (by omega) ax J⟩ ej
  ·refine dx 27 J ?_
   repeat refine I ?_
   refine aw rfl (.of (ct ?_));rw[a5];have:((eW n).drop u).all (fun x=>x==0)=false:=by
    rw[List.all_eq_false];exact⟨((eW n).drop u)[k],List.getElem_mem (by rw[hlen];exact hl),by simpa using J⟩
   rw[this];rfl
 ·refine az 23 (.b false) rfl (ct (decide_eq_false (by omega))) ?_;have oK:((eW n).drop u).all (fun x=>x==0)=true:=by
   rw[List.take_of_length_le (by omega)]at ax;exact ax
  rw[oK,Bool.true_and]at a5
  repeat refine al 31 ?_
  by_cases aH:n.v=[]
  ·refine az 31 (.b true) rfl (by rw[aH];rfl) ?_
   repeat refine I ?_
   exact aw rfl (.of (ct (by rw[a5,aH];rfl)))
  ·refine az 31 (.b false) rfl (ct (by simpa using aH)) ?_
   repeat refine I ?_
   exact aw rfl (.of (ct (by rw[a5];cases hq:n.v with|nil=>exact absurd hq aH|cons a l=>rfl)))
def Qp:bE where
 L:=List Int
 args:=fun l=>[.bS 1 Int cw l]
 pre:=fun l=>l.length<=1000000
 res:=fun l=>.bS 1 Int cw l
theorem ac1:bg aC.ctx 201 Qp.spec:=by
 refine bR [] Sm.1 ?_;intro(l:List Int) (hl:l.length<=1000000) H aJ
 repeat refine I ?_
 refine D3 ?_ (fun h=> ?_)
 ·repeat refine I ?_
  refine mh 0 cw ([]:List Int) ?_;by_cases hne:l=[]
  ·subst hne;refine AF (R:=cw) (lL rfl (fun _=>rfl) (fun _=>rfl)) ?_;refine hD 7 ?_
   repeat refine I ?_
   exact aw rfl (.refl _)
  ·have zw:=List.length_pos_iff.2 hne;refine x7 (R:=cw) l (lL rfl (fun _=>rfl) (fun _=>rfl)) l ?_ (h0:=hne);refine hD 7 ?_
   repeat refine I ?_
   exact aw rfl (.refl _)
 ·repeat refine I ?_
  subst h;exact aw rfl .nl
def cD(n:db):List Int:=if 1<=n.op∧n.op<=15 then(eW n).take (nn n.op.toNat)else[]
def GP:bE where
 L:=db
 args:=fun n=>[.agg (gf n)]
 pre:=fun n=>True
 res:=fun n=>.bS 1 Int cw (cD n)
 hp:=gX
 hm:=gX.up
theorem VF:bg aC.ctx 115 GP.spec:=by
 refine ou [(112,L2.spec),(201,Qp.spec)] RC.1 ?_;intro(n:db) _ H aJ ⟨vs,el,bn,a8,aO,av⟩;have aA:∀{l},cD n=l->b3 (.bS 1 Int cw l) (GP.res n):=fun h=>.of (by rw[<-h];rfl)
 repeat refine I ?_
 refine aX VI n.op trivial ?_;by_cases h:1<=n.op∧n.op<=15
 ·refine dx 6 h ?_;obtain⟨h1,h2⟩:=h;obtain⟨o,ak⟩:∃o:Nat,n.op=(o:Int):=⟨n.op.toNat,by omega⟩;have k4:n.op.toNat=o:=by omega
  have aP:o<16:=by omega
  obtain⟨hu,_⟩:=IS o aP;have aN:=Zk o aP;have a5:cD n=(eW n).take (nn o):=by unfold cD;rw[k4];exact if_pos ⟨h1,h2⟩
  generalize nn o=u at *
  repeat refine al 18 ?_
  refine az 18 (.i .i64 (o:Int)) rfl (by rw[<-ak]) ?_;refine YM aO av (j:=o) ?_;refine az 19 (.ip (.i .i64 (u:Int):: .i .i64 (tM o:Int)::Ed.drop (o*2+2))) rfl (by rw[aN]) ?_
  repeat refine al 21 ?_
  refine mh 1 cw (eW n) ?_;refine g2 (arM (p:=0) (q:=u) rfl rfl rfl ⟨_,rfl⟩ (Nat.zero_le _) (by omega) (.inr rfl)) ?_;refine ID 22 ((eW n).take u) ?_ (hn:=by rw[List.length_take];show min u 4=u-0;omega);refine aX ac1 ((eW n).take u) (by show(List.take _ _).length<=_;rw[List.length_take];omega) ?_
  repeat refine I ?_
  exact aw rfl (aA a5)
 ·refine dL 6 h ?_
  repeat refine I ?_
  exact aw rfl (b3.trans .nl (aA (if_neg h)))
def eb(n:Int)(m:Nat):Prop:=0<=n∧n<(m:Int)
instance(n:Int)(m:Nat):Decidable (eb n m):=by unfold eb;infer_instance
def lI(p:bH)(i:Nat)(n:db):Int:=
 if¬(1<=n.op∧n.op<=15)∨qG n=false then 2
 else if¬eb n.f p.fs.length then 7
 else if n.op=1∧¬eb n.a p.ins.length then 7
 else if n.op=1∧(p.ins[n.a.toNat]?).map iH.f≠some n.f then 143
 else if n.op=2∧((i:Int)<p.head∨¬eb n.a p.ca.length)then 7
 else if n.op=3 then qo n.v
 else if(cD n).all (fun k=>r9 p i k)then 0 else 7
def Mu:bE where
 L:=bH×Nat×db
 args:=fun(p,i,n)=>[ed p,.i .i64 (i:Int)]
 pre:=fun(p,i,n)=>p.aD[i]? =some n∧n.v.length<=2000
 res:=fun(p,i,n)=>.i .i64 (lI p i n)
 hp:=gX
 hm:=gX.up
theorem GO(n:db):(cD n).length<=4:=by
 unfold cD;split
 ·rw[List.length_take];exact Nat.min_le_right _ 4
 ·exact Nat.zero_le _
theorem an6:bg aC.ctx 56 Mu.spec:=by
 refine ou [(112,L2.spec),(113,Vl.spec),(58,qd.spec),(114,QY.spec),(115,GP.spec),(116,vH.spec)] TG.1 ?_;intro⟨p,i,n⟩ ⟨hj,aH⟩ H aJ dX;have aU:∀{c:Int},lI p i n=c->b3 (.i .i64 c) (Mu.res (p,i,n)):=fun h=>.of (by rw[<-h];rfl)
 repeat refine I ?_
 refine cV n hj ?_
 iterate 7 refine I ?_
 refine oV (L:=Unit) (fun _=>lI p i n=if(cD n).all (fun k=>r9 p i k)then 0 else 7) (fun _=>⟨[.c 120 (eB p),.c 87 (gf n)],2,[(1,.i .i64 (i:Int)),(2,.p 0 0),(4,.i .i64 0),(5,.p 1 0)]⟩) ?_ ?_
 ·repeat refine I ?_
  refine aX VI n.op trivial ?_;by_cases h1:1<=n.op∧n.op<=15
  case neg=>
   refine dL 17 h1 ?_
   repeat refine I ?_
   exact aw rfl (aU (if_pos (.inl h1)))
  refine dx 17 h1 ?_
  repeat refine I ?_
  refine aX ami n h1 ?_ (hh:=dX);cases h2:qG n with
  |false=>
   refine az 21 (.b false) rfl (ct h2) ?_
   repeat refine I ?_
   exact aw rfl (aU (if_pos (.inr h2)))
  |true=>
  refine az 21 (.b true) rfl (ct h2) ?_;have aL:¬(¬(1<=n.op∧n.op<=15)∨qG n=false):=fun h=>h.elim (fun h=>h h1) (fun h=>Bool.noConfusion (h2.symm.trans h))
  repeat refine I ?_
  refine aX vR (n.f,(p.fs.length:Int)) trivial ?_;by_cases h3:eb n.f p.fs.length
  case neg=>
   refine dL 31 h3 ?_
   repeat refine I ?_
   exact aw rfl (aU ((if_neg aL).trans (if_pos h3)))
  refine dx 31 h3 ?_;have aR:¬¬eb n.f p.fs.length:=fun h=>h h3;have e2:=fun{c} h=> @aU c ((if_neg aL).trans ((if_neg aR).trans h));have f2:=fun{c} h=>((if_neg aL).trans ((if_neg aR).trans h):lI p i n=c);clear aU
  repeat refine al 36 ?_
  by_cases ae:n.op=1
  ·refine dx 36 ae ?_
   repeat refine I ?_
   refine aX vR (n.a,(p.ins.length:Int)) trivial ?_;by_cases ay:eb n.a p.ins.length
   case neg=>
    refine dL 44 ay ?_
    repeat refine I ?_
    exact aw rfl (e2 (if_pos ⟨ae,ay⟩))
   refine dx 44 ay ?_;have a7:¬(n.op=1∧¬eb n.a p.ins.length):=fun h=>h.2 ay
   repeat refine al 50 ?_
   refine eh 50 (.b true) rfl rfl (ct (decide_eq_true ae)) ?_;obtain⟨a,ha⟩:∃a:Nat,n.a=(a:Int):=⟨n.a.toNat,by have:=ay.1;omega⟩;have py:n.a.toNat=a:=by omega
   have jc:a<p.ins.length:=by have:=ay.2;omega
   repeat refine al 56 ?_
   refine eh 56 (.i .i64 (a:Int)) rfl rfl (by rw[ha]) ?_
   repeat refine I ?_
   refine gm p.ins[a] (a9 jc) ?_
   repeat refine al 62 ?_
   by_cases aY:(p.ins[a]).f=n.f
   case neg=>
    refine eh 62 (.b true) rfl rfl (ct (decide_eq_true aY)) ?_
    repeat refine I ?_
    exact aw rfl (e2 ((if_neg a7).trans (if_pos ⟨ae,by rw[py,a9 jc];simpa using aY⟩)))
   refine eh 62 (.b false) rfl rfl (ct (decide_eq_false (fun h=>h aY))) ?_
   repeat refine al 67 ?_
   refine az 67 (.b false) rfl (ct (decide_eq_false (by omega))) ?_
   repeat refine al 88 ?_
   refine az 88 (.b false) rfl (ct (decide_eq_false (by omega))) ?_
   repeat refine I ?_
   refine bc [0,1] () (f2 ((if_neg a7).trans ((if_neg ?_).trans ((if_neg (by omega)).trans (if_neg (by omega)))))) ej;rintro⟨_,h⟩;exact h (by rw[py,a9 jc];simp[aY])
  ·refine dL 36 ae ?_;have f3:=fun{c} h=> @f2 c ((if_neg (fun h=>ae h.1)).trans ((if_neg (fun h=>ae h.1)).trans h));have b0:=fun{c} h=> @e2 c ((if_neg (fun h=>ae h.1)).trans ((if_neg (fun h=>ae h.1)).trans h))
   repeat refine al 50 ?_
   refine eh 50 (.b false) rfl rfl (ct (decide_eq_false ae)) ?_
   repeat refine al 67 ?_
   by_cases ah:n.op=2
   ·refine dx 67 ah ?_
    repeat refine al 73 ?_
    by_cases ay:(i:Int)<p.head
    ·refine dx 73 ay ?_
     repeat refine I ?_
     exact aw rfl (b0 (if_pos ⟨ah,.inl ay⟩))
    refine dL 73 ay ?_
    repeat refine I ?_
    refine aX vR (n.a,(p.ca.length:Int)) trivial ?_;by_cases aY:eb n.a p.ca.length
    case neg=>
     refine dL 81 aY ?_
     repeat refine I ?_
     exact aw rfl (b0 (if_pos ⟨ah,.inr aY⟩))
    refine dx 81 aY ?_
    repeat refine al 88 ?_
    refine az 88 (.b false) rfl (ct (decide_eq_false (by omega))) ?_
    repeat refine I ?_
    exact bc [0,1] () (f3 ((if_neg (fun h=>h.2.elim ay (fun h=>h aY))).trans (if_neg (by omega)))) ej
   ·refine dL 67 ah ?_;have f4:=fun{c} h=> @f3 c ((if_neg (fun h=>ah h.1)).trans h);have eS:=fun{c} h=> @b0 c ((if_neg (fun h=>ah h.1)).trans h)
    repeat refine al 88 ?_
    by_cases hc:n.op=3
    ·refine dx 88 hc ?_
     repeat refine I ?_
     refine aX afF n.v aH ?_
     repeat refine I ?_
     exact aw rfl (eS (if_pos hc))
    ·refine dL 88 hc ?_
     repeat refine I ?_
     exact bc [0,1] () (f4 (if_neg hc)) ej
 intro _ hS;have U:=GO n
 repeat refine I ?_
 refine aX VF n trivial ?_ (hh:=dX)
 repeat refine I ?_
 refine cG (L:=Nat) (fun k=>k<=(cD n).length∧((cD n).take k).all (fun k=>r9 p i k)=true) (fun(k:Nat)=>⟨[.c 120 (eB p),.c 87 (gf n)],2,[(1,.i .i64 (i:Int)),(2,.p 0 0),(4,.i .i64 0),(93,.bS 1 Int cw (cD n)),(94,.i .i64 ((cD n).length:Int)),(95,.i .i64 (k:Int))]⟩) (fun k=>(cD n).length-k) [0,1] 0 ⟨Nat.zero_le _,rfl⟩ (by show _-0<ba+1;unfold ba;omega) ej ?_;rintro(k:Nat) ⟨js,ax⟩
 repeat refine al 96 ?_
 by_cases hl:k<(cD n).length
 ·refine az 96 (.b true) rfl (ct (decide_eq_true (by omega))) ?_
  repeat refine I ?_
  refine cV (cD n)[k] (a9 hl) ?_
  repeat refine I ?_
  refine aX aqw (p,(i:Int),(cD n)[k]) trivial ?_;cases ah:r9 p i (cD n)[k]with
  |false=>
   refine az 102 (.b false) rfl (ct ah) ?_
   repeat refine I ?_
   refine aw rfl (aU (hS.trans (if_neg ?_)));intro h;rw[List.all_eq_true]at h;have:=h _ (dr hl);rw[ah]at this;cases this
  |true=>
   refine az 102 (.b true) rfl (ct ah) ?_
   repeat refine al 104 ?_
   refine az 104 (.i .i64 ((k+1:Nat):Int)) rfl cO ?_
   repeat refine I ?_
   exact bc [0,1] (k+1) ⟨by omega,hl,by rw[List.take_succ_eq_append_getElem hl,List.all_append,ax];simp[ah]⟩ ej
 ·refine az 96 (.b false) rfl (ct (decide_eq_false (by omega))) ?_
  repeat refine I ?_
  exact aw rfl (aU (hS.trans (if_pos (by rw[List.take_of_length_le (by omega)]at ax;exact ax))))
def qI(e q:Int)(x:iH):Int:=
 match gT x.bb,gT x.ae with
 |some a,some b=>if kh e q a∧kh e q b∧¬b<a then 0 else 7
 |_,_=>6
def xp(p:bH)(x:iH):Int:=
 if eb x.f p.fs.length then(match p.fs[x.f.toNat]? with|some f=>qI f.1 f.2 x|none=>7)else 7
theorem VN{v k:Nat}(h:v<10^k)(U:k<=2000):eC 250 v:=zT (e4 h (Nat.le_trans (Nat.pow_le_pow_right (by decide) U) (by decide +kernel)))
theorem XK{s:List UInt8}(ah:s.length<=2000){x:Rat}(h:gT s=some x):fk 250 x:=by
 obtain⟨P,q,ij,_,_,iq,hq,zn,hint,zH⟩:=M9 ah;by_cases dv:oc (dQ s).1 P q ij
 ·obtain⟨aL,aR,a7⟩:=dv;have tY:=VN (qW aL.2.1) (by omega);cases ij with
  |false=>
   have e:=hint ⟨aL,aR,a7⟩ rfl;rw[h]at e;cases e;exact z6 (by rw[tI];exact tY) (dY (rR (by decide)) (by decide)) (by decide)
  |true=>
   obtain⟨h3,ay,aY⟩:=a7 rfl;have me:b1 q≠0:=fun h=>ay (wg h3 h);have e:=zH ⟨aL,aR,a7⟩ rfl;rw[h]at e;split at e
   ·cases e;exact z6 (by rw[tI];exact tY) (VN (qW h3.2.1) (by omega)) me
   ·cases e
 ·rw[zn dv]at h;cases h
def hQ(s:List UInt8):Rat:=(gT s).getD 0
def afO(x:iH):Nat->List af
 |0=>[.b false,.nl,.nl,.b false,.nl,.nl]
 |1=>A9 (hQ x.bb)++[.b false,.nl,.nl]
 |_=>A9 (hQ x.bb)++A9 (hQ x.ae)
theorem au1{own:List a3}{n p:Nat}{e cK:bT}{o q r t:a3}(h:lk [0,1,2,3] cK e)(ak:∃bd,own[0]? =some bd∧ft [0,1,2,3] o bd)(hq:∃bd,own[1]? =some bd∧ft [0,1,2,3] q bd)(aQ:∃bd,own[2]? =some bd∧ft [0,1,2,3] r bd)(aN:∃bd,own[3]? =some bd∧ft [0,1,2,3] t bd)(hp:pinned p [0,1,2,3] 0=true:=by rfl):Sub p [0,1,2,3] ⟨own,n,e⟩ ⟨[o,q,r,t],4,cK⟩:=⟨by simp,rfl,⟨ak,hq,aQ,aN,trivial⟩,h,hp⟩
def C9:bE where
 L:=bH×Nat×iH
 args:=fun(p,i,x)=>[ed p,.i .i64 (i:Int)]
 pre:=fun(p,i,x)=>p.ins[i]? =some x∧x.bb.length<=2000∧x.ae.length<=2000
 res:=fun(p,i,x)=>.i .i64 (xp p x)
theorem amr:bg aC.ctx 55 C9.spec:=by
 refine bR [(58,qd.spec),(22,yd.spec),(110,FF.spec),(111,NC.spec)] TF.1 ?_;intro⟨p,i,x⟩ ⟨hj,gr,gP⟩ H aJ;have aU:∀{c:Int},xp p x=c->b3 (.i .i64 c) (C9.res (p,i,x)):=fun h=>.of (by rw[<-h];rfl)
 repeat refine I ?_
 refine cV x hj ?_
 repeat refine I ?_
 refine aX vR (x.f,(p.fs.length:Int)) trivial ?_;by_cases h3:eb x.f p.fs.length
 case neg=>
  refine dL 24 h3 ?_
  repeat refine I ?_
  exact aw rfl (aU (if_neg h3))
 refine dx 24 h3 ?_;obtain⟨f,ab⟩:∃f:Nat,x.f=(f:Int):=⟨x.f.toNat,by have:=h3.1;omega⟩;have sT:x.f.toNat=f:=by omega
 have wS:f<p.fs.length:=by have:=h3.2;omega
 obtain⟨⟨jJ,jK⟩,hq⟩:∃w,p.fs[f]? =some w:=⟨_,a9 wS⟩;have aA:∀{c:Int},qI jJ jK x=c->b3 (.i .i64 c) (C9.res (p,i,x)):=fun h=>aU (by unfold xp;rw[if_pos h3,sT,hq];exact h)
 repeat refine I ?_
 refine cG (L:=Nat) (fun k=>k<=2∧(1<=k->gT x.bb=some (hQ x.bb))∧(2<=k->gT x.ae=some (hQ x.ae))) (fun(k:Nat)=>⟨[.c 120 (eB p),.c 95 (lZ x),.c 210 (afO x k),.c 29 [.s x.bb,.s x.ae]],4,[(2,.p 0 0),(4,.i .i64 0),(5,.p 1 0),(6,.p 2 0),(30,.a6 3 1 0 2 2),(31,.i .i64 2),(32,.i .i64 (k:Int))]⟩) (fun k=>2-k) [0,1,2,3] 0 ⟨by omega,fun h=>absurd h (by decide),fun h=>absurd h (by decide)⟩ (by show 2-0<ba+1;unfold ba;omega) nC ?_;rintro(k:Nat) ⟨U,Uq,aka⟩;rcases(show k=0∨k=1∨k=2 by omega)with rfl|rfl|rfl
 ·repeat refine I ?_
  refine hE (j:=0) ?_
  repeat refine I ?_
  refine aX D7 x.bb gr ?_;cases h:gT x.bb with
  |none=>
   refine az 39 (.bB [dG 0,.i .i64 6]) rfl (by show lb x.bb=_;unfold lb;rw[h]) ?_
   repeat refine I ?_
   exact aw rfl (aA (by unfold qI;rw[h]))
  |some X=>
  have aB:gT x.bb=some (hQ x.bb):=by unfold hQ;rw[h];rfl
  refine az 39 (.bB [dG (hQ x.bb),.i .i64 0]) rfl (by show lb x.bb=_;unfold lb;rw[aB]) ?_
  repeat refine I ?_
  refine g2 (xn (j:=0) rfl rfl (by decide)) ?_
  repeat refine I ?_
  exact bc [0,1,2,3] 1 ⟨by decide,by decide,fun _=>h.symm.trans aB,fun h=>absurd h (by decide)⟩ nC
 ·have eF:=Uq (by decide)
  repeat refine I ?_
  refine hE (j:=1) ?_
  repeat refine I ?_
  refine aX D7 x.ae gP ?_;cases h:gT x.ae with
  |none=>
   refine az 39 (.bB [dG 0,.i .i64 6]) rfl (by show lb x.ae=_;unfold lb;rw[h]) ?_
   repeat refine I ?_
   exact aw rfl (aA (by unfold qI;rw[h,eF]))
  |some X=>
  have aB:gT x.ae=some (hQ x.ae):=by unfold hQ;rw[h];rfl
  refine az 39 (.bB [dG (hQ x.ae),.i .i64 0]) rfl (by show lb x.ae=_;unfold lb;rw[aB]) ?_
  repeat refine I ?_
  refine g2 (xn (j:=1) rfl rfl (by decide)) ?_
  repeat refine I ?_
  exact bc [0,1,2,3] 2 ⟨by decide,by decide,fun _=>eF,fun _=>h.symm.trans aB⟩ nC
 ·have eF:=Uq (by decide);have a5:=aka (by decide);have gN:qI jJ jK x=if kh jJ jK (hQ x.bb)∧kh jJ jK (hQ x.ae)∧¬hQ x.ae<hQ x.bb then 0 else 7:=by unfold qI;rw[eF,a5]
  repeat refine al 53 ?_
  refine az 53 (.i .i64 (f:Int)) rfl (by rw[ab]) ?_
  repeat refine I ?_
  refine cV (jJ,jK) hq ?_
  repeat refine I ?_
  have Dm:=XK gr eF;have Dn:=XK gP a5;have no:¬(kh jJ jK (hQ x.bb)∧kh jJ jK (hQ x.ae)∧¬hQ x.ae<hQ x.bb)->b3 (.i .i64 7) (C9.res (p,i,x)):=fun h=>aA (gN.trans (if_neg h));refine g2 (xn (j:=0) rfl rfl (by decide)) ?_
  repeat refine I ?_
  refine aX Ra (jJ,jK,hQ x.bb) Dm ?_;by_cases cn:kh jJ jK (hQ x.bb)
  case neg=>
   refine dL 59 cn ?_
   repeat refine I ?_
   exact aw rfl (no (fun h=>cn h.1))
  refine dx 59 cn ?_
  repeat refine I ?_
  refine g2 (xn (j:=1) rfl rfl (by decide)) ?_
  repeat refine I ?_
  refine aX Ra (jJ,jK,hQ x.ae) Dn ?_;by_cases cz:kh jJ jK (hQ x.ae)
  case neg=>
   refine dL 65 cz ?_
   repeat refine I ?_
   exact aw rfl (no (fun h=>cz h.2.1))
  refine dx 65 cz ?_
  repeat refine I ?_
  refine g2 (xn (j:=0) rfl rfl (by decide)) ?_
  repeat refine I ?_
  refine g2 (xn (j:=1) rfl rfl (by decide)) ?_
  repeat refine I ?_
  refine aX YR (hQ x.bb,hQ x.ae) ⟨rU Dm (by decide),rU Dn (by decide)⟩ ?_
  repeat refine al 74 ?_
  by_cases dp:hQ x.ae<hQ x.bb
  ·have hc:=wk.2 dp;refine dx 74 hc ?_
   repeat refine I ?_
   exact aw rfl (no (fun h=>h.2.2 dp))
  ·have hc:¬0<jo (hQ x.bb) (hQ x.ae):=fun h=>dp (wk.1 h);refine dL 74 hc ?_
   repeat refine I ?_
   exact aw rfl (aA (gN.trans (if_pos ⟨cn,cz,dp⟩)))
def jw(i f:Int)(n:db):Bool:=decide (n.op=2)&&(decide (n.a=i)&&decide (n.f≠f))
def Xt:bE where
 L:=db×Int×Int
 args:=fun(n,i,f)=>[.agg (gf n),.ip [.i .i64 i],.ip [.i .i64 f]]
 pre:=fun _=>True
 res:=fun(n,i,f)=>.b (jw i f n)
theorem aoM:bg aC.ctx 117 Xt.spec:=by
 refine bR [] RE.1 ?_;intro⟨n,i,f⟩ _ H aJ
 repeat refine al 7 ?_
 by_cases h1:n.op=2
 ·refine dx 7 h1 ?_
  repeat refine al 12 ?_
  by_cases h2:n.a=i
  ·refine dx 12 h2 ?_
   repeat refine I ?_
   exact aw rfl (.of (ct (by unfold jw;rw[decide_eq_true h1,decide_eq_true h2];rfl)))
  ·refine dL 12 h2 ?_
   repeat refine I ?_
   exact aw rfl (.of (ct (by unfold jw;rw[decide_eq_true h1,decide_eq_false h2];rfl)))
 ·refine dL 7 h1 ?_
  repeat refine I ?_
  exact aw rfl (.of (ct (by unfold jw;rw[decide_eq_false h1];rfl)))
def qH(q:db->Bool):List db->Nat->Int
 |[],_=> -1
 |n::l,k=>if q n=true then k else qH q l (k+1)
theorem Vq(q:db->Bool):∀(l:List db) (k:Nat),decide (0<=qH q l k)=l.any q
 |[],_=>rfl
 |n::l,k=>by
  unfold qH;rw[List.any_cons];cases h:q n with
  |true=>simp
  |false=>simpa using Vq q l (k+1)
def M1(i f:Int):af:=.fn (.func 117) [] [.ip [.i .i64 i],.ip [.i .i64 f]]
def Vw:bE where
 L:=List db×Int×Int
 args:=fun(l,i,f)=>[.bS 7 db gf l,M1 i f]
 pre:=fun(l,i,f)=>l.length<=1000000
 res:=fun(l,i,f)=>.i .i64 (qH (jw i f) l 0)
theorem amq:bg aC.ctx 202 Vw.spec:=by
 refine bR [(117,Xt.spec)] Sn.1 ?_;intro⟨l,i,f⟩ (hl:l.length<=1000000) H aJ
 repeat refine I ?_
 refine cG (L:=Nat) (fun k=>k<=l.length∧qH (jw i f) (l.drop k) k=qH (jw i f) l 0) (fun(k:Nat)=>⟨[],0,[(0,.bS 7 db gf l),(1,M1 i f),(4,.i .i64 0),(7,.i .i64 (l.length:Int)),(8,.i .i64 (k:Int))]⟩) (fun k=>l.length-k) [] 0 ⟨Nat.zero_le _,rfl⟩ (by show _-0<ba+1;unfold ba;omega) ei ?_;rintro(k:Nat) ⟨U,ax⟩
 repeat refine al 9 ?_
 by_cases aP:k<l.length
 ·refine az 9 (.b true) rfl (ct (decide_eq_true (by omega))) ?_
  repeat refine I ?_
  refine cV l[k] (a9 aP) ?_
  repeat refine I ?_
  have av:l.drop k=l[k]::l.drop (k+1):=hf aP;rw[av]at ax;refine D1 aoM (l[k],i,f) trivial ?_;cases h:jw i f l[k]with
  |true=>
   refine az 16 (.b true) rfl (ct h) ?_
   repeat refine I ?_
   exact aw rfl (.of (by show af.i _ _=af.i .i64 (qH (jw i f) l 0);rw[<-ax];unfold qH;rw[if_pos h]))
  |false=>
   refine az 16 (.b false) rfl (ct h) ?_
   repeat refine al 18 ?_
   refine az 18 (.i .i64 ((k+1:Nat):Int)) rfl cO ?_
   repeat refine I ?_
   refine bc [] (k+1) ⟨by omega,aP,?_⟩ ei;rw[<-ax];conv=>rhs;unfold qH
   rw[if_neg (by rw[h];decide)]
 ·refine az 9 (.b false) rfl (ct (decide_eq_false (by omega))) ?_
  repeat refine I ?_
  exact aw rfl (.of (by show af.i _ _=af.i .i64 (qH (jw i f) l 0);rw[<-ax,List.drop_eq_nil_of_le (by omega)];rfl))
def Qx:bE where
 L:=List db×Int×Int
 args:=fun(l,i,f)=>[.bS 7 db gf l,M1 i f]
 pre:=fun(l,i,f)=>l.length<=1000000
 res:=fun(l,i,f)=>.b (l.any (jw i f))
theorem ac5:bg aC.ctx 118 Qx.spec:=by
 refine bR [(202,Vw.spec)] RF.1 ?_;intro⟨l,i,f⟩ hl H aJ
 repeat refine I ?_
 refine aX amq (l,i,f) hl ?_;refine az 7 (.i .i64 (qH (jw i f) l 0)) rfl rfl ?_
 repeat refine I ?_
 exact aw rfl (.of (ct (Vq _ l 0)))
def sc(p:bH)(i:Nat)(s:jn):Int:=
 if¬(0<=s.i∧s.i<p.head)∨¬(0<=s.n∧s.n<p.tail)then 7
 else match p.aD[s.i.toNat]?,p.aD[s.n.toNat]? with
  |some a,some b=>if b.f≠a.f∨p.aD.any (jw i a.f)=true then 143 else 0
  |_,_=>0
def tK:bE where
 L:=bH×Nat×jn
 args:=fun(p,i,s)=>[ed p,.i .i64 (i:Int)]
 pre:=fun(p,i,s)=>p.ca[i]? =some s∧p.head<=(p.aD.length:Int)∧p.tail<=(p.aD.length:Int)∧p.aD.length<=1000000
 res:=fun(p,i,s)=>.i .i64 (sc p i s)
theorem asp:bg aC.ctx 57 tK.spec:=by
 refine bR [(58,qd.spec),(118,Qx.spec)] TH.1 ?_;intro⟨p,i,s⟩ ⟨hj,hh,aN,hl⟩ H aJ;have aU:∀{c:Int},sc p i s=c->b3 (.i .i64 c) (tK.res (p,i,s)):=fun h=>.of (by rw[<-h];rfl)
 repeat refine I ?_
 refine cV s hj ?_
 repeat refine I ?_
 refine aX vR (s.i,p.head) trivial ?_;by_cases h1:0<=s.i∧s.i<p.head
 case neg=>
  refine dL 19 h1 ?_
  repeat refine I ?_
  exact aw rfl (aU (if_pos (.inl h1)))
 refine dx 19 h1 ?_
 repeat refine I ?_
 refine aX vR (s.n,p.tail) trivial ?_;by_cases h2:0<=s.n∧s.n<p.tail
 case neg=>
  refine dL 27 h2 ?_
  repeat refine I ?_
  exact aw rfl (aU (if_pos (.inr h2)))
 refine dx 27 h2 ?_;obtain⟨a,ha⟩:∃a:Nat,s.i=(a:Int):=⟨s.i.toNat,by omega⟩;obtain⟨b,aa⟩:∃b:Nat,s.n=(b:Int):=⟨s.n.toNat,by omega⟩;have py:s.i.toNat=a:=by omega
 have fQ:s.n.toNat=b:=by omega
 have jc:a<p.aD.length:=by omega
 have nW:b<p.aD.length:=by omega
 have aA:∀{c:Int},(if(p.aD[b]).f≠(p.aD[a]).f∨p.aD.any (jw i (p.aD[a]).f)=true then 143 else 0)=c->b3 (.i .i64 c) (tK.res (p,i,s)):=fun h=>aU (by
  unfold sc;rw[if_neg (fun h=>h.elim (fun h=>h h1) (fun h=>h h2)),py,fQ,a9 jc,a9 nW];exact h)
 repeat refine al 34 ?_
 refine az 34 (.i .i64 (a:Int)) rfl (by rw[ha]) ?_;refine cV p.aD[a] (a9 jc) ?_
 repeat refine al 37 ?_
 iterate 2 refine I ?_
 refine NA 3 ?_;refine NA 6 ?_
 repeat refine al 43 ?_
 refine eh 43 (.i .i64 (b:Int)) rfl rfl (by rw[aa]) ?_
 repeat refine I ?_
 refine gm p.aD[b] (a9 nW) ?_
 repeat refine al 48 ?_
 by_cases h3:(p.aD[b]).f≠(p.aD[a]).f
 ·refine eh 48 (.b true) rfl rfl (ct (decide_eq_true h3)) ?_
  repeat refine I ?_
  exact aw rfl (aA (if_pos (.inl h3)))
 refine eh 48 (.b false) rfl rfl (ct (decide_eq_false h3)) ?_
 repeat refine I ?_
 refine ck ac5 (p.aD,(i:Int),(p.aD[a]).f) hl ?_;cases ay:p.aD.any (jw i (p.aD[a]).f)with
 |true=>
  refine az 54 (.b true) rfl (ct ay) ?_
  repeat refine I ?_
  exact aw rfl (aA (if_pos (.inr ay)))
 |false=>
  refine az 54 (.b false) rfl (ct ay) ?_
  repeat refine I ?_
  exact aw rfl (aA (if_neg (fun h=>h.elim h3 (fun h=>Bool.noConfusion (ay.symm.trans h)))))
def eD{α:Type}(g:Nat->α->Int):List α->Nat->Option (Nat×Int)
 |[],_=>none
 |x::l,k=>if g k x=0 then eD g l (k+1)else some (k,g k x)
theorem uH{α:Type}{g:Nat->α->Int}{l:List α}{j:Nat}(hj:j<l.length):eD g (l.drop j) j=if g j l[j]=0 then eD g (l.drop (j+1)) (j+1)else some (j,g j l[j]):=by
 rw[hf hj];rfl
def ll(_:bH)(_:Nat)(x:Int×Int):Int:=if fD x.1 x.2 then 0 else 2
def ln(p:bH)(_:Nat)(x:iH):Int:=xp p x
def lo(p:bH)(i:Nat)(n:db):Int:=lI p i n
def lQ(p:bH)(i:Nat)(s:jn):Int:=sc p i s
def kV(p:bH):Int×Int×Int:=
 match eD (ll p) p.fs 0 with
 |some x=>(1,x.1,x.2)
 |none=>match eD (ln p) p.ins 0 with
  |some x=>(2,x.1,x.2)
  |none=>match eD (lo p) p.aD 0 with
   |some x=>(3,x.1,x.2)
   |none=>match eD (lQ p) p.ca 0 with
    |some x=>(4,x.1,x.2)
    |none=>if¬eb p.out p.aD.length∨fB p p.out=1 then(5,0,7)else(0,0,0)
def bK(p:bH):Int×Int×Int:=if pt p=0 then kV p else(0,0,pt p)
def yT(x:Int×Int×Int):af:=.bB [.i .i64 x.1,.i .i64 x.2.1,.i .i64 x.2.2]
def iY(p:bH):Prop:=(∀x∈p.ins,x.bb.length<=2000∧x.ae.length<=2000)∧∀n∈p.aD,n.v.length<=2000
def BG:bE where
 L:=bH
 args:=fun p=>[ed p]
 pre:=iY
 res:=fun p=>yT (bK p)
 hp:=gX
 hm:=gX.up
def BH(p:bH):List af:=[.i .i64 (p.fs.length:Int),.fn (.func 54) [ed p] [],.i .i64 (p.ins.length:Int),.fn (.func 55) [ed p] [],.i .i64 (p.aD.length:Int),.fn (.func 56) [ed p] [],.i .i64 (p.ca.length:Int),.fn (.func 57) [ed p] []]
theorem zi{p:bH}(h:pt p=0):p.fs.length<=6∧p.ins.length<=6∧p.aD.length<=64∧p.ca.length<=4∧p.tail<=(p.aD.length:Int)∧p.head<=p.tail∧0<=p.head:=by
 unfold pt at h;split at h
 ·cases h
 split at h
 ·cases h
 split at h
 ·cases h
 omega
theorem Qi:bg aC.ctx 19 BG.spec:=by
 refine ou [(53,zj.spec),(54,Rk.spec),(55,C9.spec),(56,Mu.spec),(57,tK.spec),(58,qd.spec),(59,vG.spec)] Sf.1 ?_;intro(p:bH) ⟨b6,hS⟩ H aJ dX;have aU:∀{c:Int×Int×Int},bK p=c->b3 (yT c) (BG.res p):=fun h=>.of (by rw[<-h];rfl)
 repeat refine I ?_
 refine aX ajq p trivial ?_;refine az 15 (.i .i64 (pt p)) rfl rfl ?_
 repeat refine al 17 ?_
 by_cases aO:pt p=0
 case neg=>
  refine dx 17 aO ?_
  repeat refine I ?_
  exact aw rfl (aU (if_neg aO))
 refine az 17 (.b false) rfl (ct (decide_eq_false (fun h=>h aO))) ?_;have aA:∀{c:Int×Int×Int},kV p=c->b3 (yT c) (BG.res p):=fun h=>aU ((if_pos aO).trans h);obtain⟨fp,fJ,l1,xr,zQ,zR,L4⟩:=zi aO
 repeat refine I ?_
 refine cG (L:=Nat) (fun k=>k<=4∧(1<=k->eD (ll p) p.fs 0=none)∧(2<=k->eD (ln p) p.ins 0=none)∧(3<=k->eD (lo p) p.aD 0=none)∧(4<=k->eD (lQ p) p.ca 0=none)) (fun(k:Nat)=>⟨[.c 27 (eB p),.c 120 (eB p),.c 123 (BH p)],3,[(1,.p 0 0),(5,.p 1 0),(44,.a6 2 2 0 4 4),(45,.i .i64 4),(46,.i .i64 (k:Int))]⟩) (fun k=>4-k) [0,1,2] 0 ⟨by omega,fun h=>absurd h (by decide),fun h=>absurd h (by decide),fun h=>absurd h (by decide),fun h=>absurd h (by decide)⟩ (by show 4-0<ba+1;unfold ba;omega) ld ?_;rintro(k:Nat) ⟨U,fY,hi,sv,Bd⟩;rcases(show k=0∨k=1∨k=2∨k=3∨k=4 by omega)with rfl|rfl|rfl|rfl|rfl
 ·repeat refine I ?_
  refine hE (j:=0) ?_
  repeat refine I ?_
  refine cG (L:=Nat) (fun j=>j<=p.fs.length∧eD (ll p) (p.fs.drop j) j=eD (ll p) p.fs 0) (fun(j:Nat)=>⟨[.c 27 (eB p),.c 120 (eB p),.c 123 (BH p),.c 123 [.i .i64 (p.fs.length:Int),.fn (.func 54) [ed p] []]],4,[(1,.p 0 0),(5,.p 1 0),(44,.a6 2 2 0 4 4),(45,.i .i64 4),(46,.i .i64 (0:Nat)),(8,.i .i64 (0:Nat)),(9,.p 3 0),(52,.i .i64 (p.fs.length:Int)),(53,.i .i64 (j:Int))]⟩) (fun j=>p.fs.length-j) [0,1,2,3] 0 ⟨Nat.zero_le _,rfl⟩ (by show _-0<ba+1;unfold ba;omega) nC ?_;rintro(j:Nat) ⟨e6,ax⟩
  repeat refine al 54 ?_
  by_cases hj:j<p.fs.length
  ·refine az 54 (.b true) rfl (ct (decide_eq_true (by omega))) ?_
   repeat refine I ?_
   rw[uH hj]at ax;refine D1 agA (p,j,(p.fs[j]).1,(p.fs[j]).2) (a9 hj) ?_;refine az 59 (.i .i64 (ll p j p.fs[j])) rfl rfl ?_
   repeat refine al 61 ?_
   by_cases he:ll p j p.fs[j]=0
   ·rw[if_pos he]at ax;refine az 61 (.b false) rfl (ct (decide_eq_false (fun h=>h he))) ?_
    repeat refine al 66 ?_
    refine az 66 (.i .i64 ((j+1:Nat):Int)) rfl cO ?_
    repeat refine I ?_
    exact bc [0,1,2,3] (j+1) ⟨by omega,hj,ax⟩ nC
   ·rw[if_neg he]at ax;refine dx 61 he ?_
    repeat refine I ?_
    refine aw rfl (aA (c:=(1,(j:Int),ll p j p.fs[j])) ?_);unfold kV;simp only[<-ax]
  ·refine az 54 (.b false) rfl (ct (decide_eq_false (by omega))) ?_;have ax:eD (ll p) p.fs 0=none:=by rw[<-ax,List.drop_eq_nil_of_le (by omega)];rfl
   repeat refine I ?_
   exact bc [0,1,2] 1 ⟨by decide,by decide,fun _=>ax,fun h=>absurd h (by decide),fun h=>absurd h (by decide),fun h=>absurd h (by decide)⟩ ld
 ·repeat refine I ?_
  refine hE (j:=1) ?_
  repeat refine I ?_
  refine cG (L:=Nat) (fun j=>j<=p.ins.length∧eD (ln p) (p.ins.drop j) j=eD (ln p) p.ins 0) (fun(j:Nat)=>⟨[.c 27 (eB p),.c 120 (eB p),.c 123 (BH p),.c 123 [.i .i64 (p.ins.length:Int),.fn (.func 55) [ed p] []]],4,[(1,.p 0 0),(5,.p 1 0),(44,.a6 2 2 0 4 4),(45,.i .i64 4),(46,.i .i64 (1:Nat)),(8,.i .i64 (1:Nat)),(9,.p 3 0),(52,.i .i64 (p.ins.length:Int)),(53,.i .i64 (j:Int))]⟩) (fun j=>p.ins.length-j) [0,1,2,3] 0 ⟨Nat.zero_le _,rfl⟩ (by show _-0<ba+1;unfold ba;omega) nC ?_;rintro(j:Nat) ⟨e6,ax⟩
  repeat refine al 54 ?_
  by_cases hj:j<p.ins.length
  ·refine az 54 (.b true) rfl (ct (decide_eq_true (by omega))) ?_
   repeat refine I ?_
   rw[uH hj]at ax;refine D1 amr (p,j,p.ins[j]) ⟨a9 hj,b6 _ (dr hj)⟩ ?_;refine az 59 (.i .i64 (ln p j p.ins[j])) rfl rfl ?_
   repeat refine al 61 ?_
   by_cases he:ln p j p.ins[j]=0
   ·rw[if_pos he]at ax;refine az 61 (.b false) rfl (ct (decide_eq_false (fun h=>h he))) ?_
    repeat refine al 66 ?_
    refine az 66 (.i .i64 ((j+1:Nat):Int)) rfl cO ?_
    repeat refine I ?_
    exact bc [0,1,2,3] (j+1) ⟨by omega,hj,ax⟩ nC
   ·rw[if_neg he]at ax;refine dx 61 he ?_
    repeat refine I ?_
    refine aw rfl (aA (c:=(2,(j:Int),ln p j p.ins[j])) ?_);unfold kV;simp only[fY (by decide),<-ax]
  ·refine az 54 (.b false) rfl (ct (decide_eq_false (by omega))) ?_;have ax:eD (ln p) p.ins 0=none:=by rw[<-ax,List.drop_eq_nil_of_le (by omega)];rfl
   repeat refine I ?_
   exact bc [0,1,2] 2 ⟨by decide,by decide,fun _=>fY (by decide),fun _=>ax,fun h=>absurd h (by decide),fun h=>absurd h (by decide)⟩ ld
 ·repeat refine I ?_
  refine hE (j:=2) ?_
  repeat refine I ?_
  refine cG (L:=Nat) (fun j=>j<=p.aD.length∧eD (lo p) (p.aD.drop j) j=eD (lo p) p.aD 0) (fun(j:Nat)=>⟨[.c 27 (eB p),.c 120 (eB p),.c 123 (BH p),.c 123 [.i .i64 (p.aD.length:Int),.fn (.func 56) [ed p] []]],4,[(1,.p 0 0),(5,.p 1 0),(44,.a6 2 2 0 4 4),(45,.i .i64 4),(46,.i .i64 (2:Nat)),(8,.i .i64 (2:Nat)),(9,.p 3 0),(52,.i .i64 (p.aD.length:Int)),(53,.i .i64 (j:Int))]⟩) (fun j=>p.aD.length-j) [0,1,2,3] 0 ⟨Nat.zero_le _,rfl⟩ (by show _-0<ba+1;unfold ba;omega) nC ?_;rintro(j:Nat) ⟨e6,ax⟩
  repeat refine al 54 ?_
  by_cases hj:j<p.aD.length
  ·refine az 54 (.b true) rfl (ct (decide_eq_true (by omega))) ?_
   repeat refine I ?_
   rw[uH hj]at ax;refine D1 an6 (p,j,p.aD[j]) ⟨a9 hj,hS _ (dr hj)⟩ ?_ (hh:=dX);refine az 59 (.i .i64 (lo p j p.aD[j])) rfl rfl ?_
   repeat refine al 61 ?_
   by_cases he:lo p j p.aD[j]=0
   ·rw[if_pos he]at ax;refine az 61 (.b false) rfl (ct (decide_eq_false (fun h=>h he))) ?_
    repeat refine al 66 ?_
    refine az 66 (.i .i64 ((j+1:Nat):Int)) rfl cO ?_
    repeat refine I ?_
    exact bc [0,1,2,3] (j+1) ⟨by omega,hj,ax⟩ nC
   ·rw[if_neg he]at ax;refine dx 61 he ?_
    repeat refine I ?_
    refine aw rfl (aA (c:=(3,(j:Int),lo p j p.aD[j])) ?_);unfold kV;simp only[fY (by decide),hi (by decide),<-ax]
  ·refine az 54 (.b false) rfl (ct (decide_eq_false (by omega))) ?_;have ax:eD (lo p) p.aD 0=none:=by rw[<-ax,List.drop_eq_nil_of_le (by omega)];rfl
   repeat refine I ?_
   exact bc [0,1,2] 3 ⟨by decide,by decide,fun _=>fY (by decide),fun _=>hi (by decide),fun _=>ax,fun h=>absurd h (by decide)⟩ ld
 ·repeat refine I ?_
  refine hE (j:=3) ?_
  repeat refine I ?_
  refine cG (L:=Nat) (fun j=>j<=p.ca.length∧eD (lQ p) (p.ca.drop j) j=eD (lQ p) p.ca 0) (fun(j:Nat)=>⟨[.c 27 (eB p),.c 120 (eB p),.c 123 (BH p),.c 123 [.i .i64 (p.ca.length:Int),.fn (.func 57) [ed p] []]],4,[(1,.p 0 0),(5,.p 1 0),(44,.a6 2 2 0 4 4),(45,.i .i64 4),(46,.i .i64 (3:Nat)),(8,.i .i64 (3:Nat)),(9,.p 3 0),(52,.i .i64 (p.ca.length:Int)),(53,.i .i64 (j:Int))]⟩) (fun j=>p.ca.length-j) [0,1,2,3] 0 ⟨Nat.zero_le _,rfl⟩ (by show _-0<ba+1;unfold ba;omega) nC ?_;rintro(j:Nat) ⟨e6,ax⟩
  repeat refine al 54 ?_
  by_cases hj:j<p.ca.length
  ·refine az 54 (.b true) rfl (ct (decide_eq_true (by omega))) ?_
   repeat refine I ?_
   rw[uH hj]at ax;refine D1 asp (p,j,p.ca[j]) ⟨a9 hj,by omega,zQ,by omega⟩ ?_;refine az 59 (.i .i64 (lQ p j p.ca[j])) rfl rfl ?_
   repeat refine al 61 ?_
   by_cases he:lQ p j p.ca[j]=0
   ·rw[if_pos he]at ax;refine az 61 (.b false) rfl (ct (decide_eq_false (fun h=>h he))) ?_
    repeat refine al 66 ?_
    refine az 66 (.i .i64 ((j+1:Nat):Int)) rfl cO ?_
    repeat refine I ?_
    exact bc [0,1,2,3] (j+1) ⟨by omega,hj,ax⟩ nC
   ·rw[if_neg he]at ax;refine dx 61 he ?_
    repeat refine I ?_
    refine aw rfl (aA (c:=(4,(j:Int),lQ p j p.ca[j])) ?_);unfold kV;simp only[fY (by decide),hi (by decide),sv (by decide),<-ax]
  ·refine az 54 (.b false) rfl (ct (decide_eq_false (by omega))) ?_;have ax:eD (lQ p) p.ca 0=none:=by rw[<-ax,List.drop_eq_nil_of_le (by omega)];rfl
   repeat refine I ?_
   exact bc [0,1,2] 4 ⟨by decide,by decide,fun _=>fY (by decide),fun _=>hi (by decide),fun _=>sv (by decide),fun _=>ax⟩ ld
 ·have cZ:=fY (by decide);have dz:=hi (by decide);have lP:=sv (by decide);have rf:=Bd (by decide);have cI:kV p=if¬eb p.out p.aD.length∨fB p p.out=1 then(5,0,7)else(0,0,0):=by unfold kV;simp only[cZ,dz,lP,rf]
  repeat refine I ?_
  refine aX vR (p.out,(p.aD.length:Int)) trivial ?_;by_cases h1:eb p.out p.aD.length
  case neg=>
   refine dL 73 h1 ?_
   repeat refine I ?_
   exact aw rfl (aA (c:=(5,0,7)) (cI.trans (if_pos (.inl h1))))
  refine dx 73 h1 ?_
  repeat refine I ?_
  refine aX NP (p,p.out) trivial ?_;refine az 79 (.i .i64 (fB p p.out)) rfl rfl ?_
  repeat refine al 80 ?_
  by_cases h2:fB p p.out=1
  ·refine dx 80 h2 ?_
   repeat refine I ?_
   exact aw rfl (aA (c:=(5,0,7)) (cI.trans (if_pos (.inr h2))))
  ·refine dL 80 h2 ?_
   repeat refine I ?_
   exact aw rfl (aA (c:=(0,0,0)) (cI.trans (if_neg (fun h=>h.elim (fun h=>h h1) h2))))
theorem H2(x:Rat)(k:Int):mkRat (x.num*((dV (mkRat 1 1) k).den:Int)) (x.den*(dV (mkRat 1 1) k).num.natAbs)=dV x (-k):=by
 obtain⟨aA,e2⟩:=yg k;rw[aA,e2,Int.natAbs_pow];unfold dV;by_cases h: -k<0
 ·rw[if_pos h,show(-k).toNat=0 by omega,show(-(-k))=k by omega];simp
 ·rw[if_neg h,show k.toNat=0 by omega];simp
theorem Zl{x:Rat}(h:x.num=0)(k:Int):(dV x k).den=1:=by
 unfold dV;rw[h];split<;>simp[Rat.zero_mkRat,Rat.mkRat_zero]
theorem aqG{x:Rat}(h:0<=x.num)(k:Int):0<=(dV x k).num:=by
 unfold dV;split
 ·rw[(xD _ _ (Nat.mul_ne_zero x.den_nz (by have:=Nat.two_pow_pos (-k).toNat;omega))).1];exact Int.ediv_nonneg h (by omega)
 ·rw[(xD _ _ x.den_nz).1];exact Int.ediv_nonneg (Int.mul_nonneg h (by exact Int.le_of_lt (Int.pow_pos (by decide)))) (by omega)
theorem ajC{e p:Int}(h:fD e p):0<=(m9 e p).num:=by
 unfold m9;apply aqG;have:mkRat 1 1<=dV (mkRat 1 1) p:=by
  rw[Rat.le_iff,(yg p).1,(yg p).2,show(-p).toNat=0 by have:=h.2.2.1;omega];have:(1:Int)<=2^p.toNat:=by have:=Nat.two_pow_pos p.toNat;have h2:((2^p.toNat:Nat):Int)=2^p.toNat:=by simp
                                                                                                       omega
  show(1:Int)*((2^0:Nat):Int)<=2^p.toNat*1;omega
 exact Rat.num_nonneg.2 ((Rat.le_iff_sub_nonneg _ _).1 this)
def EB(e p:Int)(x:Rat):Prop:=fD e p∧¬m9 e p<ih x∧(mkRat (x.num*((dV (mkRat 1 1) (mR e p x)).den:Int)) (x.den*(dV (mkRat 1 1) (mR e p x)).num.natAbs)).den=1
theorem has_eq(e p:Int)(x:Rat):EB e p x↔kh e p x:=by
 unfold EB kh;constructor
 ·rintro⟨h1,h2,h3⟩;rw[H2]at h3;by_cases h0:x.num=0
  ·exact⟨h1,.inl h0⟩
  ·rw[<-ZM h0]at h3;unfold IX at h3;rw[if_neg h0]at h3;exact⟨h1,.inr ⟨h3,h2⟩⟩
 ·rintro⟨h1,h0|⟨h3,h2⟩⟩
  ·refine⟨h1,?_,by rw[H2];exact Zl h0 _⟩;intro h;have hn:=ajC h1;rw[Rat.lt_iff,(qi x).1,(qi x).2,h0]at h;have:0<=(m9 e p).num*(x.den:Int):=Int.mul_nonneg hn (by omega);simp at h;omega
  ·by_cases h0:x.num=0
   ·exact⟨h1,h2,by rw[H2];exact Zl h0 _⟩
   ·refine⟨h1,h2,?_⟩;rw[H2,<-ZM h0];unfold IX;rw[if_neg h0];exact h3
theorem Qb(K:List (Nat×Spec)){f:FuncId}(xf:df){S:tW}(h:∀l,S.pre l->∀H i0 aJ,S.hp H->i0.length=(S.own l).length->a2.ok ⟨cC aW (c0 aC.ctx (cc K)) (ba+1),ba+1,f,H,i0,aJ,EA S.toGS l xf.res⟩ ⟨[],.c xf.body,⟨S.own l,(S.own l).length,lS 0 (S.args l)⟩⟩)
 (J:aW.get f=some xf:=by kernel_rfl) (hl:∀l,(S.args l).length<=xf.aS:=by exact fun _=>Nat.le_of_ble_eq_true rfl):bg aC.ctx f S.spec:=aeN aC.cv cA (cc K) J hl h
abbrev fe:Type:=List Bool×List Bool
def h9(p:bH):Nat->fe->Nat->fe
 |0,s,_=>s
 |f+1,s,i=>if s.1.getD i true=true then s else match p.aD[i]? with
  |none=>s
  |some n=>match n.op==2,p.ca[n.a.toNat]? with
   |true,some t=>h9 p f (h9 p f ((((cD n).foldl (fun s (k:Int)=>h9 p f s k.toNat) (s.1.set i true,s.2)).1,((cD n).foldl (fun s (k:Int)=>h9 p f s k.toNat) (s.1.set i true,s.2)).2.set n.a.toNat true)) t.i.toNat) t.n.toNat
   |_,_=>(cD n).foldl (fun s (k:Int)=>h9 p f s k.toNat) (s.1.set i true,s.2)
def fold(p:bH)(k:Nat)(l:List Int)(s:fe):fe:=l.foldl (fun s (q:Int)=>h9 p k s q.toNat) s
theorem Wl{p:bH}{k:Nat}{s:fe}{i:Nat}(h:s.1.getD i true=true):h9 p (k+1) s i=s:=by
 rw[h9,if_pos h]
theorem Wm{p:bH}{k:Nat}{s:fe}{i:Nat}{n:db}(h:¬s.1.getD i true=true)(hn:p.aD[i]? =some n)(h2:n.op≠2):h9 p (k+1) s i=fold p k (cD n) (s.1.set i true,s.2):=by
 rw[h9,if_neg h,hn];simp only[beq_eq_false_iff_ne.2 h2];rfl
theorem Wn{p:bH}{k:Nat}{s:fe}{i:Nat}{n:db}{t:jn}(h:¬s.1.getD i true=true)(hn:p.aD[i]? =some n)(h2:n.op=2)(aN:p.ca[n.a.toNat]? =some t):
 h9 p (k+1) s i=h9 p k (h9 p k ((fold p k (cD n) (s.1.set i true,s.2)).1,(fold p k (cD n) (s.1.set i true,s.2)).2.set n.a.toNat true) t.i.toNat) t.n.toNat:=by
 rw[h9,if_neg h,hn];simp only[h2,aN];rfl
def Fits(s t:fe):Prop:=t.1.length=s.1.length∧t.2.length=s.2.length∧t.1.count false<=s.1.count false
theorem Fits.refl(s:fe):Fits s s:=⟨rfl,rfl,Nat.le_refl _⟩
theorem Fits.trans{s t u:fe}(h:Fits s t)(g:Fits t u):Fits s u:=⟨g.1.trans h.1,g.2.1.trans h.2.1,Nat.le_trans g.2.2 h.2.2⟩
theorem count_set(l:List Bool)(i:Nat):(l.set i true).count false<=l.count false:=by
 induction l generalizing i with
 |nil=>simp
 |cons a l a0=>
  cases i with
  |zero=>simp only[List.set_cons_zero,List.count_cons];cases a<;>simp
  |succ i=>simp only[List.set_cons_succ,List.count_cons];have:=a0 i;omega
theorem QD(l:List Bool)(i:Nat)(h:l[i]? =some false):(l.set i true).count false+1=l.count false:=by
 induction l generalizing i with
 |nil=>simp at h
 |cons a l a0=>
  cases i with
  |zero=>simp at h;subst h;simp[List.count_cons]
  |succ i=>simp at h;simp only[List.set_cons_succ,List.count_cons];have:=a0 i h;omega
theorem FM{f:fe->Int->fe}(h:∀s k,Fits s (f s k)):∀(l:List Int) (s:fe),Fits s (l.foldl f s)
 |[],s=>.refl s
 |k::l,s=>(h s k).trans (FM h l (f s k))
theorem aqE(s:fe)(i:Nat):Fits s (s.1.set i true,s.2):=⟨by simp,rfl,count_set _ _⟩
theorem aqy(s:fe)(i:Nat):Fits s (s.1,s.2.set i true):=⟨rfl,by simp,Nat.le_refl _⟩
theorem vh(p:bH):∀(f:Nat) (s:fe) (i:Nat),Fits s (h9 p f s i)
 |0,s,_=>.refl s
 |f+1,s,i=>by
  have a0:=vh p f;have ab:∀(n:db),Fits s ((cD n).foldl (fun s (k:Int)=>h9 p f s k.toNat) (s.1.set i true,s.2)):=fun n=>(aqE s i).trans (FM (fun s k=>a0 s k.toNat) _ _);unfold h9;split
  ·exact .refl s
  ·split
   ·exact .refl s
   ·split
    ·exact(((ab _).trans (aqy _ _)).trans (a0 _ _)).trans (a0 _ _)
    ·exact ab _
theorem I1{own:List a3}{n p:Nat}{e cK:bT}{o q r t:a3}(h:lk [0,1,2,3] cK e)(ak:∃bd,own[0]? =some bd∧ft [0,1,2,3] o bd)(hq:∃bd,own[1]? =some bd∧ft [0,1,2,3] q bd)(aQ:∃bd,own[2]? =some bd∧ft [0,1,2,3] r bd)(aN:∃bd,own[3]? =some bd∧ft [0,1,2,3] t bd)(hp:pinned p [0,1,2,3] 0=true:=by rfl):Sub p [0,1,2,3] ⟨own,n,e⟩ ⟨[o,q,r,t],4,cK⟩:=⟨by simp,rfl,⟨ak,hq,aQ,aN,trivial⟩,h,hp⟩
def rb(p:bH):Prop:=(∀(i:Nat) (n:db),p.aD[i]? =some n->(∀k∈cD n,0<=k∧k<(p.aD.length:Int))∧(n.op=2->eb n.a p.ca.length))∧(∀s∈p.ca,eb s.i p.aD.length∧eb s.n p.aD.length)
def Hi(p:bH)(n m:Nat):List af:=eB p++[.a6 1 1 0 n n,.a6 2 1 0 m m]
def Ml(k:Nat):tW where
 L:=bH×fe×Nat
 own:=fun(p,s,i)=>[.c 332 (Hi p s.1.length s.2.length),.a 4 false 1 Bool fP s.1,.a 4 false 1 Bool fP s.2]
 args:=fun(p,s,i)=>[.p 0 0,.i .i64 (i:Int)]
 pre:=fun(p,s,i)=>rb p∧s.1.length=p.aD.length∧s.2.length=p.ca.length∧i<s.1.length∧s.1.count false<k
 bu:=fun(p,s,i)=>[.c 332 (Hi p s.1.length s.2.length),.a 4 false 1 Bool fP (h9 p k s i).1,.a 4 false 1 Bool fP (h9 p k s i).2]
 res:=fun _=>.bB []
 hp:=gX
 hm:=gX.up
theorem Wd:∀k:Nat,bg aC.ctx 300 (Ml k).spec
 |0=>by
  refine Qb [] KS.1 ?_;rintro⟨p,s,i⟩ ⟨_,_,_,_,h⟩;exact absurd h (Nat.not_lt_zero _)
 |k+1=>by
  have a0:=Wd k;refine Qb [(115,GP.spec),(300,(Ml k).spec)] KS.1 ?_;rintro⟨p,⟨N,S⟩,i⟩ ⟨aH,hS,ch,ae,hc⟩ H i0 aJ dX h0;obtain⟨iZ,cZ,dz,rfl⟩:∃a b c,i0=[a,b,c]:=by
   match i0,h0 with
   |[a,b,c],_=>exact⟨a,b,c,rfl⟩
  simp only at hS ch ae hc;show a2.ok _ ⟨_,_,⟨[.c 332 (Hi p N.length S.length),.a 4 false 1 Bool fP N,.a 4 false 1 Bool fP S],3,[(0,.p 0 0),(1,.i .i64 (i:Int))]⟩⟩
  repeat refine I ?_
  refine hE ?_;refine p4 N[i] (a9 ae) ?_;cases aa:N[i]with
  |true=>
   have cI:h9 p (k+1) (N,S) i=(N,S):=by
    exact Wl (by show N.getD i true=true;rw[List.getD_eq_getElem?_getD,a9 ae,aa];rfl)
   repeat refine I ?_
   exact mi ⟨.inr rfl,⟨_,rfl,rfl,.refl _⟩,[0,1,2],rfl,N3 trivial ⟨_,rfl,rfl⟩ ⟨_,rfl,(by show a3.a _ _ _ _ _ _=a3.a _ _ _ _ _ _;rw[cI]),fun _=>rfl⟩ ⟨_,rfl,(by show a3.a _ _ _ _ _ _=a3.a _ _ _ _ _ _;rw[cI]),fun _=>rfl⟩⟩
  |false=>
   have sW:i<p.aD.length:=by omega
   obtain⟨n,hn⟩:∃n,p.aD[i]? =some n:=⟨_,a9 sW⟩;obtain⟨kp,iN⟩:=aH.1 i n hn
   repeat refine I ?_
   refine hE ?_;refine jk true ?_
   repeat refine I ?_
   refine cV n hn ?_
   repeat refine I ?_
   refine aX VF n trivial ?_ (hh:=dX)
   repeat refine I ?_
   have rF:¬(N,S).1.getD i true=true:=by show¬N.getD i true=true;rw[List.getD_eq_getElem?_getD,a9 ae,aa];decide
   have eu:=QD N i (by rw[a9 ae,aa]);have a5:∀l:List Int,(fold p k l (N.set i true,S)).1.length=N.length∧(fold p k l (N.set i true,S)).2.length=S.length∧(fold p k l (N.set i true,S)).1.count false<k:=fun l=>by
    obtain⟨cn,cz,dp⟩:=FM (f:=fun s (q:Int)=>h9 p k s q.toNat) (fun s q=>vh p k s q.toNat) l (N.set i true,S);have cn:(fold p k l (N.set i true,S)).1.length=(N.set i true).length:=cn;have cz:(fold p k l (N.set i true,S)).2.length=S.length:=cz;have dp:(fold p k l (N.set i true,S)).1.count false<=(N.set i true).count false:=dp;rw[List.length_set]at cn;exact⟨cn,cz,by omega⟩
   have wY:=GO n;refine cG (L:=Nat) (fun j=>j<=(cD n).length) (fun(j:Nat)=>⟨[.c 332 (Hi p N.length S.length),.a 4 false 1 Bool fP (fold p k ((cD n).take j) (N.set i true,S)).1,.a 4 false 1 Bool fP (fold p k ((cD n).take j) (N.set i true,S)).2,.c 87 (gf n)],4,[(0,.p 0 0),(4,.p 3 0),(29,.bS 1 Int cw (cD n)),(30,.i .i64 ((cD n).length:Int)),(31,.i .i64 (j:Int))]⟩) (fun j=>(cD n).length-j) [0,1,2,3] 0 (Nat.zero_le _) (by show _-0<ba+1;unfold ba;omega) nC ?_;rintro(j:Nat) hj
   repeat refine al 32 ?_
   by_cases hl:j<(cD n).length
   ·refine az 32 (.b true) rfl (ct (decide_eq_true (by omega))) ?_
    repeat refine I ?_
    refine cV (cD n)[j] (a9 hl) ?_;obtain⟨fM,A1⟩:=kp _ (dr hl);obtain⟨cn,cz,dp⟩:=a5 ((cD n).take j);have dN:fold p k ((cD n).take (j+1)) (N.set i true,S)=h9 p k (fold p k ((cD n).take j) (N.set i true,S)) (cD n)[j].toNat:=by
     unfold fold;rw[List.take_succ_eq_append_getElem hl,List.foldl_append];rfl
    repeat refine al 36 ?_
    refine az 36 (.i .i64 ((cD n)[j].toNat:Int)) rfl (congrArg (af.i .i64) (by omega)) ?_;refine apK a0 (p,fold p k ((cD n).take j) (N.set i true,S),(cD n)[j].toNat) ⟨aH,cn.trans hS,cz.trans ch,by show _<(fold _ _ _ _).1.length;omega,dp⟩ ?_ (h1:=by show a3.c _ _=a3.c _ _;rw[cn,cz];rfl) (hh:=dX)
    repeat refine al 38 ?_
    refine az 38 (.i .i64 ((j+1:Nat):Int)) rfl cO ?_
    repeat refine I ?_
    exact bc [0,1,2,3] (j+1) ⟨by omega,hl⟩ (I1 ⟨rfl,rfl,rfl,rfl,rfl,trivial⟩ ⟨_,rfl,(by show a3.c _ _=a3.c _ _;rw[cn,cz];rfl)⟩ ⟨_,rfl,(by show a3.a _ _ _ _ _ _=a3.a _ _ _ _ _ _;rw[dN]),fun _=>rfl⟩ ⟨_,rfl,(by show a3.a _ _ _ _ _ _=a3.a _ _ _ _ _ _;rw[dN]),fun _=>rfl⟩ ⟨_,rfl,rfl⟩)
   ·refine az 32 (.b false) rfl (ct (decide_eq_false (by omega))) ?_;rw[List.take_of_length_le (by omega)];obtain⟨cn,cz,dp⟩:=a5 (cD n)
    repeat refine al 41 ?_
    by_cases h2:n.op=2
    ·refine dx 41 h2 ?_;have kn:=iN h2;obtain⟨a,ha⟩:∃a:Nat,n.a=(a:Int):=⟨n.a.toNat,by have:=kn.1;omega⟩;have py:n.a.toNat=a:=by omega
     have jc:a<p.ca.length:=by have:=kn.2;omega
     obtain⟨t,aN⟩:∃t,p.ca[a]? =some t:=⟨_,a9 jc⟩;obtain⟨⟨t1,t2⟩,t3,t4⟩:=aH.2 t (List.mem_of_getElem? aN);have cI:=Wn (k:=k) rF hn h2 (by rw[py];exact aN);rw[py]at cI;generalize fold p k (cD n) (N.set i true,S)=F at *;obtain⟨mw,iG⟩:=F;simp only at cn cz dp;obtain⟨ic,kL,p3⟩:=vh p k (mw,iG.set a true) t.i.toNat;simp only[List.length_set]at ic kL p3;generalize dv:h9 p k (mw,iG.set a true) t.i.toNat=G at *;obtain⟨Jn,abq⟩:=G;simp only at ic kL p3
     repeat refine al 47 ?_
     refine eh 47 (.i .i64 (a:Int)) rfl rfl (by rw[ha]) ?_
     repeat refine I ?_
     refine y2 ?_;refine ae6 true ?_
     repeat refine al 56 ?_
     refine eh 56 (.i .i64 (a:Int)) rfl rfl (by rw[ha]) ?_
     repeat refine I ?_
     refine gm t aN ?_
     repeat refine al 59 ?_
     refine eh 59 (.i .i64 (t.i.toNat:Int)) rfl rfl (congrArg (af.i .i64) (by omega)) ?_;refine QK a0 (p,(mw,iG.set a true),t.i.toNat) ⟨aH,cn.trans hS,by simp only[List.length_set];exact cz.trans ch,by show _<mw.length;omega,dp⟩ ?_ (h1:=by show a3.c _ _=a3.c _ _;rw[cn,List.length_set,cz];rfl) (hh:=dX)
     repeat refine al 68 ?_
     refine eh 68 (.i .i64 (a:Int)) rfl rfl (by rw[ha]) ?_
     repeat refine I ?_
     refine gm t aN ?_
     repeat refine al 71 ?_
     refine eh 71 (.i .i64 (t.n.toNat:Int)) rfl rfl (congrArg (af.i .i64) (by omega)) ?_;refine QK a0 (p,(Jn,abq),t.n.toNat) ⟨aH,(ic.trans cn).trans hS,(kL.trans cz).trans ch,by show _<Jn.length;omega,by show Jn.count false<k;omega⟩ ?_ (h1:=by show a3.c _ _=a3.c _ _;simp only[List.length_set,ic,kL];rfl) (h2:=by rw[dv];exact⟨rfl,fun _=>rfl⟩) (h3:=by rw[dv];exact⟨rfl,fun _=>rfl⟩) (hh:=dX)
     repeat refine I ?_
     exact mi ⟨.inl rfl,⟨_,rfl,rfl,.refl _⟩,[0,1,2],rfl,N3 trivial ⟨_,rfl,(by show a3.c _ _=a3.c _ _;simp only[ic,kL,cn,cz];rfl)⟩ ⟨_,rfl,(by show a3.a _ _ _ _ _ _=a3.a _ _ _ _ _ _;rw[cI]),fun _=>rfl⟩ ⟨_,rfl,(by show a3.a _ _ _ _ _ _=a3.a _ _ _ _ _ _;rw[cI]),fun _=>rfl⟩⟩
    ·refine dL 41 h2 ?_;have cI:=Wm (k:=k) rF hn h2
     repeat refine I ?_
     exact mi ⟨.inl rfl,⟨_,rfl,rfl,.refl _⟩,[0,1,2],rfl,N3 trivial ⟨_,rfl,rfl⟩ ⟨_,rfl,(by show a3.a _ _ _ _ _ _=a3.a _ _ _ _ _ _;rw[cI]),fun _=>rfl⟩ ⟨_,rfl,(by show a3.a _ _ _ _ _ _=a3.a _ _ _ _ _ _;rw[cI]),fun _=>rfl⟩⟩
def Jc:bE where
 L:=bH
 args:=fun p=>[ed p]
 pre:=iY
 res:=fun p=>.i .i64 (bK p).2.2
 hp:=gX
 hm:=gX.up
theorem Om:bg aC.ctx 77 Jc.spec:=by
 refine ou [(19,BG.spec)] T1.1 ?_;intro(p:bH) hp H aJ dX
 repeat refine I ?_
 refine aX Qi p hp ?_ (hh:=dX);refine az 8 (.bB [.i .i64 (bK p).1,.i .i64 (bK p).2.1,.i .i64 (bK p).2.2]) rfl rfl ?_
 repeat refine I ?_
 exact aw rfl (.refl _)
def jO(p:bH):fe:=h9 p 65 (List.replicate p.aD.length false,List.replicate p.ca.length false) p.out.toNat
def Ww:bE where
 L:=bH
 args:=fun p=>[ed p]
 pre:=fun p=>iY p∧(bK p=(0,0,0)->rb p∧eb p.out p.aD.length)
 res:=fun p=>if bK p=(0,0,0)then .bB [.bS 1 Bool fP (jO p).1,.bS 1 Bool fP (jO p).2,.i .i64 0]else .bB [.nl,.nl,.i .i64 (bK p).2.2]
 hp:=gX
 hm:=gX.up
theorem B8{α:Type}{g:Nat->α->Int}:∀{l:List α} {k:Nat} {x:Nat×Int},eD g l k=some x->x.2≠0
 |[],_,_,h=>by cases h
 |a::l,k,x,h=>by
  unfold eD at h;split at h
  ·exact B8 h
  ·cases h;assumption
theorem E4{p:bH}(h:(bK p).2.2=0):bK p=(0,0,0):=by
 unfold bK at h⊢;by_cases aO:pt p=0
 case neg=>rw[if_neg aO]at h;exact absurd h aO
 rw[if_pos aO]at h⊢;unfold kV at h⊢;cases aA:eD (ll p) p.fs 0 with
 |some x=>rw[aA]at h;exact absurd h (B8 aA)
 |none=>
 rw[aA]at h;cases e2:eD (ln p) p.ins 0 with
 |some x=>rw[e2]at h;exact absurd h (B8 e2)
 |none=>
 rw[e2]at h;cases b0:eD (lo p) p.aD 0 with
 |some x=>rw[b0]at h;exact absurd h (B8 b0)
 |none=>
 rw[b0]at h;cases eS:eD (lQ p) p.ca 0 with
 |some x=>rw[eS]at h;exact absurd h (B8 eS)
 |none=>
 rw[eS]at h;by_cases j5:¬eb p.out p.aD.length∨fB p p.out=1
 ·have h:(if¬eb p.out p.aD.length∨fB p p.out=1 then((5,0,7):Int×Int×Int)else(0,0,0)).2.2=0:=h;rw[if_pos j5]at h;cases h
 ·exact if_neg j5
theorem sA{p:bH}(h:bK p=(0,0,0)):p.aD.length<=64∧p.ca.length<=4:=by
 unfold bK at h;split at h
 ·rename_i aO;obtain⟨_,_,h3,ay,_⟩:=zi aO;exact⟨h3,ay⟩
 ·rename_i aO;exact absurd (congrArg (fun x:Int×Int×Int=>x.2.2) h) aO
theorem acu{eP kP a b c a' er bJ kk iZ kT:a3}(h1:j2 [4,2,3] kk a')(h2:j2 [4,2,3] iZ er)(h3:j2 [4,2,3] kT bJ):yA [4,2,3] [eP,kP,b,c,a] [eP,kP,er,bJ,a'] [kk,iZ,kT]:=by
 refine⟨rfl,fun j hj=> ?_,fun i k bd U ak=> ?_⟩
 ·match j with
  |0=>rfl
  |1=>rfl
  |2=>exact absurd (by simp) hj
  |3=>exact absurd (by simp) hj
  |4=>exact absurd (by simp) hj
  |j+5=>rfl
 ·match i with
  |0=>cases U;cases ak;exact⟨_,rfl,h1⟩
  |1=>cases U;cases ak;exact⟨_,rfl,h2⟩
  |2=>cases U;cases ak;exact⟨_,rfl,h3⟩
  |i+3=>simp at U
theorem anS:bg aC.ctx 140 Ww.spec:=by
 refine ou [(77,Jc.spec),(300,(Ml 65).spec)] R2.1 ?_;intro(p:bH) ⟨hp,aH⟩ H aJ dX
 repeat refine I ?_
 refine aX Om p hp ?_ (hh:=dX);refine az 8 (.i .i64 (bK p).2.2) rfl rfl ?_
 repeat refine al 10 ?_
 by_cases h0:(bK p).2.2=0
 case neg=>
  refine dx 10 h0 ?_
  repeat refine I ?_
  exact aw rfl (.of (if_neg (fun h=>h0 (by rw[h]))).symm)
 refine az 10 (.b false) rfl (ct (decide_eq_false (fun h=>h h0))) ?_;have hc:=E4 h0;obtain⟨aH,ak⟩:=aH hc
 repeat refine I ?_
 refine YN SQ.1 (by kernel_rfl) ?_;intro H1 i1 s1 aup hle
 repeat refine I ?_
 obtain⟨hL,pE⟩:=sA hc;refine Fl fP false ?_
 repeat refine I ?_
 refine Fl fP false ?_
 repeat refine al 17 ?_
 refine az 17 (.i .i64 (p.out.toNat:Int)) rfl (congrArg (af.i .i64) (by have:=ak.1;omega)) ?_;refine apL (bu:=[.c 27 (eB p),.c 27 (eB p),.a 4 false 1 Bool fP (jO p).1,.a 4 false 1 Bool fP (jO p).2,.c 332 (eB p++[.a6 2 1 0 p.aD.length p.aD.length,.a6 3 1 0 p.ca.length p.ca.length])]) (Wd 65) [4,2,3] (p,(List.replicate p.aD.length false,List.replicate p.ca.length false),p.out.toNat) ⟨aH,by simp,by simp,by simp;have:=ak.1;have:=ak.2;omega,by simp;omega⟩ ?_ ?_ ?_ (gX.up hle dX)
 rotate_left 1
 ·exact⟨by simp,rfl,⟨⟨_,rfl,(by show a3.c _ _=a3.c _ _;simp only[List.length_replicate];rfl)⟩,⟨_,rfl,rfl,fun _=>rfl⟩,⟨_,rfl,rfl,fun _=>rfl⟩,trivial⟩,trivial,rfl⟩
 ·exact acu (by show a3.c _ _=a3.c _ _;simp only[List.length_replicate];rfl) ⟨rfl,fun _=>rfl⟩ ⟨rfl,fun _=>rfl⟩
 repeat refine I ?_
 refine mi ⟨.inr rfl,_,rfl,?_⟩
 repeat refine al 4 ?_
 iterate 2 refine I ?_
 obtain⟨f1,f2,_⟩:=vh p 65 (List.replicate p.aD.length false,List.replicate p.ca.length false) p.out.toNat;simp only[List.length_replicate]at f1 f2;refine IE 2 ?_ (hn:=f1);refine IE 3 ?_ (hn:=f2)
 repeat refine I ?_
 exact aw rfl (.of (if_pos hc).symm)
def vX(p:bH)(i j:Nat):Prop:=∃n,p.aD[i]? =some n∧((∃k∈cD n,k.toNat=j)∨(n.op=2∧∃t,p.ca[n.a.toNat]? =some t∧(t.i.toNat=j∨t.n.toNat=j)))
inductive Reach(p:bH):Nat->Nat->Prop
 |refl (i:Nat):Reach p i i
 |step {i k j:Nat} (h:vX p i k) (g:Reach p k j):Reach p i j
def eR(s:fe)(j:Nat):Prop:=s.1[j]? =some true
def q5(p:bH)(roots:Nat->Prop)(s R:fe):Prop:=(∀j,eR s j->eR R j)∧(∀j,roots j->eR R j)∧∀j,eR R j->¬eR s j->(∃r,roots r∧Reach p r j)∧∀k,vX p j k->eR R k
theorem q5.then{p:bH}{a b:Nat->Prop}{s t u:fe}(h:q5 p a s t)(g:q5 p b t u):q5 p (fun j=>a j∨b j) s u:=by
 obtain⟨h1,h2,h3⟩:=h;obtain⟨aL,aR,a7⟩:=g;refine⟨fun j hj=>aL j (h1 j hj),fun j hj=>hj.elim (fun hj=>aL j (h2 j hj)) (aR j),fun j hj hn=> ?_⟩;by_cases aN:eR t j
 ·obtain⟨⟨r,cn,cz⟩,dp⟩:=h3 j aN hn;exact⟨⟨r,.inl cn,cz⟩,fun k U=>aL k (dp k U)⟩
 ·obtain⟨⟨r,cn,cz⟩,dp⟩:=a7 j hj aN;exact⟨⟨r,.inr cn,cz⟩,dp⟩
theorem Rh{p:bH}{f:Nat}(a0:∀(s:fe) (i:Nat),s.1.length=p.aD.length->i<p.aD.length->s.1.count false<f->q5 p (fun j=>j=i) s (h9 p f s i)):
 ∀(l:List Int) (s:fe),s.1.length=p.aD.length->s.1.count false<f->(∀k∈l,k.toNat<p.aD.length)->q5 p (fun j=>∃k∈l,k.toNat=j) s (fold p f l s)
 |[],s,_,_,_=>⟨fun _ h=>h,fun j ⟨k,h,_⟩=>absurd h List.not_mem_nil,fun j h1 h2=>absurd h1 h2⟩
 |k::l,s,h1,h2,h3=>by
  have a:=a0 s k.toNat h1 (h3 k List.mem_cons_self) h2;obtain⟨f1,_,f3⟩:=vh p f s k.toNat;have b:=Rh a0 l (h9 p f s k.toNat) (f1.trans h1) (by omega) (fun k U=>h3 k (List.mem_cons_of_mem _ U));obtain⟨dh,dC,jH⟩:=a.then b;refine⟨dh,fun j ⟨q,hq,e⟩=>dC j ?_,fun j hj hn=> ?_⟩
  ·rcases List.mem_cons.1 hq with rfl|hq
   ·exact .inl e.symm
   ·exact .inr ⟨q,hq,e⟩
  ·obtain⟨⟨r,aQ,q⟩,dp⟩:=jH j hj hn;refine⟨⟨r,?_,q⟩,dp⟩;rcases aQ with rfl|⟨fg,w7,e⟩
   ·exact⟨k,List.mem_cons_self,rfl⟩
   ·exact⟨fg,List.mem_cons_of_mem _ w7,e⟩
theorem Wk{p:bH}(aH:rb p):∀(f:Nat) (s:fe) (i:Nat),s.1.length=p.aD.length->i<p.aD.length->s.1.count false<f->q5 p (fun j=>j=i) s (h9 p f s i)
 |0,_,_,_,_,h=>absurd h (Nat.not_lt_zero _)
 |f+1,s,i,hl,ae,hc=>by
  have a0:=Wk aH f;by_cases hm:s.1.getD i true=true
  ·rw[Wl hm];have kI:eR s i:=by
    unfold eR;rw[List.getD_eq_getElem?_getD,a9 (by omega)]at hm;rw[a9 (by omega)];exact congrArg some hm
   exact⟨fun _ h=>h,fun j e=>by subst e;exact kI,fun j h1 h2=>absurd h1 h2⟩
  ·obtain⟨n,hn⟩:∃n,p.aD[i]? =some n:=⟨_,a9 ae⟩;obtain⟨kp,iN⟩:=aH.1 i n hn;have aa:s.1[i]? =some false:=by
    rw[List.getD_eq_getElem?_getD,a9 (by omega)]at hm;rw[a9 (by omega)];cases h:s.1[i]with
    |true=>rw[h]at hm;exact absurd rfl hm
    |false=>rfl
   have eu:=QD s.1 i aa;have lX:∀j,eR (s.1.set i true,s.2) j↔(j=i∨eR s j):=fun j=>by
    unfold eR;show(s.1.set i true)[j]? =_↔_;by_cases e:i=j
    ·subst e;rw[List.getElem?_set_self (by omega)];simp
    ·rw[List.getElem?_set_ne e];exact⟨.inr,fun h=>h.elim (fun h=>absurd h.symm e) id⟩
   have a:=Rh a0 (cD n) (s.1.set i true,s.2) (by simp[hl]) (by show(s.1.set i true).count false<f;omega) (fun k U=>by have:=kp k U;omega);obtain⟨aL,aR,a7⟩:=FM (f:=fun s (q:Int)=>h9 p f s q.toNat) (fun s q=>vh p f s q.toNat) (cD n) (s.1.set i true,s.2);have aL:(fold p f (cD n) (s.1.set i true,s.2)).1.length=(s.1.set i true).length:=aL;have a7:(fold p f (cD n) (s.1.set i true,s.2)).1.count false<=(s.1.set i true).count false:=a7;rw[List.length_set]at aL;have key:∀(b:Nat->Prop) (R:fe),q5 p b (s.1.set i true,s.2) R->(∀r,b r↔vX p i r)->q5 p (fun j=>j=i) s R:=fun b R ⟨dh,dC,jH⟩ Ux=>by
    refine⟨fun j hj=>dh j ((lX j).2 (.inr hj)),fun j e=>dh j ((lX j).2 (.inl e)),fun j hj ale=> ?_⟩;by_cases e:j=i
    ·subst e;exact⟨⟨_,rfl,.refl _⟩,fun k U=>dC k ((Ux k).2 U)⟩
    ·obtain⟨⟨r,aQ,q⟩,dp⟩:=jH j hj (fun h=>((lX j).1 h).elim e ale);exact⟨⟨i,rfl,.step ((Ux r).1 aQ) q⟩,dp⟩
   by_cases h2:n.op=2
   ·obtain⟨fM,A1⟩:=iN h2;have jc:n.a.toNat<p.ca.length:=by omega
    obtain⟨t,aN⟩:∃t,p.ca[n.a.toNat]? =some t:=⟨_,a9 jc⟩;obtain⟨⟨t1,t2⟩,t3,t4⟩:=aH.2 t (List.mem_of_getElem? aN);rw[Wn hm hn h2 aN];have b:=a0 ((fold p f (cD n) (s.1.set i true,s.2)).1,(fold p f (cD n) (s.1.set i true,s.2)).2.set n.a.toNat true) t.i.toNat (aL.trans hl) (by omega) (by show(fold p f (cD n) (s.1.set i true,s.2)).1.count false<f;omega);obtain⟨bj,_,dK⟩:=vh p f ((fold p f (cD n) (s.1.set i true,s.2)).1,(fold p f (cD n) (s.1.set i true,s.2)).2.set n.a.toNat true) t.i.toNat;have c:=a0 _ t.n.toNat (bj.trans (aL.trans hl)) (by omega) (by simp only at dK;omega);refine key _ _ ((q5.then a b).then c) (fun r=>⟨fun h=> ?_,fun h=> ?_⟩)
    ·rcases h with(h|h)|h
     ·exact⟨n,hn,.inl h⟩
     ·exact⟨n,hn,.inr ⟨h2,t,aN,.inl h.symm⟩⟩
     ·exact⟨n,hn,.inr ⟨h2,t,aN,.inr h.symm⟩⟩
    ·obtain⟨b8,gR,h⟩:=h;rw[hn]at gR;cases gR;rcases h with h|⟨_,gV,mL,h⟩
     ·exact .inl (.inl h)
     ·rw[aN]at mL;cases mL;exact h.elim (fun h=>.inl (.inr h.symm)) (fun h=>.inr h.symm)
   ·rw[Wm hm hn h2];refine key _ _ a (fun r=>⟨fun h=>⟨n,hn,.inl h⟩,fun h=> ?_⟩);obtain⟨b8,gR,h⟩:=h;rw[hn]at gR;cases gR;exact h.elim id (fun h=>absurd h.1 h2)
theorem anQ{p:bH}(aH:rb p)(ak:eb p.out p.aD.length)(hl:p.aD.length<=64)(j:Nat):eR (jO p) j↔Reach p p.out.toNat j:=by
 have no:∀j,¬eR ((List.replicate p.aD.length false,List.replicate p.ca.length false):fe) j:=fun j h=>by
  unfold eR at h;rw[List.getElem?_replicate]at h;split at h<;>cases h
 obtain⟨_,h2,h3⟩:=Wk aH 65 (List.replicate p.aD.length false,List.replicate p.ca.length false) p.out.toNat (by simp) (by have:=ak.1;have:=ak.2;omega) (by simp;omega);constructor
 ·intro h;obtain⟨⟨r,aQ,q⟩,_⟩:=h3 j h (no j);rw[<-aQ];exact q
 ·intro h;have:∀a b,Reach p a b->eR (jO p) a->eR (jO p) b:=fun a b h=>by
   induction h with
   |refl=>exact id
   |step e _ a0=>exact fun ha=>a0 ((h3 _ ha (no _)).2 _ e)
  exact this _ _ h (h2 _ rfl)
theorem ze{α:Type}{g:Nat->α->Int}:∀{l:List α} {k:Nat},eD g l k=none->∀(i:Nat) (x:α),l[i]? =some x->g (k+i) x=0
 |[],_,_,i,x,h=>by simp at h
 |a::l,k,h,i,x,J=>by
  unfold eD at h;split at h
  ·rename_i h0;cases i with
   |zero=>simp at J;subst J;exact h0
   |succ i=>
    have:=ze h i x (by simpa using J);rw[show k+1+i=k+(i+1) by omega]at this;exact this
  ·cases h
theorem an5{p:bH}{i:Nat}{n:db}(ae:i<p.aD.length)(h:lI p i n=0):(∀k∈cD n,0<=k∧k<(p.aD.length:Int))∧(n.op=2->eb n.a p.ca.length):=by
 unfold lI at h;split at h
 ·cases h
 split at h
 ·cases h
 split at h
 ·cases h
 split at h
 ·cases h
 split at h
 ·cases h
 rename_i cn cz dp jS tv;refine⟨?_,fun h2=>Classical.byContradiction fun hn=>tv ⟨h2,.inr hn⟩⟩;split at h
 ·rename_i h3;intro k U;have:cD n=[]:=by
   unfold cD;rw[if_pos (Classical.byContradiction fun hn=>cn (.inl hn)),h3];rfl
  rw[this]at U;cases U
 ·split at h
  ·rename_i ez;intro k U;have:=List.all_eq_true.1 ez k U;unfold r9 at this;have:=of_decide_eq_true this;omega
  ·cases h
theorem aso{p:bH}{i:Nat}{s:jn}(aN:p.tail<=(p.aD.length:Int))(hh:p.head<=p.tail)(h:sc p i s=0):eb s.i p.aD.length∧eb s.n p.aD.length:=by
 unfold sc at h;split at h
 ·cases h
 ·rename_i q;have a:0<=s.i∧s.i<p.head:=Classical.byContradiction fun hn=>q (.inl hn);have b:0<=s.n∧s.n<p.tail:=Classical.byContradiction fun hn=>q (.inr hn);exact⟨⟨a.1,by omega⟩,b.1,by omega⟩
theorem wi{p:bH}(h:bK p=(0,0,0)):rb p∧eb p.out p.aD.length:=by
 unfold bK at h;split at h
 case isFalse aO=>exact absurd (congrArg (fun x:Int×Int×Int=>x.2.2) h) aO
 rename_i aO;obtain⟨_,_,_,_,zQ,zR,L4⟩:=zi aO;unfold kV at h;have z:∀{x y:Int×Int×Int},x=y->x.1=y.1:=fun h=>by rw[h]
 cases aA:eD (ll p) p.fs 0 with
 |some x=>rw[aA]at h;have:=z h;simp at this
 |none=>
 rw[aA]at h;cases e2:eD (ln p) p.ins 0 with
 |some x=>rw[e2]at h;have:=z h;simp at this
 |none=>
 rw[e2]at h;cases b0:eD (lo p) p.aD 0 with
 |some x=>rw[b0]at h;have:=z h;simp at this
 |none=>
 rw[b0]at h;cases eS:eD (lQ p) p.ca 0 with
 |some x=>rw[eS]at h;have:=z h;simp at this
 |none=>
 rw[eS]at h;by_cases j5:¬eb p.out p.aD.length∨fB p p.out=1
 ·have h:(if¬eb p.out p.aD.length∨fB p p.out=1 then((5,0,7):Int×Int×Int)else(0,0,0))=(0,0,0):=h;rw[if_pos j5]at h;have:=z h;simp at this
 ·refine⟨⟨fun i n hn=> ?_,fun s ah=> ?_⟩,Classical.byContradiction fun hn=>j5 (.inl hn)⟩
  ·have:=ze b0 i n hn;rw[Nat.zero_add]at this;exact an5 (List.getElem?_eq_some_iff.1 hn).1 this
  ·obtain⟨i,ae⟩:=List.mem_iff_getElem?.1 ah;exact aso zQ zR (ze eS i s ae)
def e9(N:List Bool)(l:List Int):List Bool:=l.foldl (fun N (k:Int)=>N.set k.toNat true) N
def jz(p:bH)(s:fe)(i:Nat):fe:=
 if s.1.getD i false=true then match p.aD[i]? with
  |none=>s
  |some n=>if n.op=2 then match p.ca[n.a.toNat]? with
   |some t=>(((e9 s.1 (cD n)).set t.i.toNat true).set t.n.toNat true,s.2.set n.a.toNat true)
   |none=>(e9 s.1 (cD n),s.2)
   else(e9 s.1 (cD n),s.2)
 else s
def p7(p:bH):Nat->fe->fe
 |0,s=>s
 |i+1,s=>p7 p i (jz p s i)
def qX(p:bH):Nat->fe->fe
 |0,s=>s
 |r+1,s=>qX p r (p7 p p.aD.length s)
def nN(s:fe)(a:Nat):Prop:=s.2[a]? =some true
theorem set_mk{N:List Bool}{i j:Nat}:(N.set i true)[j]? =some true↔(N[j]? =some true∨(i=j∧i<N.length)):=by
 by_cases e:i=j
 ·subst e;by_cases h:i<N.length
  ·rw[List.getElem?_set_self h];simp[h]
  ·rw[List.getElem?_eq_none (by simp;omega),List.getElem?_eq_none (by omega)];simp[h]
 ·rw[List.getElem?_set_ne e];simp[e]
theorem NQ:∀{l:List Int} {N:List Bool} {j:Nat},(∀k∈l,k.toNat<N.length)->((e9 N l)[j]? =some true↔(N[j]? =some true∨∃k∈l,k.toNat=j))
 |[],N,j,_=>by simp[e9]
 |k::l,N,j,h=>by
  show(e9 (N.set k.toNat true) l)[j]? =some true↔_;rw[NQ (l:=l) (N:=N.set k.toNat true) (fun q hq=>by rw[List.length_set];exact h q (List.mem_cons_of_mem _ hq)),set_mk];have:=h k List.mem_cons_self;constructor
  ·rintro((h|⟨e,_⟩)|⟨q,hq,e⟩)
   ·exact .inl h
   ·exact .inr ⟨k,List.mem_cons_self,e⟩
   ·exact .inr ⟨q,List.mem_cons_of_mem _ hq,e⟩
  ·rintro(h|⟨q,hq,e⟩)
   ·exact .inl (.inl h)
   ·rcases List.mem_cons.1 hq with rfl|hq
    ·exact .inl (.inr ⟨e,by omega⟩)
    ·exact .inr ⟨q,hq,e⟩
theorem Ec:∀(l:List Int) (N:List Bool),(e9 N l).length=N.length
 |[],_=>rfl
 |k::l,N=>(Ec l (N.set k.toNat true)).trans (by simp)
theorem asv{p:bH}(aH:rb p){s:fe}{i:Nat}(h1:s.1.length=p.aD.length)(h2:s.2.length=p.ca.length)(ae:i<p.aD.length):
 (jz p s i).1.length=p.aD.length∧(jz p s i).2.length=p.ca.length∧(∀j,eR (jz p s i) j↔(eR s j∨(eR s i∧vX p i j)))∧
 ∀a,nN (jz p s i) a↔(nN s a∨(eR s i∧∃n,p.aD[i]? =some n∧n.op=2∧n.a.toNat=a)):=by
 obtain⟨n,hn⟩:∃n,p.aD[i]? =some n:=⟨_,a9 ae⟩;obtain⟨kp,iN⟩:=aH.1 i n hn;have wZ:∀k∈cD n,k.toNat<s.1.length:=fun k U=>by have:=kp k U;omega
 by_cases hm:s.1.getD i false=true
 ·have gp:eR s i:=by unfold eR;rw[List.getD_eq_getElem?_getD,a9 (by omega)]at hm;rw[a9 (by omega)];exact congrArg some hm
  by_cases cN:n.op=2
  ·obtain⟨fM,A1⟩:=iN cN;obtain⟨t,aN⟩:∃t,p.ca[n.a.toNat]? =some t:=⟨_,a9 (by omega)⟩;obtain⟨⟨t1,t2⟩,t3,t4⟩:=aH.2 t (List.mem_of_getElem? aN);have e:jz p s i=(((e9 s.1 (cD n)).set t.i.toNat true).set t.n.toNat true,s.2.set n.a.toNat true):=by
    unfold jz;rw[if_pos hm,hn];simp only[cN,if_true,aN]
   rw[e];refine⟨by simp[Ec,h1],by simp[h2],fun j=> ?_,fun a=> ?_⟩
   ·unfold eR;rw[set_mk,set_mk,NQ wZ];simp only[List.length_set,Ec];constructor
    ·rintro(((h|h)|⟨e,_⟩)|⟨e,_⟩)
     ·exact .inl h
     ·exact .inr ⟨gp,n,hn,.inl h⟩
     ·exact .inr ⟨gp,n,hn,.inr ⟨cN,t,aN,.inl e⟩⟩
     ·exact .inr ⟨gp,n,hn,.inr ⟨cN,t,aN,.inr e⟩⟩
    ·rintro(h|⟨_,b8,gR,h⟩)
     ·exact .inl (.inl (.inl h))
     ·rw[hn]at gR;cases gR;rcases h with h|⟨_,gV,mL,h⟩
      ·exact .inl (.inl (.inr h))
      ·rw[aN]at mL;cases mL;rcases h with h|h
       ·exact .inl (.inr ⟨h,by omega⟩)
       ·exact .inr ⟨h,by omega⟩
   ·unfold nN;rw[set_mk];constructor
    ·rintro(h|⟨e,_⟩)
     ·exact .inl h
     ·exact .inr ⟨gp,n,hn,cN,e⟩
    ·rintro(h|⟨_,b8,gR,_,h⟩)
     ·exact .inl h
     ·rw[hn]at gR;cases gR;exact .inr ⟨h,by omega⟩
  ·have e:jz p s i=(e9 s.1 (cD n),s.2):=by
    unfold jz;rw[if_pos hm,hn];simp only[cN,if_false]
   rw[e];refine⟨by simp[Ec,h1],h2,fun j=> ?_,fun a=> ?_⟩
   ·unfold eR;rw[NQ wZ];constructor
    ·rintro(h|h)
     ·exact .inl h
     ·exact .inr ⟨gp,n,hn,.inl h⟩
    ·rintro(h|⟨_,b8,gR,h⟩)
     ·exact .inl h
     ·rw[hn]at gR;cases gR;exact h.elim .inr (fun h=>absurd h.1 cN)
   ·exact⟨.inl,fun h=>h.elim id (fun⟨_,b8,gR,aB,_⟩=>by rw[hn]at gR;cases gR;exact absurd aB cN)⟩
 ·have gp:¬eR s i:=fun h=>hm (by unfold eR at h;rw[List.getD_eq_getElem?_getD,h];rfl);have e:jz p s i=s:=by unfold jz;rw[if_neg hm]
  rw[e];exact⟨h1,h2,fun j=>⟨.inl,fun h=>h.elim id (fun h=>absurd h.1 gp)⟩,fun a=>⟨.inl,fun h=>h.elim id (fun h=>absurd h.1 gp)⟩⟩
def Inv(p:bH)(s:fe):Prop:=∀(a:Nat) (t:jn),nN s a->p.ca[a]? =some t->eR s t.n.toNat
def Bc(p:bH):Prop:=∀(i:Nat) (n:db),p.aD[i]? =some n->(∀k∈cD n,k.toNat<i)∧(n.op=2->∀t,p.ca[n.a.toNat]? =some t->t.i.toNat<i)
structure Scan(p:bH)(i:Nat)(s R:fe):Prop where
 fp:R.1.length=p.aD.length
 fJ:R.2.length=p.ca.length
 Hd:∀j,eR s j->eR R j
 ew:∀a,nN s a->nN R a
 inv:Inv p R
 sound:∀j,eR R j->∃r,eR s r∧Reach p r j
 new:∀j,eR R j->eR s j∨∃gZ,gZ<i∧vX p gZ j∧∀n,p.aD[gZ]? =some n->n.op=2->nN R n.a.toNat
 proc:∀j,j<i->eR R j->(∀k,vX p j k->eR R k)∨∃a t,p.ca[a]? =some t∧t.n.toNat=j∧nN R a∧¬nN s a
theorem NO{p:bH}(aH:rb p)(av:Bc p):∀(i:Nat) (s:fe),i<=p.aD.length->s.1.length=p.aD.length->s.2.length=p.ca.length->Inv p s->Scan p i s (p7 p i s)
 |0,s,_,h1,h2,b6=>⟨h1,h2,fun _ h=>h,fun _ h=>h,b6,fun j h=>⟨j,h,.refl _⟩,fun j h=>.inl h,fun j h=>absurd h (Nat.not_lt_zero _)⟩
 |i+1,s,ae,h1,h2,b6=>by
  obtain⟨cn,cz,dp,jS⟩:=asv aH h1 h2 (i:=i) (by omega);have Wi:∀j,eR s j->eR (jz p s i) j:=fun j h=>(dp j).2 (.inl h);have Z1:∀a,nN s a->nN (jz p s i) a:=fun a h=>(jS a).2 (.inl h);have aj7:Inv p (jz p s i):=fun a t ha aN=>by
   rcases(jS a).1 ha with h|⟨gp,n,hn,cN,e⟩
   ·exact Wi _ (b6 a t h aN)
   ·subst e;exact(dp _).2 (.inr ⟨gp,n,hn,.inr ⟨cN,t,aN,.inr rfl⟩⟩)
  have a0:=NO aH av i (jz p s i) (by omega) cn cz aj7;show Scan p (i+1) s (p7 p i (jz p s i));generalize p7 p i (jz p s i)=R at *;refine⟨a0.fp,a0.fJ,fun j h=>a0.Hd j (Wi j h),fun a h=>a0.ew a (Z1 a h),a0.inv,fun j h=> ?_,fun j h=> ?_,fun j hj h=> ?_⟩
  ·obtain⟨r,aQ,g⟩:=a0.sound j h;rcases(dp r).1 aQ with h|⟨gp,e⟩
   ·exact⟨r,h,g⟩
   ·exact⟨i,gp,.step e g⟩
  ·rcases a0.new j h with h|⟨gZ,ea,e,g⟩
   ·rcases(dp j).1 h with h|⟨gp,e⟩
    ·exact .inl h
    ·exact .inr ⟨i,by omega,e,fun n hn cN=>a0.ew _ ((jS _).2 (.inr ⟨gp,n,hn,cN,rfl⟩))⟩
   ·exact .inr ⟨gZ,by omega,e,g⟩
  ·by_cases kH:j=i
   ·subst kH;by_cases gp:eR s j
    ·exact .inl fun k U=>a0.Hd k ((dp k).2 (.inr ⟨gp,U⟩))
    ·rcases a0.new j h with h|⟨gZ,ea,⟨n,hn,e⟩,g⟩
     ·exact absurd ((dp j).1 h) (fun h=>h.elim gp (fun h=>gp h.1))
     ·obtain⟨d1,d2⟩:=av gZ n hn;rcases e with⟨k,U,e⟩|⟨cN,t,aN,e|e⟩
      ·have:=d1 k U;omega
      ·have:=d2 cN t aN;omega
      ·refine .inr ⟨_,t,aN,e,g n hn cN,fun h=>gp ?_⟩;rw[<-e];exact b6 _ t h aN
   ·rcases a0.proc j (by omega) h with h|⟨a,t,fM,A1,A2,On⟩
    ·exact .inl h
    ·exact .inr ⟨a,t,fM,A1,A2,fun h=>On (Z1 a h)⟩
theorem QE:∀(l m:List Bool),l.length=m.length->(∀a:Nat,l[a]? =some true->m[a]? =some true)->m.count false<=l.count false∧((∃a:Nat,m[a]? =some true∧¬l[a]? =some true)->m.count false<l.count false)
 |[],[],_,_=>⟨Nat.le_refl _,fun⟨a,h,_⟩=>by simp at h⟩
 |x::l,y::m,hl,h=>by
  obtain⟨i1,i2⟩:=QE l m (by simpa using hl) (fun a ha=>by simpa using h (a+1) (by simpa using ha));have h0:x=true->y=true:=fun e=>by have:=h 0 (by simp[e]);simpa using this
  simp only[List.count_cons];have GB:(if(y==false)=true then 1 else 0)<=(if(x==false)=true then 1 else 0):=by
   cases x<;>cases y<;>simp_all
  refine⟨by omega,fun⟨a,ha,aa⟩=> ?_⟩;cases a with
  |zero=>
   simp at ha aa;subst ha;have:x=false:=by cases x<;>simp_all
   subst this;simp;omega
  |succ a=>
   have:=i2 ⟨a,by simpa using ha,by simpa using aa⟩;omega
def EF(p:bH)(s:fe):Prop:=∀j k,eR s j->vX p j k->eR s k
theorem Zt{p:bH}{s:fe}(h:EF p s){r j:Nat}(g:Reach p r j)(aQ:eR s r):eR s j:=by
 induction g with
 |refl=>exact aQ
 |step e _ a0=>exact a0 (h _ _ aQ e)
theorem Y1{p:bH}(aH:rb p)(av:Bc p):∀(r:Nat) (s:fe),s.1.length=p.aD.length->s.2.length=p.ca.length->Inv p s->
 (∀j,eR s j->eR (qX p r s) j)∧(∀j,eR (qX p r s) j->∃q,eR s q∧Reach p q j)∧((EF p s∨s.2.count false<r)->EF p (qX p r s))
 |0,s,_,_,_=>⟨fun _ h=>h,fun j h=>⟨j,h,.refl _⟩,fun h=>h.elim id (fun h=>absurd h (Nat.not_lt_zero _))⟩
 |r+1,s,h1,h2,b6=>by
  have gG:=NO aH av p.aD.length s (Nat.le_refl _) h1 h2 b6;show _∧_∧(_->EF p (qX p r (p7 p p.aD.length s)));have e:qX p (r+1) s=qX p r (p7 p p.aD.length s):=rfl;rw[e];generalize p7 p p.aD.length s=R at *;obtain⟨aL,aR,a7⟩:=Y1 aH av r R gG.fp gG.fJ gG.inv;refine⟨fun j h=>aL j (gG.Hd j h),fun j h=> ?_,fun h=>a7 ?_⟩
  ·obtain⟨q,hq,a⟩:=aR j h;obtain⟨fg,w7,b⟩:=gG.sound q hq;have asI:∀{x y z},Reach p x y->Reach p y z->Reach p x z:=fun h g=>by
    induction h with
    |refl=>exact g
    |step e _ a0=>exact .step e (a0 g)
   exact⟨fg,w7,asI b a⟩
  ·rcases h with h|h
   ·refine .inl fun j k hj e=> ?_;obtain⟨q,hq,a⟩:=gG.sound j hj;exact gG.Hd k (h _ _ (Zt h a hq) e)
   ·by_cases hn:∃a:Nat,R.2[a]? =some true∧¬s.2[a]? =some true
    ·have:=(QE s.2 R.2 (h2.trans gG.fJ.symm) gG.ew).2 hn;exact .inr (by omega)
    ·refine .inl fun j k hj e=> ?_;have e6:j<p.aD.length:=by rw[<-gG.fp];exact(List.getElem?_eq_some_iff.1 hj).1
     rcases gG.proc j e6 hj with h|⟨a,t,_,_,A2,On⟩
     ·exact h k e
     ·exact absurd ⟨a,A2,On⟩ hn
def lH(p:bH):fe:=qX p (p.ca.length+2) ((List.replicate p.aD.length false).set p.out.toNat true,List.replicate p.ca.length false)
theorem anO{p:bH}(aH:rb p)(av:Bc p)(ak:eb p.out p.aD.length)(j:Nat):eR (lH p) j↔Reach p p.out.toNat j:=by
 have gu:p.out.toNat<p.aD.length:=by have:=ak.1;have:=ak.2;omega
 have xx:∀j,eR (((List.replicate p.aD.length false).set p.out.toNat true,List.replicate p.ca.length false):fe) j↔j=p.out.toNat:=fun j=>by
  unfold eR;rw[set_mk,List.getElem?_replicate];constructor
  ·rintro(h|⟨h,_⟩)
   ·split at h<;>cases h
   ·exact h.symm
  ·intro h;exact .inr ⟨h.symm,by simpa using gu⟩
 have t0:∀a,¬nN (((List.replicate p.aD.length false).set p.out.toNat true,List.replicate p.ca.length false):fe) a:=fun a h=>by
  unfold nN at h;rw[List.getElem?_replicate]at h;split at h<;>cases h
 obtain⟨aL,aR,a7⟩:=Y1 aH av (p.ca.length+2) ((List.replicate p.aD.length false).set p.out.toNat true,List.replicate p.ca.length false) (by simp) (by simp) (fun a t h=>absurd h (t0 a));constructor
 ·intro h;obtain⟨q,hq,g⟩:=aR j h;rw[(xx q).1 hq]at g;exact g
 ·intro h;exact Zt (a7 (.inr (by simp))) h (aL _ ((xx _).2 rfl))
theorem anR{p:bH}(aH:rb p)(av:Bc p)(ak:eb p.out p.aD.length)(hl:p.aD.length<=64)(j:Nat):(jO p).1[j]? =some true↔(lH p).1[j]? =some true:=
 (anQ aH ak hl j).trans (anO aH av ak j).symm
theorem an7{p:bH}{i:Nat}{n:db}(h:lI p i n=0):(∀k∈cD n,k.toNat<i)∧(n.op=2->p.head<=(i:Int)):=by
 unfold lI at h;split at h
 ·cases h
 split at h
 ·cases h
 split at h
 ·cases h
 split at h
 ·cases h
 split at h
 ·cases h
 rename_i cn cz dp jS tv;refine⟨?_,fun h2=>Int.not_lt.1 fun hn=>tv ⟨h2,.inl hn⟩⟩;split at h
 ·rename_i h3;intro k U;have:cD n=[]:=by
   unfold cD;rw[if_pos (Classical.byContradiction fun hn=>cn (.inl hn)),h3];rfl
  rw[this]at U;cases U
 ·split at h
  ·rename_i ez;intro k U;have:=List.all_eq_true.1 ez k U;unfold r9 at this;have:=of_decide_eq_true this;omega
  ·cases h
theorem asq{p:bH}{i:Nat}{s:jn}(h:sc p i s=0):0<=s.i∧s.i<p.head:=by
 unfold sc at h;split at h
 ·cases h
 ·rename_i q;exact Classical.byContradiction fun hn=>q (.inl hn)
theorem Qk{p:bH}(h:bK p=(0,0,0)):Bc p:=by
 unfold bK at h;split at h
 case isFalse aO=>exact absurd (congrArg (fun x:Int×Int×Int=>x.2.2) h) aO
 rename_i aO;obtain⟨_,_,_,_,zQ,zR,L4⟩:=zi aO;unfold kV at h;have z:∀{x y:Int×Int×Int},x=y->x.1=y.1:=fun h=>by rw[h]
 cases aA:eD (ll p) p.fs 0 with
 |some x=>rw[aA]at h;have:=z h;simp at this
 |none=>
 rw[aA]at h;cases e2:eD (ln p) p.ins 0 with
 |some x=>rw[e2]at h;have:=z h;simp at this
 |none=>
 rw[e2]at h;cases b0:eD (lo p) p.aD 0 with
 |some x=>rw[b0]at h;have:=z h;simp at this
 |none=>
 rw[b0]at h;cases eS:eD (lQ p) p.ca 0 with
 |some x=>rw[eS]at h;have:=z h;simp at this
 |none=>
 rw[eS]at h;by_cases j5:¬eb p.out p.aD.length∨fB p p.out=1
 ·have h:(if¬eb p.out p.aD.length∨fB p p.out=1 then((5,0,7):Int×Int×Int)else(0,0,0))=(0,0,0):=h;rw[if_pos j5]at h;have:=z h;simp at this
 ·intro i n hn;have a:=ze b0 i n hn;rw[Nat.zero_add]at a;obtain⟨d1,d2⟩:=an7 a;refine⟨d1,fun cN t aN=> ?_⟩;have c:=asq (ze eS _ t aN);have:=d2 cN;omega
structure gj where
 gs:List Int
 cs:List Int
 hZ:List UInt8
 bits:Int
 splits:Int
 yv:Int
 anB:Bool
 arT:Bool
def mn(t:gj):List af:=[.bS 1 Int cw t.gs,.bS 1 Int cw t.cs,.s t.hZ,.i .i64 t.bits,.i .i64 t.splits,.i .i64 t.yv,.b t.anB,.b t.arT]
def p8(t:gj):af:=.agg (mn t)
def lF:List Int->Int->Int
 |[],n=>n
 |g::l,n=>lF l (if n<=g then g+1 else n)
def many(l:List Int):Int:=lF l 0
theorem Wa:∀(l:List Int) (m n:Int),n=max 0 (1+m)->lF l n=max 0 (1+l.foldl max m)
 |[],m,n,h=>h
 |g::l,m,n,h=>by
  unfold lF;rw[List.foldl_cons];refine Wa l (max m g) _ ?_;split<;>omega
theorem anA(l:List Int):max 0 (1+l.foldl max (-1))=many l:=(Wa l (-1) 0 (by omega)).symm
theorem Mj{k:Int}:∀(l:List Int) (n:Int),0<=n->n<=k->(∀g∈l,g<k)->0<=lF l n∧lF l n<=k
 |[],n,h0,h1,_=>⟨h0,h1⟩
 |g::l,n,h0,h1,h=>by
  unfold lF;have:=h g List.mem_cons_self;refine Mj l _ ?_ ?_ (fun g aO=>h g (List.mem_cons_of_mem _ aO))<;>split<;>omega
theorem V9:∀(l:List Int) (n:Int),n<=lF l n
 |[],n=>Int.le_refl n
 |g::l,n=>by
  unfold lF;have:=V9 l (if n<=g then g+1 else n);split at this<;>rename_i h
  ·rw[if_pos h];omega
  ·rw[if_neg h];omega
theorem Ha:∀(l:List Int) (n:Int) (g:Int),g∈l->g<lF l n
 |x::l,n,g,h=>by
  unfold lF;rcases List.mem_cons.1 h with rfl|h
  ·have:=V9 l (if n<=g then g+1 else n);split at this<;>rename_i h
   ·rw[if_pos h];omega
   ·rw[if_neg h];omega
  ·exact Ha l _ g h
def uM(g:Int):Bool:=decide (-1<=g∧g<4)
def uw(c:Int):Bool:=decide (0<=c∧c<=1000000)
def pz(l:List Int)(k:Nat):Bool:=l.any fun g=>decide ((k:Int)=g)
def jU(p:bH)(t:gj):Int:=
 if(bK p).2.2≠0 then(bK p).2.2
 else if t.gs.length≠p.aD.length∨t.cs.length≠p.fs.length then 2
 else if t.gs.all uM=false then 7
 else if(List.range (many t.gs).toNat).all (pz t.gs)=false then 7
 else if t.cs.all uw=false then 7
 else match gT t.hZ with
  |none=>6
  |some x=>if x.num<0 then 7 else 0
def g5(p:bH)(t:gj)(fs:List Int):Int:=
 if jU p t≠0 then jU p t
 else if(fs.length:Int)≠many t.gs then 2
 else if fs.all (fun f=>decide (eb f p.fs.length))=false then 7
 else 0
structure OP(p:bH)(t:gj):Prop where
 bK:bK p=(0,0,0)
 qK:t.gs.length=p.aD.length
 lc:t.cs.length=p.fs.length
 gs:∀g∈t.gs,-1<=g∧g<4
 cs:∀c∈t.cs,0<=c∧c<=1000000
theorem I6{p:bH}{t:gj}(h:jU p t=0):OP p t:=by
 unfold jU at h;by_cases h1:(bK p).2.2≠0
 ·rw[if_pos h1]at h;exact absurd h h1
 rw[if_neg h1]at h;by_cases h2:t.gs.length≠p.aD.length∨t.cs.length≠p.fs.length
 ·rw[if_pos h2]at h;cases h
 rw[if_neg h2]at h;by_cases h3:t.gs.all uM=false
 ·rw[if_pos h3]at h;cases h
 rw[if_neg h3]at h;by_cases ay:(List.range (many t.gs).toNat).all (pz t.gs)=false
 ·rw[if_pos ay]at h;cases h
 rw[if_neg ay]at h;by_cases aY:t.cs.all uw=false
 ·rw[if_pos aY]at h;cases h
 exact⟨E4 (Classical.byContradiction h1),Classical.byContradiction fun h=>h2 (.inl h),Classical.byContradiction fun h=>h2 (.inr h),fun g aO=>of_decide_eq_true (List.all_eq_true.1 (eq_true_of_ne_false h3) g aO),fun c hc=>of_decide_eq_true (List.all_eq_true.1 (eq_true_of_ne_false aY) c hc)⟩
structure tT(p:bH)(t:gj)(fs:List Int):Prop extends OP p t where
 cd:(fs.length:Int)=many t.gs
 fs:∀f∈fs,eb f p.fs.length
theorem EW{p:bH}{t:gj}{fs:List Int}(h:g5 p t fs=0):tT p t fs:=by
 unfold g5 at h;by_cases h1:jU p t≠0
 ·rw[if_pos h1]at h;exact absurd h h1
 rw[if_neg h1]at h;by_cases h2:(fs.length:Int)≠many t.gs
 ·rw[if_pos h2]at h;cases h
 rw[if_neg h2]at h;by_cases h3:fs.all (fun f=>decide (eb f p.fs.length))=false
 ·rw[if_pos h3]at h;cases h
 exact⟨I6 (Classical.byContradiction h1),Classical.byContradiction h2,fun f ab=>of_decide_eq_true (List.all_eq_true.1 (eq_true_of_ne_false h3) f ab)⟩
def gk(p:bH)(gs fs:List Int):List Int:=List.zipWith (fun g (n:db)=>if 0<=g then fs.getD g.toNat 0 else n.f) gs p.aD
theorem re{p:bH}{gs fs:List Int}(h:gs.length=p.aD.length):(gk p gs fs).length=p.aD.length:=by unfold gk;rw[List.length_zipWith,h,Nat.min_self]
def lp(p:bH)(cs:List Int)(mO:List Bool):List Int->Nat->Int
 |[],_=>0
 |f::l,i=>(if mO.getD i false=true∧3<((p.aD[i]?).map db.op).getD 0 then cs.getD f.toNat 0 else 0)+lp p cs mO l (i+1)
def n6(p:bH)(fs:List Int):bH:={p with aD:=List.zipWith (fun(n:db) f=>{n with f:=f}) p.aD fs}
def nM:bH:=⟨[],0,[],[],0,0,[],0⟩
def o0(p:bH)(fs:List Int):Int:=
 if(bK p).2.2≠0 then(bK p).2.2
 else if fs.length≠p.aD.length then 2
 else if fs.all (fun f=>decide (eb f p.fs.length))=false then 7
 else(bK (n6 p fs)).2.2
def qc(p:bH)(fs:List Int):af:=.bB [ed (if o0 p fs=0 then n6 p fs else nM),.i .i64 (o0 p fs)]
theorem QA{p:bH}(cs:List Int){n m:List Bool}(h:∀j:Nat,n[j]? =some true↔m[j]? =some true):∀(l:List Int) (i:Nat),lp p cs n l i=lp p cs m l i
 |[],_=>rfl
 |f::l,i=>by
  have aa:∀l:List Bool,l.getD i false=true↔l[i]? =some true:=fun l=>by
   rw[List.getD_eq_getElem?_getD];cases l[i]? with
   |none=>simp
   |some b=>simp
  unfold lp;rw[QA cs h l (i+1)];simp only[aa,h i]
theorem Kb(K:List (Nat×Spec)){f:FuncId}(xf:df){S:q9}(h:∀l,S.pre l->∀H aJ,S.hp H->a2.ok ⟨cC aW (c0 aC.ctx (cc K)) (ba+1),ba+1,f,H,[],aJ,OK S l xf.res⟩ ⟨[],.c xf.body,⟨[],0,lS 0 (S.args l)⟩⟩)
 (J:aW.get f=some xf:=by kernel_rfl) (hl:∀l,(S.args l).length<=xf.aS:=by exact fun _=>Nat.le_of_ble_eq_true rfl):bg aC.ctx f S.spec:=aeP aC.cv cA (cc K) J hl h
def yV(z:Nat)(α:Type)(R:α->List af):bE where
 L:=List α
 args:=fun l=>[.bS z α R l]
 pre:=fun l=>l.length<=1000000
 res:=fun l=>.bS z α R l
def uE(z:Nat)(α:Type)(R:α->List af):bE where
 L:=List α
 args:=fun l=>[.bS z α R l,.bS z α R l]
 pre:=fun l=>l.length<=1000000
 res:=fun _=>.b true
theorem acY:bg aC.ctx 142 (yV 2 (Int×Int) m6).spec:=by
 refine bR [] R4.1 ?_;intro(l:List (Int×Int)) (hl:l.length<=1000000) H aJ
 repeat refine I ?_
 refine D3 ?_ (fun h=> ?_)
 ·repeat refine I ?_
  refine mh (z:=2) 0 m6 ([]:List (Int×Int)) ?_;refine AH 5 (.a6 0 2 0 0 0) rfl GX ?_;by_cases hne:l=[]
  ·subst hne;refine AF (R:=m6) (lL rfl (fun _=>rfl) (fun _=>rfl)) ?_;refine hD 7 ?_
   repeat refine I ?_
   exact aw rfl (.refl _)
  ·refine x7 (R:=m6) l (lL rfl (fun _=>rfl) (fun _=>rfl)) l ?_ (h0:=hne) (zD:=by have:=List.length_pos_iff.2 hne;omega);refine hD 7 ?_
   repeat refine I ?_
   exact aw rfl (.refl _)
 ·repeat refine I ?_
  subst h;exact aw rfl .nl
theorem acZ:bg aC.ctx 143 (yV 3 iH lZ).spec:=by
 refine bR [] R5.1 ?_;intro(l:List iH) (hl:l.length<=1000000) H aJ
 repeat refine I ?_
 refine D3 ?_ (fun h=> ?_)
 ·repeat refine I ?_
  refine mh (z:=3) 0 lZ ([]:List iH) ?_;refine AH 5 (.a6 0 3 0 0 0) rfl GX ?_;by_cases hne:l=[]
  ·subst hne;refine AF (R:=lZ) (lL rfl (fun _=>rfl) (fun _=>rfl)) ?_;refine hD 7 ?_
   repeat refine I ?_
   exact aw rfl (.refl _)
  ·refine x7 (R:=lZ) l (lL rfl (fun _=>rfl) (fun _=>rfl)) l ?_ (h0:=hne) (zD:=by have:=List.length_pos_iff.2 hne;omega);refine hD 7 ?_
   repeat refine I ?_
   exact aw rfl (.refl _)
 ·repeat refine I ?_
  subst h;exact aw rfl .nl
theorem ac0:bg aC.ctx 145 (yV 2 jn nF).spec:=by
 refine bR [] R7.1 ?_;intro(l:List jn) (hl:l.length<=1000000) H aJ
 repeat refine I ?_
 refine D3 ?_ (fun h=> ?_)
 ·repeat refine I ?_
  refine mh (z:=2) 0 nF ([]:List jn) ?_;refine AH 5 (.a6 0 2 0 0 0) rfl GX ?_;by_cases hne:l=[]
  ·subst hne;refine AF (R:=nF) (lL rfl (fun _=>rfl) (fun _=>rfl)) ?_;refine hD 7 ?_
   repeat refine I ?_
   exact aw rfl (.refl _)
  ·refine x7 (R:=nF) l (lL rfl (fun _=>rfl) (fun _=>rfl)) l ?_ (h0:=hne) (zD:=by have:=List.length_pos_iff.2 hne;omega);refine hD 7 ?_
   repeat refine I ?_
   exact aw rfl (.refl _)
 ·repeat refine I ?_
  subst h;exact aw rfl .nl
theorem afQ:bg aC.ctx 36 (uE 2 (Int×Int) m6).spec:=by
 refine bR [] Tn.1 ?_;intro(l:List (Int×Int)) (hl:l.length<=1000000) H aJ
 repeat refine al 10 ?_
 refine v0 10 (fb (rfl:(l.length:Int)=l.length)) ?_
 repeat refine I ?_
 refine cG (L:=Nat) (fun k=>k<=l.length) (fun(k:Nat)=>⟨[],0,[(0,.bS 2 (Int×Int) m6 l),(1,.bS 2 (Int×Int) m6 l),(6,.bS 2 (Int×Int) m6 l),(7,.i .i64 (l.length:Int)),(11,.bS 2 (Int×Int) m6 l),(12,.i .i64 (l.length:Int)),(13,.i .i64 (k:Int))]⟩) (fun k=>l.length-k) [] 0 (Nat.zero_le _) (by show _-0<ba+1;unfold ba;omega) ei ?_;rintro(k:Nat) U
 repeat refine al 14 ?_
 by_cases aP:k<l.length
 ·refine v1 14 (show(k:Int)<l.length by omega) ?_
  repeat refine I ?_
  refine gm l[k] (a9 aP) ?_
  repeat refine I ?_
  refine gm l[k] (a9 aP) ?_
  repeat refine I ?_
  refine Fj ?_
  repeat refine al 25 ?_
  refine dW 25 ((k+1:Nat):Int) ?_
  repeat refine I ?_
  exact bc [] (k+1) ⟨by omega,aP⟩ ei
 ·refine v0 14 (show¬(k:Int)<l.length by omega) ?_
  repeat refine I ?_
  exact aw rfl (.refl _)
theorem afT:bg aC.ctx 37 (uE 3 iH lZ).spec:=by
 refine bR [] To.1 ?_;intro(l:List iH) (hl:l.length<=1000000) H aJ
 repeat refine al 10 ?_
 refine v0 10 (fb (rfl:(l.length:Int)=l.length)) ?_
 repeat refine I ?_
 refine cG (L:=Nat) (fun k=>k<=l.length) (fun(k:Nat)=>⟨[],0,[(0,.bS 3 iH lZ l),(1,.bS 3 iH lZ l),(6,.bS 3 iH lZ l),(7,.i .i64 (l.length:Int)),(11,.bS 3 iH lZ l),(12,.i .i64 (l.length:Int)),(13,.i .i64 (k:Int))]⟩) (fun k=>l.length-k) [] 0 (Nat.zero_le _) (by show _-0<ba+1;unfold ba;omega) ei ?_;rintro(k:Nat) U
 repeat refine al 14 ?_
 by_cases aP:k<l.length
 ·refine v1 14 (show(k:Int)<l.length by omega) ?_
  repeat refine I ?_
  refine gm l[k] (a9 aP) ?_
  repeat refine I ?_
  refine gm l[k] (a9 aP) ?_
  repeat refine I ?_
  refine Fj ?_
  repeat refine al 25 ?_
  refine dW 25 ((k+1:Nat):Int) ?_
  repeat refine I ?_
  exact bc [] (k+1) ⟨by omega,aP⟩ ei
 ·refine v0 14 (show¬(k:Int)<l.length by omega) ?_
  repeat refine I ?_
  exact aw rfl (.refl _)
theorem afV:bg aC.ctx 38 (uE 7 db gf).spec:=by
 refine bR [] Tp.1 ?_;intro(l:List db) (hl:l.length<=1000000) H aJ
 repeat refine al 10 ?_
 refine v0 10 (fb (rfl:(l.length:Int)=l.length)) ?_
 repeat refine I ?_
 refine cG (L:=Nat) (fun k=>k<=l.length) (fun(k:Nat)=>⟨[],0,[(0,.bS 7 db gf l),(1,.bS 7 db gf l),(6,.bS 7 db gf l),(7,.i .i64 (l.length:Int)),(11,.bS 7 db gf l),(12,.i .i64 (l.length:Int)),(13,.i .i64 (k:Int))]⟩) (fun k=>l.length-k) [] 0 (Nat.zero_le _) (by show _-0<ba+1;unfold ba;omega) ei ?_;rintro(k:Nat) U
 repeat refine al 14 ?_
 by_cases aP:k<l.length
 ·refine v1 14 (show(k:Int)<l.length by omega) ?_
  repeat refine I ?_
  refine gm l[k] (a9 aP) ?_
  repeat refine I ?_
  refine gm l[k] (a9 aP) ?_
  repeat refine I ?_
  refine Fj ?_
  repeat refine al 25 ?_
  refine dW 25 ((k+1:Nat):Int) ?_
  repeat refine I ?_
  exact bc [] (k+1) ⟨by omega,aP⟩ ei
 ·refine v0 14 (show¬(k:Int)<l.length by omega) ?_
  repeat refine I ?_
  exact aw rfl (.refl _)
theorem af1:bg aC.ctx 39 (uE 2 jn nF).spec:=by
 refine bR [] Tu.1 ?_;intro(l:List jn) (hl:l.length<=1000000) H aJ
 repeat refine al 10 ?_
 refine v0 10 (fb (rfl:(l.length:Int)=l.length)) ?_
 repeat refine I ?_
 refine cG (L:=Nat) (fun k=>k<=l.length) (fun(k:Nat)=>⟨[],0,[(0,.bS 2 jn nF l),(1,.bS 2 jn nF l),(6,.bS 2 jn nF l),(7,.i .i64 (l.length:Int)),(11,.bS 2 jn nF l),(12,.i .i64 (l.length:Int)),(13,.i .i64 (k:Int))]⟩) (fun k=>l.length-k) [] 0 (Nat.zero_le _) (by show _-0<ba+1;unfold ba;omega) ei ?_;rintro(k:Nat) U
 repeat refine al 14 ?_
 by_cases aP:k<l.length
 ·refine v1 14 (show(k:Int)<l.length by omega) ?_
  repeat refine I ?_
  refine gm l[k] (a9 aP) ?_
  repeat refine I ?_
  refine gm l[k] (a9 aP) ?_
  repeat refine I ?_
  refine Fj ?_
  repeat refine al 25 ?_
  refine dW 25 ((k+1:Nat):Int) ?_
  repeat refine I ?_
  exact bc [] (k+1) ⟨by omega,aP⟩ ei
 ·refine v0 14 (show¬(k:Int)<l.length by omega) ?_
  repeat refine I ?_
  exact aw rfl (.refl _)
def VY:bE where
 L:=bH
 args:=fun p=>[ed p,ed p]
 pre:=fun p=>p.fs.length<=1000000∧p.ins.length<=1000000∧p.aD.length<=1000000∧p.ca.length<=1000000
 res:=fun _=>.b true
theorem anq:bg aC.ctx 12 VY.spec:=by
 refine bR [(36,(uE 2 (Int×Int) m6).spec),(37,(uE 3 iH lZ).spec),(38,(uE 7 db gf).spec),(39,(uE 2 jn nF).spec)] RH.1 ?_;intro(p:bH) ⟨fp,fJ,l1,xr⟩ H aJ
 repeat refine al 9 ?_
 refine v1 9 (rfl:p.mode=p.mode) ?_
 repeat refine al 15 ?_
 refine v1 15 (rfl:p.head=p.head) ?_
 repeat refine al 22 ?_
 refine v1 22 (rfl:p.tail=p.tail) ?_
 repeat refine al 29 ?_
 refine v1 29 (rfl:p.out=p.out) ?_
 repeat refine I ?_
 refine aX afQ p.fs fp ?_
 repeat refine I ?_
 refine aX afT p.ins fJ ?_
 repeat refine I ?_
 refine aX afV p.aD l1 ?_
 repeat refine I ?_
 refine aX af1 p.ca xr ?_
 repeat refine I ?_
 exact aw rfl (.refl _)
def Qv:q9 where
 L:=List db
 args:=fun l=>[.bS 7 db gf l]
 pre:=fun l=>l≠[]∧l.length<=1000000
 new:=fun l=>[.a 87 true 7 db gf l]
 res:=fun l=>.a6 0 7 0 l.length l.length
theorem ac2:bg aC.ctx 144 Qv.spec:=by
 refine Kb [] R6.1 ?_;intro(l:List db) ⟨hne,hl⟩ H aJ _
 repeat refine I ?_
 refine D3 ?_ (fun h=>absurd h hne)
 repeat refine I ?_
 refine mh (z:=7) 0 gf ([]:List db) ?_;refine AH 5 (.a6 0 7 0 0 0) rfl GX ?_;refine x7 (R:=gf) l (lL rfl (fun _=>rfl) (fun _=>rfl)) l ?_ (h0:=hne) (zD:=by have:=List.length_pos_iff.2 hne;omega);refine az 7 (.a6 1 7 0 l.length l.length) rfl (by rw[Nat.zero_add]) ?_
 repeat refine I ?_
 exact mi ⟨.inr rfl,[1],_,rfl,rfl,⟨by simp,rfl,⟨⟨_,rfl,rfl,fun _=>rfl⟩,trivial⟩,trivial,rfl⟩⟩
def uu(p:bH)(k:Nat):List af:=[.bS 2 (Int×Int) m6 p.fs,.i .i64 p.mode,.bS 3 iH lZ p.ins,.a6 k 7 0 p.aD.length p.aD.length,.i .i64 p.head,.i .i64 p.tail,.bS 2 jn nF p.ca,.i .i64 p.out]
def VO:q9 where
 L:=bH
 args:=fun p=>[ed p]
 pre:=fun p=>p.aD≠[]∧p.fs.length<=1000000∧p.ins.length<=1000000∧p.aD.length<=1000000∧p.ca.length<=1000000
 new:=fun p=>[.a 87 true 7 db gf p.aD]
 res:=fun p=>.agg (uu p 0)
theorem anb:bg aC.ctx 78 VO.spec:=by
 refine Kb [(142,(yV 2 (Int×Int) m6).spec),(143,(yV 3 iH lZ).spec),(144,Qv.spec),(145,(yV 2 jn nF).spec)] T2.1 ?_;intro(p:bH) ⟨hne,fp,fJ,l1,xr⟩ H aJ _
 repeat refine I ?_
 refine ck acY p.fs fp ?_
 repeat refine I ?_
 refine ck acZ p.ins fJ ?_
 repeat refine I ?_
 refine aeY ac2 p.aD ⟨hne,l1⟩ ?_
 repeat refine I ?_
 refine ck ac0 p.ca xr ?_
 repeat refine I ?_
 exact mi ⟨.inr rfl,[2],_,rfl,rfl,⟨by simp,rfl,⟨⟨_,rfl,rfl,fun _=>rfl⟩,trivial⟩,trivial,rfl⟩⟩
theorem Dd:b3 (.agg [.nl,.i .i64 0,.nl,.nl,.i .i64 0,.i .i64 0,.nl,.i .i64 0]) (ed nM):=.agg ⟨.nl,.refl _,.nl,.nl,.refl _,.refl _,.nl,.refl _,trivial⟩
def Qh:bE where
 L:=bH
 args:=fun p=>[ed p]
 pre:=iY
 res:=fun p=>.bB [ed (if(bK p).2.2=0 then p else nM),.i .i64 (bK p).2.2]
 hp:=gX
 hm:=gX.up
theorem acT:bg aC.ctx 79 Qh.spec:=by
 refine ou [(77,Jc.spec)] T3.1 ?_;intro(p:bH) hp H aJ dX
 repeat refine I ?_
 refine aX Om p hp ?_ (hh:=dX);refine az 6 (.i .i64 (bK p).2.2) rfl rfl ?_
 repeat refine al 8 ?_
 by_cases h0:(bK p).2.2=0
 case neg=>
  refine v1 8 h0 ?_
  repeat refine I ?_
  exact aw rfl (.bB ⟨.trans Dd (.of (by rw[if_neg h0])),.refl _,trivial⟩)
 refine v0 8 (fb h0) ?_
 repeat refine I ?_
 exact aw rfl (.of (by show _=af.bB _;rw[if_pos h0,h0];rfl))
theorem Jj{α β yy:Type}(g:α->β->yy){l:List α}{m:List β}(h:m.length=l.length):(List.zipWith g l m).length=l.length:=by rw[List.length_zipWith,h,Nat.min_self]
def tt{α β:Type}(g:α->β->α)(l:List α)(m:List β)(j:Nat):List α:=List.zipWith g (l.take j) (m.take j)++l.drop j
theorem Xx{α β:Type}(g:α->β->α){l:List α}{m:List β}(h:m.length=l.length):tt g l m l.length=List.zipWith g l m:=by
 unfold tt;rw[List.take_length,<-h,List.take_length,h,List.drop_length,List.append_nil]
theorem Xy{α β:Type}(g:α->β->α){l:List α}{m:List β}(h:m.length=l.length){j:Nat}(hj:j<l.length):(tt g l m j)[j]? =some l[j]:=by
 unfold tt;have hl:(List.zipWith g (l.take j) (m.take j)).length=j:=by rw[Jj g (by simp[h]),List.length_take];omega
 rw[List.getElem?_append_right (by omega),hl,Nat.sub_self,List.getElem?_drop,Nat.add_zero,a9 hj]
theorem Xz{α β:Type}(g:α->β->α){l:List α}{m:List β}(h:m.length=l.length){j:Nat}(hj:j<l.length)(hm:j<m.length):(tt g l m j).set j (g l[j] m[j])=tt g l m (j+1):=by
 unfold tt;have hl:(List.zipWith g (l.take j) (m.take j)).length=j:=by rw[Jj g (by simp[h]),List.length_take];omega
 rw[List.set_append_right _ _ (by omega),hl,Nat.sub_self,hf hj,List.take_succ_eq_append_getElem hj,List.take_succ_eq_append_getElem hm,List.zipWith_append (by simp[h]),List.set_cons_zero,List.append_assoc];rfl
theorem Zr{p:bH}(h:iY p)(fs:List Int):iY (n6 p fs):=by
 refine⟨h.1,fun n hn=> ?_⟩;obtain⟨i,ae,rfl⟩:=List.mem_iff_getElem.1 hn;have ae:i<(List.zipWith (fun(n:db) f=>({n with f:=f}:db)) p.aD fs).length:=ae;show((List.zipWith (fun(n:db) f=>({n with f:=f}:db)) p.aD fs)[i]).v.length<=2000;rw[List.getElem_zipWith];have h2:i<p.aD.length:=by rw[List.length_zipWith]at ae;omega
 exact h.2 p.aD[i] (List.getElem_mem h2)
def n7(n:db)(f:Int):db:={n with f:=f}
theorem Ql{p:bH}(h:bK p=(0,0,0)):p.fs.length<=6∧p.ins.length<=6∧p.aD.length<=64∧p.ca.length<=4:=by
 unfold bK at h;split at h
 ·rename_i aO;obtain⟨h1,h2,h3,ay,_⟩:=zi aO;exact⟨h1,h2,h3,ay⟩
 ·rename_i aO;exact absurd (congrArg (fun x:Int×Int×Int=>x.2.2) h) aO
theorem agB(p:bH)(l:List db):wF 2 7 p.aD.length (.bS 7 db gf l) (.agg (uu p 2))=ed {p with aD:=l}:=by
 unfold uu;simp only[wF,uI];rw[show Nat.beq p.aD.length p.aD.length=true from Nat.beq_refl _];rfl
def G5:bE where
 L:=bH×List Int
 args:=fun(p,fs)=>[ed p,.bS 1 Int cw fs]
 pre:=fun(p,fs)=>iY p∧fs.length<=1000000
 res:=fun(p,fs)=>qc p fs
 hp:=gX
 hm:=gX.up
theorem anr:bg aC.ctx 33 G5.spec:=by
 refine ou [(77,Jc.spec),(78,VO.spec),(58,qd.spec),(79,Qh.spec)] Tc.1 ?_;intro⟨p,fs⟩ ⟨hp,ab⟩ H aJ dX;have hp:iY p:=hp;have ab:fs.length<=1000000:=ab;have aU:∀{c:Int},c≠0->o0 p fs=c->b3 (.bB [.agg [.nl,.i .i64 0,.nl,.nl,.i .i64 0,.i .i64 0,.nl,.i .i64 0],.i .i64 c]) (G5.res (p,fs)):=fun hc h=>.bB ⟨.trans Dd (.of (by rw[h,if_neg hc])),.of (by rw[h]),trivial⟩
 repeat refine I ?_
 refine aX Om p hp ?_ (hh:=dX);refine az 11 (.i .i64 (bK p).2.2) rfl rfl ?_
 repeat refine al 13 ?_
 by_cases h0:(bK p).2.2=0
 case neg=>
  refine v1 13 h0 ?_
  repeat refine I ?_
  exact aw rfl (aU h0 (if_pos h0))
 refine v0 13 (fb h0) ?_;have hc:=E4 h0;obtain⟨hL,pE⟩:=sA hc;have ko:=(wi hc).2;have hne:p.aD≠[]:=fun e=>by have h1:=ko.1;have h2:=ko.2;rw[e]at h2;simp at h2;omega
 obtain⟨cZ,dz,lP,rf⟩:=Ql hc
 repeat refine al 21 ?_
 by_cases h1:fs.length=p.aD.length
 case neg=>
  refine v1 21 (show¬((fs.length:Int)=(p.aD.length:Int)) by omega) ?_
  repeat refine I ?_
  exact aw rfl (aU (by decide) ((if_neg (fun h=>h h0)).trans (if_pos h1)))
 refine v0 21 (show¬¬((fs.length:Int)=(p.aD.length:Int)) by omega) ?_;have aA:∀{c:Int},c≠0->(if fs.all (fun f=>decide (eb f p.fs.length))=false then 7 else(bK (n6 p fs)).2.2)=c->b3 (.bB [.agg [.nl,.i .i64 0,.nl,.nl,.i .i64 0,.i .i64 0,.nl,.i .i64 0],.i .i64 c]) (G5.res (p,fs)):=fun hc h=>aU hc ((if_neg (fun h=>h h0)).trans ((if_neg (fun h=>h h1)).trans h))
 repeat refine I ?_
 refine YK anb p ⟨hne,by omega,by omega,by omega,by omega⟩ ?_
 repeat refine I ?_
 refine cG (L:=Nat) (fun k=>k<=fs.length∧(fs.take k).all (fun f=>decide (eb f p.fs.length))=true) (fun(k:Nat)=>⟨[.c 27 (eB p),.c 27 [.nl,.i .i64 0,.nl,.nl,.i .i64 0,.i .i64 0,.nl,.i .i64 0],.a 87 true 7 db gf (tt n7 p.aD fs k),.c 27 (uu p 2)],4,[(1,.bS 1 Int cw fs),(2,.p 0 0),(4,.p 1 0),(7,.p 3 0),(25,.bS 1 Int cw fs),(26,.i .i64 (fs.length:Int)),(27,.i .i64 (k:Int))]⟩) (fun k=>fs.length-k) [0,1,2,3] 0 ⟨Nat.zero_le _,rfl⟩ (by show _-0<ba+1;unfold ba;omega) nC ?_;rintro(k:Nat) ⟨U,ax⟩
 repeat refine al 28 ?_
 by_cases aP:k<fs.length
 ·refine v1 28 (show(k:Int)<fs.length by omega) ?_
  repeat refine I ?_
  refine cV fs[k] (a9 aP) ?_
  repeat refine I ?_
  refine aX vR (fs[k],(p.fs.length:Int)) trivial ?_;by_cases h2:eb fs[k] p.fs.length
  case neg=>
   refine dL 36 h2 ?_
   repeat refine I ?_
   refine aw rfl (aA (by decide) (if_pos ?_));rw[<-Bool.not_eq_true,List.all_eq_true];exact fun h=>h2 (of_decide_eq_true (h _ (dr aP)))
  refine dx 36 h2 ?_
  repeat refine I ?_
  have pD:k<p.aD.length:=by omega
  refine hE (j:=k) ?_ (hj:=pD)
  repeat refine I ?_
  refine apZ (n7 p.aD[k] fs[k]) (Xy n7 h1 pD) ?_
  repeat refine al 45 ?_
  refine dW 45 ((k+1:Nat):Int) ?_
  repeat refine I ?_
  exact bc [0,1,2,3] (k+1) ⟨by omega,aP,by rw[List.take_succ_eq_append_getElem aP,List.all_append,ax];simp[h2]⟩ (I1 ⟨rfl,rfl,rfl,rfl,rfl,rfl,rfl,trivial⟩ ⟨_,rfl,rfl⟩ ⟨_,rfl,rfl⟩ ⟨_,rfl,(by show a3.a _ _ _ _ _ _=a3.a _ _ _ _ _ _;rw[Xz n7 h1 pD aP]),fun _=>rfl⟩ ⟨_,rfl,rfl⟩)
 ·refine v0 28 (show¬(k:Int)<fs.length by omega) ?_;obtain rfl:k=fs.length:=by omega
  rw[List.take_length]at ax;rw[h1,Xx n7 h1]
  repeat refine al 46 ?_
  have LN:(List.zipWith n7 p.aD fs).length=p.aD.length:=Jj n7 h1;refine apR 46 2 (a':=ed (n6 p fs)) ?_ (ha:=by rw[LN];exact agB p _)
  repeat refine I ?_
  refine aX acT (n6 p fs) (Zr hp fs) ?_ (hh:=dX);have gN:o0 p fs=(bK (n6 p fs)).2.2:=by
   unfold o0;rw[if_neg (fun h=>h h0),if_neg (fun h=>h h1),if_neg (by rw[ax];decide)]
  repeat refine I ?_
  exact aw rfl (.of (by show _=qc p fs;unfold qc;rw[gN];rfl))
def Vu:bE where
 L:=Int×List Int
 args:=fun(x,l)=>[.bS 1 Int cw (x::l)]
 pre:=fun(x,l)=>l.length<=1000000
 res:=fun(x,l)=>.i .i64 (l.foldl max x)
theorem Vv:bg aC.ctx 60 Vu.spec:=by
 refine bR [] TK.1 ?_;intro⟨x,l⟩ (hl:l.length<=1000000) H aJ
 repeat refine al 7 ?_
 refine v0 7 (show¬(((x::l).length:Nat):Int)<1 by rw[List.length_cons];omega) ?_
 repeat refine I ?_
 refine cV x (j:=0) rfl ?_
 repeat refine I ?_
 refine cG (L:=Nat) (fun k=>k<=l.length) (fun(k:Nat)=>⟨[],0,[(0,.bS 1 Int cw (x::l)),(3,.i .i64 ((l.take k).foldl max x)),(4,.i .i64 ((k+1:Nat):Int))]⟩) (fun k=>l.length-k) [] 0 (Nat.zero_le _) (by show _-0<ba+1;unfold ba;omega) ei ?_;rintro(k:Nat) U
 repeat refine al 15 ?_
 by_cases aP:k<l.length
 ·refine v1 15 (show((k+1:Nat):Int)<((x::l).length:Nat) by rw[List.length_cons];omega) ?_
  repeat refine I ?_
  refine cV (j:=k+1) l[k] (show(x::l)[k+1]? =some l[k] by rw[List.getElem?_cons_succ];exact a9 aP) ?_
  repeat refine al 23 ?_
  refine oa 23 ((l.take (k+1)).foldl max x) ?_ (h:=by rw[List.take_succ_eq_append_getElem aP,List.foldl_append];rfl)
  repeat refine al 17 ?_
  refine dW 17 ((k+1+1:Nat):Int) ?_
  repeat refine I ?_
  exact bc [] (k+1) ⟨by omega,aP⟩ ei
 ·refine v0 15 (show¬((k+1:Nat):Int)<((x::l).length:Nat) by rw[List.length_cons];omega) ?_;obtain rfl:k=l.length:=by omega
  rw[List.take_length]
  repeat refine I ?_
  exact aw rfl (.refl _)
def rO{α:Type}(q:α->Bool):List α->Nat->Int
 |[],_=> -1
 |n::l,k=>if q n=true then k else rO q l (k+1)
theorem amj{α:Type}(q:α->Bool)(n:α)(l:List α)(k:Nat):rO q (n::l) k=if q n=true then(k:Int)else rO q l (k+1):=rfl
theorem Vo{α:Type}(q:α->Bool):∀(l:List α) (k:Nat),decide (0<=rO q l k)=l.any q
 |[],_=>rfl
 |n::l,k=>by
  unfold rO;rw[List.any_cons];cases h:q n with
  |true=>simp
  |false=>simpa using Vo q l (k+1)
def Vt:bE where
 L:=List Int×Int
 args:=fun(l,x)=>[.bS 1 Int cw l,.i .i64 x]
 pre:=fun(l,x)=>l.length<=1000000
 res:=fun(l,x)=>.i .i64 (rO (fun g=>decide (x=g)) l 0)
theorem amo:bg aC.ctx 61 Vt.spec:=by
 refine bR [] TL.1 ?_;intro⟨l,x⟩ (hl:l.length<=1000000) H aJ
 repeat refine I ?_
 refine cG (L:=Nat) (fun k=>k<=l.length∧rO (fun g=>decide (x=g)) (l.drop k) k=rO (fun g=>decide (x=g)) l 0) (fun(k:Nat)=>⟨[],0,[(0,.bS 1 Int cw l),(1,.i .i64 x),(6,.bS 1 Int cw l),(7,.i .i64 (l.length:Int)),(8,.i .i64 (k:Int))]⟩) (fun k=>l.length-k) [] 0 ⟨Nat.zero_le _,rfl⟩ (by show _-0<ba+1;unfold ba;omega) ei ?_;rintro(k:Nat) ⟨U,ax⟩
 repeat refine al 9 ?_
 by_cases aP:k<l.length
 ·refine v1 9 (show(k:Int)<l.length by omega) ?_
  repeat refine I ?_
  refine cV l[k] (a9 aP) ?_;rw[hf aP,amj]at ax
  repeat refine al 16 ?_
  by_cases h:x=l[k]
  ·refine v1 16 h ?_;rw[if_pos (decide_eq_true h)]at ax
   repeat refine I ?_
   exact aw rfl (.of (by show af.i .i64 (k:Int)=af.i .i64 _;rw[ax]))
  ·refine v0 16 h ?_;rw[if_neg (by rw[decide_eq_false h];decide)]at ax
   repeat refine al 18 ?_
   refine dW 18 ((k+1:Nat):Int) ?_
   repeat refine I ?_
   exact bc [] (k+1) ⟨by omega,aP,ax⟩ ei
 ·refine v0 9 (show¬(k:Int)<l.length by omega) ?_
  repeat refine I ?_
  exact aw rfl (.of (by show af.i .i64 (-1)=af.i .i64 (rO _ l 0);rw[<-ax,List.drop_eq_nil_of_le (by omega)];rfl))
def Vs:bE where
 L:=List Int×Int
 args:=fun(l,x)=>[.bS 1 Int cw l,.i .i64 x]
 pre:=fun(l,x)=>l.length<=1000000
 res:=fun(l,x)=>.b (l.any fun g=>decide (x=g))
theorem amk:bg aC.ctx 21 Vs.spec:=by
 refine bR [(61,Vt.spec)] St.1 ?_;intro⟨l,x⟩ hl H aJ
 repeat refine I ?_
 refine aX amo (l,x) hl ?_;refine az 7 (.i .i64 (rO (fun g=>decide (x=g)) l 0)) rfl rfl ?_
 repeat refine I ?_
 exact aw rfl (.of (ct (Vo _ l 0)))
def zk:bE where
 L:=gj
 args:=fun t=>[p8 t]
 pre:=fun t=>t.gs.length<=100000∧∀g∈t.gs,-1<=g∧g<4
 res:=fun t=>.i .i64 (many t.gs)
theorem Wf{k:Int}:∀(l:List Int) (m:Int),-1<=m->m<k->(∀g∈l,g<k)-> -1<=l.foldl max m∧l.foldl max m<k
 |[],m,h0,h1,_=>⟨h0,h1⟩
 |g::l,m,h0,h1,h=>by
  rw[List.foldl_cons];have:=h g List.mem_cons_self;exact Wf l _ (by omega) (by omega) (fun g aO=>h g (List.mem_cons_of_mem _ aO))
theorem Uh:bg aC.ctx 20 zk.spec:=by
 refine bR [(60,Vu.spec)] Sk.1 ?_;intro(t:gj) ⟨hl,aO⟩ H aJ;obtain⟨cZ,dz⟩:=Wf t.gs (-1) (by decide) (show(-1:Int)<4 by decide) (fun g h=>(aO g h).2);have hm:=anA t.gs
 repeat refine I ?_
 refine mh 1 cw ([-1]:List Int) ?_;by_cases hne:t.gs=[]
 ·rw[hne];refine AF (R:=cw) (lL rfl (fun _=>rfl) (fun _=>rfl)) ?_;refine hD 6 ?_;refine aX Vv (-1,[]) (Nat.zero_le _) ?_
  repeat refine I ?_
  exact aw rfl (.of (by show _=af.i .i64 (many t.gs);rw[hne];rfl))
 ·have h0:=List.length_pos_iff.2 hne;refine x7 (R:=cw) t.gs (lL rfl (fun _=>rfl) (fun _=>rfl)) (-1::t.gs) ?_ (h0:=hne);refine hD 6 ?_ (hn:=by rw[List.length_cons];omega);refine aX Vv (-1,t.gs) (by show t.gs.length<=1000000;omega) ?_;refine az 7 (.i .i64 (t.gs.foldl max (-1))) rfl rfl ?_;generalize t.gs.foldl max (-1)=q at *
  repeat refine al 8 ?_
  refine dW 8 (1+q) ?_
  repeat refine I ?_
  exact aw rfl (.of (by show af.i .i64 (max 0 (1+q))=af.i .i64 (many t.gs);rw[hm]))
def I5:bE where
 L:=bH×gj
 args:=fun(p,t)=>[ed p,p8 t]
 pre:=fun(p,t)=>iY p∧t.gs.length<=100000∧t.cs.length<=100000∧t.hZ.length<=2000
 res:=fun(p,t)=>.i .i64 (jU p t)
 hp:=gX
 hm:=gX.up
theorem Z2:bg aC.ctx 6 I5.spec:=by
 refine ou [(19,BG.spec),(20,zk.spec),(21,Vs.spec),(22,yd.spec),(23,Ee.spec)] eI.1 ?_;intro⟨p,t⟩ ⟨hp,rE,qz,pF⟩ H aJ dX;have hp:iY p:=hp;have rE:t.gs.length<=100000:=rE;have qz:t.cs.length<=100000:=qz;have pF:t.hZ.length<=2000:=pF;have aU:∀{c:Int},jU p t=c->b3 (.i .i64 c) (I5.res (p,t)):=fun h=>.of (by rw[<-h];rfl);unfold jU at aU
 repeat refine I ?_
 refine aX Qi p hp ?_ (hh:=dX);refine az 17 (.bB [.i .i64 (bK p).1,.i .i64 (bK p).2.1,.i .i64 (bK p).2.2]) rfl rfl ?_
 repeat refine al 22 ?_
 by_cases h0:(bK p).2.2=0
 case neg=>
  refine v1 22 h0 ?_
  repeat refine I ?_
  exact aw rfl (aU (if_pos h0))
 refine v0 22 (fb h0) ?_;rw[if_neg (fun h=>h h0)]at aU
 repeat refine al 30 ?_
 by_cases h1:t.gs.length=p.aD.length
 case neg=>
  refine v1 30 (show¬((t.gs.length:Int)=(p.aD.length:Int)) by omega) ?_
  repeat refine I ?_
  exact aw rfl (aU (if_pos (.inl h1)))
 refine v0 30 (show¬¬((t.gs.length:Int)=(p.aD.length:Int)) by omega) ?_
 repeat refine al 38 ?_
 by_cases h2:t.cs.length=p.fs.length
 case neg=>
  refine v1 38 (show¬((t.cs.length:Int)=(p.fs.length:Int)) by omega) ?_
  repeat refine I ?_
  exact aw rfl (aU (if_pos (.inr h2)))
 refine v0 38 (show¬¬((t.cs.length:Int)=(p.fs.length:Int)) by omega) ?_;rw[if_neg (fun h=>h.elim (fun h=>h h1) (fun h=>h h2))]at aU
 repeat refine I ?_
 refine cG (L:=Nat) (fun k=>k<=t.gs.length∧(t.gs.take k).all uM=true) (fun(k:Nat)=>⟨[.c 27 (eB p),.c 33 (mn t)],2,[(2,.p 0 0),(3,.p 1 0),(4,.i .i64 0),(41,.bS 1 Int cw t.gs),(42,.i .i64 (t.gs.length:Int)),(43,.i .i64 (k:Int))]⟩) (fun k=>t.gs.length-k) [0,1] 0 ⟨Nat.zero_le _,rfl⟩ (by show _-0<ba+1;unfold ba;omega) ej ?_;rintro(k:Nat) ⟨U,ax⟩
 repeat refine al 44 ?_
 by_cases aP:k<t.gs.length
 ·refine v1 44 (show(k:Int)<t.gs.length by omega) ?_
  repeat refine I ?_
  refine cV t.gs[k] (a9 aP) ?_;have no:¬(-1<=t.gs[k]∧t.gs[k]<4)->t.gs.all uM=false:=fun h=>by
   rw[<-Bool.not_eq_true,List.all_eq_true];exact fun aB=>h (of_decide_eq_true (aB _ (dr aP)))
  repeat refine al 48 ?_
  by_cases h3:t.gs[k]< -1
  ·refine v1 48 h3 ?_
   repeat refine I ?_
   exact aw rfl (aU (if_pos (no (by omega))))
  refine v0 48 h3 ?_
  repeat refine al 51 ?_
  by_cases ay:4<=t.gs[k]
  ·refine v1 51 ay ?_
   repeat refine I ?_
   exact aw rfl (aU (if_pos (no (by omega))))
  refine v0 51 ay ?_
  repeat refine al 53 ?_
  refine dW 53 ((k+1:Nat):Int) ?_
  repeat refine I ?_
  exact bc [0,1] (k+1) ⟨by omega,aP,by rw[List.take_succ_eq_append_getElem aP,List.all_append,ax];simp only[List.all_cons,List.all_nil,uM];rw[decide_eq_true (by omega)];rfl⟩ ej
 refine v0 44 (show¬(k:Int)<t.gs.length by omega) ?_;rw[List.take_of_length_le (by omega)]at ax;have wT:∀g∈t.gs,-1<=g∧g<4:=fun g aO=>of_decide_eq_true (List.all_eq_true.1 ax g aO);rw[if_neg (by rw[ax];decide)]at aU;obtain⟨xx,fK⟩:=Mj t.gs 0 (by decide) (show(0:Int)<=4 by decide) (fun g h=>(wT g h).2)
 repeat refine I ?_
 refine aX Uh t ⟨rE,wT⟩ ?_;obtain⟨m,hm⟩:∃m:Nat,many t.gs=(m:Int):=⟨(many t.gs).toNat,by show many t.gs=_;unfold many at *;omega⟩;have fK:many t.gs<=4:=fK;rw[show(many t.gs).toNat=m by omega]at aU;refine az 55 (.i .i64 (m:Int)) rfl (by show af.i .i64 (many t.gs)=_;rw[hm]) ?_
 repeat refine I ?_
 refine cG (L:=Nat) (fun k=>k<=m∧(List.range k).all (pz t.gs)=true) (fun(k:Nat)=>⟨[.c 27 (eB p),.c 33 (mn t)],2,[(2,.p 0 0),(3,.p 1 0),(4,.i .i64 0),(55,.i .i64 (m:Int)),(56,.i .i64 (k:Int))]⟩) (fun k=>m-k) [0,1] 0 ⟨Nat.zero_le _,rfl⟩ (by show _-0<ba+1;unfold ba;omega) ej ?_;rintro(k:Nat) ⟨U,C3⟩
 repeat refine al 57 ?_
 by_cases aP:k<m
 ·refine v1 57 (show(k:Int)<m by omega) ?_
  repeat refine I ?_
  refine aX amk (t.gs,(k:Int)) (by show t.gs.length<=1000000;omega) ?_;cases aY:pz t.gs k with
  |false=>
   refine az 62 (.b false) rfl (ct aY) ?_
   repeat refine I ?_
   refine aw rfl (aU (if_pos ?_));rw[<-Bool.not_eq_true,List.all_eq_true];intro h;have:=h k (List.mem_range.2 aP);rw[aY]at this;cases this
  |true=>
   refine az 62 (.b true) rfl (ct aY) ?_
   repeat refine al 64 ?_
   refine dW 64 ((k+1:Nat):Int) ?_
   repeat refine I ?_
   exact bc [0,1] (k+1) ⟨by omega,aP,by rw[List.range_succ,List.all_append,C3];simp[aY]⟩ ej
 refine v0 57 (show¬(k:Int)<m by omega) ?_;obtain rfl:k=m:=by omega
 rw[if_neg (by rw[C3];decide)]at aU
 repeat refine I ?_
 refine cG (L:=Nat) (fun k=>k<=t.cs.length∧(t.cs.take k).all uw=true) (fun(k:Nat)=>⟨[.c 27 (eB p),.c 33 (mn t)],2,[(2,.p 0 0),(3,.p 1 0),(4,.i .i64 0),(66,.bS 1 Int cw t.cs),(67,.i .i64 (t.cs.length:Int)),(68,.i .i64 (k:Int))]⟩) (fun k=>t.cs.length-k) [0,1] 0 ⟨Nat.zero_le _,rfl⟩ (by show _-0<ba+1;unfold ba;omega) ej ?_;rintro(k:Nat) ⟨U,xk⟩
 repeat refine al 69 ?_
 by_cases aP:k<t.cs.length
 ·refine v1 69 (show(k:Int)<t.cs.length by omega) ?_
  repeat refine I ?_
  refine cV t.cs[k] (a9 aP) ?_;have no:¬(0<=t.cs[k]∧t.cs[k]<=1000000)->t.cs.all uw=false:=fun h=>by
   rw[<-Bool.not_eq_true,List.all_eq_true];exact fun aB=>h (of_decide_eq_true (aB _ (dr aP)))
  repeat refine al 73 ?_
  by_cases h3:t.cs[k]<0
  ·refine v1 73 h3 ?_
   repeat refine I ?_
   exact aw rfl (aU (if_pos (no (by omega))))
  refine v0 73 h3 ?_
  repeat refine al 76 ?_
  by_cases ay:1000000<t.cs[k]
  ·refine v1 76 ay ?_
   repeat refine I ?_
   exact aw rfl (aU (if_pos (no (by omega))))
  refine v0 76 ay ?_
  repeat refine al 78 ?_
  refine dW 78 ((k+1:Nat):Int) ?_
  repeat refine I ?_
  exact bc [0,1] (k+1) ⟨by omega,aP,by rw[List.take_succ_eq_append_getElem aP,List.all_append,xk];simp only[List.all_cons,List.all_nil,uw];rw[decide_eq_true (by omega)];rfl⟩ ej
 refine v0 69 (show¬(k:Int)<t.cs.length by omega) ?_;rw[List.take_of_length_le (by omega)]at xk;rw[if_neg (by rw[xk];decide)]at aU
 repeat refine I ?_
 refine aX D7 t.hZ pF ?_;cases J:gT t.hZ with
 |none=>
  rw[J]at aU;refine az 82 (.bB [dG 0,.i .i64 6]) rfl (by show lb t.hZ=_;unfold lb;rw[J]) ?_
  repeat refine I ?_
  exact aw rfl (aU rfl)
 |some x=>
  rw[J]at aU;refine az 82 (.bB [dG x,.i .i64 0]) rfl (by show lb t.hZ=_;unfold lb;rw[J]) ?_
  repeat refine I ?_
  refine aX Ef x trivial ?_
  repeat refine al 90 ?_
  by_cases b7:x.num<0
  ·refine v1 90 (show x.num.sign<0 from Int.sign_neg_iff.2 b7) ?_
   repeat refine I ?_
   exact aw rfl (aU (if_pos b7))
  ·refine v0 90 (fun h=>b7 (Int.sign_neg_iff.1 h)) ?_
   repeat refine I ?_
   exact aw rfl (aU (if_neg b7))
