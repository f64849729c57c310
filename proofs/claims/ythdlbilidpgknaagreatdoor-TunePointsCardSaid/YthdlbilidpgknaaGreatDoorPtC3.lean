/- What the functions of the program and of the document compute, for every input (part 3); conditions as in the statements. -/
import Derived.Test.YthdlbilidpgknaaGreatDoorPtX
import Derived.Test.YthdlbilidpgknaaGreatDoorPtC2
import Derived.Test.YthdlbilidpgknaaGreatDoorPtS2
set_option linter.all false
namespace Go.ak.a2
open Go.ak
set_option maxRecDepth 100000
set_option maxHeartbeats 4000000
def aa3:bc where
 L:=ac bv
 args:=fun s=>[.s s]
 pre:=fun s=>ja s∧s.length<=2100
 res:=fun s=>c3 (b4 s)
def yM(v:Nat)(rest:ac bv):ac bp:=[.c 40 [c3 v],.c 9 [.s rest]]
def DJ{v k K:Nat}(h:v<10^k)(ab:k<=K):dI K v:=rl (fy h (zaj (zdo (by decide) k) (zax (by decide) ab)))
def uH:ci->gN:=cp [(32,wg.spec),(40,AE.spec),(88,Fu.spec)]
def Pa:a6 aS.ctx 36 aa3.spec:=by
 refine afg aS.fF gM uH (xf:=UO.1) (by kernel_rfl) (fun l vs st ⟨_,_,_,d⟩=>by rw[hW d];exact jw rfl) ?_;rintro⟨s,H⟩ vs st ⟨⟨eQ,ai⟩,_,az,aq⟩;have eQ:ja s:=eQ;have ai:s.length<=2100:=ai;have az:Fit H [] st [] 0:=az;have aq:dj H [.s s] [] vs:=aq;have ae:=c9.zero aq;obtain⟨en,cl,H1,Xh,aw,P8,Qb,f1,oB⟩:=seg (call:=dc bB (dz aS.ctx uH) (bT+1)) (cB:=bT+1) (fn:=36) (ops:=[C.m 2 C.bt]) (s:=⟨[],0,oa 0 [.s s]⟩) (t:=⟨[],0,[(2,.nl),(0,.s s)]⟩) rfl (by
  intro H1 i1 s1 _ _;refine I ?_;exact mE ⟨rfl,rfl⟩) az ae
 obtain⟨ly,dB,Kf,au5,e2,P9,iG,f2,oC⟩:=seg (call:=dc bB (dz aS.ctx uH) (bT+1)) (cB:=bT+1) (fn:=36) (ops:=[C.hI 3 [C.N] 40]) (s:=⟨[],0,[(2,.nl),(0,.s s)]⟩) (t:=⟨[.c 40 [c3 0]],1,[(3,.p 0 0),(2,.nl),(0,.s s)]⟩) rfl (by
  intro H1 i1 s1 _ _
  iterate 1 refine ha ?_
  refine apX 0 (cs:=[.nl]) [c3 0] ⟨bY.nl.trans (.of (by show cU []=cU (aT _ 0);rw[ft])),trivial⟩ ?_;refine I ?_;exact mE ⟨rfl,rfl⟩) Qb f1
 obtain⟨LF,gK,rX,sq,bW,Qa,Qc,f3,nT⟩:=seg (call:=dc bB (dz aS.ctx uH) (bT+1)) (cB:=bT+1) (fn:=36) (ops:=[C.m 6 0,C.c 7 87 [6]]) (s:=⟨[.c 40 [c3 0]],1,[(3,.p 0 0),(2,.nl),(0,.s s)]⟩) (t:=⟨yM 0 s,2,[(7,.fn (.func 175) [] [.p 1 0]),(6,.s s),(3,.p 0 0),(2,.nl),(0,.s s)]⟩) rfl (by
  intro H1 i1 s1 _ _;refine I ?_;refine yK VL.1 (by kernel_rfl) ?_;intro Kf i2 s2 _ _;refine I ?_;refine mE ⟨.inr rfl,_,rfl,?_⟩;refine I ?_;exact mE ⟨rfl,rfl⟩) iG f2
 have qc:LF.b7=none:=nT.trans (oC.trans oB);obtain⟨pZ,wM,ac2,ave,e6,t4,d4,ud,ac0,Qd,aoY,cb,yl,aee⟩:=atD (X:=aS.ctx) (bB:=bB) (da:=uH) (cB:=bT+1) (n:=4611686018427387902) (fn:=36) qc Qc f3 (f:=7) (ps:=[8,9]) (dn:=C.q (C.R [C.m 4 8]) (C.R [C.m 5 9])) (body:=C.K 1 (.tx [C.D (C.m 11 5) [5],C.D (C.hs 12 .u64 11) [11],C.E (C.c 13 32 [12]),C.Kc (C.l 10 3) 1 [3],C.E (C.c 14 40 [10,13]),C.Kc (C.m 15 4) 2 [4],C.Kc (C.hs 16 .u64 15) 2 [15],C.E (C.c 17 32 [16]),C.E (C.c 18 88 [14,17]),C.E (C.st 1 3 18)] [1,2,3,0,4,5,6,7,8,9] [10,15,16] [0,1,3,0,15,0,32,127,255,511])) (g:=175) (xf:=Tp.1) (caps:=[.p 1 0]) (fun o=>o=yM (b4 s) []) (by kernel_rfl) rfl rfl (jw rfl) (by
  intro s1 l hlen j9 q7 gS CV aV;have hlen:sq.length=2:=hlen;refine I ?_;refine df (L:=ac bv×Nat) (fun(rest,v)=>ja rest∧rest.length<=s.length∧v<10^(s.length-rest.length)∧b4 s=b4 rest+10^rest.length*v) (fun(rest,v)=>⟨yM v rest,2,[(0,.v (.func (.yield l) #[] #[])),(1,.p 1 0)]⟩) (fun l=>l.1.length) [0,1] (s,0) ⟨eQ,b5 _,by simp,by simp⟩ (by show List.length s<4611686018427387904;omega) (nW ⟨rfl,rfl,trivial⟩ ⟨_,rfl,rfl⟩ ⟨_,rfl,rfl⟩ (hp:=by show pinned sq.length _ _=_;rw[hlen];rfl)) ?_;rintro⟨rest,v⟩ ⟨aM,aN,bf,cb⟩;refine I ?_;refine cf (fun hr=> ?_) (fun hr=> ?_)
  ·have hr:0<rest.length:=by omega
   refine I ?_;refine m6 (L:=ac bv×ac bv) (fun(w,dJ)=>rest=w++dJ∧w.length<=9∧w≠[]) (fun(w,dJ)=>⟨yM v dJ,2,[(0,.v (.func (.yield l) #[] #[])),(1,.p 1 0),(3,.i .u32 (b4 w:Nat)),(4,.i .u32 ((10^w.length:Nat):Int))]⟩) ?_ ?_
   ·refine df (L:=ac bv×ac bv) (fun(w,dJ)=>rest=w++dJ∧w.length<=9) (fun(w,dJ)=>⟨yM v dJ,2,[(0,.v (.func (.yield l) #[] #[])),(1,.p 1 0),(3,.i .u32 (b4 w:Nat)),(4,.i .u32 ((10^w.length:Nat):Int)),(5,.i .i64 (w.length:Nat))]⟩) (fun l=>9-l.1.length) [0,1] ([],rest) ⟨rfl,by decide⟩ (by show 9-0<4611686018427387904;decide) (nW ⟨rfl,rfl,rfl,rfl,rfl,trivial⟩ ⟨_,rfl,rfl⟩ ⟨_,rfl,rfl⟩ (hp:=by show pinned sq.length _ _=_;rw[hlen];rfl)) ?_;rintro⟨w,dJ⟩ ⟨a5,bD⟩;have hw:ja w:=fun c hc=>aM c (by rw[a5];exact zdd _ hc);have Dw:=rJ hw;refine an 11 ?_;by_cases hZ:w.length<9
    ·refine ag 11 (.b true) rfl (congrArg ah.b (zad (by omega))) ?_;cases dJ with
     |nil=>
      refine I ?_;exact ba [0,1] (w,[]) ⟨a5,bD,fun e=>by rw[e]at a5;rw[a5]at hr;simp at hr⟩ (nW ⟨rfl,rfl,rfl,rfl,trivial⟩ ⟨_,rfl,rfl⟩ ⟨_,rfl,rfl⟩ (hp:=by show pinned sq.length _ _=_;rw[hlen];rfl))
     |cons c dJ=>
      have hc:=aM c (by rw[a5];simp);have xR:10^w.length<=100000000:=zaj (zax (by decide) (show w.length<=8 by omega)) (by decide);have sm:=O7 w c;have jc:10^(w++[c]).length=10*10^w.length:=by rw[zaL,List.length_singleton,zak,zai]
      refine an 15 ?_;refine ag 15 (.b true) rfl (by simp) (I ?_);refine mF c (j:=0) rfl ?_;have af4:(c.toNat+(256*48-48))%256=c.toNat-48:=by omega
      have af5:(10*b4 w%4294967296+(c.toNat-48)%4294967296)%4294967296=b4 (w++[c]):=by rw[sm];generalize b4 w=x at *;generalize 10^w.length=P at *;omega
      have Cx:10*10^w.length%4294967296=10^(w++[c]).length:=by rw[jc];generalize 10^w.length=P at *;omega
      refine an 22 ?_;refine ag 22 (.i .u8 ((c.toNat-48:Nat):Int)) rfl (congrArg (fun n:Nat=>ah.i .u8 (n:Int)) af4) (an 24 ?_);refine ag 24 (.i .u32 (b4 (w++[c]):Nat)) rfl (congrArg (fun n:Nat=>ah.i .u32 (n:Int)) af5) (an 26 ?_);refine ag 26 (.i .u32 ((10^(w++[c]).length:Nat):Int)) rfl (congrArg (fun n:Nat=>ah.i .u32 (n:Int)) Cx) (I ?_);refine rI (p:=1) dJ ?_ (hp:=by simp) (hq:=by simp);refine I ?_;exact ba [0,1] (w++[c],dJ) ⟨by simp;omega,by rw[a5];simp,by simp;omega⟩ (nW ⟨rfl,rfl,rfl,rfl,congrArg (fun n=>some (ah.i .i64 n)) (uX (by simp) (by omega) (by omega)),trivial⟩ ⟨_,rfl,rfl⟩ ⟨_,rfl,rfl⟩ (hp:=by show pinned sq.length _ _=_;rw[hlen];rfl))
    ·refine ag 11 (.b false) rfl (congrArg ah.b (zac (by omega))) (I ?_);exact ba [0,1] (w,dJ) ⟨a5,bD,fun e=>by rw[e]at hZ;simp at hZ⟩ (nW ⟨rfl,rfl,rfl,rfl,trivial⟩ ⟨_,rfl,rfl⟩ ⟨_,rfl,rfl⟩ (hp:=by show pinned sq.length _ _=_;rw[hlen];rfl))
   rintro⟨w,dJ⟩ ⟨a5,bD,dt⟩;refine I ?_;have hw:ja w:=fun c hc=>aM c (by rw[a5];exact zdd _ hc);have Dw:=rJ hw;have xR:10^w.length<=1000000000:=zaj (zax (by decide) bD) (by decide);have WL:rest.length=w.length+dJ.length:=by rw[a5,zaL]
   have lI:b4 rest=b4 dJ+10^dJ.length*b4 w:=by rw[a5,O5]
   have Ho:v*10^w.length+b4 w<10^(s.length-dJ.length):=by
    rw[show s.length-dJ.length=(s.length-rest.length)+w.length by omega,zal];refine fy (Nat.add_lt_add_left Dw _) ?_;rw[<-zbZ];exact fq _ bf
   have tT:b4 s=b4 dJ+10^dJ.length*(v*10^w.length+b4 w):=by
    rw[cb,lI,WL,zal,zaz];rw[zai (10^w.length) (10^dJ.length),zat,zai (10^w.length) v];omega
   have Nr:dI 2100 v:=DJ bf (by omega);have XW:dI 2100 (10^w.length):=DJ (k:=w.length+1) (Nat.pow_lt_pow_right (by decide) (zce _)) (by omega);have lw:dI 2100 (b4 w):=DJ Dw (by omega);have ajX:10^w.length%18446744073709551616=10^w.length:=dH (zaG xR (by decide));have ajY:b4 w%18446744073709551616=b4 w:=dH (fy Dw (zaj xR (by decide)));refine aqb j9 q7 gS CV aV (e2:=[(5,.i .u32 ((10^w.length:Nat):Int)),(4,.i .u32 (b4 w:Nat)),(9,.i .u32 ((10^w.length:Nat):Int)),(8,.i .u32 (b4 w:Nat)),(7,.fn (.func 175) [] [.p 1 0]),(6,.s s),(3,.p 0 0),(2,.nl),(0,.s s)]) ?_ ?_
   ·intro ac3 i5 aqA;refine I ?_;exact mE ⟨rfl,rfl⟩
   ·intro ac3 i5 aqA Wz _;have Wz:i5.length=2:=Wz;refine an 12 ?_;refine cm 12 (.i .u64 ((10^w.length:Nat):Int)) rfl rfl (congrArg (fun n:Nat=>ah.i .u64 (n:Int)) ajX) ?_;refine aZ ow (10^w.length:Nat) (zaG xR (by decide)) (I ?_);refine aZ sA (v,10^w.length) ⟨cH Nr (by decide),cH XW (by decide)⟩ (an 16 ?_);refine cm 16 (.i .u64 (b4 w:Nat)) rfl rfl (congrArg (fun n:Nat=>ah.i .u64 (n:Int)) ajY) ?_;refine aZ ow (b4 w) (fy Dw (zaj xR (by decide))) ?_;refine aZ Kw (v*10^w.length,b4 w) ⟨cH (ld Nr XW) (by decide),cH lw (by decide)⟩ (I ?_);refine mE ⟨rfl,yM (v*10^w.length+b4 w) dJ,[0,1],rfl,nW trivial ⟨_,rfl,rfl⟩ ⟨_,rfl,rfl⟩,?_⟩;refine I ?_;exact ba [0,1] (dJ,v*10^w.length+b4 w) ⟨by rw[WL];have:=zbg.2 dt;show dJ.length<_;omega,fun c hc=>aM c (by rw[a5];exact zer _ hc),by omega,Ho,tT⟩ (nW ⟨rfl,rfl,trivial⟩ ⟨_,rfl,rfl⟩ ⟨_,rfl,rfl⟩ (hp:=by show pinned sq.length _ _=_;rw[hlen];rfl))
  ·have hr:rest=[]:=zeD.1 (by omega);subst hr;have aI:b4 s=v:=by rw[cb];simp[b4,mT,val]
   refine I ?_;exact mE ⟨.inl rfl,⟨_,rfl⟩,yM (b4 s) [],[0,1],rfl,nW trivial ⟨_,rfl,by rw[aI];rfl⟩ ⟨_,rfl,rfl⟩,rfl⟩)
 subst aoY;obtain⟨b,gR,o7⟩:=f3.get 3 (.p 0 0) rfl;have al5:pZ.tmp 3= .pointer (some ⟨b,0,none⟩):=by
  have e:pZ.tmp 3=LF.tmp 3:=by unfold aR.tmp;rw[t4]
  rw[e];exact o7
 obtain⟨⟨ws,a0,v,us,rfl,d5,d6⟩,_⟩:=Qd.own 0 (.c 40 [c3 (b4 s)]) b rfl gR;have d6:us=[]:=d6;subst d6;have z8:bR (dc bB (dz aS.ctx uH) (bT+1)) (.lP (.tmp 3)) pZ wM= .ok v pZ wM:=Ar (by show pZ.tmp 3=_;exact al5) a0 rfl;have bb:=((P8.trans P9).trans Qa).trans ac0;have tP:st.al<=gK.al:=((P8.trans P9).trans Qa).al;have xV:gK.al∉sq:=fun hm=>by have:=Qc.lt _ hm;omega
 refine J1 aw (J1 e2 (J1 (aqI bW (ad5 e6)) ?_));refine J1 (en:=(pZ.put (some 19) v).put (some 2) v) (cl:=wM) ?_ ?_
 ·show iL (dc bB (dz aS.ctx uH) (bT+1)) (⟨some 19,.lP (.tmp 3),none⟩::[⟨some 2,.lR (.tmp 19),none⟩]) pZ wM=_;rw[Sym.Gg,z8,Sym.NY,Sym.Gg];show iL (dc bB (dz aS.ctx uH) (bT+1)) [] ((pZ.put (some 19) v).put (some 2) ((pZ.put (some 19) v).tmp 19)) wM=_;rw[rP,zab rfl];rfl
 ·refine⟨.ret,(pZ.put (some 19) v).put (some 2) v,wM,rfl,.inr rfl,v,⟨wM.h.set gK.al (.iJ none),wM.al⟩,?_,ac2,?_,?_,?_⟩
  ·have tL:((pZ.put (some 19) v).put (some 2) v).c7=[{target:=.collected gK.al,args:= #[]}]:=by
    rw[(wx _ _ _).1,(wx _ _ _).1,d4,f3.pl.c7]
   have akY:((pZ.put (some 19) v).put (some 2) v).cM=false:=by
    rw[(wx _ _ _).2.2.1,(wx _ _ _).2.2.1,ud,f3.pl.cM]
   have:=agM (call:=dc bB (dz aS.ctx uH) (bT+1)) (t:=2) tL akY cb;rw[rP,zab rfl]at this;exact this
  ·exact(Qd.other yl xV aee (.iJ none)).less
  ·exact(bb.other tP (.iJ none)).less
  ·exact F0 _ rfl d5 _
def oK(n:Bool)(P q:ac bv)(iq:Bool):Prop:=hG P∧¬(n=true∧P=[48])∧(iq=true->hG q∧q≠[48]∧q≠[49])
instance(n:Bool)(P q:ac bv)(iq:Bool):Decidable (oK n P q iq):=by unfold oK;infer_instance
def Ol{N:Nat}{s:ac bv}(ai:s.length<=N):∃P q iq,oW (dQ s).2= .bu [.s P,.s q,.b iq]∧(dQ s).2.length<=N∧P.length<=N∧q.length<=N∧(¬oK (dQ s).1 P q iq->fx s=none)∧
 (oK (dQ s).1 P q iq->iq=false->fx s=some (mkRat (ik (dQ s).1 (b4 P)) 1))∧(oK (dQ s).1 P q iq->iq=true->fx s=if Nat.gcd (b4 P) (b4 q)=1 then some (mkRat (ik (dQ s).1 (b4 P)) (b4 q))else none):=by
 have sl:=abh s;unfold fx oW;obtain⟨⟨n,t⟩,aO⟩:∃g,g=dQ s:=⟨_,rfl⟩;rw[<-aO]at sl⊢;simp only at sl⊢;have x0:t.length<=N:=by have:=congrArg List.length sl;rw[zaL]at this;omega
 obtain⟨ee,fa,n6⟩:=RD t;obtain⟨⟨P,Q⟩,hq⟩:∃g,g=cutAt t:=⟨_,rfl⟩;rw[<-hq]at ee fa n6⊢;simp only at ee fa n6⊢;cases Q with
 |none=>
  have LV:=n6 rfl;subst LV;refine⟨t,[],false,rfl,x0,x0,by exact zaf _,fun h=>zaa (fun aB=>h ⟨aB.1,aB.2,fun e=>by cases e⟩),fun h _=>zab ⟨h.1,h.2.1⟩,fun _ h=>by cases h⟩
 |some q=>
  have aV:=fa q rfl;have Nf:P.length+q.length<=N:=by have:=congrArg List.length aV;rw[zaL,zaD]at this;omega
  refine⟨P,q,true,rfl,x0,by omega,by omega,fun h=> ?_,(fun _ h=>by cases h),fun h _=> ?_⟩
  ·by_cases J:hG P∧¬(n=true∧P=[48])
   ·rw[zab J];exact zaa (fun aB=>h ⟨J.1,J.2,fun _=>⟨aB.1,aB.2.1,aB.2.2.1⟩⟩)
   ·rw[zaa J]
  ·obtain⟨J,U,af⟩:=h;obtain⟨af,ax,a0⟩:=af rfl;rw[zab ⟨J,U⟩];by_cases G0:Nat.gcd (b4 P) (b4 q)=1
   ·rw[zab G0];exact zab ⟨af,ax,a0,G0⟩
   ·rw[zaa G0];exact zaa (fun aB=>G0 aB.2.2.2)
def mz(s:ac bv):ah:=match fx s with
 |some x=>.bu [bN x,.i .i64 0]
 |none=>.bu [bN 0,.i .i64 6]
def Bm:bc where
 L:=ac bv
 args:=fun s=>[.s s]
 pre:=fun s=>s.length<=2000
 res:=fun s=>mz s
def EH:a6 aS.ctx 11 Bm.spec:=by
 refine bq [(33,FU.spec),(34,Cn.spec),(35,aaV.spec),(36,aa3.spec),(32,wg.spec),(31,v8.spec),(38,LN.spec),(37,M1.spec)] Gw.1 ?_;intro(s:ac bv) (ai:s.length<=2000) H aH;have hp:∀{r},fx s=r->bY (match r with|some x=>.bu [bN x,.i .i64 0]|none=>.bu [bN 0,.i .i64 6]) (Bm.res s):=fun h=>.of (by subst h;rfl);have fail:fx s=none->bY (.bu [.agg [.b false,.nl,.nl],.i .i64 6]) (Bm.res s):=fun h=>anu.trans (hp h);obtain⟨P,q,iq,hC,aV,fP,hq,zY,hint,Ah⟩:=Ol ai;obtain⟨n,hn⟩:∃n,n=(dQ s).1:=⟨_,rfl⟩;rw[<-hn]at zY hint Ah;refine I ?_;refine aC aeC s (by show s.length<=_;omega) ?_;refine ag 13 (.bu [.s (dQ s).2,.b n]) rfl (by rw[hn];rfl) (I ?_);refine aC afm (dQ s).2 (by show(dQ s).2.length<=_;omega) ?_;refine ag 18 _ rfl hC (I ?_);refine fK (L:=Bool) (fun b=>b= !decide (oK n P q iq)) (fun b=>⟨[.c 42 [.b false,.nl,.nl]],1,[(2,.p 0 0),(3,.i .i64 0),(5,.b n),(6,.s P),(7,.s q),(8,.b iq),(22,.b b)]⟩) ?_ ?_
 ·have bad:¬oK n P q iq->true= !decide (oK n P q iq):=fun h=>by rw[zac h];rfl
  have fF:oK n P q iq->false= !decide (oK n P q iq):=fun h=>by rw[zad h];rfl
  refine aC O9 P (by show P.length<=_;omega) (an 26 ?_);by_cases J:hG P
  ·refine ag 26 (.b false) rfl (by show ah.b (!decide _)=_;rw[zad J];rfl) (an 33 ?_);by_cases U:n=true∧P=[48]
   ·obtain⟨rfl,rfl⟩:=U;refine I ?_;exact ba [0] true (bad fun h=>h.2.1 ⟨rfl,rfl⟩) du
   ·cases n with
    |false=>
     cases iq with
     |false=>
      refine I ?_;exact ba [0] false (fF ⟨J,U,fun e=>by cases e⟩) du
     |true=>
      refine I ?_;refine aC O9 q (by show q.length<=_;omega) (an 39 ?_);by_cases af:hG q
      ·refine ag 39 (.b false) rfl (by show ah.b (!decide _)=_;rw[zad af];rfl) (an 43 ?_);by_cases ax:q=[48]
       ·refine ag 43 (.b true) rfl (by rw[ax];rfl) (I ?_);exact ba [0] true (bad fun h=>(h.2.2 rfl).2.1 ax) du
       refine ag 43 (.b false) rfl (by rw[zaS.2 ax]) (an 45 ?_);by_cases a0:q=[49]
       ·refine ag 45 (.b true) rfl (by rw[a0];rfl) (I ?_);exact ba [0] true (bad fun h=>(h.2.2 rfl).2.2 a0) du
       refine ag 45 (.b false) rfl (by rw[zaS.2 a0]) (I ?_);exact ba [0] false (fF ⟨J,U,fun _=>⟨af,ax,a0⟩⟩) du
      ·refine ag 39 (.b true) rfl (by show ah.b (!decide _)=_;rw[zac af];rfl) (I ?_);exact ba [0] true (bad fun h=>af (h.2.2 rfl).1) du
    |true=>
     have oo:P≠[48]:=fun e=>U ⟨rfl,e⟩;refine an 30 ?_;refine ag 30 (.b false) rfl (by rw[zaS.2 oo]) ?_;cases iq with
     |false=>
      refine I ?_;exact ba [0] false (fF ⟨J,U,fun e=>by cases e⟩) du
     |true=>
      refine I ?_;refine aC O9 q (by show q.length<=_;omega) (an 39 ?_);by_cases af:hG q
      ·refine ag 39 (.b false) rfl (by show ah.b (!decide _)=_;rw[zad af];rfl) (an 43 ?_);by_cases ax:q=[48]
       ·refine ag 43 (.b true) rfl (by rw[ax];rfl) (I ?_);exact ba [0] true (bad fun h=>(h.2.2 rfl).2.1 ax) du
       refine ag 43 (.b false) rfl (by rw[zaS.2 ax]) (an 45 ?_);by_cases a0:q=[49]
       ·refine ag 45 (.b true) rfl (by rw[a0];rfl) (I ?_);exact ba [0] true (bad fun h=>(h.2.2 rfl).2.2 a0) du
       refine ag 45 (.b false) rfl (by rw[zaS.2 a0]) (I ?_);exact ba [0] false (fF ⟨J,U,fun _=>⟨af,ax,a0⟩⟩) du
      ·refine ag 39 (.b true) rfl (by show ah.b (!decide _)=_;rw[zac af];rfl) (I ?_);exact ba [0] true (bad fun h=>af (h.2.2 rfl).1) du
  ·refine ag 26 (.b true) rfl (by show ah.b (!decide _)=_;rw[zac J];rfl) (I ?_);exact ba [0] true (bad fun h=>J h.1) du
 intro b hb;by_cases dE:oK n P q iq
 ·have hb:b=false:=by rw[hb,zad dE];rfl
  subst hb;obtain⟨aM,aN,bf⟩:=dE;have u4:=DJ (K:=2000) (rJ aM.2.1) (by omega);refine an 56 ?_;refine ag 56 (.b false) rfl (congrArg ah.b (zac (by omega))) (I ?_);cases iq with
  |false=>
   refine I ?_;refine aC Pa P ⟨aM.2.1,by show P.length<=_;omega⟩ ?_;refine aC ow (1:Nat) (by show 1<_;decide) ?_;refine aC ph (n,b4 P,1) ⟨cH u4 (by decide),cH (nN (by decide)) (by decide),by decide⟩ (I ?_);exact au rfl (hp (hint ⟨aM,aN,bf⟩ rfl))
  |true=>
   obtain⟨af,ax,a0⟩:=bf rfl;have ac6:=DJ (K:=2000) (rJ af.2.1) (by omega);have oy:b4 q≠0:=fun h=>ax (w9 af h);have cP:b4 q≠1:=fun h=>a0 (Rb af h);have hr:=Ah ⟨aM,aN,bf⟩ rfl;refine I ?_;refine aC Pa P ⟨aM.2.1,by show P.length<=_;omega⟩ (I ?_);refine aC Pa q ⟨af.2.1,by show q.length<=_;omega⟩ (I ?_);refine aC VV (b4 P,b4 q) ⟨cH u4 (by decide),cH ac6 (by decide)⟩ ?_;refine aC HC (Nat.gcd (b4 P) (b4 q)) trivial (I ?_);refine Bi (fun aO=> ?_) (fun aO=> ?_)
   ·refine I ?_;exact au rfl (fail (by rw[hr,zaa aO]))
   ·refine I ?_;rw[zab aO]at hr;obtain⟨aw,e2⟩:=NA (ik n (b4 P)) (b4 q) oy;rw[uL,aO]at aw e2;have hle:bY (.agg [.b n,c3 (b4 P),c3 (b4 q)]) (bN (mkRat (ik n (b4 P)) (b4 q))):=Ni (q:=b4 q) (by rw[aw];exact Int.ediv_one _) (by rw[e2,zbV]) (fun h=>cP (by rw[h,zeH]at aO;exact aO)) (XI cP oy);exact au rfl ((show bY (.bu [.agg [.b n,c3 (b4 P),c3 (b4 q)],.i .i64 0]) (.bu [bN (mkRat (ik n (b4 P)) (b4 q)),.i .i64 0])from .bu ⟨hle,.refl _,trivial⟩).trans (hp hr))
 ·have hb:b=true:=by rw[hb,zac dE];rfl
  subst hb;refine I ?_;exact au rfl (fail (zY dE))
structure gl where
 op:Int
 a:Int
 b:Int
 c:Int
 d:Int
 f:Int
 v:ac bv
structure jZ where
 f:Int
 aL:ac bv
 hi:ac bv
structure w2 where
 i:Int
 n:Int
structure dN where
 bG:ac (Int×Int)
 mode:Int
 ins:ac jZ
 bt:ac gl
 head:Int
 tail:Int
 eX:ac w2
 out:Int
def kU(n:gl):ac ah:=[.i .i64 n.op,.i .i64 n.a,.i .i64 n.b,.i .i64 n.c,.i .i64 n.d,.i .i64 n.f,.s n.v]
def Ap(x:jZ):ac ah:=[.i .i64 x.f,.s x.aL,.s x.hi]
def Sp(x:Int×Int):ac ah:=[.i .i64 x.1,.i .i64 x.2]
def abF(x:w2):ac ah:=[.i .i64 x.i,.i .i64 x.n]
def g2(p:dN):ac ah:=[.c5 2 (Int×Int) Sp p.bG,.i .i64 p.mode,.c5 3 jZ Ap p.ins,.c5 7 gl kU p.bt,.i .i64 p.head,.i .i64 p.tail,.c5 2 w2 abF p.eX,.i .i64 p.out]
def h8(p:dN):ah:=.agg (g2 p)
def b2{a b:Bool}(h:a=b):ah.b a=ah.b b:=by rw[h]
def HD:bc where
 L:=Rat
 args:=fun x=>[bN x]
 pre:=fun _=>True
 res:=fun x=>.b (decide (x.den=1))
def M3:a6 aS.ctx 126 HD.spec:=by
 refine bq [] SF.1 ?_;intro(x:Rat) _ H aH;refine an 4 ?_;by_cases aq:x.den=1
 ·refine ag 4 (.ih 1 Nat eS []) rfl (by show r2 x.den=_;rw[aq];rfl) (I ?_);exact au rfl (.of (b2 (zad aq).symm))
 ·refine ag 4 (.ih 1 Nat eS (aT 4294967296 x.den)) rfl (Cp aq) ?_;have cx:(aT 4294967296 x.den).isEmpty=false:=zdG.2 (fun e=>x.den_nz ((nu (by decide)).1 e));refine I ?_;exact au rfl (.of (b2 (by rw[zac aq];show j2 false _=false;rw[cx];rfl)))
def qU(s:ac bv):Int:=if(fx s).isSome then 0 else 6
def R2:bc where
 L:=ac bv
 args:=fun s=>[.s s]
 pre:=fun s=>s.length<=2000
 res:=fun s=>.i .i64 (qU s)
def aga:a6 aS.ctx 96 R2.spec:=by
 refine bq [(11,Bm.spec)] VR.1 ?_;intro(s:ac bv) ai H aH;refine I ?_;refine aC EH s ai ?_;cases h:fx s with
 |some x=>
  refine ag 7 (.bu [bN x,.i .i64 0]) rfl (by show mz s=_;unfold mz;rw[h]) (I ?_);exact au rfl (.of (by show _=ah.i .i64 (qU s);unfold qU;rw[h];rfl))
 |none=>
  refine ag 7 (.bu [bN 0,.i .i64 6]) rfl (by show mz s=_;unfold mz;rw[h]) (I ?_);exact au rfl (.of (by show _=ah.i .i64 (qU s);unfold qU;rw[h];rfl))
def s6:bc where
 L:=Int×Int
 args:=fun(n,m)=>[.i .i64 n,.i .i64 m]
 pre:=fun _=>True
 res:=fun(n,m)=>.b (decide (0<=n∧n<m))
def y5:a6 aS.ctx 49 s6.spec:=by
 refine bq [] Vh.1 ?_;intro⟨n,m⟩ _ H aH;refine an 6 ?_;by_cases h:0<=n
 ·refine dG 6 h (I ?_);exact au rfl (.of (b2 (decide_eq_decide.2 ⟨fun aB=>⟨h,aB⟩,fun aB=>aB.2⟩)))
 ·refine dW 6 h (I ?_);exact au rfl (.of (b2 (zac (fun aB=>h aB.1)).symm))
def Na:bc where
 L:=Int
 args:=fun n=>[.i .i64 n]
 pre:=fun _=>True
 res:=fun n=>.b (decide (1<=n∧n<=15))
def XB:a6 aS.ctx 94 Na.spec:=by
 refine bq [] VP.1 ?_;intro(n:Int) _ H aH;refine an 4 ?_;by_cases h:1<=n
 ·refine dG 4 h (I ?_);exact au rfl (.of (b2 (decide_eq_decide.2 ⟨fun aB=>⟨h,aB⟩,fun aB=>aB.2⟩)))
 ·refine dW 4 h (I ?_);exact au rfl (.of (b2 (zac (fun aB=>h aB.1)).symm))
def gp(p:dN)(i:Int):Int:=if i<p.head then 0 else if i<p.tail then 1 else 2
def wJ:bc where
 L:=dN×Int
 args:=fun(p,i)=>[h8 p,.i .i64 i]
 pre:=fun _=>True
 res:=fun(p,i)=>.i .i64 (gp p i)
def Ph:a6 aS.ctx 50 wJ.spec:=by
 refine bq [] Vi.1 ?_;intro⟨p,i⟩ _ H aH;have aw:∀{c:Int},gp p i=c->bY (.i .i64 c) (wJ.res (p,i)):=fun h=>.of (by rw[<-h];rfl);refine an 5 ?_;by_cases h:i<p.head
 ·refine dG 5 h (I ?_);exact au rfl (aw (zab h))
 refine dW 5 h (an 11 ?_);by_cases U:i<p.tail
 ·refine dG 11 U (I ?_);exact au rfl (aw ((zaa h).trans (zab U)))
 refine dW 11 U (I ?_);exact au rfl (aw ((zaa h).trans (zaa U)))
def wK(p:dN)(i k:Int):Bool:=decide (0<=k∧k<i∧(gp p k=0∨gp p k=gp p i))
def wL:bc where
 L:=dN×Int×Int
 args:=fun(p,i,k)=>[h8 p,.i .i64 i,.i .i64 k]
 pre:=fun _=>True
 res:=fun(p,i,k)=>.b (wK p i k)
def aqH:a6 aS.ctx 98 wL.spec:=by
 refine bq [(50,wJ.spec)] VT.1 ?_;intro⟨p,i,k⟩ _ H aH;have no:¬(0<=k∧k<i∧(gp p k=0∨gp p k=gp p i))->bY (.b false) (wL.res (p,i,k)):=fun h=>.of (b2 (zac h).symm);have yes:(0<=k∧k<i∧(gp p k=0∨gp p k=gp p i))->bY (.b true) (wL.res (p,i,k)):=fun h=>.of (b2 (zad h).symm);refine an 9 ?_;by_cases h:k<0
 ·refine dG 9 h (I ?_);exact au rfl (no (by omega))
 refine dW 9 h (an 13 ?_);by_cases U:i<=k
 ·refine dG 13 U (I ?_);exact au rfl (no (by omega))
 refine dW 13 U (I ?_);refine aC Ph (p,k) trivial ?_;refine ag 17 (.i .i64 (gp p k)) rfl rfl (an 19 ?_);by_cases af:gp p k=0
 ·refine dG 19 af (I ?_);exact au rfl (yes ⟨by omega,by omega,.inl af⟩)
 refine dW 19 af (I ?_);refine aC Ph (p,i) trivial ?_;refine ag 24 (.i .i64 (gp p i)) rfl rfl (an 25 ?_);by_cases ax:gp p k=gp p i
 ·refine dG 25 ax (I ?_);exact au rfl (yes ⟨by omega,by omega,.inr ax⟩)
 refine dW 25 ax (I ?_);exact au rfl (no (fun h=>h.2.2.elim af ax))
def jU(e p:Int)(x:Rat):Int:=max (gf x.num.natAbs x.den) (1-ch e)-p+1
def hU(e p:Int)(x:Rat):Prop:=b0 e p∧(x.num=0∨(b9 x (-jU e p x)).den=1∧¬ib e p<fD x)
instance(e p:Int)(x:Rat):Decidable (hU e p x):=by unfold hU;infer_instance
def hasB(e p:Int)(x:Rat):Bool:=decide (hU e p x)
def abG{e p:Int}{x:Rat}(h:b0 e p)(aa:cK 250 x): -9000<=jU e p x∧jU e p x<=9000:=by
 have cD:=DN x.num.natAbs x.den;have db:=vY aa.1;have hV:=vY aa.2;obtain⟨J,U,af,ax,a0⟩:=h;have:=ia J U;unfold jU;omega
def Gi:bc where
 L:=Int×Int×Rat
 args:=fun(e,p,x)=>[hz e p,bN x]
 pre:=fun(e,p,x)=>cK 250 x
 res:=fun(e,p,x)=>.b (hasB e p x)
def Sg:a6 aS.ctx 93 Gi.spec:=by
 refine bq [(127,BL.spec),(39,uP.spec),(179,LC.spec),(178,NC.spec),(177,r8.spec),(126,HD.spec),(117,Ft.spec),(180,Nz.spec),(12,wG.spec)] VO.1 ?_;intro⟨e,p,x⟩ (aa:cK 250 x) H aH;have no:¬hU e p x->bY (.b false) (Gi.res (e,p,x)):=fun h=>.of (b2 (by unfold hasB;exact(zac h).symm));have yes:hU e p x->bY (.b true) (Gi.res (e,p,x)):=fun h=>.of (b2 (by unfold hasB;exact(zad h).symm));refine I ?_;refine aC PV (e,p) trivial ?_;by_cases h:b0 e p
 ·refine ag 9 (.bu [je e p 0 (ch e),.i .i64 0]) rfl (zab h) (I ?_);refine aC sU x trivial (I ?_);refine cf (fun h0=> ?_) (fun h0=> ?_)
  ·have h0:x.num=0:=zbF.1 h0;refine I ?_;exact au rfl (yes ⟨h,.inl h0⟩)
  have h0:x.num≠0:=fun e=>h0 (by rw[e];rfl);have cD:=DN x.num.natAbs x.den;have db:=vY aa.1;have hV:=vY aa.2;obtain⟨s1,s2⟩:=abG h aa;refine I ?_;refine aZ So x ⟨dO aa (by decide),h0⟩ (I ?_);refine aZ Ym (e,p,gf x.num.natAbs x.den,0) ⟨h,by show _<=gf _ _;omega,by show gf _ _<=_;omega⟩ (an 24 ?_);refine ag 24 (.i .i64 (-jU e p x)) rfl (by show ah.i .i64 (IntKind.i64.wrap (-jU e p x))=_;exact bo rfl (by omega) (by omega)) (I ?_);refine aZ p0 (x,-jU e p x) ⟨dO aa (by decide),by show _<= -jU e p x;omega,by show -jU e p x<=_;omega⟩ (I ?_);refine aZ M3 (b9 x (-jU e p x)) trivial ?_;by_cases aq:(b9 x (-jU e p x)).den=1
  ·refine dG 26 aq (I ?_);refine aZ Ku x trivial (I ?_);refine aZ Yd (e,p,0) h (I ?_);refine aZ yL (fD x,ib e p) ⟨dO (HZ aa) (by decide),dO (Yr h) (by decide)⟩ (an 33 ?_);by_cases aO:ib e p<fD x
   ·have hc:=n7.2 aO;refine ag 33 (.b false) rfl (b2 (zac (by show¬ho _ _<=0;omega))) (I ?_);exact au rfl (no (fun aB=>aB.2.elim h0 (fun aB=>aB.2 aO)))
   ·have hc:¬0<ho (fD x) (ib e p):=fun h=>aO (n7.1 h);refine ag 33 (.b true) rfl (b2 (zad (by show ho _ _<=0;omega))) (I ?_);exact au rfl (yes ⟨h,.inr ⟨aq,aO⟩⟩)
  ·refine dW 26 aq (I ?_);exact au rfl (no (fun aB=>aB.2.elim h0 (fun aB=>aq aB.1)))
 ·refine ag 9 (.bu [je 0 0 0 0,.i .i64 2]) rfl (zaa h) (I ?_);exact au rfl (no (fun aB=>h aB.1))
def o4(p:dN):Int:=
 if(6<(p.bG.length:Int)∨6<(p.ins.length:Int)∨64<(p.bt.length:Int)∨4<(p.eX.length:Int))then 3
 else if((p.bG.length:Int)=0∨(p.bt.length:Int)=0∨p.mode<0∨4<p.mode)then 2
 else if(p.head<0∨p.tail<p.head∨(p.bt.length:Int)<p.tail)then 2
 else if((p.eX.length:Int)=0∧p.head≠(p.bt.length:Int))then 2 else 0
def zU:bc where
 L:=dN
 args:=fun p=>[h8 p]
 pre:=fun _=>True
 res:=fun p=>.i .i64 (o4 p)
def ajv:a6 aS.ctx 44 zU.spec:=by
 refine bq [] Vc.1 ?_;intro(p:dN) _ H aH;have a7:∀{c:Int},o4 p=c->bY (.i .i64 c) (zU.res p):=fun h=>.of (by rw[<-h];rfl);refine an 13 ?_;by_cases J:6<(p.bG.length:Int)
 ·refine dG 13 J (I ?_);exact au rfl (a7 (zab (.inl J)))
 refine dW 13 J (an 18 ?_);by_cases U:6<(p.ins.length:Int)
 ·refine dG 18 U (I ?_);exact au rfl (a7 (zab (.inr (.inl U))))
 refine dW 18 U (an 20 ?_);by_cases af:64<(p.bt.length:Int)
 ·refine dG 20 af (I ?_);exact au rfl (a7 (zab (.inr (.inr (.inl af)))))
 refine dW 20 af (an 25 ?_);by_cases ax:4<(p.eX.length:Int)
 ·refine dG 25 ax (I ?_);exact au rfl (a7 (zab (.inr (.inr (.inr ax)))))
 refine dW 25 ax ?_;have iS:¬(6<(p.bG.length:Int)∨6<(p.ins.length:Int)∨64<(p.bt.length:Int)∨4<(p.eX.length:Int)):=fun h=>h.elim J fun h=>h.elim U fun h=>h.elim af ax;have aw:=fun{c} h=> @a7 c ((zaa iS).trans h);refine an 31 ?_;by_cases aM:(p.bG.length:Int)=0
 ·refine ag 31 (.b true) rfl (b2 (zad aM)) (I ?_);exact au rfl (aw (zab (.inl aM)))
 refine ag 31 (.b false) rfl (b2 (zac aM)) (an 33 ?_);by_cases aN:(p.bt.length:Int)=0
 ·refine ag 33 (.b true) rfl (b2 (zad aN)) (I ?_);exact au rfl (aw (zab (.inr (.inl aN))))
 refine ag 33 (.b false) rfl (b2 (zac aN)) (an 37 ?_);by_cases bf:p.mode<0
 ·refine ag 37 (.b true) rfl (b2 (zad bf)) (I ?_);exact au rfl (aw (zab (.inr (.inr (.inl bf)))))
 refine ag 37 (.b false) rfl (b2 (zac bf)) (an 41 ?_);by_cases cb:4<p.mode
 ·refine ag 41 (.b true) rfl (b2 (zad cb)) (I ?_);exact au rfl (aw (zab (.inr (.inr (.inr cb)))))
 refine ag 41 (.b false) rfl (b2 (zac cb)) ?_;have gI:¬((p.bG.length:Int)=0∨(p.bt.length:Int)=0∨p.mode<0∨4<p.mode):=fun h=>h.elim aM fun h=>h.elim aN fun h=>h.elim bf cb;have e2:=fun{c} h=> @aw c ((zaa gI).trans h);refine an 46 ?_;by_cases a5:p.head<0
 ·refine ag 46 (.b true) rfl (b2 (zad a5)) (I ?_);exact au rfl (e2 (zab (.inl a5)))
 refine ag 46 (.b false) rfl (b2 (zac a5)) (an 53 ?_);by_cases bD:p.tail<p.head
 ·refine ag 53 (.b true) rfl (b2 (zad bD)) (I ?_);exact au rfl (e2 (zab (.inr (.inl bD))))
 refine ag 53 (.b false) rfl (b2 (zac bD)) (an 58 ?_);by_cases dt:(p.bt.length:Int)<p.tail
 ·refine ag 58 (.b true) rfl (b2 (zad dt)) (I ?_);exact au rfl (e2 (zab (.inr (.inr dt))))
 refine ag 58 (.b false) rfl (b2 (zac dt)) ?_;have pk:¬(p.head<0∨p.tail<p.head∨(p.bt.length:Int)<p.tail):=fun h=>h.elim a5 fun h=>h.elim bD dt;have bW:=fun{c} h=> @e2 c ((zaa pk).trans h);refine an 64 ?_;by_cases fc:(p.eX.length:Int)=0
 ·refine ag 64 (.b true) rfl (b2 (zad fc)) (an 70 ?_);by_cases hQ:p.head≠(p.bt.length:Int)
  ·refine ag 70 (.b true) rfl (b2 (zad hQ)) (I ?_);exact au rfl (bW (zab ⟨fc,hQ⟩))
  ·refine ag 70 (.b false) rfl (b2 (zac hQ)) (I ?_);exact au rfl (bW (zaa (fun h=>hQ h.2)))
 ·refine ag 64 (.b false) rfl (b2 (zac fc)) (I ?_);exact au rfl (bW (zaa (fun h=>fc h.1)))
def Ss:bc where
 L:=dN×Nat×Int×Int
 args:=fun(p,j,e,q)=>[h8 p,.i .i64 (j:Int)]
 pre:=fun(p,j,e,q)=>p.bG[j]? =some (e,q)
 res:=fun(p,j,e,q)=>.i .i64 (if b0 e q then 0 else 2)
def ag0:a6 aS.ctx 45 Ss.spec:=by
 refine bq [(92,CG.spec)] Vd.1 ?_;intro⟨p,j,e,q⟩ hj H aH;refine I ?_;refine ep (e,q) hj ?_;refine I ?_;refine aC Lw (e,q) trivial (I ?_);exact au rfl (.refl _)
def Jw:ac (Nat×Nat):=[(0,0),(0,1),(0,1),(0,0),(1,1),(1,1),(1,1),(1,1),(2,2),(2,2),(2,2),(2,2),(2,2),(2,2),(3,3),(4,4)]
def EN:ac ah:=Jw.flatMap fun p=>[.i .i64 (p.1:Int),.i .i64 (p.2:Int)]
def nM(o:Nat):Nat:=(Jw.getD o (0,0)).1
def uT(o:Nat):Nat:=(Jw.getD o (0,0)).2
def abj:∀o,o<16->EN.drop (o*2)= .i .i64 (nM o:Int):: .i .i64 (uT o:Int)::EN.drop (o*2+2):=by
 intro o h;rcases(show o=0∨o=1∨o=2∨o=3∨o=4∨o=5∨o=6∨o=7∨o=8∨o=9∨o=10∨o=11∨o=12∨o=13∨o=14∨o=15 by omega)with h|h|h|h|h|h|h|h|h|h|h|h|h|h|h|h<;>subst h<;>rfl
def Jx:∀o,o<16->nM o<=4∧uT o<=4:=by decide +kernel
def oN(H:bJ):Prop:=∃vs el bd a3,H 0=some (.cells vs el bd a3)∧∀bF,dj bF EN [] vs
def oN.up{H bF:bJ}(h:dp H bF):oN H->oN bF:=fun⟨vs,el,bd,a3,J,U⟩=>⟨vs,el,bd,a3,h _ _ J,U⟩
def hH(n:Int):ac ah:=[.i .i64 n]
def eT(n:gl):ac Int:=[n.a,n.b,n.c,n.d]
def rh(n:gl):Bool:=((eT n).drop (uT n.op.toNat)).all (fun x=>x==0)&&(n.v.isEmpty||decide (n.op=3))
def Xf:bc where
 L:=gl
 args:=fun n=>[.agg (kU n)]
 pre:=fun n=>1<=n.op∧n.op<=15
 res:=fun n=>.b (rh n)
 hp:=oN
 hm:=oN.up
def Xg{l:ac Int}{k:Nat}(ab:k<l.length)(h:(l.take k).all (fun x=>x==0)=true)(U:l[k]=0):(l.take (k+1)).all (fun x=>x==0)=true:=by
 rw[zbs ab,zeK,h,U];rfl
def amw:a6 aS.ctx 95 Xf.spec:=by
 refine kn [] VQ.1 ?_;intro(n:gl) ⟨(J:1<=n.op),(U:n.op<=15)⟩ H aH ⟨vs,el,bd,a3,aO,aq⟩;obtain⟨o,ao⟩:∃o:Nat,n.op=(o:Int):=⟨n.op.toNat,by omega⟩;have mj:n.op.toNat=o:=by omega
 have a4:o<16:=by omega
 obtain⟨_,hu⟩:=Jx o a4;have aV:=abj o a4;have bb:rh n=(((eT n).drop (uT o)).all (fun x=>x==0)&&(n.v.isEmpty||decide (n.op=3))):=by unfold rh;rw[mj]
 generalize uT o=u at *;refine an 16 ?_;refine ag 16 (.i .i64 (o:Int)) rfl (by rw[<-ao]) ?_;refine EB aO aq (j:=o) ?_;refine ag 17 (.ip (.i .i64 (nM o:Int):: .i .i64 (u:Int)::EN.drop (o*2+2))) rfl (by rw[aV]) (an 19 ?_);refine mD 1 hH (eT n) ?_;refine e7 (ar1 (p:=u) (q:=4) rfl rfl ⟨_,rfl⟩ rfl (by omega) (by decide)) ?_;obtain⟨br,jK⟩:∃br,br=if 4=u then 0 else u:=⟨_,rfl⟩;rw[<-jK];refine I ?_;refine df (L:=Nat) (fun k=>k<=4-u∧(((eT n).drop u).take k).all (fun x=>x==0)=true) (fun(k:Nat)=>⟨[.c 126 (kU n),.a 277 false 1 Int hH (eT n)],2,[(1,.p 0 0),(2,.b false),(20,.bj 1 1 br (4-u) (4-u)),(21,.i .i64 ((4-u:Nat):Int)),(22,.i .i64 (k:Int))]⟩) (fun k=>4-u-k) [0,1] 0 ⟨zaf _,rfl⟩ (by show 4-u-0<bT+1;unfold bT;omega) ji ?_;rintro(k:Nat) ⟨ab,aJ⟩;have hlen:((eT n).drop u).length=4-u:=by rw[zaH];rfl
 refine an 23 ?_;by_cases hl:k<4-u
 ·refine ag 23 (.b true) rfl (b2 (zad (by omega))) (I ?_);refine uG ?_;rw[zaa (by omega)]at jK;have jK:=jK.symm;subst jK;have j9:(eT n)[u+k]? =some ((eT n).drop u)[k]:=by rw[<-zaI,zdr (by omega)]
  refine sS ((eT n).drop u)[k] j9 ?_;refine an 27 ?_;by_cases aa:((eT n).drop u)[k]=0
  ·refine ag 27 (.b false) rfl (b2 (zac (by rw[aa];decide))) (an 28 ?_);refine ag 28 (.i .i64 ((k+1:Nat):Int)) rfl bo (I ?_);exact ba [0,1] (k+1) ⟨by omega,by omega,Xg (by omega) aJ aa⟩ ji
  ·refine dG 27 aa (I ?_);refine au rfl (.of (b2 ?_));rw[bb];have:((eT n).drop u).all (fun x=>x==0)=false:=by
    rw[List.all_eq_false];exact⟨((eT n).drop u)[k],zdY (by rw[hlen];exact hl),by simpa using aa⟩
   rw[this];rfl
 ·refine ag 23 (.b false) rfl (b2 (zac (by omega))) ?_;have pe:((eT n).drop u).all (fun x=>x==0)=true:=by
   rw[zaF (by omega)]at aJ;exact aJ
  rw[pe,Bool.true_and]at bb;refine an 31 ?_;by_cases aI:n.v=[]
  ·refine ag 31 (.b true) rfl (by rw[aI];rfl) (I ?_);exact au rfl (.of (b2 (by rw[bb,aI];rfl)))
  ·refine ag 31 (.b false) rfl (b2 (by simpa using aI)) (I ?_);exact au rfl (.of (b2 (by rw[bb];cases hq:n.v with|nil=>exact absurd hq aI|cons a l=>rfl)))
def Ro:bc where
 L:=ac Int
 args:=fun l=>[.cw 1 Int hH l]
 pre:=fun l=>l.length<=17592186044416
 res:=fun l=>.c5 1 Int hH l
def aeu:a6 aS.ctx 181 Ro.spec:=by
 refine bq [] Tu.1 ?_;intro(l:ac Int) (hl:l.length<=17592186044416) H aH;by_cases cx:l=[]
 ·subst cx;refine I ?_;refine ap4 ?_ (fun _=> ?_)
  ·refine I ?_;refine mD 0 hH ([]:ac Int) ?_;refine apT (R:=hH) ?_;refine jh 7 ?_;refine I ?_;exact au rfl (.refl _)
  ·refine I ?_;exact au rfl .nl
 refine Bj 0 (.c5 1 Int hH l) rfl (.nw cx) ?_;refine I ?_;refine ap5 ?_ (fun h=> ?_)
 ·refine I ?_;refine mD 0 hH ([]:ac Int) ?_;have z7:=zbg.2 cx;refine aav (R:=hH) l (JG rfl (fun _=>rfl) (fun _=>rfl)) l ?_ (h0:=cx);refine jh 7 ?_;refine I ?_;exact au rfl (.refl _)
 ·exact absurd h cx
def g8(n:gl):ac Int:=if 1<=n.op∧n.op<=15 then(eT n).take (nM n.op.toNat)else[]
def M9:bc where
 L:=gl
 args:=fun n=>[.agg (kU n)]
 pre:=fun n=>True
 res:=fun n=>.c5 1 Int hH (g8 n)
 hp:=oN
 hm:=oN.up
def am7:a6 aS.ctx 97 M9.spec:=by
 refine kn [(94,Na.spec),(181,Ro.spec)] VS.1 ?_;intro(n:gl) _ H aH ⟨vs,el,bd,a3,aO,aq⟩;have aw:∀{l},g8 n=l->bY (.c5 1 Int hH l) (M9.res n):=fun h=>.of (by rw[<-h];rfl);refine I ?_;refine aC XB n.op trivial ?_;by_cases h:1<=n.op∧n.op<=15
 ·refine dG 6 h ?_;obtain⟨J,U⟩:=h;obtain⟨o,ao⟩:∃o:Nat,n.op=(o:Int):=⟨n.op.toNat,by omega⟩;have mj:n.op.toNat=o:=by omega
  have a4:o<16:=by omega
  obtain⟨hu,_⟩:=Jx o a4;have aV:=abj o a4;have bb:g8 n=(eT n).take (nM o):=by unfold g8;rw[mj];exact zab ⟨J,U⟩
  generalize nM o=u at *;refine an 18 ?_;refine ag 18 (.i .i64 (o:Int)) rfl (by rw[<-ao]) ?_;refine EB aO aq (j:=o) ?_;refine ag 19 (.ip (.i .i64 (u:Int):: .i .i64 (uT o:Int)::EN.drop (o*2+2))) rfl (by rw[aV]) (an 21 ?_);refine mD 1 hH (eT n) ?_;refine e7 (JD (p:=0) (q:=u) rfl rfl rfl ⟨_,rfl⟩ (zaf _) (by omega) (.inr rfl)) ?_;refine Jj 22 ((eT n).take u) ?_ (hn:=by rw[zay];show min u 4=u-0;omega);refine aC aeu ((eT n).take u) (by show(List.take _ _).length<=_;rw[zay];omega) (I ?_) (he:=by exact⟨.cw,trivial⟩);exact au rfl (aw bb)
 ·refine dW 6 h (I ?_);exact au rfl (bY.trans .nl (aw (zaa h)))
def jd(n:Int)(m:Nat):Prop:=0<=n∧n<(m:Int)
instance(n:Int)(m:Nat):Decidable (jd n m):=by unfold jd;infer_instance
def uv(p:dN)(i:Nat)(n:gl):Int:=
 if¬(1<=n.op∧n.op<=15)∨rh n=false then 2
 else if¬jd n.f p.bG.length then 7
 else if n.op=1∧¬jd n.a p.ins.length then 7
 else if n.op=1∧(p.ins[n.a.toNat]?).map jZ.f≠some n.f then 143
 else if n.op=2∧((i:Int)<p.head∨¬jd n.a p.eX.length)then 7
 else if n.op=3 then qU n.v
 else if(g8 n).all (fun k=>wK p i k)then 0 else 7
def NK:bc where
 L:=dN×Nat×gl
 args:=fun(p,i,n)=>[h8 p,.i .i64 (i:Int)]
 pre:=fun(p,i,n)=>p.bt[i]? =some n∧n.v.length<=2000
 res:=fun(p,i,n)=>.i .i64 (uv p i n)
 hp:=oN
 hm:=oN.up
def Xy(n:gl):(g8 n).length<=4:=by
 unfold g8;split
 ·rw[zay];exact Nat.min_le_right _ 4
 ·exact zaf _
def aoi:a6 aS.ctx 47 NK.spec:=by
 refine kn [(94,Na.spec),(95,Xf.spec),(49,s6.spec),(96,R2.spec),(97,M9.spec),(98,wL.spec)] Vf.1 ?_;intro⟨p,i,n⟩ ⟨hj,aI⟩ H aH eB;have a7:∀{c:Int},uv p i n=c->bY (.i .i64 c) (NK.res (p,i,n)):=fun h=>.of (by rw[<-h];rfl);refine I ?_;refine ep n hj ?_
 iterate 7 refine ha ?_
 refine m6 (L:=Unit) (fun _=>uv p i n=if(g8 n).all (fun k=>wK p i k)then 0 else 7) (fun _=>⟨[.c 118 (g2 p),.c 126 (kU n)],2,[(1,.i .i64 (i:Int)),(2,.p 0 0),(4,.i .i64 0),(5,.p 1 0)]⟩) ?_ ?_
 ·refine I ?_;refine aC XB n.op trivial ?_;by_cases J:1<=n.op∧n.op<=15
  case neg=>
   refine dW 17 J (I ?_);exact au rfl (a7 (zab (.inl J)))
  refine dG 17 J (I ?_);refine aC amw n J ?_ (hh:=eB);cases U:rh n with
  |false=>
   refine ag 21 (.b false) rfl (b2 U) (I ?_);exact au rfl (a7 (zab (.inr U)))
  |true=>
  refine ag 21 (.b true) rfl (b2 U) ?_;have aM:¬(¬(1<=n.op∧n.op<=15)∨rh n=false):=fun h=>h.elim (fun h=>h J) (fun h=>Bool.noConfusion (U.symm.trans h));refine I ?_;refine aC y5 (n.f,(p.bG.length:Int)) trivial ?_;by_cases af:jd n.f p.bG.length
  case neg=>
   refine dW 31 af (I ?_);exact au rfl (a7 ((zaa aM).trans (zab af)))
  refine dG 31 af ?_;have aN:¬¬jd n.f p.bG.length:=fun h=>h af;have e2:=fun{c} h=> @a7 c ((zaa aM).trans ((zaa aN).trans h));have f2:=fun{c} h=>((zaa aM).trans ((zaa aN).trans h):uv p i n=c);clear a7;refine an 36 ?_;by_cases hi:n.op=1
  ·refine dG 36 hi (I ?_);refine aC y5 (n.a,(p.ins.length:Int)) trivial ?_;by_cases ax:jd n.a p.ins.length
   case neg=>
    refine dW 44 ax (I ?_);exact au rfl (e2 (zab ⟨hi,ax⟩))
   refine dG 44 ax ?_;have bf:¬(n.op=1∧¬jd n.a p.ins.length):=fun h=>h.2 ax;refine an 50 ?_;refine cm 50 (.b true) rfl rfl (b2 (zad hi)) ?_;obtain⟨a,aY⟩:∃a:Nat,n.a=(a:Int):=⟨n.a.toNat,by have:=ax.1;omega⟩;have q1:n.a.toNat=a:=by omega
   have kO:a<p.ins.length:=by have:=ax.2;omega
   refine an 56 ?_;refine cm 56 (.i .i64 (a:Int)) rfl rfl (by rw[aY]) ?_;refine I ?_;refine hK p.ins[a] (bV kO) ?_;refine an 62 ?_;by_cases a0:(p.ins[a]).f=n.f
   case neg=>
    refine cm 62 (.b true) rfl rfl (b2 (zad a0)) ?_;refine I ?_;exact au rfl (e2 ((zaa bf).trans (zab ⟨hi,by rw[q1,bV kO];simpa using a0⟩)))
   refine cm 62 (.b false) rfl rfl (b2 (zac (fun h=>h a0))) ?_;refine an 67 ?_;refine ag 67 (.b false) rfl (b2 (zac (by omega))) (an 88 ?_);refine ag 88 (.b false) rfl (b2 (zac (by omega))) (I ?_);refine ba [0,1] () (f2 ((zaa bf).trans ((zaa ?_).trans ((zaa (by omega)).trans (zaa (by omega)))))) ji;rintro⟨_,h⟩;exact h (by rw[q1,bV kO];simp[a0])
  ·refine dW 36 hi ?_;have f3:=fun{c} h=> @f2 c ((zaa (fun h=>hi h.1)).trans ((zaa (fun h=>hi h.1)).trans h));have bW:=fun{c} h=> @e2 c ((zaa (fun h=>hi h.1)).trans ((zaa (fun h=>hi h.1)).trans h));refine an 50 ?_;refine cm 50 (.b false) rfl rfl (b2 (zac hi)) ?_;refine an 67 ?_;by_cases ai:n.op=2
   ·refine dG 67 ai (an 73 ?_);by_cases ax:(i:Int)<p.head
    ·refine dG 73 ax (I ?_);exact au rfl (bW (zab ⟨ai,.inl ax⟩))
    refine dW 73 ax (I ?_);refine aC y5 (n.a,(p.eX.length:Int)) trivial ?_;by_cases a0:jd n.a p.eX.length
    case neg=>
     refine dW 81 a0 (I ?_);exact au rfl (bW (zab ⟨ai,.inr a0⟩))
    refine dG 81 a0 (an 88 ?_);refine ag 88 (.b false) rfl (b2 (zac (by omega))) (I ?_);exact ba [0,1] () (f3 ((zaa (fun h=>h.2.elim ax (fun h=>h a0))).trans (zaa (by omega)))) ji
   ·refine dW 67 ai ?_;have f4:=fun{c} h=> @f3 c ((zaa (fun h=>ai h.1)).trans h);have e6:=fun{c} h=> @bW c ((zaa (fun h=>ai h.1)).trans h);refine an 88 ?_;by_cases hc:n.op=3
    ·refine dG 88 hc (I ?_);refine aC aga n.v aI (I ?_);exact au rfl (e6 (zab hc))
    ·refine dW 88 hc (I ?_);exact ba [0,1] () (f4 (zaa hc)) ji
 intro _ iM;have ab:=Xy n;refine I ?_;refine aC am7 n trivial (I ?_) (hh:=eB);refine df (L:=Nat) (fun k=>k<=(g8 n).length∧((g8 n).take k).all (fun k=>wK p i k)=true) (fun(k:Nat)=>⟨[.c 118 (g2 p),.c 126 (kU n)],2,[(1,.i .i64 (i:Int)),(2,.p 0 0),(4,.i .i64 0),(93,.c5 1 Int hH (g8 n)),(94,.i .i64 ((g8 n).length:Int)),(95,.i .i64 (k:Int))]⟩) (fun k=>(g8 n).length-k) [0,1] 0 ⟨zaf _,rfl⟩ mV ji ?_;rintro(k:Nat) ⟨jq,aJ⟩;refine an 96 ?_;by_cases hl:k<(g8 n).length
 ·refine ag 96 (.b true) rfl (b2 (zad (by omega))) (I ?_);refine ep (g8 n)[k] (bV hl) ?_;refine I ?_;refine aC aqH (p,(i:Int),(g8 n)[k]) trivial ?_;cases ai:wK p i (g8 n)[k]with
  |false=>
   refine ag 102 (.b false) rfl (b2 ai) (I ?_);refine au rfl (a7 (iM.trans (zaa ?_)));intro h;rw[zbn]at h;have:=h _ (ea hl);rw[ai]at this;cases this
  |true=>
   refine ag 102 (.b true) rfl (b2 ai) (an 104 ?_);refine ag 104 (.i .i64 ((k+1:Nat):Int)) rfl bo (I ?_);exact ba [0,1] (k+1) ⟨by omega,hl,by rw[zbs hl,zeK,aJ];simp[ai]⟩ ji
 ·refine ag 96 (.b false) rfl (b2 (zac (by omega))) (I ?_);exact au rfl (a7 (iM.trans (zab (by rw[zaF (by omega)]at aJ;exact aJ))))
def pf(e q:Int)(x:jZ):Int:=
 match fx x.aL,fx x.hi with
 |some a,some b=>if hU e q a∧hU e q b∧¬b<a then 0 else 7
 |_,_=>6
def tZ(p:dN)(x:jZ):Int:=
 if jd x.f p.bG.length then(match p.bG[x.f.toNat]? with|some f=>pf f.1 f.2 x|none=>7)else 7
def XH{v k:Nat}(h:v<10^k)(ab:k<=2000):dI 250 v:=rl (fy h (zaj (zax (by decide) ab) (by decide +kernel)))
def Ee{s:ac bv}(ai:s.length<=2000){x:Rat}(h:fx s=some x):cK 250 x:=by
 obtain⟨P,q,iq,_,_,fP,hq,zY,hint,Ah⟩:=Ol ai;by_cases dE:oK (dQ s).1 P q iq
 ·obtain⟨aM,aN,bf⟩:=dE;have u4:=XH (rJ aM.2.1) (by omega);cases iq with
  |false=>
   have e:=hint ⟨aM,aN,bf⟩ rfl;rw[h]at e;cases e;exact uq (by rw[uL];exact u4) (cH (nN (by decide)) (by decide)) (by decide)
  |true=>
   obtain⟨af,ax,a0⟩:=bf rfl;have oy:b4 q≠0:=fun h=>ax (w9 af h);have e:=Ah ⟨aM,aN,bf⟩ rfl;rw[h]at e;split at e
   ·cases e;exact uq (by rw[uL];exact u4) (XH (rJ af.2.1) (by omega)) oy
   ·cases e
 ·rw[zY dE]at h;cases h
def gQ(s:ac bv):Rat:=(fx s).getD 0
def agi(x:jZ):Nat->ac ah
 |0=>[.b false,.nl,.nl,.b false,.nl,.nl]
 |1=>nm (gQ x.aL)++[.b false,.nl,.nl]
 |_=>nm (gQ x.aL)++nm (gQ x.hi)
def avk{own:ac bp}{n p:Nat}{e cy:bX}{o q r t:bp}(h:kG [0,1,2,3] cy e)(ao:∃br,own[0]? =some br∧gA [0,1,2,3] o br)(hq:∃br,own[1]? =some br∧gA [0,1,2,3] q br)(hr:∃br,own[2]? =some br∧gA [0,1,2,3] r br)(aV:∃br,own[3]? =some br∧gA [0,1,2,3] t br)(hp:pinned p [0,1,2,3] 0=true:=by rfl):Sub p [0,1,2,3] ⟨own,n,e⟩ ⟨[o,q,r,t],4,cy⟩:=⟨by simp,rfl,⟨ao,hq,hr,aV,trivial⟩,h,hp⟩
def DG:bc where
 L:=dN×Nat×jZ
 args:=fun(p,i,x)=>[h8 p,.i .i64 (i:Int)]
 pre:=fun(p,i,x)=>p.ins[i]? =some x∧x.aL.length<=2000∧x.hi.length<=2000
 res:=fun(p,i,x)=>.i .i64 (tZ p x)
def amC:a6 aS.ctx 46 DG.spec:=by
 refine bq [(49,s6.spec),(11,Bm.spec),(93,Gi.spec),(12,wG.spec)] Ve.1 ?_;intro⟨p,i,x⟩ ⟨hj,fH,gu⟩ H aH;have a7:∀{c:Int},tZ p x=c->bY (.i .i64 c) (DG.res (p,i,x)):=fun h=>.of (by rw[<-h];rfl);refine I ?_;refine ep x hj ?_;refine I ?_;refine aC y5 (x.f,(p.bG.length:Int)) trivial ?_;by_cases af:jd x.f p.bG.length
 case neg=>
  refine dW 24 af (I ?_);exact au rfl (a7 (zaa af))
 refine dG 24 af ?_;obtain⟨f,ae⟩:∃f:Nat,x.f=(f:Int):=⟨x.f.toNat,by have:=af.1;omega⟩;have tK:x.f.toNat=f:=by omega
 have tM:f<p.bG.length:=by have:=af.2;omega
 obtain⟨⟨jD,jE⟩,hq⟩:∃w,p.bG[f]? =some w:=⟨_,bV tM⟩;have aw:∀{c:Int},pf jD jE x=c->bY (.i .i64 c) (DG.res (p,i,x)):=fun h=>a7 (by unfold tZ;rw[zab af,tK,hq];exact h);refine I ?_;refine df (L:=Nat) (fun k=>k<=2∧(1<=k->fx x.aL=some (gQ x.aL))∧(2<=k->fx x.hi=some (gQ x.hi))) (fun(k:Nat)=>⟨[.c 118 (g2 p),.c 38 (Ap x),.c 175 (agi x k),.c 36 [.s x.aL,.s x.hi]],4,[(2,.p 0 0),(4,.i .i64 0),(5,.p 1 0),(6,.p 2 0),(30,.bj 3 1 0 2 2),(31,.i .i64 2),(32,.i .i64 (k:Int))]⟩) (fun k=>2-k) [0,1,2,3] 0 ⟨by omega,fun h=>absurd h (by decide),fun h=>absurd h (by decide)⟩ (by show 2-0<bT+1;unfold bT;omega) rM ?_;rintro(k:Nat) ⟨ab,We,akb⟩;rcases(show k=0∨k=1∨k=2 by omega)with rfl|rfl|rfl
 ·refine I ?_;refine jS (j:=0) ?_;refine I ?_;refine aC EH x.aL fH ?_;cases h:fx x.aL with
  |none=>
   refine ag 39 (.bu [bN 0,.i .i64 6]) rfl (by show mz x.aL=_;unfold mz;rw[h]) (I ?_);exact au rfl (aw (by unfold pf;rw[h]))
  |some X=>
  have aB:fx x.aL=some (gQ x.aL):=by unfold gQ;rw[h];rfl
  refine ag 39 (.bu [bN (gQ x.aL),.i .i64 0]) rfl (by show mz x.aL=_;unfold mz;rw[aB]) (I ?_);refine e7 (x6 (j:=0) rfl rfl (by decide)) ?_;refine I ?_;exact ba [0,1,2,3] 1 ⟨by decide,by decide,fun _=>h.symm.trans aB,fun h=>absurd h (by decide)⟩ rM
 ·have er:=We (by decide);refine I ?_;refine jS (j:=1) ?_;refine I ?_;refine aC EH x.hi gu ?_;cases h:fx x.hi with
  |none=>
   refine ag 39 (.bu [bN 0,.i .i64 6]) rfl (by show mz x.hi=_;unfold mz;rw[h]) (I ?_);exact au rfl (aw (by unfold pf;rw[h,er]))
  |some X=>
  have aB:fx x.hi=some (gQ x.hi):=by unfold gQ;rw[h];rfl
  refine ag 39 (.bu [bN (gQ x.hi),.i .i64 0]) rfl (by show mz x.hi=_;unfold mz;rw[aB]) (I ?_);refine e7 (x6 (j:=1) rfl rfl (by decide)) ?_;refine I ?_;exact ba [0,1,2,3] 2 ⟨by decide,by decide,fun _=>er,fun _=>h.symm.trans aB⟩ rM
 ·have er:=We (by decide);have bb:=akb (by decide);have g0:pf jD jE x=if hU jD jE (gQ x.aL)∧hU jD jE (gQ x.hi)∧¬gQ x.hi<gQ x.aL then 0 else 7:=by unfold pf;rw[er,bb]
  refine an 53 ?_;refine ag 53 (.i .i64 (f:Int)) rfl (by rw[ae]) (I ?_);refine ep (jD,jE) hq ?_;refine I ?_;have DX:=Ee fH er;have DY:=Ee gu bb;have no:¬(hU jD jE (gQ x.aL)∧hU jD jE (gQ x.hi)∧¬gQ x.hi<gQ x.aL)->bY (.i .i64 7) (DG.res (p,i,x)):=fun h=>aw (g0.trans (zaa h));refine e7 (x6 (j:=0) rfl rfl (by decide)) ?_;refine I ?_;refine aC Sg (jD,jE,gQ x.aL) DX ?_;by_cases cP:hU jD jE (gQ x.aL)
  case neg=>
   refine dW 59 cP (I ?_);exact au rfl (no (fun h=>cP h.1))
  refine dG 59 cP (I ?_);refine e7 (x6 (j:=1) rfl rfl (by decide)) ?_;refine I ?_;refine aC Sg (jD,jE,gQ x.hi) DY ?_;by_cases cT:hU jD jE (gQ x.hi)
  case neg=>
   refine dW 65 cT (I ?_);exact au rfl (no (fun h=>cT h.2.1))
  refine dG 65 cT (I ?_);refine e7 (x6 (j:=0) rfl rfl (by decide)) ?_;refine I ?_;refine e7 (x6 (j:=1) rfl rfl (by decide)) ?_;refine I ?_;refine aC yL (gQ x.aL,gQ x.hi) ⟨dO DX (by decide),dO DY (by decide)⟩ (an 74 ?_);by_cases ek:gQ x.hi<gQ x.aL
  ·have hc:=n7.2 ek;refine dG 74 hc (I ?_);exact au rfl (no (fun h=>h.2.2 ek))
  ·have hc:¬0<ho (gQ x.aL) (gQ x.hi):=fun h=>ek (n7.1 h);refine dW 74 hc (I ?_);exact au rfl (aw (g0.trans (zab ⟨cP,cT,ek⟩)))
def jt(i f:Int)(n:gl):Bool:=decide (n.op=2)&&(decide (n.a=i)&&decide (n.f≠f))
def Zm:bc where
 L:=gl×Int×Int
 args:=fun(n,i,f)=>[.agg (kU n),.ip [.i .i64 i],.ip [.i .i64 f]]
 pre:=fun _=>True
 res:=fun(n,i,f)=>.b (jt i f n)
def aoW:a6 aS.ctx 99 Zm.spec:=by
 refine bq [] VU.1 ?_;intro⟨n,i,f⟩ _ H aH;refine an 7 ?_;by_cases J:n.op=2
 ·refine dG 7 J (an 12 ?_);by_cases U:n.a=i
  ·refine dG 12 U (I ?_);exact au rfl (.of (b2 (by unfold jt;rw[zad J,zad U];rfl)))
  ·refine dW 12 U (I ?_);exact au rfl (.of (b2 (by unfold jt;rw[zad J,zac U];rfl)))
 ·refine dW 7 J (I ?_);exact au rfl (.of (b2 (by unfold jt;rw[zac J];rfl)))
def ri(q:gl->Bool):ac gl->Nat->Int
 |[],_=> -1
 |n::l,k=>if q n=true then k else ri q l (k+1)
theorem Xj(q:gl->Bool):∀(l:ac gl) (k:Nat),decide (0<=ri q l k)=l.any q
 |[],_=>rfl
 |n::l,k=>by
  unfold ri;rw[List.any_cons];cases h:q n with
  |true=>simp
  |false=>simpa using Xj q l (k+1)
def Od(i f:Int):ah:=.fn (.func 99) [] [.ip [.i .i64 i],.ip [.i .i64 f]]
def Xn:bc where
 L:=ac gl×Int×Int
 args:=fun(l,i,f)=>[.c5 7 gl kU l,Od i f]
 pre:=fun(l,i,f)=>l.length<=1000000
 res:=fun(l,i,f)=>.i .i64 (ri (jt i f) l 0)
def amB:a6 aS.ctx 182 Xn.spec:=by
 refine bq [(99,Zm.spec)] Tv.1 ?_;intro⟨l,i,f⟩ (hl:l.length<=1000000) H aH;refine I ?_;refine df (L:=Nat) (fun k=>k<=l.length∧ri (jt i f) (l.drop k) k=ri (jt i f) l 0) (fun(k:Nat)=>⟨[],0,[(0,.c5 7 gl kU l),(1,Od i f),(4,.i .i64 0),(7,.i .i64 (l.length:Int)),(8,.i .i64 (k:Int))]⟩) (fun k=>l.length-k) [] 0 ⟨zaf _,rfl⟩ mV ew ?_;rintro(k:Nat) ⟨ab,aJ⟩;refine an 9 ?_;by_cases a4:k<l.length
 ·refine ag 9 (.b true) rfl (b2 (zad (by omega))) (I ?_);refine ep l[k] (bV a4) ?_;refine I ?_;have aq:l.drop k=l[k]::l.drop (k+1):=hk a4;rw[aq]at aJ;refine Ez aoW (l[k],i,f) trivial ?_;cases h:jt i f l[k]with
  |true=>
   refine ag 16 (.b true) rfl (b2 h) (I ?_);exact au rfl (.of (by show ah.i _ _=ah.i .i64 (ri (jt i f) l 0);rw[<-aJ];unfold ri;rw[zab h]))
  |false=>
   refine ag 16 (.b false) rfl (b2 h) (an 18 ?_);refine ag 18 (.i .i64 ((k+1:Nat):Int)) rfl bo (I ?_);refine ba [] (k+1) ⟨by omega,a4,?_⟩ ew;rw[<-aJ];conv=>rhs;unfold ri
   rw[zaa (by rw[h];decide)]
 ·refine ag 9 (.b false) rfl (b2 (zac (by omega))) (I ?_);exact au rfl (.of (by show ah.i _ _=ah.i .i64 (ri (jt i f) l 0);rw[<-aJ,zbj (by omega)];rfl))
def Rx:bc where
 L:=ac gl×Int×Int
 args:=fun(l,i,f)=>[.c5 7 gl kU l,Od i f]
 pre:=fun(l,i,f)=>l.length<=1000000
 res:=fun(l,i,f)=>.b (l.any (jt i f))
def aeA:a6 aS.ctx 100 Rx.spec:=by
 refine bq [(182,Xn.spec)] Sx.1 ?_;intro⟨l,i,f⟩ hl H aH;refine I ?_;refine aC amB (l,i,f) hl ?_;refine ag 7 (.i .i64 (ri (jt i f) l 0)) rfl rfl (I ?_);exact au rfl (.of (b2 (Xj _ l 0)))
def Bw(p:dN)(i:Nat)(s:w2):Int:=
 if¬(0<=s.i∧s.i<p.head)∨¬(0<=s.n∧s.n<p.tail)then 7
 else match p.bt[s.i.toNat]?,p.bt[s.n.toNat]? with
  |some a,some b=>if b.f≠a.f∨p.bt.any (jt i a.f)=true then 143 else 0
  |_,_=>0
def uQ:bc where
 L:=dN×Nat×w2
 args:=fun(p,i,s)=>[h8 p,.i .i64 (i:Int)]
 pre:=fun(p,i,s)=>p.eX[i]? =some s∧p.head<=(p.bt.length:Int)∧p.tail<=(p.bt.length:Int)∧p.bt.length<=1000000
 res:=fun(p,i,s)=>.i .i64 (Bw p i s)
def asB:a6 aS.ctx 48 uQ.spec:=by
 refine bq [(49,s6.spec),(100,Rx.spec)] Vg.1 ?_;intro⟨p,i,s⟩ ⟨hj,hh,aV,hl⟩ H aH;have a7:∀{c:Int},Bw p i s=c->bY (.i .i64 c) (uQ.res (p,i,s)):=fun h=>.of (by rw[<-h];rfl);refine I ?_;refine ep s hj ?_;refine I ?_;refine aC y5 (s.i,p.head) trivial ?_;by_cases J:0<=s.i∧s.i<p.head
 case neg=>
  refine dW 19 J (I ?_);exact au rfl (a7 (zab (.inl J)))
 refine dG 19 J (I ?_);refine aC y5 (s.n,p.tail) trivial ?_;by_cases U:0<=s.n∧s.n<p.tail
 case neg=>
  refine dW 27 U (I ?_);exact au rfl (a7 (zab (.inr U)))
 refine dG 27 U ?_;obtain⟨a,aY⟩:∃a:Nat,s.i=(a:Int):=⟨s.i.toNat,by omega⟩;obtain⟨b,hb⟩:∃b:Nat,s.n=(b:Int):=⟨s.n.toNat,by omega⟩;have q1:s.i.toNat=a:=by omega
 have gR:s.n.toNat=b:=by omega
 have kO:a<p.bt.length:=by omega
 have nA:b<p.bt.length:=by omega
 have aw:∀{c:Int},(if(p.bt[b]).f≠(p.bt[a]).f∨p.bt.any (jt i (p.bt[a]).f)=true then 143 else 0)=c->bY (.i .i64 c) (uQ.res (p,i,s)):=fun h=>a7 (by
  unfold Bw;rw[zaa (fun h=>h.elim (fun h=>h J) (fun h=>h U)),q1,gR,bV kO,bV nA];exact h)
 refine an 34 ?_;refine ag 34 (.i .i64 (a:Int)) rfl (by rw[aY]) ?_;refine ep p.bt[a] (bV kO) ?_;refine an 37 ?_
 iterate 2 refine ha ?_
 refine aay 3 ?_;refine aay 6 ?_;refine an 43 ?_;refine cm 43 (.i .i64 (b:Int)) rfl rfl (by rw[hb]) ?_;refine I ?_;refine hK p.bt[b] (bV nA) ?_;refine an 48 ?_;by_cases af:(p.bt[b]).f≠(p.bt[a]).f
 ·refine cm 48 (.b true) rfl rfl (b2 (zad af)) ?_;refine I ?_;exact au rfl (aw (zab (.inl af)))
 refine cm 48 (.b false) rfl rfl (b2 (zac af)) ?_;refine I ?_;refine aZ aeA (p.bt,(i:Int),(p.bt[a]).f) hl ?_;cases ax:p.bt.any (jt i (p.bt[a]).f)with
 |true=>
  refine ag 54 (.b true) rfl (b2 ax) (I ?_);exact au rfl (aw (zab (.inr ax)))
 |false=>
  refine ag 54 (.b false) rfl (b2 ax) (I ?_);exact au rfl (aw (zaa (fun h=>h.elim af (fun h=>Bool.noConfusion (ax.symm.trans h)))))
def fg{α:Type}(g:Nat->α->Int):ac α->Nat->am (Nat×Int)
 |[],_=>none
 |x::l,k=>if g k x=0 then fg g l (k+1)else some (k,g k x)
def vt{α:Type}{g:Nat->α->Int}{l:ac α}{j:Nat}(hj:j<l.length):fg g (l.drop j) j=if g j l[j]=0 then fg g (l.drop (j+1)) (j+1)else some (j,g j l[j]):=by
 rw[hk hj];rfl
def mP(_:dN)(_:Nat)(x:Int×Int):Int:=if b0 x.1 x.2 then 0 else 2
def mQ(p:dN)(_:Nat)(x:jZ):Int:=tZ p x
def nr(p:dN)(i:Nat)(n:gl):Int:=uv p i n
def ns(p:dN)(i:Nat)(s:w2):Int:=Bw p i s
def l7(p:dN):Int×Int×Int:=
 match fg (mP p) p.bG 0 with
 |some x=>(1,x.1,x.2)
 |none=>match fg (mQ p) p.ins 0 with
  |some x=>(2,x.1,x.2)
  |none=>match fg (nr p) p.bt 0 with
   |some x=>(3,x.1,x.2)
   |none=>match fg (ns p) p.eX 0 with
    |some x=>(4,x.1,x.2)
    |none=>if¬jd p.out p.bt.length∨gp p p.out=1 then(5,0,7)else(0,0,0)
def eM(p:dN):Int×Int×Int:=if o4 p=0 then l7 p else(0,0,o4 p)
def zu(x:Int×Int×Int):ah:=.bu [.i .i64 x.1,.i .i64 x.2.1,.i .i64 x.2.2]
def oO(p:dN):Prop:=(∀x∈p.ins,x.aL.length<=2000∧x.hi.length<=2000)∧∀n∈p.bt,n.v.length<=2000
variable{x:Rat}
def FK:bc where
 L:=dN
 args:=fun p=>[h8 p]
 pre:=oO
 res:=fun p=>zu (eM p)
 hp:=oN
 hm:=oN.up
def Cf(p:dN):ac ah:=[.i .i64 (p.bG.length:Int),.fn (.func 45) [h8 p] [],.i .i64 (p.ins.length:Int),.fn (.func 46) [h8 p] [],.i .i64 (p.bt.length:Int),.fn (.func 47) [h8 p] [],.i .i64 (p.eX.length:Int),.fn (.func 48) [h8 p] []]
def LO{p:dN}(h:o4 p=0):p.bG.length<=6∧p.ins.length<=6∧p.bt.length<=64∧p.eX.length<=4∧p.tail<=(p.bt.length:Int)∧p.head<=p.tail∧0<=p.head:=by
 unfold o4 at h;split at h
 ·cases h
 split at h
 ·cases h
 split at h
 ·cases h
 omega
def aeq:a6 aS.ctx 14 FK.spec:=by
 refine kn [(44,zU.spec),(45,Ss.spec),(46,DG.spec),(47,NK.spec),(48,uQ.spec),(49,s6.spec),(50,wJ.spec)] SS.1 ?_;intro(p:dN) ⟨b8,iM⟩ H aH eB;have a7:∀{c:Int×Int×Int},eM p=c->bY (zu c) (FK.res p):=fun h=>.of (by rw[<-h];rfl);refine I ?_;refine aC ajv p trivial ?_;refine ag 15 (.i .i64 (o4 p)) rfl rfl (an 17 ?_);by_cases aO:o4 p=0
 case neg=>
  refine dG 17 aO (I ?_);exact au rfl (a7 (zaa aO))
 refine ag 17 (.b false) rfl (b2 (zac (fun h=>h aO))) ?_;have aw:∀{c:Int×Int×Int},l7 p=c->bY (zu c) (FK.res p):=fun h=>a7 ((zab aO).trans h);obtain⟨eW,g1,rk,anj,Nc,Nd,ank⟩:=LO aO;refine I ?_;refine df (L:=Nat) (fun k=>k<=4∧(1<=k->fg (mP p) p.bG 0=none)∧(2<=k->fg (mQ p) p.ins 0=none)∧(3<=k->fg (nr p) p.bt 0=none)∧(4<=k->fg (ns p) p.eX 0=none)) (fun(k:Nat)=>⟨[.c 27 (g2 p),.c 118 (g2 p),.c 121 (Cf p)],3,[(1,.p 0 0),(5,.p 1 0),(44,.bj 2 2 0 4 4),(45,.i .i64 4),(46,.i .i64 (k:Int))]⟩) (fun k=>4-k) [0,1,2] 0 ⟨by omega,fun h=>absurd h (by decide),fun h=>absurd h (by decide),fun h=>absurd h (by decide),fun h=>absurd h (by decide)⟩ (by show 4-0<bT+1;unfold bT;omega) kf ?_;rintro(k:Nat) ⟨ab,fC,gO,nn,BV⟩;rcases(show k=0∨k=1∨k=2∨k=3∨k=4 by omega)with rfl|rfl|rfl|rfl|rfl
 ·refine I ?_;refine jS (j:=0) ?_;refine I ?_;refine df (L:=Nat) (fun j=>j<=p.bG.length∧fg (mP p) (p.bG.drop j) j=fg (mP p) p.bG 0) (fun(j:Nat)=>⟨[.c 27 (g2 p),.c 118 (g2 p),.c 121 (Cf p),.c 121 [.i .i64 (p.bG.length:Int),.fn (.func 45) [h8 p] []]],4,[(1,.p 0 0),(5,.p 1 0),(44,.bj 2 2 0 4 4),(45,.i .i64 4),(46,.i .i64 (0:Nat)),(8,.i .i64 (0:Nat)),(9,.p 3 0),(52,.i .i64 (p.bG.length:Int)),(53,.i .i64 (j:Int))]⟩) (fun j=>p.bG.length-j) [0,1,2,3] 0 ⟨zaf _,rfl⟩ mV rM ?_;rintro(j:Nat) ⟨hO,aJ⟩;refine an 54 ?_;by_cases hj:j<p.bG.length
  ·refine ag 54 (.b true) rfl (b2 (zad (by omega))) (I ?_);rw[vt hj]at aJ;refine Ez ag0 (p,j,(p.bG[j]).1,(p.bG[j]).2) (bV hj) ?_;refine ag 59 (.i .i64 (mP p j p.bG[j])) rfl rfl (an 61 ?_);by_cases he:mP p j p.bG[j]=0
   ·rw[zab he]at aJ;refine ag 61 (.b false) rfl (b2 (zac (fun h=>h he))) (an 66 ?_);refine ag 66 (.i .i64 ((j+1:Nat):Int)) rfl bo (I ?_);exact ba [0,1,2,3] (j+1) ⟨by omega,hj,aJ⟩ rM
   ·rw[zaa he]at aJ;refine dG 61 he (I ?_);refine au rfl (aw (c:=(1,(j:Int),mP p j p.bG[j])) ?_);unfold l7;simp only[<-aJ]
  ·refine ag 54 (.b false) rfl (b2 (zac (by omega))) ?_;have aJ:fg (mP p) p.bG 0=none:=by rw[<-aJ,zbj (by omega)];rfl
   refine I ?_;exact ba [0,1,2] 1 ⟨by decide,by decide,fun _=>aJ,fun h=>absurd h (by decide),fun h=>absurd h (by decide),fun h=>absurd h (by decide)⟩ kf
 ·refine I ?_;refine jS (j:=1) ?_;refine I ?_;refine df (L:=Nat) (fun j=>j<=p.ins.length∧fg (mQ p) (p.ins.drop j) j=fg (mQ p) p.ins 0) (fun(j:Nat)=>⟨[.c 27 (g2 p),.c 118 (g2 p),.c 121 (Cf p),.c 121 [.i .i64 (p.ins.length:Int),.fn (.func 46) [h8 p] []]],4,[(1,.p 0 0),(5,.p 1 0),(44,.bj 2 2 0 4 4),(45,.i .i64 4),(46,.i .i64 (1:Nat)),(8,.i .i64 (1:Nat)),(9,.p 3 0),(52,.i .i64 (p.ins.length:Int)),(53,.i .i64 (j:Int))]⟩) (fun j=>p.ins.length-j) [0,1,2,3] 0 ⟨zaf _,rfl⟩ mV rM ?_;rintro(j:Nat) ⟨hO,aJ⟩;refine an 54 ?_;by_cases hj:j<p.ins.length
  ·refine ag 54 (.b true) rfl (b2 (zad (by omega))) (I ?_);rw[vt hj]at aJ;refine Ez amC (p,j,p.ins[j]) ⟨bV hj,b8 _ (ea hj)⟩ ?_;refine ag 59 (.i .i64 (mQ p j p.ins[j])) rfl rfl (an 61 ?_);by_cases he:mQ p j p.ins[j]=0
   ·rw[zab he]at aJ;refine ag 61 (.b false) rfl (b2 (zac (fun h=>h he))) (an 66 ?_);refine ag 66 (.i .i64 ((j+1:Nat):Int)) rfl bo (I ?_);exact ba [0,1,2,3] (j+1) ⟨by omega,hj,aJ⟩ rM
   ·rw[zaa he]at aJ;refine dG 61 he (I ?_);refine au rfl (aw (c:=(2,(j:Int),mQ p j p.ins[j])) ?_);unfold l7;simp only[fC (by decide),<-aJ]
  ·refine ag 54 (.b false) rfl (b2 (zac (by omega))) ?_;have aJ:fg (mQ p) p.ins 0=none:=by rw[<-aJ,zbj (by omega)];rfl
   refine I ?_;exact ba [0,1,2] 2 ⟨by decide,by decide,fun _=>fC (by decide),fun _=>aJ,fun h=>absurd h (by decide),fun h=>absurd h (by decide)⟩ kf
 ·refine I ?_;refine jS (j:=2) ?_;refine I ?_;refine df (L:=Nat) (fun j=>j<=p.bt.length∧fg (nr p) (p.bt.drop j) j=fg (nr p) p.bt 0) (fun(j:Nat)=>⟨[.c 27 (g2 p),.c 118 (g2 p),.c 121 (Cf p),.c 121 [.i .i64 (p.bt.length:Int),.fn (.func 47) [h8 p] []]],4,[(1,.p 0 0),(5,.p 1 0),(44,.bj 2 2 0 4 4),(45,.i .i64 4),(46,.i .i64 (2:Nat)),(8,.i .i64 (2:Nat)),(9,.p 3 0),(52,.i .i64 (p.bt.length:Int)),(53,.i .i64 (j:Int))]⟩) (fun j=>p.bt.length-j) [0,1,2,3] 0 ⟨zaf _,rfl⟩ mV rM ?_;rintro(j:Nat) ⟨hO,aJ⟩;refine an 54 ?_;by_cases hj:j<p.bt.length
  ·refine ag 54 (.b true) rfl (b2 (zad (by omega))) (I ?_);rw[vt hj]at aJ;refine Ez aoi (p,j,p.bt[j]) ⟨bV hj,iM _ (ea hj)⟩ ?_ (hh:=eB);refine ag 59 (.i .i64 (nr p j p.bt[j])) rfl rfl (an 61 ?_);by_cases he:nr p j p.bt[j]=0
   ·rw[zab he]at aJ;refine ag 61 (.b false) rfl (b2 (zac (fun h=>h he))) (an 66 ?_);refine ag 66 (.i .i64 ((j+1:Nat):Int)) rfl bo (I ?_);exact ba [0,1,2,3] (j+1) ⟨by omega,hj,aJ⟩ rM
   ·rw[zaa he]at aJ;refine dG 61 he (I ?_);refine au rfl (aw (c:=(3,(j:Int),nr p j p.bt[j])) ?_);unfold l7;simp only[fC (by decide),gO (by decide),<-aJ]
  ·refine ag 54 (.b false) rfl (b2 (zac (by omega))) ?_;have aJ:fg (nr p) p.bt 0=none:=by rw[<-aJ,zbj (by omega)];rfl
   refine I ?_;exact ba [0,1,2] 3 ⟨by decide,by decide,fun _=>fC (by decide),fun _=>gO (by decide),fun _=>aJ,fun h=>absurd h (by decide)⟩ kf
 ·refine I ?_;refine jS (j:=3) ?_;refine I ?_;refine df (L:=Nat) (fun j=>j<=p.eX.length∧fg (ns p) (p.eX.drop j) j=fg (ns p) p.eX 0) (fun(j:Nat)=>⟨[.c 27 (g2 p),.c 118 (g2 p),.c 121 (Cf p),.c 121 [.i .i64 (p.eX.length:Int),.fn (.func 48) [h8 p] []]],4,[(1,.p 0 0),(5,.p 1 0),(44,.bj 2 2 0 4 4),(45,.i .i64 4),(46,.i .i64 (3:Nat)),(8,.i .i64 (3:Nat)),(9,.p 3 0),(52,.i .i64 (p.eX.length:Int)),(53,.i .i64 (j:Int))]⟩) (fun j=>p.eX.length-j) [0,1,2,3] 0 ⟨zaf _,rfl⟩ mV rM ?_;rintro(j:Nat) ⟨hO,aJ⟩;refine an 54 ?_;by_cases hj:j<p.eX.length
  ·refine ag 54 (.b true) rfl (b2 (zad (by omega))) (I ?_);rw[vt hj]at aJ;refine Ez asB (p,j,p.eX[j]) ⟨bV hj,by omega,Nc,by omega⟩ ?_;refine ag 59 (.i .i64 (ns p j p.eX[j])) rfl rfl (an 61 ?_);by_cases he:ns p j p.eX[j]=0
   ·rw[zab he]at aJ;refine ag 61 (.b false) rfl (b2 (zac (fun h=>h he))) (an 66 ?_);refine ag 66 (.i .i64 ((j+1:Nat):Int)) rfl bo (I ?_);exact ba [0,1,2,3] (j+1) ⟨by omega,hj,aJ⟩ rM
   ·rw[zaa he]at aJ;refine dG 61 he (I ?_);refine au rfl (aw (c:=(4,(j:Int),ns p j p.eX[j])) ?_);unfold l7;simp only[fC (by decide),gO (by decide),nn (by decide),<-aJ]
  ·refine ag 54 (.b false) rfl (b2 (zac (by omega))) ?_;have aJ:fg (ns p) p.eX 0=none:=by rw[<-aJ,zbj (by omega)];rfl
   refine I ?_;exact ba [0,1,2] 4 ⟨by decide,by decide,fun _=>fC (by decide),fun _=>gO (by decide),fun _=>nn (by decide),fun _=>aJ⟩ kf
 ·have cD:=fC (by decide);have db:=gO (by decide);have hV:=nn (by decide);have ti:=BV (by decide);have dm:l7 p=if¬jd p.out p.bt.length∨gp p p.out=1 then(5,0,7)else(0,0,0):=by unfold l7;simp only[cD,db,hV,ti]
  refine I ?_;refine aC y5 (p.out,(p.bt.length:Int)) trivial ?_;by_cases J:jd p.out p.bt.length
  case neg=>
   refine dW 73 J (I ?_);exact au rfl (aw (c:=(5,0,7)) (dm.trans (zab (.inl J))))
  refine dG 73 J (I ?_);refine aC Ph (p,p.out) trivial ?_;refine ag 79 (.i .i64 (gp p p.out)) rfl rfl (an 80 ?_);by_cases U:gp p p.out=1
  ·refine dG 80 U (I ?_);exact au rfl (aw (c:=(5,0,7)) (dm.trans (zab (.inr U))))
  ·refine dW 80 U (I ?_);exact au rfl (aw (c:=(0,0,0)) (dm.trans (zaa (fun h=>h.elim (fun h=>h J) U))))
def I7(x:Rat)(k:Int):mkRat (x.num*((b9 (mkRat 1 1) k).den:Int)) (x.den*(b9 (mkRat 1 1) k).num.natAbs)=b9 x (-k):=by
 obtain⟨aw,e2⟩:=sT k;rw[aw,e2,zdn];unfold b9;by_cases h: -k<0
 ·rw[zab h,show(-k).toNat=0 by omega,show(-(-k))=k by omega];simp
 ·rw[zaa h,show k.toNat=0 by omega];simp
def abk(h:x.num=0)(k:Int):(b9 x k).den=1:=by
 unfold b9;rw[h];split<;>simp[zcy,Rat.mkRat_zero]
def aqP(h:0<=x.num)(k:Int):0<=(b9 x k).num:=by
 unfold b9;split
 ·rw[(sz _ _ (zaO x.den_nz (by have:=zag (-k).toNat;omega))).1];exact zeL h (by omega)
 ·rw[(sz _ _ x.den_nz).1];exact zeL (zbP h (by exact zcP (zdV (by decide)))) (by omega)
def ajC{e p:Int}(h:b0 e p):0<=(ib e p).num:=by
 unfold ib;apply aqP;have:mkRat 1 1<=b9 (mkRat 1 1) p:=by
  rw[Rat.le_iff,(sT p).1,(sT p).2,show(-p).toNat=0 by have:=h.2.2.1;omega];have:(1:Int)<=2^p.toNat:=by have:=zag p.toNat;have U:((2^p.toNat:Nat):Int)=2^p.toNat:=by simp
                                                                                                       omega
  show(1:Int)*((2^0:Nat):Int)<=2^p.toNat*1;omega
 exact Rat.num_nonneg.2 ((Rat.le_iff_sub_nonneg _ _).1 this)
def Fl(e p:Int)(x:Rat):Prop:=b0 e p∧¬ib e p<fD x∧(mkRat (x.num*((b9 (mkRat 1 1) (hS e p x)).den:Int)) (x.den*(b9 (mkRat 1 1) (hS e p x)).num.natAbs)).den=1
def has_eq(e p:Int)(x:Rat):Fl e p x↔hU e p x:=by
 unfold Fl hU;constructor
 ·rintro⟨J,U,af⟩;rw[I7]at af;by_cases h0:x.num=0
  ·exact⟨J,.inl h0⟩
  ·rw[<-Pv h0]at af;unfold EP at af;rw[zaa h0]at af;exact⟨J,.inr ⟨af,U⟩⟩
 ·rintro⟨J,h0|⟨af,U⟩⟩
  ·refine⟨J,?_,by rw[I7];exact abk h0 _⟩;intro h;have hn:=ajC J;rw[Rat.lt_iff,(mN x).1,(mN x).2,h0]at h;have:0<=(ib e p).num*(x.den:Int):=zbP hn (by omega);simp at h;omega
  ·by_cases h0:x.num=0
   ·exact⟨J,U,by rw[I7];exact abk h0 _⟩
   ·refine⟨J,U,?_⟩;rw[I7,<-Pv h0];unfold EP;rw[zaa h0];exact af
theorem CI{α:Type}{g:Nat->α->Int}:∀{l:ac α} {k:Nat} {x:Nat×Int},fg g l k=some x->x.2≠0
 |[],_,_,h=>by cases h
 |a::l,k,x,h=>by
  unfold fg at h;split at h
  ·exact CI h
  ·cases h;assumption
def K4{p:dN}(h:(eM p).2.2=0):eM p=(0,0,0):=by
 unfold eM at h⊢;by_cases aO:o4 p=0
 case neg=>rw[zaa aO]at h;exact absurd h aO
 rw[zab aO]at h⊢;unfold l7 at h⊢;cases aw:fg (mP p) p.bG 0 with
 |some x=>rw[aw]at h;exact absurd h (CI aw)
 |none=>
 rw[aw]at h;cases e2:fg (mQ p) p.ins 0 with
 |some x=>rw[e2]at h;exact absurd h (CI e2)
 |none=>
 rw[e2]at h;cases bW:fg (nr p) p.bt 0 with
 |some x=>rw[bW]at h;exact absurd h (CI bW)
 |none=>
 rw[bW]at h;cases e6:fg (ns p) p.eX 0 with
 |some x=>rw[e6]at h;exact absurd h (CI e6)
 |none=>
 rw[e6]at h;by_cases ma:¬jd p.out p.bt.length∨gp p p.out=1
 ·have h:(if¬jd p.out p.bt.length∨gp p p.out=1 then((5,0,7):Int×Int×Int)else(0,0,0)).2.2=0:=h;rw[zab ma]at h;cases h
 ·exact zaa ma
theorem Sl{α:Type}{g:Nat->α->Int}:∀{l:ac α} {k:Nat},fg g l k=none->∀(i:Nat) (x:α),l[i]? =some x->g (k+i) x=0
 |[],_,_,i,x,h=>by simp at h
 |a::l,k,h,i,x,aa=>by
  unfold fg at h;split at h
  ·rename_i h0;cases i with
   |zero=>simp at aa;subst aa;exact h0
   |succ i=>
    have:=Sl h i x (by simpa using aa);rw[show k+1+i=k+(i+1) by omega]at this;exact this
  ·cases h
def h9(N:ac Bool)(l:ac Int):ac Bool:=l.foldl (fun N (k:Int)=>N.set k.toNat true) N
def ZO:bc where
 L:=ac bv
 args:=fun s=>[.s s]
 pre:=fun s=>s.length<=2000
 res:=fun s=>.i .i64 (qU s)
def apq:a6 aS.ctx 238 ZO.spec:=by
 refine bq [(68,A9.spec)] TO.1 ?_;intro(s:ac bv) ai H aH;refine I ?_;refine aC Ep s ai ?_;cases h:fx s with
 |some x=>
  refine ag 7 (.bu [bg x,.i .i64 0]) rfl (by show mA s=_;unfold mA;rw[h]) (I ?_);exact au rfl (.of (by show _=ah.i .i64 (qU s);unfold qU;rw[h];rfl))
 |none=>
  refine ag 7 (.bu [bg 0,.i .i64 6]) rfl (by show mA s=_;unfold mA;rw[h]) (I ?_);exact au rfl (.of (by show _=ah.i .i64 (qU s);unfold qU;rw[h];rfl))
def qx(x y:Rat):Rat:=mkRat (x.num*(y.den:Int)) (x.den*y.num.natAbs)
def OL:bc where
 L:=Rat×Rat
 args:=fun(x,y)=>[bg x,bg y]
 pre:=fun(x,y)=>cq 60000 x∧cq 60000 y∧0<y.num
 res:=fun(x,y)=>.bu [bg (qx x y),.i .i64 0]
def OM:a6 aS.ctx 28 OL.spec:=by
 refine bq [(74,wz.spec),(75,uB.spec),(73,sO.spec)] Un.1 ?_;intro⟨x,y⟩ ⟨(aa:cq _ x),(aF:cq _ y),(hp:0<y.num)⟩ H aH;have gy:=uM x.num;have mJ:y.num.sign=1:=zby hp;have acR:y.num≠0:=by omega
 refine an 8 ?_;refine v0 8 (show¬y.num.sign=0 by omega) (an 18 ?_);refine cm 18 (cS y.den) rfl rfl (by rw[zaa acR];rfl) ?_;refine aZ oA (x.num.natAbs,y.den) ⟨ct aa.1 (by decide),ct aF.2 (by decide)⟩ (I ?_);refine aZ oz x trivial (I ?_);refine aZ oA (x.den,y.num.natAbs) ⟨ct aa.2 (by decide),ct aF.1 (by decide)⟩ (an 14 ?_);refine ag 14 (.i .i64 x.num.sign) rfl (by rw[mJ,zdq];exact bo rfl (by omega) (by omega)) (I ?_);refine aZ rE (x.num.sign,x.num.natAbs*y.den,x.den*y.num.natAbs) ⟨gy.1,gy.2,ct (lj aa.1 aF.2) (by decide),ct (lj aa.2 aF.1) (by decide),zaO x.den_nz (by omega)⟩ ?_;have e:mkRat (x.num.sign*((x.num.natAbs*y.den:Nat):Int)) (x.den*y.num.natAbs)=qx x y:=by
  unfold qx;rw[zam,<-zbE,zcj]
 refine ag 25 (bg (qx x y)) rfl (congrArg bg e) (I ?_);exact au rfl (.refl _)
def IV:bc where
 L:=Rat×Rat
 args:=fun(x,y)=>[bg x,bg y]
 pre:=fun(x,y)=>cq 60000 x∧cq 60000 y∧0<y.num
 res:=fun(x,y)=>bg (qx x y)
def OJ:a6 aS.ctx 245 IV.spec:=by
 refine bq [(28,OL.spec)] TW.1 ?_;intro⟨x,y⟩ hp H aH;refine I ?_;refine aC OM (x,y) hp ?_;refine ag 10 (.bu [bg (qx x y),.i .i64 0]) rfl rfl (I ?_);exact au rfl (.refl _)
def ZK:bc where
 L:=Int×Int×Rat
 args:=fun(e,p,x)=>[hz e p,bg x]
 pre:=fun(e,p,x)=>b0 e p∧cq 60000 x
 res:=fun(e,p,x)=>.b (decide (ib e p<fD x))
def apj:a6 aS.ctx 331 ZK.spec:=by
 refine bq [(248,A6.spec),(149,IM.spec),(79,px.spec)] UF.1 ?_;intro⟨e,p,x⟩ ⟨az,(aa:cq _ x)⟩ H aH;refine I ?_;refine aZ Eh x trivial (I ?_);refine aZ OB (e,p) az (I ?_);refine aZ py (fD x,ib e p) ⟨cJ (NM aa) (by decide),cJ (YB az) (by decide)⟩ (I ?_);exact au rfl (.of (b2 (decide_eq_decide.2 n7)))
def ZX:bc where
 L:=Rat
 args:=fun x=>[bg x]
 pre:=fun x=>dy 268435456 x.den
 res:=fun x=>.b (decide (x.den=1))
def apv:a6 aS.ctx 78 ZX.spec:=by
 refine bq [(75,uB.spec),(77,uC.spec),(155,sL.spec)] LM.1 ?_;intro(x:Rat) aa H aH;refine I ?_;refine aC oz x trivial (I ?_);refine aC rF () trivial (I ?_);refine aC rC (x.den,1) ⟨ct aa (by decide),Ej⟩ (I ?_);refine au rfl (.of (b2 (decide_eq_decide.2 ?_)));show hJ x.den 1=0↔x.den=1;unfold hJ;have:=x.den_nz;by_cases h:x.den=1
 ·rw[zaa (by omega),zab h];exact⟨fun _=>h,fun _=>rfl⟩
 ·rw[zaa (by omega),zaa h];exact⟨(fun h=>by cases h),fun aB=>absurd aB h⟩
def abM{e p:Int}(h:b0 e p)(aa:cq 300 x): -20000<=hS e p x∧hS e p x<=20000:=by
 obtain⟨J,U,af,ax,a0⟩:=h;obtain⟨cD,db⟩:=ia J U;have hV:=DN x.num.natAbs x.den;have ti:=qw aa.1;have B6:=qw aa.2;unfold hS;split<;>omega
def IP:bc where
 L:=Int×Int×Rat
 args:=fun(e,p,x)=>[hz e p,bg x]
 pre:=fun(e,p,x)=>cq 300 x
 res:=fun(e,p,x)=>.b (hasB e p x)
def ZV:a6 aS.ctx 235 IP.spec:=by
 refine bq [(135,yE.spec),(331,ZK.spec),(243,OT.spec),(245,IV.spec),(78,ZX.spec)] TL.1 ?_;intro⟨e,p,x⟩ (aa:cq 300 x) H aH;have no:¬Fl e p x->bY (.b false) (IP.res (e,p,x)):=fun h=>.of (b2 (by unfold hasB;exact(zac (fun aB=>h ((has_eq e p x).2 aB))).symm));have yes:Fl e p x->bY (.b true) (IP.res (e,p,x)):=fun h=>.of (b2 (by unfold hasB;exact(zad ((has_eq e p x).1 h)).symm));refine I ?_;refine aZ El (e,p) trivial ?_;by_cases J:b0 e p
 case neg=>
  refine ag 6 (.i .i64 2) rfl (congrArg (ah.i .i64) (zaa J)) (I ?_);exact au rfl (no (fun h=>J h.1))
 refine ag 6 (.i .i64 0) rfl (congrArg (ah.i .i64) (zab J)) (I ?_);refine aZ apj (e,p,x) ⟨J,cJ aa (by decide)⟩ ?_;by_cases U:ib e p<fD x
 ·refine dG 11 U (I ?_);exact au rfl (no (fun h=>h.2.1 U))
 refine dW 11 U ?_;obtain⟨a5,bD⟩:=abM J aa;have AO:=AL (c:=20000) (k:=hS e p x) (by omega) (by omega);have P0:0<(b9 (mkRat 1 1) (hS e p x)).num:=by
  rw[(sT _).1];exact zdV (by decide)
 refine I ?_;refine aZ aac (e,p,x) ⟨J,cJ aa (by decide)⟩ (I ?_);refine aZ OJ (x,b9 (mkRat 1 1) (hS e p x)) ⟨cJ aa (by decide),cJ AO (by decide),P0⟩ ?_;have de:cq 60000 (qx x (b9 (mkRat 1 1) (hS e p x))):=by
  refine sD ?_ (ct (lj aa.2 AO.1) (by decide)) (zaO x.den_nz (by omega));rw[zbq,zaq];exact ct (lj aa.1 AO.2) (by decide)
 refine I ?_;refine aZ apv (qx x (b9 (mkRat 1 1) (hS e p x))) (ct de.2 (by decide)) ?_;by_cases af:(qx x (b9 (mkRat 1 1) (hS e p x))).den=1
 ·refine dG 20 af (I ?_);exact au rfl (yes ⟨J,U,af⟩)
 ·refine dW 20 af (I ?_);exact au rfl (no (fun h=>af h.2.2))
def yG:a6 aS.ctx 139 s6.spec:=by
 refine bq [] SR.1 ?_;intro⟨n,m⟩ _ H aH;refine an 6 ?_;by_cases h:0<=n
 ·refine v1 6 h (I ?_);exact au rfl (.of (b2 (decide_eq_decide.2 ⟨fun aB=>⟨h,aB⟩,fun aB=>aB.2⟩)))
 ·refine v0 6 h (I ?_);exact au rfl (.of (b2 (zac (fun aB=>h aB.1)).symm))
def IY:a6 aS.ctx 140 wJ.spec:=by
 refine bq [] SU.1 ?_;intro⟨p,i⟩ _ H aH;have aw:∀{c:Int},gp p i=c->bY (.i .i64 c) (wJ.res (p,i)):=fun h=>.of (by rw[<-h];rfl);refine an 8 ?_;by_cases h:i<p.head
 ·refine v1 8 h (I ?_);exact au rfl (aw (zab h))
 refine v0 8 h (an 12 ?_);by_cases U:i<p.tail
 ·refine v1 12 U (I ?_);exact au rfl (aw ((zaa h).trans (zab U)))
 refine v0 12 U (I ?_);exact au rfl (aw ((zaa h).trans (zaa U)))
def apK:a6 aS.ctx 240 wL.spec:=by
 refine bq [(140,wJ.spec)] TR.1 ?_;intro⟨p,i,k⟩ _ H aH;have no:¬(0<=k∧k<i∧(gp p k=0∨gp p k=gp p i))->bY (.b false) (wL.res (p,i,k)):=fun h=>.of (b2 (zac h).symm);have yes:(0<=k∧k<i∧(gp p k=0∨gp p k=gp p i))->bY (.b true) (wL.res (p,i,k)):=fun h=>.of (b2 (zad h).symm);refine an 8 ?_;by_cases h:0<=k
 case neg=>
  refine iX 8 h (I ?_);exact au rfl (no (by omega))
 refine gX 8 h (an 12 ?_);by_cases U:k<i
 case neg=>
  refine iX 12 U (I ?_);exact au rfl (no (by omega))
 refine gX 12 U (I ?_);refine aZ IY (p,k) trivial ?_;refine ag 17 (.i .i64 (gp p k)) rfl rfl (an 18 ?_);by_cases af:gp p k=0
 ·refine v1 18 af (I ?_);exact au rfl (yes ⟨h,U,.inl af⟩)
 refine v0 18 af (I ?_);refine aZ IY (p,k) trivial ?_;refine ag 22 (.i .i64 (gp p k)) rfl rfl (I ?_);refine aZ IY (p,i) trivial ?_;refine ag 25 (.i .i64 (gp p i)) rfl rfl (an 26 ?_);by_cases ax:gp p k=gp p i
 ·refine v1 26 ax (I ?_);exact au rfl (yes ⟨h,U,.inr ax⟩)
 refine v0 26 ax (I ?_);exact au rfl (no (fun h=>h.2.2.elim af ax))
def qN(op:Int):Int:=if 1<=op∧op<=15 then(nM op.toNat:Int)else -1
def zl:bc where
 L:=Int
 args:=fun n=>[.i .i64 n]
 pre:=fun _=>True
 res:=fun n=>.i .i64 (qN n)
def am6:∀o,o<16->1<=o->nM o=if o<=3 then 0 else if o<=7 then 1 else if o<=13 then 2 else if o=14 then 3 else 4:=by decide +kernel
def atb:∀o,o<16->1<=o->uT o=if o=1∨o=2 then 1 else nM o:=by decide +kernel
def zm:a6 aS.ctx 236 zl.spec:=by
 refine bq [] TM.1 ?_;intro(n:Int) _ H aH;have aw:∀{c:Int},qN n=c->bY (.i .i64 c) (zl.res n):=fun h=>.of (by rw[<-h];rfl);refine an 5 ?_;by_cases J:n<1
 ·refine v1 5 J (I ?_);exact au rfl (aw (zaa (by omega)))
 refine v0 5 J (an 8 ?_);by_cases U:15<n
 ·refine v1 8 U (I ?_);exact au rfl (aw (zaa (by omega)))
 refine v0 8 U ?_;obtain⟨o,ao⟩:∃o:Nat,n=(o:Int):=⟨n.toNat,by omega⟩;have ab:=am6 o (by omega) (by omega);have e2:∀{c:Nat},nM o=c->bY (.i .i64 (c:Int)) (zl.res n):=fun h=>aw (by unfold qN;rw[zab (by omega),ao,zca,h]);refine an 12 ?_;by_cases af:n<=3
 ·refine v1 12 af (I ?_);exact au rfl (e2 (c:=0) (ab.trans (zab (by omega))))
 refine v0 12 af ?_;rw[zaa (by omega)]at ab;refine an 15 ?_;by_cases ax:n<=7
 ·refine v1 15 ax (I ?_);exact au rfl (e2 (c:=1) (ab.trans (zab (by omega))))
 refine v0 15 ax ?_;rw[zaa (by omega)]at ab;refine an 18 ?_;by_cases a0:n<=13
 ·refine v1 18 a0 (I ?_);exact au rfl (e2 (c:=2) (ab.trans (zab (by omega))))
 refine v0 18 a0 ?_;rw[zaa (by omega)]at ab;refine an 21 ?_;by_cases ck:n=14
 ·refine v1 21 ck (I ?_);exact au rfl (e2 (c:=3) (ab.trans (zab (by omega))))
 refine v0 21 ck (I ?_);exact au rfl (e2 (c:=4) (ab.trans (zaa (by omega))))
def Lz(n:gl):ac ah:=[.i .i64 n.a,.i .i64 n.b,.i .i64 n.c,.i .i64 n.d]
def Lx:bc where
 L:=gl
 args:=fun n=>[.agg (kU n)]
 pre:=fun _=>True
 res:=fun n=>.agg (Lz n)
def Sh:a6 aS.ctx 332 Lx.spec:=by
 refine bq [] UG.1 ?_;intro(n:gl) _ H aH;refine I ?_;exact au rfl (.refl _)
def apw(n:gl):Nat×ac Int->cW
 |(k,[])=>⟨[.c 126 (kU n),.a 277 false 1 Int hH (eT n)],2,[(1,.p 0 0),(3,.p 1 0),(4,.nl),(5,.i .i64 (k:Int))]⟩
 |(k,d::ds)=>⟨[.c 126 (kU n),.a 277 false 1 Int hH (eT n),.a 3 true 1 Int hH (d::ds)],3,[(1,.p 0 0),(3,.p 1 0),(4,.bj 2 1 0 (ds.length+1) (ds.length+1)),(5,.i .i64 (k:Int))]⟩
def ZY:bc where
 L:=gl
 args:=fun n=>[.agg (kU n)]
 pre:=fun n=>1<=n.op∧n.op<=15
 res:=fun n=>.c5 1 Int hH (g8 n)
def asH{own:ac bp}{n p:Nat}{e cy:bX}{m:Nat}{o q r:bp}(h:kG [0,1,m] cy e)(ao:∃br,own[0]? =some br∧gA [0,1,m] o br)(hq:∃br,own[1]? =some br∧gA [0,1,m] q br)(hr:∃br,own[m]? =some br∧gA [0,1,m] r br)(hm:1<m:=by decide)(hp:pinned p [0,1,m] 0=true:=by rfl):Sub p [0,1,m] ⟨own,n,e⟩ ⟨[o,q,r],3,cy⟩:=⟨by simp;omega,rfl,⟨ao,hq,hr,trivial⟩,h,hp⟩
def apx:a6 aS.ctx 239 ZY.spec:=by
 refine bq [(332,Lx.spec),(236,zl.spec)] TP.1 ?_;intro(n:gl) ⟨(J:1<=n.op),(U:n.op<=15)⟩ H aH;obtain⟨o,ao⟩:∃o:Nat,n.op=(o:Int):=⟨n.op.toNat,by omega⟩;have mj:n.op.toNat=o:=by omega
 obtain⟨hu,_⟩:=Jx o (by omega);have bb:g8 n=(eT n).take (nM o):=by unfold g8;rw[mj];exact zab ⟨J,U⟩
 have er:qN n.op=(nM o:Int):=by unfold qN;rw[zab ⟨J,U⟩,mj]
 generalize nM o=u at *;refine I ?_;refine aC Sh n trivial ?_;refine ag 7 (.agg (Lz n)) rfl rfl (an 5 ?_);refine mD 1 hH (eT n) ?_;refine I ?_;refine df (L:=Nat×ac Int) (fun(k,l)=>k<=u∧l=(eT n).take k) (apw n) (fun l=>u-l.1) [0,1] (0,[]) ⟨zaf _,rfl⟩ (by show u-0<bT+1;unfold bT;omega) ji ?_;rintro⟨k,l⟩ ⟨ab,aJ⟩;have tM:(eT n).length=4:=rfl;have lG:l.length=k:=by rw[aJ,zay];omega
 by_cases a4:k<u
 ·have C8:k<(eT n).length:=by omega
  have e0:(eT n).take (k+1)=l++[(eT n)[k]]:=by rw[zbs C8,aJ]
  cases l with
  |nil=>
   refine I ?_;refine aC zm n.op trivial ?_;refine ag 11 (.i .i64 (u:Int)) rfl (congrArg (ah.i .i64) er) (an 12 ?_);refine v1 12 (show(k:Int)<u by omega) (I ?_);refine Jk (j:=k) ?_;refine sS (eT n)[k] (bV C8) ?_;refine I ?_;refine yI hH [(eT n)[k]] (ll (R:=hH) [(eT n)[k]] rfl) ?_;refine an 14 ?_;refine nh 14 ((k+1:Nat):Int) (I ?_);exact ba [0,1,3] (k+1,[(eT n)[k]]) ⟨by show u-(k+1)<u-k;omega,a4,e0.symm⟩ kf
  |cons d ds=>
   have ga:ds.length+1=k:=lG;refine I ?_;refine aC zm n.op trivial ?_;refine ag 11 (.i .i64 (u:Int)) rfl (congrArg (ah.i .i64) er) (an 12 ?_);refine v1 12 (show(k:Int)<u by omega) (I ?_);refine Jk (j:=k) ?_;refine sS (eT n)[k] (bV C8) ?_;refine I ?_;refine Bh (R:=hH) [(eT n)[k]] (ll (R:=hH) [(eT n)[k]] rfl) ?_;refine an 14 ?_;refine nh 14 ((k+1:Nat):Int) (I ?_);exact ba [0,1,4] (k+1,d::(ds++[(eT n)[k]])) ⟨by show u-(k+1)<u-k;omega,a4,e0.symm⟩ (asH ⟨rfl,rfl,congrArg (fun k=>some (ah.bj 4 1 0 k k)) (by simp),rfl,trivial⟩ ⟨_,rfl,rfl⟩ ⟨_,rfl,rfl,fun _=>rfl⟩ ⟨_,rfl,rfl,fun _=>rfl⟩)
 ·obtain rfl:k=u:=by omega
  rw[<-bb]at aJ;cases l with
  |nil=>
   refine I ?_;refine aC zm n.op trivial ?_;refine ag 11 (.i .i64 (k:Int)) rfl (congrArg (ah.i .i64) er) (an 12 ?_);refine v0 12 (show¬(k:Int)<k by omega) (I ?_);exact au rfl (bY.nl.trans (.of (by show ah.c5 1 Int hH []=ah.c5 1 Int hH (g8 n);rw[<-aJ])))
  |cons d ds=>
   refine I ?_;refine aC zm n.op trivial ?_;refine ag 11 (.i .i64 (k:Int)) rfl (congrArg (ah.i .i64) er) (an 12 ?_);refine v0 12 (show¬(k:Int)<k by omega) (an 21 ?_);refine jh 21 ?_;refine I ?_;exact au rfl (.of (by show ah.c5 1 Int hH (d::ds)=ah.c5 1 Int hH (g8 n);rw[<-aJ]))
def abU:bc where
 L:=gl
 args:=fun n=>[.agg (kU n)]
 pre:=fun n=>1<=n.op∧n.op<=15
 res:=fun n=>.b (!rh n)
def asL:a6 aS.ctx 237 abU.spec:=by
 refine bq [(332,Lx.spec),(236,zl.spec)] TN.1 ?_;intro(n:gl) ⟨(J:1<=n.op),(U:n.op<=15)⟩ H aH;obtain⟨o,ao⟩:∃o:Nat,n.op=(o:Int):=⟨n.op.toNat,by omega⟩;have mj:n.op.toNat=o:=by omega
 obtain⟨_,hu⟩:=Jx o (by omega);have aV:=atb o (by omega) (by omega);have er:qN n.op=(nM o:Int):=by unfold qN;rw[zab ⟨J,U⟩,mj]
 have bb:rh n=(((eT n).drop (uT o)).all (fun x=>x==0)&&(n.v.isEmpty||decide (n.op=3))):=by unfold rh;rw[mj]
 generalize uT o=u at *;refine I ?_;refine aC zm n.op trivial ?_;refine ag 8 (.i .i64 (nM o:Int)) rfl (congrArg (ah.i .i64) er) (an 3 ?_)
 iterate 3 refine ha ?_
 refine fK (L:=Unit) (fun _=>True) (fun _=>⟨[.c 126 (kU n)],1,[(1,.p 0 0),(3,.i .i64 (u:Int))]⟩) ?_ ?_
 ·refine an 11 ?_;by_cases ee:n.op=1
  ·refine v1 11 ee ?_;rw[zab (.inl (by omega))]at aV;subst aV;refine I ?_;exact ba [0] () trivial du
  refine v0 11 ee (an 15 ?_);by_cases fa:n.op=2
  ·refine v1 15 fa ?_;rw[zab (.inr (by omega))]at aV;subst aV;refine I ?_;exact ba [0] () trivial du
  refine v0 15 fa ?_;rw[zaa (by omega)]at aV;subst aV;refine I ?_;exact ba [0] () trivial du
 intro _ _;refine I ?_;refine aC Sh n trivial ?_;refine ag 18 (.agg (Lz n)) rfl rfl (an 19 ?_);refine mD 1 hH (eT n) ?_;refine I ?_;refine df (L:=Nat) (fun k=>u<=k∧k<=4∧(((eT n).drop u).take (k-u)).all (fun x=>x==0)=true) (fun(k:Nat)=>⟨[.c 126 (kU n),.a 277 false 1 Int hH (eT n)],2,[(1,.p 0 0),(4,.p 1 0),(5,.i .i64 (k:Int))]⟩) (fun k=>4-k) [0,1] u ⟨zcn _,hu,by rw[Nat.sub_self];rfl⟩ (by show 4-u<bT+1;unfold bT;omega) ji ?_;rintro(k:Nat) ⟨WG,ab,aJ⟩;have tM:(eT n).length=4:=rfl;have hlen:((eT n).drop u).length=4-u:=by rw[zaH];rfl
 refine an 21 ?_;by_cases hl:k<4
 ·refine v1 21 (show(k:Int)<4 by omega) ?_;have Mi:k-u<((eT n).drop u).length:=by omega
  have j9:(eT n)[k]? =some ((eT n).drop u)[k-u]:=by
   rw[<-bV Mi,zaI,show u+(k-u)=k by omega]
  refine I ?_;refine Jk (j:=k) ?_;refine sS ((eT n).drop u)[k-u] j9 ?_;refine an 27 ?_;by_cases aa:((eT n).drop u)[k-u]=0
  ·refine v0 27 (gI aa) (an 23 ?_);refine nh 23 ((k+1:Nat):Int) (I ?_);exact ba [0,1] (k+1) ⟨by omega,by omega,hl,by rw[show k+1-u=(k-u)+1 by omega];exact Xg Mi aJ aa⟩ ji
  ·refine v1 27 aa (I ?_);refine au rfl (.of (b2 ?_));have:((eT n).drop u).all (fun x=>x==0)=false:=by
    rw[List.all_eq_false];exact⟨((eT n).drop u)[k-u],ea Mi,by simpa using aa⟩
   rw[bb,this];rfl
 ·refine v0 21 (show¬(k:Int)<4 by omega) ?_;have pe:((eT n).drop u).all (fun x=>x==0)=true:=by
   rw[zaF (by omega)]at aJ;exact aJ
  refine an 30 ?_;by_cases af:n.op=3
  ·refine v0 30 (gI af) (I ?_);exact au rfl (.of (b2 (by rw[bb,pe,zad af];simp)))
  ·refine v1 30 af (an 34 ?_);cases aI:n.v with
   |nil=>
    refine ag 34 (.b false) rfl rfl (I ?_);exact au rfl (.of (b2 (by rw[bb,pe,aI];rfl)))
   |cons c v=>
    refine ag 34 (.b true) rfl rfl (I ?_);exact au rfl (.of (b2 (by rw[bb,pe,aI,zac af];rfl)))
def atQ:a6 aS.ctx 134 zU.spec:=by
 refine bq [] SM.1 ?_;intro(p:dN) _ H aH;have a7:∀{c:Int},o4 p=c->bY (.i .i64 c) (zU.res p):=fun h=>.of (by rw[<-h];rfl);refine an 10 ?_;by_cases J:6<(p.bG.length:Int)
 ·refine v1 10 J (I ?_);exact au rfl (a7 (zab (.inl J)))
 refine v0 10 J (an 15 ?_);by_cases U:6<(p.ins.length:Int)
 ·refine v1 15 U (I ?_);exact au rfl (a7 (zab (.inr (.inl U))))
 refine v0 15 U (an 19 ?_);by_cases af:64<(p.bt.length:Int)
 ·refine v1 19 af (I ?_);exact au rfl (a7 (zab (.inr (.inr (.inl af)))))
 refine v0 19 af (an 25 ?_);by_cases ax:4<(p.eX.length:Int)
 ·refine v1 25 ax (I ?_);exact au rfl (a7 (zab (.inr (.inr (.inr ax)))))
 refine v0 25 ax ?_;have iS:¬(6<(p.bG.length:Int)∨6<(p.ins.length:Int)∨64<(p.bt.length:Int)∨4<(p.eX.length:Int)):=fun h=>h.elim J fun h=>h.elim U fun h=>h.elim af ax;have aw:=fun{c} h=> @a7 c ((zaa iS).trans h);refine an 30 ?_;by_cases aM:(p.bG.length:Int)=0
 ·refine v1 30 aM (I ?_);exact au rfl (aw (zab (.inl aM)))
 refine v0 30 aM (an 33 ?_);by_cases aN:(p.bt.length:Int)=0
 ·refine v1 33 aN (I ?_);exact au rfl (aw (zab (.inr (.inl aN))))
 refine v0 33 aN (an 38 ?_);by_cases bf:p.mode<0
 ·refine v1 38 bf (I ?_);exact au rfl (aw (zab (.inr (.inr (.inl bf)))))
 refine v0 38 bf (an 43 ?_);by_cases cb:4<p.mode
 ·refine v1 43 cb (I ?_);exact au rfl (aw (zab (.inr (.inr (.inr cb)))))
 refine v0 43 cb ?_;have gI:¬((p.bG.length:Int)=0∨(p.bt.length:Int)=0∨p.mode<0∨4<p.mode):=fun h=>h.elim aM fun h=>h.elim aN fun h=>h.elim bf cb;have e2:=fun{c} h=> @aw c ((zaa gI).trans h);refine an 47 ?_;by_cases a5:p.head<0
 ·refine v1 47 a5 (I ?_);exact au rfl (e2 (zab (.inl a5)))
 refine v0 47 a5 (an 53 ?_);by_cases bD:p.tail<p.head
 ·refine v1 53 bD (I ?_);exact au rfl (e2 (zab (.inr (.inl bD))))
 refine v0 53 bD (an 59 ?_);by_cases dt:(p.bt.length:Int)<p.tail
 ·refine v1 59 dt (I ?_);exact au rfl (e2 (zab (.inr (.inr dt))))
 refine v0 59 dt ?_;have pk:¬(p.head<0∨p.tail<p.head∨(p.bt.length:Int)<p.tail):=fun h=>h.elim a5 fun h=>h.elim bD dt;have bW:=fun{c} h=> @e2 c ((zaa pk).trans h);refine an 65 ?_;by_cases fc:(p.eX.length:Int)=0
 ·refine v1 65 fc (an 70 ?_);by_cases hQ:p.head<(p.bt.length:Int)
  ·refine v1 70 hQ (I ?_);exact au rfl (bW (zab ⟨fc,by omega⟩))
  ·refine v0 70 hQ (I ?_);exact au rfl (bW (zaa (fun h=>h.2 (by omega))))
 ·refine v0 65 fc (I ?_);exact au rfl (bW (zaa (fun h=>fc h.1)))
def ZI{v k:Nat}(h:v<10^k)(ab:k<=2000):dy 300 v:=by
 refine hL (by decide) (zbG h (zaj (zax (by decide) ab) ?_));decide +kernel
def Ef{s:ac bv}(ai:s.length<=2000)(h:fx s=some x):cq 300 x:=by
 obtain⟨P,q,iq,_,_,fP,hq,zY,hint,Ah⟩:=Ol ai;by_cases dE:oK (dQ s).1 P q iq
 ·obtain⟨aM,aN,bf⟩:=dE;have u4:=ZI (rJ aM.2.1) (by omega);cases iq with
  |false=>
   have e:=hint ⟨aM,aN,bf⟩ rfl;rw[h]at e;cases e;exact sD (by rw[uL];exact u4) (by show(aT _ 1).length<=_;rw[qT];exact jw rfl) (by decide)
  |true=>
   obtain⟨af,ax,a0⟩:=bf rfl;have oy:b4 q≠0:=fun h=>ax (w9 af h);have e:=Ah ⟨aM,aN,bf⟩ rfl;rw[h]at e;split at e
   ·cases e;exact sD (by rw[uL];exact u4) (ZI (rJ af.2.1) (by omega)) oy
   ·cases e
 ·rw[zY dE]at h;cases h
def En:bc where
 L:=dN×jZ
 args:=fun(p,x)=>[h8 p,.agg (Ap x)]
 pre:=fun(p,x)=>x.aL.length<=2000∧x.hi.length<=2000
 res:=fun(p,x)=>.i .i64 (tZ p x)
def apu:a6 aS.ctx 136 En.spec:=by
 refine bq [(139,s6.spec),(68,A9.spec),(235,IP.spec),(79,px.spec)] SO.1 ?_;intro⟨p,x⟩ ⟨fH,gu⟩ H aH;have a7:∀{c:Int},tZ p x=c->bY (.i .i64 c) (En.res (p,x)):=fun h=>.of (by rw[<-h];rfl);refine I ?_;refine aC yG (x.f,(p.bG.length:Int)) trivial ?_;by_cases af:jd x.f p.bG.length
 case neg=>
  refine dW 14 af (I ?_);exact au rfl (a7 (zaa af))
 refine dG 14 af ?_;obtain⟨f,ae⟩:∃f:Nat,x.f=(f:Int):=⟨x.f.toNat,by have:=af.1;omega⟩;have tK:x.f.toNat=f:=by omega
 have tM:f<p.bG.length:=by have:=af.2;omega
 obtain⟨⟨jD,jE⟩,hq⟩:∃w,p.bG[f]? =some w:=⟨_,bV tM⟩;have aw:∀{c:Int},pf jD jE x=c->bY (.i .i64 c) (En.res (p,x)):=fun h=>a7 (by unfold tZ;rw[zab af,tK,hq];exact h);refine I ?_;refine aC Ep x.aL fH ?_;cases er:fx x.aL with
 |none=>
  refine ag 19 (.bu [bg 0,.i .i64 6]) rfl (by show mA x.aL=_;unfold mA;rw[er]) (I ?_);exact au rfl (aw (by unfold pf;rw[er]))
 |some X=>
 refine ag 19 (.bu [bg X,.i .i64 0]) rfl (by show mA x.aL=_;unfold mA;rw[er]) (I ?_);refine aC Ep x.hi gu ?_;cases bb:fx x.hi with
 |none=>
  refine ag 28 (.bu [bg 0,.i .i64 6]) rfl (by show mA x.hi=_;unfold mA;rw[bb]) (I ?_);exact au rfl (aw (by unfold pf;rw[er,bb]))
 |some Y=>
 refine ag 28 (.bu [bg Y,.i .i64 0]) rfl (by show mA x.hi=_;unfold mA;rw[bb]) ?_;have DX:=Ef fH er;have DY:=Ef gu bb;have g0:pf jD jE x=if hU jD jE X∧hU jD jE Y∧¬Y<X then 0 else 7:=by unfold pf;rw[er,bb]
 have no:¬(hU jD jE X∧hU jD jE Y∧¬Y<X)->bY (.i .i64 7) (En.res (p,x)):=fun h=>aw (g0.trans (zaa h));refine an 37 ?_;refine ag 37 (.i .i64 (f:Int)) rfl (by rw[ae]) ?_;refine ep (jD,jE) hq ?_;refine I ?_;refine aC ZV (jD,jE,X) DX ?_;by_cases cP:hU jD jE X
 case neg=>
  refine dW 42 cP (I ?_);exact au rfl (no (fun h=>cP h.1))
 refine dG 42 cP (I ?_);refine aC ZV (jD,jE,Y) DY ?_;by_cases cT:hU jD jE Y
 case neg=>
  refine dW 47 cT (I ?_);exact au rfl (no (fun h=>cT h.2.1))
 refine dG 47 cT (I ?_);refine aC py (X,Y) ⟨cJ DX (by decide),cJ DY (by decide)⟩ (an 54 ?_);by_cases ek:Y<X
 ·refine v1 54 (n7.2 ek) (I ?_);exact au rfl (no (fun h=>h.2.2 ek))
 ·refine v0 54 (fun h=>ek (n7.1 h)) (I ?_);exact au rfl (aw (g0.trans (zab ⟨cP,cT,ek⟩)))
