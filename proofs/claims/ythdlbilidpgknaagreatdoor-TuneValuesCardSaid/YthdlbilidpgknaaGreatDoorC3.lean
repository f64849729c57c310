/- What the functions of the program and of the document compute, for every input (part 3); conditions as in the statements. -/
import Derived.Test.YthdlbilidpgknaaGreatDoorX
import Derived.Test.YthdlbilidpgknaaGreatDoorC2
import Derived.Test.YthdlbilidpgknaaGreatDoorS2
set_option linter.all false
namespace Go.aj.a3
open Go.aj
set_option maxRecDepth 100000
set_option maxHeartbeats 4000000
def aag:bh where
 L:=ac bv
 args:=fun s=>[.s s]
 pre:=fun s=>jl s∧s.length<=2100
 res:=fun s=>c0 (b1 s)
def yC(v:Nat)(rest:ac bv):ac ay:=[.c 40 [c0 v],.c 9 [.s rest]]
def Ds{v k K:Nat}(h:v<10^k)(U:k<=K):dF K v:=rn (fC h (zai (zdk (by decide) k) (zat (by decide) U)))
def uv:ci->gu:=cf [(32,v9.spec),(40,As.spec),(88,Fb.spec)]
def OI:a9 aT.ctx 36 aag.spec:=by
 refine aeG aT.fA gF uv (xf:=TZ.1) (by kernel_rfl) (fun l vs st ⟨_,_,_,d⟩=>by rw[h6 d];exact jN rfl) ?_;rintro⟨s,H⟩ vs st ⟨⟨eu,ae⟩,_,av,al⟩;have eu:jl s:=eu;have ae:s.length<=2100:=ae;have av:Fit H [] st [] 0:=av;have al:db H [.s s] [] vs:=al;have aa:=c3.zero al;obtain⟨eo,cg,H1,Wu,aq,PG,wV,f1,jJ⟩:=seg (call:=cX bl (dc aT.ctx uv) (bQ+1)) (cm:=bQ+1) (fn:=36) (ops:=[C.m 2 C.a6]) (s:=⟨[],0,nI 0 [.s s]⟩) (t:=⟨[],0,[(2,.nl),(0,.s s)]⟩) rfl (by
  intro H1 i1 s1 _ _;refine I ?_;exact j3 ⟨rfl,rfl⟩) av aa
 obtain⟨lN,dz,JP,avD,e2,PH,hO,f2,lz⟩:=seg (call:=cX bl (dc aT.ctx uv) (bQ+1)) (cm:=bQ+1) (fn:=36) (ops:=[C.hG 3 [C.N] 40]) (s:=⟨[],0,[(2,.nl),(0,.s s)]⟩) (t:=⟨[.c 40 [c0 0]],1,[(3,.p 0 0),(2,.nl),(0,.s s)]⟩) rfl (by
  intro H1 i1 s1 _ _
  iterate 1 refine gW ?_
  refine ap8 0 (cs:=[.nl]) [c0 0] ⟨bZ.nl.trans (.of (by show cQ []=cQ (aR _ 0);rw[fG])),trivial⟩ ?_;refine I ?_;exact j3 ⟨rfl,rfl⟩) wV f1
 obtain⟨Lo,gO,rU,sj,bV,PI,PJ,f3,n6⟩:=seg (call:=cX bl (dc aT.ctx uv) (bQ+1)) (cm:=bQ+1) (fn:=36) (ops:=[C.m 6 0,C.c 7 87 [6]]) (s:=⟨[.c 40 [c0 0]],1,[(3,.p 0 0),(2,.nl),(0,.s s)]⟩) (t:=⟨yC 0 s,2,[(7,.fn (.func 175) [] [.p 1 0]),(6,.s s),(3,.p 0 0),(2,.nl),(0,.s s)]⟩) rfl (by
  intro H1 i1 s1 _ _;refine I ?_;refine wy UT.1 (by kernel_rfl) ?_;intro JP i2 s2 _ _;refine I ?_;refine j3 ⟨.inr rfl,_,rfl,?_⟩;refine I ?_;exact j3 ⟨rfl,rfl⟩) hO f2
 have qb:Lo.b3=none:=n6.trans (lz.trans jJ);obtain⟨pY,wH,acn,avM,eQ,t4,d4,tV,acg,PK,ao6,b2,DG,adE⟩:=at1 (X:=aT.ctx) (bl:=bl) (cP:=uv) (cm:=bQ+1) (n:=4611686018427387902) (fn:=36) qb PJ f3 (f:=7) (ps:=[8,9]) (dk:=C.q (C.R [C.m 4 8]) (C.R [C.m 5 9])) (body:=C.K 1 (.tk [C.D (C.m 11 5) [5],C.D (C.hv 12 .u64 11) [11],C.E (C.c 13 32 [12]),C.JM (C.l 10 3) 1 [3],C.E (C.c 14 40 [10,13]),C.JM (C.m 15 4) 2 [4],C.JM (C.hv 16 .u64 15) 2 [15],C.E (C.c 17 32 [16]),C.E (C.c 18 88 [14,17]),C.E (C.st 1 3 18)] [1,2,3,0,4,5,6,7,8,9] [10,15,16] [0,1,3,0,15,0,32,127,255,511])) (g:=175) (xf:=SP.1) (caps:=[.p 1 0]) (fun o=>o=yC (b1 s) []) (by kernel_rfl) rfl rfl (jN rfl) (by
  intro s1 l hlen kj q5 gR Cx aN;have hlen:sj.length=2:=hlen;refine I ?_;refine c6 (L:=ac bv×Nat) (fun(rest,v)=>jl rest∧rest.length<=s.length∧v<10^(s.length-rest.length)∧b1 s=b1 rest+10^rest.length*v) (fun(rest,v)=>⟨yC v rest,2,[(0,.v (.func (.yield l) #[] #[])),(1,.p 1 0)]⟩) (fun l=>l.1.length) [0,1] (s,0) ⟨eu,bY _,by simp,by simp⟩ (by show List.length s<4611686018427387904;omega) (nq ⟨rfl,rfl,trivial⟩ ⟨_,rfl,rfl⟩ ⟨_,rfl,rfl⟩ (hp:=by show pinned sj.length _ _=_;rw[hlen];rfl)) ?_;rintro⟨rest,v⟩ ⟨aG,aI,a4,b2⟩;refine I ?_;refine b9 (fun hr=> ?_) (fun hr=> ?_)
  ·have hr:0<rest.length:=by omega
   refine I ?_;refine l7 (L:=ac bv×ac bv) (fun(w,dG)=>rest=w++dG∧w.length<=9∧w≠[]) (fun(w,dG)=>⟨yC v dG,2,[(0,.v (.func (.yield l) #[] #[])),(1,.p 1 0),(3,.i .u32 (b1 w:Nat)),(4,.i .u32 ((10^w.length:Nat):Int))]⟩) ?_ ?_
   ·refine c6 (L:=ac bv×ac bv) (fun(w,dG)=>rest=w++dG∧w.length<=9) (fun(w,dG)=>⟨yC v dG,2,[(0,.v (.func (.yield l) #[] #[])),(1,.p 1 0),(3,.i .u32 (b1 w:Nat)),(4,.i .u32 ((10^w.length:Nat):Int)),(5,.i .i64 (w.length:Nat))]⟩) (fun l=>9-l.1.length) [0,1] ([],rest) ⟨rfl,by decide⟩ (by show 9-0<4611686018427387904;decide) (nq ⟨rfl,rfl,rfl,rfl,rfl,trivial⟩ ⟨_,rfl,rfl⟩ ⟨_,rfl,rfl⟩ (hp:=by show pinned sj.length _ _=_;rw[hlen];rfl)) ?_;rintro⟨w,dG⟩ ⟨a2,bw⟩;have hw:jl w:=fun c hc=>aG c (by rw[a2];exact zdb _ hc);have Dc:=rI hw;refine ak 11 ?_;by_cases h8:w.length<9
    ·refine ah 11 (.b true) rfl (congrArg ab.b (zad (by omega))) ?_;cases dG with
     |nil=>
      refine I ?_;exact a1 [0,1] (w,[]) ⟨a2,bw,fun e=>by rw[e]at a2;rw[a2]at hr;simp at hr⟩ (nq ⟨rfl,rfl,rfl,rfl,trivial⟩ ⟨_,rfl,rfl⟩ ⟨_,rfl,rfl⟩ (hp:=by show pinned sj.length _ _=_;rw[hlen];rfl))
     |cons c dG=>
      have hc:=aG c (by rw[a2];simp);have xN:10^w.length<=100000000:=zai (zat (by decide) (show w.length<=8 by omega)) (by decide);have vG:=OF w c;have jr:10^(w++[c]).length=10*10^w.length:=by rw[zaG,List.length_singleton,zak,zaj]
      refine ak 15 ?_;refine ah 15 (.b true) rfl (by simp) (I ?_);refine mN c (j:=0) rfl ?_;have afu:(c.toNat+(256*48-48))%256=c.toNat-48:=by omega
      have afv:(10*b1 w%4294967296+(c.toNat-48)%4294967296)%4294967296=b1 (w++[c]):=by rw[vG];generalize b1 w=x at *;generalize 10^w.length=P at *;omega
      have Ca:10*10^w.length%4294967296=10^(w++[c]).length:=by rw[jr];generalize 10^w.length=P at *;omega
      refine ak 22 ?_;refine ah 22 (.i .u8 ((c.toNat-48:Nat):Int)) rfl (congrArg (fun n:Nat=>ab.i .u8 (n:Int)) afu) (ak 24 ?_);refine ah 24 (.i .u32 (b1 (w++[c]):Nat)) rfl (congrArg (fun n:Nat=>ab.i .u32 (n:Int)) afv) (ak 26 ?_);refine ah 26 (.i .u32 ((10^(w++[c]).length:Nat):Int)) rfl (congrArg (fun n:Nat=>ab.i .u32 (n:Int)) Ca) (I ?_);refine rH (p:=1) dG ?_ (hp:=by simp) (hq:=by simp);refine I ?_;exact a1 [0,1] (w++[c],dG) ⟨by simp;omega,by rw[a2];simp,by simp;omega⟩ (nq ⟨rfl,rfl,rfl,rfl,congrArg (fun n=>some (ab.i .i64 n)) (uK (by simp) (by omega) (by omega)),trivial⟩ ⟨_,rfl,rfl⟩ ⟨_,rfl,rfl⟩ (hp:=by show pinned sj.length _ _=_;rw[hlen];rfl))
    ·refine ah 11 (.b false) rfl (congrArg ab.b (zac (by omega))) (I ?_);exact a1 [0,1] (w,dG) ⟨a2,bw,fun e=>by rw[e]at h8;simp at h8⟩ (nq ⟨rfl,rfl,rfl,rfl,trivial⟩ ⟨_,rfl,rfl⟩ ⟨_,rfl,rfl⟩ (hp:=by show pinned sj.length _ _=_;rw[hlen];rfl))
   rintro⟨w,dG⟩ ⟨a2,bw,dr⟩;refine I ?_;have hw:jl w:=fun c hc=>aG c (by rw[a2];exact zdb _ hc);have Dc:=rI hw;have xN:10^w.length<=1000000000:=zai (zat (by decide) bw) (by decide);have VZ:rest.length=w.length+dG.length:=by rw[a2,zaG]
   have oC:b1 rest=b1 dG+10^dG.length*b1 w:=by rw[a2,OD]
   have Ha:v*10^w.length+b1 w<10^(s.length-dG.length):=by
    rw[show s.length-dG.length=(s.length-rest.length)+w.length by omega,zal];refine fC (Nat.add_lt_add_left Dc _) ?_;rw[<-zcj];exact fK _ a4
   have tM:b1 s=b1 dG+10^dG.length*(v*10^w.length+b1 w):=by
    rw[b2,oC,VZ,zal,zaB];rw[zaj (10^w.length) (10^dG.length),zar,zaj (10^w.length) v];omega
   have Nf:dF 2100 v:=Ds a4 (by omega);have Xf:dF 2100 (10^w.length):=Ds (k:=w.length+1) (Nat.pow_lt_pow_right (by decide) (zbZ _)) (by omega);have lw:dF 2100 (b1 w):=Ds Dc (by omega);have aj4:10^w.length%18446744073709551616=10^w.length:=dJ (zaX xN (by decide));have aj5:b1 w%18446744073709551616=b1 w:=dJ (fC Dc (zai xN (by decide)));refine aql kj q5 gR Cx aN (e2:=[(5,.i .u32 ((10^w.length:Nat):Int)),(4,.i .u32 (b1 w:Nat)),(9,.i .u32 ((10^w.length:Nat):Int)),(8,.i .u32 (b1 w:Nat)),(7,.fn (.func 175) [] [.p 1 0]),(6,.s s),(3,.p 0 0),(2,.nl),(0,.s s)]) ?_ ?_
   ·intro aco i5 aqO;refine I ?_;exact j3 ⟨rfl,rfl⟩
   ·intro aco i5 aqO VQ _;have VQ:i5.length=2:=VQ;refine ak 12 ?_;refine cu 12 (.i .u64 ((10^w.length:Nat):Int)) rfl rfl (congrArg (fun n:Nat=>ab.i .u64 (n:Int)) aj4) ?_;refine bo oG (10^w.length:Nat) (zaX xN (by decide)) (I ?_);refine bo su (v,10^w.length) ⟨cD Nf (by decide),cD Xf (by decide)⟩ (ak 16 ?_);refine cu 16 (.i .u64 (b1 w:Nat)) rfl rfl (congrArg (fun n:Nat=>ab.i .u64 (n:Int)) aj5) ?_;refine bo oG (b1 w) (fC Dc (zai xN (by decide))) ?_;refine bo J6 (v*10^w.length,b1 w) ⟨cD (lr Nf Xf) (by decide),cD lw (by decide)⟩ (I ?_);refine j3 ⟨rfl,yC (v*10^w.length+b1 w) dG,[0,1],rfl,nq trivial ⟨_,rfl,rfl⟩ ⟨_,rfl,rfl⟩,?_⟩;refine I ?_;exact a1 [0,1] (dG,v*10^w.length+b1 w) ⟨by rw[VZ];have:=zbf.2 dr;show dG.length<_;omega,fun c hc=>aG c (by rw[a2];exact zep _ hc),by omega,Ha,tM⟩ (nq ⟨rfl,rfl,trivial⟩ ⟨_,rfl,rfl⟩ ⟨_,rfl,rfl⟩ (hp:=by show pinned sj.length _ _=_;rw[hlen];rfl))
  ·have hr:rest=[]:=zeD.1 (by omega);subst hr;have aF:b1 s=v:=by rw[b2];simp[b1,m3,val]
   refine I ?_;exact j3 ⟨.inl rfl,⟨_,rfl⟩,yC (b1 s) [],[0,1],rfl,nq trivial ⟨_,rfl,by rw[aF];rfl⟩ ⟨_,rfl,rfl⟩,rfl⟩)
 subst ao6;obtain⟨b,gh,pb⟩:=f3.get 3 (.p 0 0) rfl;have amb:pY.tmp 3= .pointer (some ⟨b,0,none⟩):=by
  have e:pY.tmp 3=Lo.tmp 3:=by unfold aP.tmp;rw[t4]
  rw[e];exact pb
 obtain⟨⟨ws,aW,v,us,rfl,d5,d6⟩,_⟩:=PK.own 0 (.c 40 [c0 (b1 s)]) b rfl gh;have d6:us=[]:=d6;subst d6;have z0:bP (cX bl (dc aT.ctx uv) (bQ+1)) (.lZ (.tmp 3)) pY wH= .ok v pY wH:=Ag (by show pY.tmp 3=_;exact amb) aW rfl;have a5:=((PG.trans PH).trans PI).trans acg;have p9:st.ag<=gO.ag:=((PG.trans PH).trans PI).ag;have xS:gO.ag∉sj:=fun hm=>by have:=PJ.lt _ hm;omega
 refine JD aq (JD e2 (JD (aqW bV (adv eQ)) ?_));refine JD (eo:=(pY.put (some 19) v).put (some 2) v) (cg:=wH) ?_ ?_
 ·show iY (cX bl (dc aT.ctx uv) (bQ+1)) (⟨some 19,.lZ (.tmp 3),none⟩::[⟨some 2,.l1 (.tmp 19),none⟩]) pY wH=_;rw[Sym.F2,z0,Sym.NM,Sym.F2];show iY (cX bl (dc aT.ctx uv) (bQ+1)) [] ((pY.put (some 19) v).put (some 2) ((pY.put (some 19) v).tmp 19)) wH=_;rw[rM,zab rfl];rfl
 ·refine⟨.ret,(pY.put (some 19) v).put (some 2) v,wH,rfl,.inr rfl,v,⟨wH.h.set gO.ag (.iV none),wH.ag⟩,?_,acn,?_,?_,?_⟩
  ·have tE:((pY.put (some 19) v).put (some 2) v).c1=[{target:=.collected gO.ag,args:= #[]}]:=by
    rw[(wk _ _ _).1,(wk _ _ _).1,d4,f3.pl.c1]
   have ak2:((pY.put (some 19) v).put (some 2) v).cF=false:=by
    rw[(wk _ _ _).2.2.1,(wk _ _ _).2.2.1,tV,f3.pl.cF]
   have:=agm (call:=cX bl (dc aT.ctx uv) (bQ+1)) (t:=2) tE ak2 b2;rw[rM,zab rfl]at this;exact this
  ·exact(PK.other DG xS adE (.iV none)).less
  ·exact(a5.other p9 (.iV none)).less
  ·exact FM _ rfl d5 _
def oQ(n:Bool)(P q:ac bv)(iA:Bool):Prop:=hD P∧¬(n=true∧P=[48])∧(iA=true->hD q∧q≠[48]∧q≠[49])
instance(n:Bool)(P q:ac bv)(iA:Bool):Decidable (oQ n P q iA):=by unfold oQ;infer_instance
def Oa{N:Nat}{s:ac bv}(ae:s.length<=N):∃P q iA,o0 (dw s).2= .bu [.s P,.s q,.b iA]∧(dw s).2.length<=N∧P.length<=N∧q.length<=N∧(¬oQ (dw s).1 P q iA->fb s=none)∧
 (oQ (dw s).1 P q iA->iA=false->fb s=some (mkRat (h4 (dw s).1 (b1 P)) 1))∧(oQ (dw s).1 P q iA->iA=true->fb s=if Nat.gcd (b1 P) (b1 q)=1 then some (mkRat (h4 (dw s).1 (b1 P)) (b1 q))else none):=by
 have sg:=OS s;unfold fb o0;obtain⟨⟨n,t⟩,aJ⟩:∃g,g=dw s:=⟨_,rfl⟩;rw[<-aJ]at sg⊢;simp only at sg⊢;have tN:t.length<=N:=by have:=congrArg List.length sg;rw[zaG]at this;omega
 obtain⟨eK,fO,mW⟩:=KS t;obtain⟨⟨P,Q⟩,hq⟩:∃g,g=cutAt t:=⟨_,rfl⟩;rw[<-hq]at eK fO mW⊢;simp only at eK fO mW⊢;cases Q with
 |none=>
  have LH:=mW rfl;subst LH;refine⟨t,[],false,rfl,tN,tN,by exact zag _,fun h=>zaa (fun az=>h ⟨az.1,az.2,fun e=>by cases e⟩),fun h _=>zab ⟨h.1,h.2.1⟩,fun _ h=>by cases h⟩
 |some q=>
  have aN:=fO q rfl;have M1:P.length+q.length<=N:=by have:=congrArg List.length aN;rw[zaG,zau]at this;omega
  refine⟨P,q,true,rfl,tN,by omega,by omega,fun h=> ?_,(fun _ h=>by cases h),fun h _=> ?_⟩
  ·by_cases h1:hD P∧¬(n=true∧P=[48])
   ·rw[zab h1];exact zaa (fun az=>h ⟨h1.1,h1.2,fun _=>⟨az.1,az.2.1,az.2.2.1⟩⟩)
   ·rw[zaa h1]
  ·obtain⟨h1,h2,h3⟩:=h;obtain⟨h3,au,aW⟩:=h3 rfl;rw[zab ⟨h1,h2⟩];by_cases GK:Nat.gcd (b1 P) (b1 q)=1
   ·rw[zab GK];exact zab ⟨h3,au,aW,GK⟩
   ·rw[zaa GK];exact zaa (fun az=>GK az.2.2.2)
def iM(s:ac bv):ab:=match fb s with
 |some x=>.bu [bG x,.i .i64 0]
 |none=>.bu [bG 0,.i .i64 6]
def uz:bh where
 L:=ac bv
 args:=fun s=>[.s s]
 pre:=fun s=>s.length<=2000
 res:=fun s=>iM s
def sJ:a9 aT.ctx 11 uz.spec:=by
 refine bH [(33,FF.spec),(34,B0.spec),(35,Z8.spec),(36,aag.spec),(32,v9.spec),(31,vY.spec),(38,Lz.spec),(37,MR.spec)] Gj.1 ?_;intro(s:ac bv) (ae:s.length<=2000) H aH;have hp:∀{r},fb s=r->bZ (match r with|some x=>.bu [bG x,.i .i64 0]|none=>.bu [bG 0,.i .i64 6]) (uz.res s):=fun h=>.of (by subst h;rfl);have fail:fb s=none->bZ (.bu [.agg [.b false,.nl,.nl],.i .i64 6]) (uz.res s):=fun h=>anB.trans (hp h);obtain⟨P,q,iA,hC,aN,hH,hq,zR,hint,z6⟩:=Oa ae;obtain⟨n,hn⟩:∃n,n=(dw s).1:=⟨_,rfl⟩;rw[<-hn]at zR hint z6;refine I ?_;refine aL ad2 s (by show s.length<=_;omega) ?_;refine ah 13 (.bu [.s (dw s).2,.b n]) rfl (by rw[hn];rfl) (I ?_);refine aL aeL (dw s).2 (by show(dw s).2.length<=_;omega) ?_;refine ah 18 _ rfl hC (I ?_);refine fJ (L:=Bool) (fun b=>b= !decide (oQ n P q iA)) (fun b=>⟨[.c 42 [.b false,.nl,.nl]],1,[(2,.p 0 0),(3,.i .i64 0),(5,.b n),(6,.s P),(7,.s q),(8,.b iA),(22,.b b)]⟩) ?_ ?_
 ·have bad:¬oQ n P q iA->true= !decide (oQ n P q iA):=fun h=>by rw[zac h];rfl
  have fA:oQ n P q iA->false= !decide (oQ n P q iA):=fun h=>by rw[zad h];rfl
  refine aL OH P (by show P.length<=_;omega) (ak 26 ?_);by_cases h1:hD P
  ·refine ah 26 (.b false) rfl (by show ab.b (!decide _)=_;rw[zad h1];rfl) (ak 33 ?_);by_cases h2:n=true∧P=[48]
   ·obtain⟨rfl,rfl⟩:=h2;refine I ?_;exact a1 [0] true (bad fun h=>h.2.1 ⟨rfl,rfl⟩) dD
   ·cases n with
    |false=>
     cases iA with
     |false=>
      refine I ?_;exact a1 [0] false (fA ⟨h1,h2,fun e=>by cases e⟩) dD
     |true=>
      refine I ?_;refine aL OH q (by show q.length<=_;omega) (ak 39 ?_);by_cases h3:hD q
      ·refine ah 39 (.b false) rfl (by show ab.b (!decide _)=_;rw[zad h3];rfl) (ak 43 ?_);by_cases au:q=[48]
       ·refine ah 43 (.b true) rfl (by rw[au];rfl) (I ?_);exact a1 [0] true (bad fun h=>(h.2.2 rfl).2.1 au) dD
       refine ah 43 (.b false) rfl (by rw[zaO.2 au]) (ak 45 ?_);by_cases aW:q=[49]
       ·refine ah 45 (.b true) rfl (by rw[aW];rfl) (I ?_);exact a1 [0] true (bad fun h=>(h.2.2 rfl).2.2 aW) dD
       refine ah 45 (.b false) rfl (by rw[zaO.2 aW]) (I ?_);exact a1 [0] false (fA ⟨h1,h2,fun _=>⟨h3,au,aW⟩⟩) dD
      ·refine ah 39 (.b true) rfl (by show ab.b (!decide _)=_;rw[zac h3];rfl) (I ?_);exact a1 [0] true (bad fun h=>h3 (h.2.2 rfl).1) dD
    |true=>
     have q7:P≠[48]:=fun e=>h2 ⟨rfl,e⟩;refine ak 30 ?_;refine ah 30 (.b false) rfl (by rw[zaO.2 q7]) ?_;cases iA with
     |false=>
      refine I ?_;exact a1 [0] false (fA ⟨h1,h2,fun e=>by cases e⟩) dD
     |true=>
      refine I ?_;refine aL OH q (by show q.length<=_;omega) (ak 39 ?_);by_cases h3:hD q
      ·refine ah 39 (.b false) rfl (by show ab.b (!decide _)=_;rw[zad h3];rfl) (ak 43 ?_);by_cases au:q=[48]
       ·refine ah 43 (.b true) rfl (by rw[au];rfl) (I ?_);exact a1 [0] true (bad fun h=>(h.2.2 rfl).2.1 au) dD
       refine ah 43 (.b false) rfl (by rw[zaO.2 au]) (ak 45 ?_);by_cases aW:q=[49]
       ·refine ah 45 (.b true) rfl (by rw[aW];rfl) (I ?_);exact a1 [0] true (bad fun h=>(h.2.2 rfl).2.2 aW) dD
       refine ah 45 (.b false) rfl (by rw[zaO.2 aW]) (I ?_);exact a1 [0] false (fA ⟨h1,h2,fun _=>⟨h3,au,aW⟩⟩) dD
      ·refine ah 39 (.b true) rfl (by show ab.b (!decide _)=_;rw[zac h3];rfl) (I ?_);exact a1 [0] true (bad fun h=>h3 (h.2.2 rfl).1) dD
  ·refine ah 26 (.b true) rfl (by show ab.b (!decide _)=_;rw[zac h1];rfl) (I ?_);exact a1 [0] true (bad fun h=>h1 h.1) dD
 intro b hb;by_cases du:oQ n P q iA
 ·have hb:b=false:=by rw[hb,zad du];rfl
  subst hb;obtain⟨aG,aI,a4⟩:=du;have uT:=Ds (K:=2000) (rI aG.2.1) (by omega);refine ak 56 ?_;refine ah 56 (.b false) rfl (congrArg ab.b (zac (by omega))) (I ?_);cases iA with
  |false=>
   refine I ?_;refine aL OI P ⟨aG.2.1,by show P.length<=_;omega⟩ ?_;refine aL oG (1:Nat) (by show 1<_;decide) ?_;refine aL pn (n,b1 P,1) ⟨cD uT (by decide),cD (nV (by decide)) (by decide),by decide⟩ (I ?_);exact ar rfl (hp (hint ⟨aG,aI,a4⟩ rfl))
  |true=>
   obtain⟨h3,au,aW⟩:=a4 rfl;have acr:=Ds (K:=2000) (rI h3.2.1) (by omega);have px:b1 q≠0:=fun h=>au (w4 h3 h);have cr:b1 q≠1:=fun h=>aW (QL h3 h);have hr:=z6 ⟨aG,aI,a4⟩ rfl;refine I ?_;refine aL OI P ⟨aG.2.1,by show P.length<=_;omega⟩ (I ?_);refine aL OI q ⟨h3.2.1,by show q.length<=_;omega⟩ (I ?_);refine aL Va (b1 P,b1 q) ⟨cD uT (by decide),cD acr (by decide)⟩ ?_;refine aL Ho (Nat.gcd (b1 P) (b1 q)) trivial (I ?_);refine AW (fun aJ=> ?_) (fun aJ=> ?_)
   ·refine I ?_;exact ar rfl (fail (by rw[hr,zaa aJ]))
   ·refine I ?_;rw[zab aJ]at hr;obtain⟨aq,e2⟩:=No (h4 n (b1 P)) (b1 q) px;rw[uB,aJ]at aq e2;have hle:bZ (.agg [.b n,c0 (b1 P),c0 (b1 q)]) (bG (mkRat (h4 n (b1 P)) (b1 q))):=M5 (q:=b1 q) (by rw[aq];exact Int.ediv_one _) (by rw[e2,zcb]) (fun h=>cr (by rw[h,zeH]at aJ;exact aJ)) (WZ cr px);exact ar rfl ((show bZ (.bu [.agg [.b n,c0 (b1 P),c0 (b1 q)],.i .i64 0]) (.bu [bG (mkRat (h4 n (b1 P)) (b1 q)),.i .i64 0])from .bu ⟨hle,.refl _,trivial⟩).trans (hp hr))
 ·have hb:b=true:=by rw[hb,zac du];rfl
  subst hb;refine I ?_;exact ar rfl (fail (zR du))
structure fv where
 op:Int
 a:Int
 b:Int
 c:Int
 d:Int
 f:Int
 v:ac bv
structure jm where
 f:Int
 aM:ac bv
 hi:ac bv
structure s3 where
 i:Int
 n:Int
structure cB where
 bB:ac (Int×Int)
 mode:Int
 ins:ac jm
 a6:ac fv
 head:Int
 tail:Int
 dE:ac s3
 out:Int
def kG(n:fv):ac ab:=[.i .i64 n.op,.i .i64 n.a,.i .i64 n.b,.i .i64 n.c,.i .i64 n.d,.i .i64 n.f,.s n.v]
def Ae(x:jm):ac ab:=[.i .i64 x.f,.s x.aM,.s x.hi]
def RV(x:Int×Int):ac ab:=[.i .i64 x.1,.i .i64 x.2]
def aaO(x:s3):ac ab:=[.i .i64 x.i,.i .i64 x.n]
def di(p:cB):ac ab:=[.cc 2 (Int×Int) RV p.bB,.i .i64 p.mode,.cc 3 jm Ae p.ins,.cc 7 fv kG p.a6,.i .i64 p.head,.i .i64 p.tail,.cc 2 s3 aaO p.dE,.i .i64 p.out]
def gM(p:cB):ab:=.agg (di p)
def b8{a b:Bool}(h:a=b):ab.b a=ab.b b:=by rw[h]
def Hp:bh where
 L:=Rat
 args:=fun x=>[bG x]
 pre:=fun _=>True
 res:=fun x=>.b (decide (x.den=1))
def MS:a9 aT.ctx 126 Hp.spec:=by
 refine bH [] Sd.1 ?_;intro(x:Rat) _ H aH;refine ak 4 ?_;by_cases al:x.den=1
 ·refine ah 4 (.hK 1 Nat eY []) rfl (by show rZ x.den=_;rw[al];rfl) (I ?_);exact ar rfl (.of (b8 (zad al).symm))
 ·refine ah 4 (.hK 1 Nat eY (aR 4294967296 x.den)) rfl (B2 al) ?_;have cl:(aR 4294967296 x.den).isEmpty=false:=zdC.2 (fun e=>x.den_nz ((nD (by decide)).1 e));refine I ?_;exact ar rfl (.of (b8 (by rw[zac al];show kd false _=false;rw[cl];rfl)))
def qT(s:ac bv):Int:=if(fb s).isSome then 0 else 6
def RB:bh where
 L:=ac bv
 args:=fun s=>[.s s]
 pre:=fun s=>s.length<=2000
 res:=fun s=>.i .i64 (qT s)
def afA:a9 aT.ctx 96 RB.spec:=by
 refine bH [(11,uz.spec)] U3.1 ?_;intro(s:ac bv) ae H aH;refine I ?_;refine aL sJ s ae ?_;cases h:fb s with
 |some x=>
  refine ah 7 (.bu [bG x,.i .i64 0]) rfl (by show iM s=_;unfold iM;rw[h]) (I ?_);exact ar rfl (.of (by show _=ab.i .i64 (qT s);unfold qT;rw[h];rfl))
 |none=>
  refine ah 7 (.bu [bG 0,.i .i64 6]) rfl (by show iM s=_;unfold iM;rw[h]) (I ?_);exact ar rfl (.of (by show _=ab.i .i64 (qT s);unfold qT;rw[h];rfl))
def sS:bh where
 L:=Int×Int
 args:=fun(n,m)=>[.i .i64 n,.i .i64 m]
 pre:=fun _=>True
 res:=fun(n,m)=>.b (decide (0<=n∧n<m))
def yV:a9 aT.ctx 49 sS.spec:=by
 refine bH [] Us.1 ?_;intro⟨n,m⟩ _ H aH;refine ak 6 ?_;by_cases h:0<=n
 ·refine dx 6 h (I ?_);exact ar rfl (.of (b8 (decide_eq_decide.2 ⟨fun az=>⟨h,az⟩,fun az=>az.2⟩)))
 ·refine ea 6 h (I ?_);exact ar rfl (.of (b8 (zac (fun az=>h az.1)).symm))
def MZ:bh where
 L:=Int
 args:=fun n=>[.i .i64 n]
 pre:=fun _=>True
 res:=fun n=>.b (decide (1<=n∧n<=15))
def WR:a9 aT.ctx 94 MZ.spec:=by
 refine bH [] U1.1 ?_;intro(n:Int) _ H aH;refine ak 4 ?_;by_cases h:1<=n
 ·refine dx 4 h (I ?_);exact ar rfl (.of (b8 (decide_eq_decide.2 ⟨fun az=>⟨h,az⟩,fun az=>az.2⟩)))
 ·refine ea 4 h (I ?_);exact ar rfl (.of (b8 (zac (fun az=>h az.1)).symm))
def fX(p:cB)(i:Int):Int:=if i<p.head then 0 else if i<p.tail then 1 else 2
def wE:bh where
 L:=cB×Int
 args:=fun(p,i)=>[gM p,.i .i64 i]
 pre:=fun _=>True
 res:=fun(p,i)=>.i .i64 (fX p i)
def OP:a9 aT.ctx 50 wE.spec:=by
 refine bH [] Ut.1 ?_;intro⟨p,i⟩ _ H aH;have aq:∀{c:Int},fX p i=c->bZ (.i .i64 c) (wE.res (p,i)):=fun h=>.of (by rw[<-h];rfl);refine ak 5 ?_;by_cases h:i<p.head
 ·refine dx 5 h (I ?_);exact ar rfl (aq (zab h))
 refine ea 5 h (ak 11 ?_);by_cases h2:i<p.tail
 ·refine dx 11 h2 (I ?_);exact ar rfl (aq ((zaa h).trans (zab h2)))
 refine ea 11 h2 (I ?_);exact ar rfl (aq ((zaa h).trans (zaa h2)))
def uA(p:cB)(i k:Int):Bool:=decide (0<=k∧k<i∧(fX p k=0∨fX p k=fX p i))
def wF:bh where
 L:=cB×Int×Int
 args:=fun(p,i,k)=>[gM p,.i .i64 i,.i .i64 k]
 pre:=fun _=>True
 res:=fun(p,i,k)=>.b (uA p i k)
def aqV:a9 aT.ctx 98 wF.spec:=by
 refine bH [(50,wE.spec)] U5.1 ?_;intro⟨p,i,k⟩ _ H aH;have no:¬(0<=k∧k<i∧(fX p k=0∨fX p k=fX p i))->bZ (.b false) (wF.res (p,i,k)):=fun h=>.of (b8 (zac h).symm);have yes:(0<=k∧k<i∧(fX p k=0∨fX p k=fX p i))->bZ (.b true) (wF.res (p,i,k)):=fun h=>.of (b8 (zad h).symm);refine ak 9 ?_;by_cases h:k<0
 ·refine dx 9 h (I ?_);exact ar rfl (no (by omega))
 refine ea 9 h (ak 13 ?_);by_cases h2:i<=k
 ·refine dx 13 h2 (I ?_);exact ar rfl (no (by omega))
 refine ea 13 h2 (I ?_);refine aL OP (p,k) trivial ?_;refine ah 17 (.i .i64 (fX p k)) rfl rfl (ak 19 ?_);by_cases h3:fX p k=0
 ·refine dx 19 h3 (I ?_);exact ar rfl (yes ⟨by omega,by omega,.inl h3⟩)
 refine ea 19 h3 (I ?_);refine aL OP (p,i) trivial ?_;refine ah 24 (.i .i64 (fX p i)) rfl rfl (ak 25 ?_);by_cases au:fX p k=fX p i
 ·refine dx 25 au (I ?_);exact ar rfl (yes ⟨by omega,by omega,.inr au⟩)
 refine ea 25 au (I ?_);exact ar rfl (no (fun h=>h.2.2.elim h3 au))
def kr(e p:Int)(x:Rat):Int:=max (gy x.num.natAbs x.den) (1-ct e)-p+1
def hE(e p:Int)(x:Rat):Prop:=cq e p∧(x.num=0∨(cS x (-kr e p x)).den=1∧¬kU e p<gv x)
instance(e p:Int)(x:Rat):Decidable (hE e p x):=by unfold hE;infer_instance
def hasB(e p:Int)(x:Rat):Bool:=decide (hE e p x)
def aaP{e p:Int}{x:Rat}(h:cq e p)(J:cA 250 x): -9000<=kr e p x∧kr e p x<=9000:=by
 have cK:=Dv x.num.natAbs x.den;have c9:=vS J.1;have hQ:=vS J.2;obtain⟨h1,h2,h3,au,aW⟩:=h;have:=jn h1 h2;unfold kr;omega
def Ck:bh where
 L:=Int×Int×Rat
 args:=fun(e,p,x)=>[m5 e p,bG x]
 pre:=fun(e,p,x)=>cA 250 x
 res:=fun(e,p,x)=>.b (hasB e p x)
def Lg:a9 aT.ctx 93 Ck.spec:=by
 refine bH [(127,Bp.spec),(39,uE.spec),(179,Ll.spec),(178,Nq.spec),(177,r5.spec),(126,Hp.spec),(117,Fa.spec),(180,Nn.spec),(12,sH.spec)] U0.1 ?_;intro⟨e,p,x⟩ (J:cA 250 x) H aH;have no:¬hE e p x->bZ (.b false) (Ck.res (e,p,x)):=fun h=>.of (b8 (by unfold hasB;exact(zac h).symm));have yes:hE e p x->bZ (.b true) (Ck.res (e,p,x)):=fun h=>.of (b8 (by unfold hasB;exact(zad h).symm));refine I ?_;refine aL Pv (e,p) trivial ?_;by_cases h:cq e p
 ·refine ah 9 (.bu [js e p 0 (ct e),.i .i64 0]) rfl (zab h) (I ?_);refine aL sK x trivial (I ?_);refine b9 (fun h0=> ?_) (fun h0=> ?_)
  ·have h0:x.num=0:=zbM.1 h0;refine I ?_;exact ar rfl (yes ⟨h,.inl h0⟩)
  have h0:x.num≠0:=fun e=>h0 (by rw[e];rfl);have cK:=Dv x.num.natAbs x.den;have c9:=vS J.1;have hQ:=vS J.2;obtain⟨s1,s2⟩:=aaP h J;refine I ?_;refine bo RU x ⟨dn J (by decide),h0⟩ (I ?_);refine bo XG (e,p,gy x.num.natAbs x.den,0) ⟨h,by show _<=gy _ _;omega,by show gy _ _<=_;omega⟩ (ak 24 ?_);refine ah 24 (.i .i64 (-kr e p x)) rfl (by show ab.i .i64 (IntKind.i64.wrap (-kr e p x))=_;exact bx rfl (by omega) (by omega)) (I ?_);refine bo pZ (x,-kr e p x) ⟨dn J (by decide),by show _<= -kr e p x;omega,by show -kr e p x<=_;omega⟩ (I ?_);refine bo MS (cS x (-kr e p x)) trivial ?_;by_cases al:(cS x (-kr e p x)).den=1
  ·refine dx 26 al (I ?_);refine bo J4 x trivial (I ?_);refine bo Xy (e,p,0) h (I ?_);refine bo sI (gv x,kU e p) ⟨dn (HN J) (by decide),dn (XM h) (by decide)⟩ (ak 33 ?_);by_cases aJ:kU e p<gv x
   ·have hc:=pS.2 aJ;refine ah 33 (.b false) rfl (b8 (zac (by show¬g4 _ _<=0;omega))) (I ?_);exact ar rfl (no (fun az=>az.2.elim h0 (fun az=>az.2 aJ)))
   ·have hc:¬0<g4 (gv x) (kU e p):=fun h=>aJ (pS.1 h);refine ah 33 (.b true) rfl (b8 (zad (by show g4 _ _<=0;omega))) (I ?_);exact ar rfl (yes ⟨h,.inr ⟨al,aJ⟩⟩)
  ·refine ea 26 al (I ?_);exact ar rfl (no (fun az=>az.2.elim h0 (fun az=>al az.1)))
 ·refine ah 9 (.bu [js 0 0 0 0,.i .i64 2]) rfl (zaa h) (I ?_);exact ar rfl (no (fun az=>h az.1))
def m6(p:cB):Int:=
 if(6<(p.bB.length:Int)∨6<(p.ins.length:Int)∨64<(p.a6.length:Int)∨4<(p.dE.length:Int))then 3
 else if((p.bB.length:Int)=0∨(p.a6.length:Int)=0∨p.mode<0∨4<p.mode)then 2
 else if(p.head<0∨p.tail<p.head∨(p.a6.length:Int)<p.tail)then 2
 else if((p.dE.length:Int)=0∧p.head≠(p.a6.length:Int))then 2 else 0
def zO:bh where
 L:=cB
 args:=fun p=>[gM p]
 pre:=fun _=>True
 res:=fun p=>.i .i64 (m6 p)
def ajs:a9 aT.ctx 44 zO.spec:=by
 refine bH [] Un.1 ?_;intro(p:cB) _ H aH;have a0:∀{c:Int},m6 p=c->bZ (.i .i64 c) (zO.res p):=fun h=>.of (by rw[<-h];rfl);refine ak 13 ?_;by_cases h1:6<(p.bB.length:Int)
 ·refine dx 13 h1 (I ?_);exact ar rfl (a0 (zab (.inl h1)))
 refine ea 13 h1 (ak 18 ?_);by_cases h2:6<(p.ins.length:Int)
 ·refine dx 18 h2 (I ?_);exact ar rfl (a0 (zab (.inr (.inl h2))))
 refine ea 18 h2 (ak 20 ?_);by_cases h3:64<(p.a6.length:Int)
 ·refine dx 20 h3 (I ?_);exact ar rfl (a0 (zab (.inr (.inr (.inl h3)))))
 refine ea 20 h3 (ak 25 ?_);by_cases au:4<(p.dE.length:Int)
 ·refine dx 25 au (I ?_);exact ar rfl (a0 (zab (.inr (.inr (.inr au)))))
 refine ea 25 au ?_;have mF:¬(6<(p.bB.length:Int)∨6<(p.ins.length:Int)∨64<(p.a6.length:Int)∨4<(p.dE.length:Int)):=fun h=>h.elim h1 fun h=>h.elim h2 fun h=>h.elim h3 au;have aq:=fun{c} h=> @a0 c ((zaa mF).trans h);refine ak 31 ?_;by_cases aG:(p.bB.length:Int)=0
 ·refine ah 31 (.b true) rfl (b8 (zad aG)) (I ?_);exact ar rfl (aq (zab (.inl aG)))
 refine ah 31 (.b false) rfl (b8 (zac aG)) (ak 33 ?_);by_cases aI:(p.a6.length:Int)=0
 ·refine ah 33 (.b true) rfl (b8 (zad aI)) (I ?_);exact ar rfl (aq (zab (.inr (.inl aI))))
 refine ah 33 (.b false) rfl (b8 (zac aI)) (ak 37 ?_);by_cases a4:p.mode<0
 ·refine ah 37 (.b true) rfl (b8 (zad a4)) (I ?_);exact ar rfl (aq (zab (.inr (.inr (.inl a4)))))
 refine ah 37 (.b false) rfl (b8 (zac a4)) (ak 41 ?_);by_cases b2:4<p.mode
 ·refine ah 41 (.b true) rfl (b8 (zad b2)) (I ?_);exact ar rfl (aq (zab (.inr (.inr (.inr b2)))))
 refine ah 41 (.b false) rfl (b8 (zac b2)) ?_;have jf:¬((p.bB.length:Int)=0∨(p.a6.length:Int)=0∨p.mode<0∨4<p.mode):=fun h=>h.elim aG fun h=>h.elim aI fun h=>h.elim a4 b2;have e2:=fun{c} h=> @aq c ((zaa jf).trans h);refine ak 46 ?_;by_cases a2:p.head<0
 ·refine ah 46 (.b true) rfl (b8 (zad a2)) (I ?_);exact ar rfl (e2 (zab (.inl a2)))
 refine ah 46 (.b false) rfl (b8 (zac a2)) (ak 53 ?_);by_cases bw:p.tail<p.head
 ·refine ah 53 (.b true) rfl (b8 (zad bw)) (I ?_);exact ar rfl (e2 (zab (.inr (.inl bw))))
 refine ah 53 (.b false) rfl (b8 (zac bw)) (ak 58 ?_);by_cases dr:(p.a6.length:Int)<p.tail
 ·refine ah 58 (.b true) rfl (b8 (zad dr)) (I ?_);exact ar rfl (e2 (zab (.inr (.inr dr))))
 refine ah 58 (.b false) rfl (b8 (zac dr)) ?_;have yc:¬(p.head<0∨p.tail<p.head∨(p.a6.length:Int)<p.tail):=fun h=>h.elim a2 fun h=>h.elim bw dr;have bV:=fun{c} h=> @e2 c ((zaa yc).trans h);refine ak 64 ?_;by_cases eW:(p.dE.length:Int)=0
 ·refine ah 64 (.b true) rfl (b8 (zad eW)) (ak 70 ?_);by_cases g1:p.head≠(p.a6.length:Int)
  ·refine ah 70 (.b true) rfl (b8 (zad g1)) (I ?_);exact ar rfl (bV (zab ⟨eW,g1⟩))
  ·refine ah 70 (.b false) rfl (b8 (zac g1)) (I ?_);exact ar rfl (bV (zaa (fun h=>g1 h.2)))
 ·refine ah 64 (.b false) rfl (b8 (zac eW)) (I ?_);exact ar rfl (bV (zaa (fun h=>eW h.1)))
def RY:bh where
 L:=cB×Nat×Int×Int
 args:=fun(p,j,e,q)=>[gM p,.i .i64 (j:Int)]
 pre:=fun(p,j,e,q)=>p.bB[j]? =some (e,q)
 res:=fun(p,j,e,q)=>.i .i64 (if cq e q then 0 else 2)
def agB:a9 aT.ctx 45 RY.spec:=by
 refine bH [(92,Cj.spec)] Uo.1 ?_;intro⟨p,j,e,q⟩ hj H aH;refine I ?_;refine dP (e,q) hj ?_;refine I ?_;refine aL Lf (e,q) trivial (I ?_);exact ar rfl (.refl _)
def Jb:ac (Nat×Nat):=[(0,0),(0,1),(0,1),(0,0),(1,1),(1,1),(1,1),(1,1),(2,2),(2,2),(2,2),(2,2),(2,2),(2,2),(3,3),(4,4)]
def Eu:ac ab:=Jb.flatMap fun p=>[.i .i64 (p.1:Int),.i .i64 (p.2:Int)]
def nU(o:Nat):Nat:=(Jb.getD o (0,0)).1
def uI(o:Nat):Nat:=(Jb.getD o (0,0)).2
def aat:∀o,o<16->Eu.drop (o*2)= .i .i64 (nU o:Int):: .i .i64 (uI o:Int)::Eu.drop (o*2+2):=by
 intro o h;rcases(show o=0∨o=1∨o=2∨o=3∨o=4∨o=5∨o=6∨o=7∨o=8∨o=9∨o=10∨o=11∨o=12∨o=13∨o=14∨o=15 by omega)with h|h|h|h|h|h|h|h|h|h|h|h|h|h|h|h<;>subst h<;>rfl
def Jc:∀o,o<16->nU o<=4∧uI o<=4:=by decide +kernel
def iT(H:bz):Prop:=∃vs el a8 aX,H 0=some (.cells vs el a8 aX)∧∀br,db br Eu [] vs
def iT.up{H br:bz}(h:dg H br):iT H->iT br:=fun⟨vs,el,a8,aX,h1,h2⟩=>⟨vs,el,a8,aX,h _ _ h1,h2⟩
def ee(n:Int):ac ab:=[.i .i64 n]
def e0(n:fv):ac Int:=[n.a,n.b,n.c,n.d]
def ri(n:fv):Bool:=((e0 n).drop (uI n.op.toNat)).all (fun x=>x==0)&&(n.v.isEmpty||decide (n.op=3))
def Ws:bh where
 L:=fv
 args:=fun n=>[.agg (kG n)]
 pre:=fun n=>1<=n.op∧n.op<=15
 res:=fun n=>.b (ri n)
 hp:=iT
 hm:=iT.up
def Wt{l:ac Int}{k:Nat}(U:k<l.length)(h:(l.take k).all (fun x=>x==0)=true)(h2:l[k]=0):(l.take (k+1)).all (fun x=>x==0)=true:=by
 rw[zba U,zeK,h,h2];rfl
def amC:a9 aT.ctx 95 Ws.spec:=by
 refine jy [] U2.1 ?_;intro(n:fv) ⟨(h1:1<=n.op),(h2:n.op<=15)⟩ H aH ⟨vs,el,a8,aX,aJ,al⟩;obtain⟨o,ai⟩:∃o:Nat,n.op=(o:Int):=⟨n.op.toNat,by omega⟩;have mx:n.op.toNat=o:=by omega
 have aV:o<16:=by omega
 obtain⟨_,hu⟩:=Jc o aV;have aN:=aat o aV;have a5:ri n=(((e0 n).drop (uI o)).all (fun x=>x==0)&&(n.v.isEmpty||decide (n.op=3))):=by unfold ri;rw[mx]
 generalize uI o=u at *;refine ak 16 ?_;refine ah 16 (.i .i64 (o:Int)) rfl (by rw[<-ai]) ?_;refine Ei aJ al (j:=o) ?_;refine ah 17 (.ip (.i .i64 (nU o:Int):: .i .i64 (u:Int)::Eu.drop (o*2+2))) rfl (by rw[aN]) (ak 19 ?_);refine nk 1 ee (e0 n) ?_;refine er (asi (p:=u) (q:=4) rfl rfl ⟨_,rfl⟩ rfl (by omega) (by decide)) ?_;obtain⟨bf,iH⟩:∃bf,bf=if 4=u then 0 else u:=⟨_,rfl⟩;rw[<-iH];refine I ?_;refine c6 (L:=Nat) (fun k=>k<=4-u∧(((e0 n).drop u).take k).all (fun x=>x==0)=true) (fun(k:Nat)=>⟨[.c 126 (kG n),.a 277 false 1 Int ee (e0 n)],2,[(1,.p 0 0),(2,.b false),(20,.aY 1 1 bf (4-u) (4-u)),(21,.i .i64 ((4-u:Nat):Int)),(22,.i .i64 (k:Int))]⟩) (fun k=>4-u-k) [0,1] 0 ⟨zag _,rfl⟩ (by show 4-u-0<bQ+1;unfold bQ;omega) ij ?_;rintro(k:Nat) ⟨U,aE⟩;have hlen:((e0 n).drop u).length=4-u:=by rw[zaE];rfl
 refine ak 23 ?_;by_cases hl:k<4-u
 ·refine ah 23 (.b true) rfl (b8 (zad (by omega))) (I ?_);refine uu ?_;rw[zaa (by omega)]at iH;have iH:=iH.symm;subst iH;have kj:(e0 n)[u+k]? =some ((e0 n).drop u)[k]:=by rw[<-zaF,zdn (by omega)]
  refine pA ((e0 n).drop u)[k] kj ?_;refine ak 27 ?_;by_cases J:((e0 n).drop u)[k]=0
  ·refine ah 27 (.b false) rfl (b8 (zac (by rw[J];decide))) (ak 28 ?_);refine ah 28 (.i .i64 ((k+1:Nat):Int)) rfl bx (I ?_);exact a1 [0,1] (k+1) ⟨by omega,by omega,Wt (by omega) aE J⟩ ij
  ·refine dx 27 J (I ?_);refine ar rfl (.of (b8 ?_));rw[a5];have:((e0 n).drop u).all (fun x=>x==0)=false:=by
    rw[List.all_eq_false];exact⟨((e0 n).drop u)[k],zdU (by rw[hlen];exact hl),by simpa using J⟩
   rw[this];rfl
 ·refine ah 23 (.b false) rfl (b8 (zac (by omega))) ?_;have ph:((e0 n).drop u).all (fun x=>x==0)=true:=by
   rw[zay (by omega)]at aE;exact aE
  rw[ph,Bool.true_and]at a5;refine ak 31 ?_;by_cases aF:n.v=[]
  ·refine ah 31 (.b true) rfl (by rw[aF];rfl) (I ?_);exact ar rfl (.of (b8 (by rw[a5,aF];rfl)))
  ·refine ah 31 (.b false) rfl (b8 (by simpa using aF)) (I ?_);exact ar rfl (.of (b8 (by rw[a5];cases hq:n.v with|nil=>exact absurd hq aF|cons a l=>rfl)))
def QX:bh where
 L:=ac Int
 args:=fun l=>[.cn 1 Int ee l]
 pre:=fun l=>l.length<=17592186044416
 res:=fun l=>.cc 1 Int ee l
def adU:a9 aT.ctx 181 QX.spec:=by
 refine bH [] SW.1 ?_;intro(l:ac Int) (hl:l.length<=17592186044416) H aH;by_cases cl:l=[]
 ·subst cl;refine I ?_;refine aqf ?_ (fun _=> ?_)
  ·refine I ?_;refine nk 0 ee ([]:ac Int) ?_;refine ap2 (R:=ee) ?_;refine ko 7 ?_;refine I ?_;exact ar rfl (.refl _)
  ·refine I ?_;exact ar rfl .nl
 refine Ej 0 (.cc 1 Int ee l) rfl (.nG cl) ?_;refine I ?_;refine aqg ?_ (fun h=> ?_)
 ·refine I ?_;refine nk 0 ee ([]:ac Int) ?_;have zZ:=zbf.2 cl;refine Oz (R:=ee) l (Jk rfl (fun _=>rfl) (fun _=>rfl)) l ?_ (h0:=cl);refine ko 7 ?_;refine I ?_;exact ar rfl (.refl _)
 ·exact absurd h cl
def dX(n:fv):ac Int:=if 1<=n.op∧n.op<=15 then(e0 n).take (nU n.op.toNat)else[]
def Hu:bh where
 L:=fv
 args:=fun n=>[.agg (kG n)]
 pre:=fun n=>True
 res:=fun n=>.cc 1 Int ee (dX n)
 hp:=iT
 hm:=iT.up
def WM:a9 aT.ctx 97 Hu.spec:=by
 refine jy [(94,MZ.spec),(181,QX.spec)] U4.1 ?_;intro(n:fv) _ H aH ⟨vs,el,a8,aX,aJ,al⟩;have aq:∀{l},dX n=l->bZ (.cc 1 Int ee l) (Hu.res n):=fun h=>.of (by rw[<-h];rfl);refine I ?_;refine aL WR n.op trivial ?_;by_cases h:1<=n.op∧n.op<=15
 ·refine dx 6 h ?_;obtain⟨h1,h2⟩:=h;obtain⟨o,ai⟩:∃o:Nat,n.op=(o:Int):=⟨n.op.toNat,by omega⟩;have mx:n.op.toNat=o:=by omega
  have aV:o<16:=by omega
  obtain⟨hu,_⟩:=Jc o aV;have aN:=aat o aV;have a5:dX n=(e0 n).take (nU o):=by unfold dX;rw[mx];exact zab ⟨h1,h2⟩
  generalize nU o=u at *;refine ak 18 ?_;refine ah 18 (.i .i64 (o:Int)) rfl (by rw[<-ai]) ?_;refine Ei aJ al (j:=o) ?_;refine ah 19 (.ip (.i .i64 (u:Int):: .i .i64 (uI o:Int)::Eu.drop (o*2+2))) rfl (by rw[aN]) (ak 21 ?_);refine nk 1 ee (e0 n) ?_;refine er (Ji (p:=0) (q:=u) rfl rfl rfl ⟨_,rfl⟩ (zag _) (by omega) (.inr rfl)) ?_;refine IY 22 ((e0 n).take u) ?_ (hn:=by rw[zas];show min u 4=u-0;omega);refine aL adU ((e0 n).take u) (by show(List.take _ _).length<=_;rw[zas];omega) (I ?_) (he:=by exact⟨.cn,trivial⟩);exact ar rfl (aq a5)
 ·refine ea 6 h (I ?_);exact ar rfl (bZ.trans .nl (aq (zaa h)))
def gU(n:Int)(m:Nat):Prop:=0<=n∧n<(m:Int)
instance(n:Int)(m:Nat):Decidable (gU n m):=by unfold gU;infer_instance
def rA(p:cB)(i:Nat)(n:fv):Int:=
 if¬(1<=n.op∧n.op<=15)∨ri n=false then 2
 else if¬gU n.f p.bB.length then 7
 else if n.op=1∧¬gU n.a p.ins.length then 7
 else if n.op=1∧(p.ins[n.a.toNat]?).map jm.f≠some n.f then 143
 else if n.op=2∧((i:Int)<p.head∨¬gU n.a p.dE.length)then 7
 else if n.op=3 then qT n.v
 else if(dX n).all (fun k=>uA p i k)then 0 else 7
def Nw:bh where
 L:=cB×Nat×fv
 args:=fun(p,i,n)=>[gM p,.i .i64 (i:Int)]
 pre:=fun(p,i,n)=>p.a6[i]? =some n∧n.v.length<=2000
 res:=fun(p,i,n)=>.i .i64 (rA p i n)
 hp:=iT
 hm:=iT.up
def MY(n:fv):(dX n).length<=4:=by
 unfold dX;split
 ·rw[zas];exact Nat.min_le_right _ 4
 ·exact zag _
def aop:a9 aT.ctx 47 Nw.spec:=by
 refine jy [(94,MZ.spec),(95,Ws.spec),(49,sS.spec),(96,RB.spec),(97,Hu.spec),(98,wF.spec)] Uq.1 ?_;intro⟨p,i,n⟩ ⟨hj,aF⟩ H aH dv;have a0:∀{c:Int},rA p i n=c->bZ (.i .i64 c) (Nw.res (p,i,n)):=fun h=>.of (by rw[<-h];rfl);refine I ?_;refine dP n hj ?_
 iterate 7 refine gW ?_
 refine l7 (L:=Unit) (fun _=>rA p i n=if(dX n).all (fun k=>uA p i k)then 0 else 7) (fun _=>⟨[.c 118 (di p),.c 126 (kG n)],2,[(1,.i .i64 (i:Int)),(2,.p 0 0),(4,.i .i64 0),(5,.p 1 0)]⟩) ?_ ?_
 ·refine I ?_;refine aL WR n.op trivial ?_;by_cases h1:1<=n.op∧n.op<=15
  case neg=>
   refine ea 17 h1 (I ?_);exact ar rfl (a0 (zab (.inl h1)))
  refine dx 17 h1 (I ?_);refine aL amC n h1 ?_ (hh:=dv);cases h2:ri n with
  |false=>
   refine ah 21 (.b false) rfl (b8 h2) (I ?_);exact ar rfl (a0 (zab (.inr h2)))
  |true=>
  refine ah 21 (.b true) rfl (b8 h2) ?_;have aG:¬(¬(1<=n.op∧n.op<=15)∨ri n=false):=fun h=>h.elim (fun h=>h h1) (fun h=>Bool.noConfusion (h2.symm.trans h));refine I ?_;refine aL yV (n.f,(p.bB.length:Int)) trivial ?_;by_cases h3:gU n.f p.bB.length
  case neg=>
   refine ea 31 h3 (I ?_);exact ar rfl (a0 ((zaa aG).trans (zab h3)))
  refine dx 31 h3 ?_;have aI:¬¬gU n.f p.bB.length:=fun h=>h h3;have e2:=fun{c} h=> @a0 c ((zaa aG).trans ((zaa aI).trans h));have f2:=fun{c} h=>((zaa aG).trans ((zaa aI).trans h):rA p i n=c);clear a0;refine ak 36 ?_;by_cases hi:n.op=1
  ·refine dx 36 hi (I ?_);refine aL yV (n.a,(p.ins.length:Int)) trivial ?_;by_cases au:gU n.a p.ins.length
   case neg=>
    refine ea 44 au (I ?_);exact ar rfl (e2 (zab ⟨hi,au⟩))
   refine dx 44 au ?_;have a4:¬(n.op=1∧¬gU n.a p.ins.length):=fun h=>h.2 au;refine ak 50 ?_;refine cu 50 (.b true) rfl rfl (b8 (zad hi)) ?_;obtain⟨a,ha⟩:∃a:Nat,n.a=(a:Int):=⟨n.a.toNat,by have:=au.1;omega⟩;have oz:n.a.toNat=a:=by omega
   have ki:a<p.ins.length:=by have:=au.2;omega
   refine ak 56 ?_;refine cu 56 (.i .i64 (a:Int)) rfl rfl (by rw[ha]) ?_;refine I ?_;refine hS p.ins[a] (bF ki) ?_;refine ak 62 ?_;by_cases aW:(p.ins[a]).f=n.f
   case neg=>
    refine cu 62 (.b true) rfl rfl (b8 (zad aW)) ?_;refine I ?_;exact ar rfl (e2 ((zaa a4).trans (zab ⟨hi,by rw[oz,bF ki];simpa using aW⟩)))
   refine cu 62 (.b false) rfl rfl (b8 (zac (fun h=>h aW))) ?_;refine ak 67 ?_;refine ah 67 (.b false) rfl (b8 (zac (by omega))) (ak 88 ?_);refine ah 88 (.b false) rfl (b8 (zac (by omega))) (I ?_);refine a1 [0,1] () (f2 ((zaa a4).trans ((zaa ?_).trans ((zaa (by omega)).trans (zaa (by omega)))))) ij;rintro⟨_,h⟩;exact h (by rw[oz,bF ki];simp[aW])
  ·refine ea 36 hi ?_;have f3:=fun{c} h=> @f2 c ((zaa (fun h=>hi h.1)).trans ((zaa (fun h=>hi h.1)).trans h));have bV:=fun{c} h=> @e2 c ((zaa (fun h=>hi h.1)).trans ((zaa (fun h=>hi h.1)).trans h));refine ak 50 ?_;refine cu 50 (.b false) rfl rfl (b8 (zac hi)) ?_;refine ak 67 ?_;by_cases ae:n.op=2
   ·refine dx 67 ae (ak 73 ?_);by_cases au:(i:Int)<p.head
    ·refine dx 73 au (I ?_);exact ar rfl (bV (zab ⟨ae,.inl au⟩))
    refine ea 73 au (I ?_);refine aL yV (n.a,(p.dE.length:Int)) trivial ?_;by_cases aW:gU n.a p.dE.length
    case neg=>
     refine ea 81 aW (I ?_);exact ar rfl (bV (zab ⟨ae,.inr aW⟩))
    refine dx 81 aW (ak 88 ?_);refine ah 88 (.b false) rfl (b8 (zac (by omega))) (I ?_);exact a1 [0,1] () (f3 ((zaa (fun h=>h.2.elim au (fun h=>h aW))).trans (zaa (by omega)))) ij
   ·refine ea 67 ae ?_;have f4:=fun{c} h=> @f3 c ((zaa (fun h=>ae h.1)).trans h);have eQ:=fun{c} h=> @bV c ((zaa (fun h=>ae h.1)).trans h);refine ak 88 ?_;by_cases hc:n.op=3
    ·refine dx 88 hc (I ?_);refine aL afA n.v aF (I ?_);exact ar rfl (eQ (zab hc))
    ·refine ea 88 hc (I ?_);exact a1 [0,1] () (f4 (zaa hc)) ij
 intro _ iq;have U:=MY n;refine I ?_;refine aL WM n trivial (I ?_) (hh:=dv);refine c6 (L:=Nat) (fun k=>k<=(dX n).length∧((dX n).take k).all (fun k=>uA p i k)=true) (fun(k:Nat)=>⟨[.c 118 (di p),.c 126 (kG n)],2,[(1,.i .i64 (i:Int)),(2,.p 0 0),(4,.i .i64 0),(93,.cc 1 Int ee (dX n)),(94,.i .i64 ((dX n).length:Int)),(95,.i .i64 (k:Int))]⟩) (fun k=>(dX n).length-k) [0,1] 0 ⟨zag _,rfl⟩ mj ij ?_;rintro(k:Nat) ⟨jD,aE⟩;refine ak 96 ?_;by_cases hl:k<(dX n).length
 ·refine ah 96 (.b true) rfl (b8 (zad (by omega))) (I ?_);refine dP (dX n)[k] (bF hl) ?_;refine I ?_;refine aL aqV (p,(i:Int),(dX n)[k]) trivial ?_;cases ae:uA p i (dX n)[k]with
  |false=>
   refine ah 102 (.b false) rfl (b8 ae) (I ?_);refine ar rfl (a0 (iq.trans (zaa ?_)));intro h;rw[zbg]at h;have:=h _ (dV hl);rw[ae]at this;cases this
  |true=>
   refine ah 102 (.b true) rfl (b8 ae) (ak 104 ?_);refine ah 104 (.i .i64 ((k+1:Nat):Int)) rfl bx (I ?_);exact a1 [0,1] (k+1) ⟨by omega,hl,by rw[zba hl,zeK,aE];simp[ae]⟩ ij
 ·refine ah 96 (.b false) rfl (b8 (zac (by omega))) (I ?_);exact ar rfl (a0 (iq.trans (zab (by rw[zay (by omega)]at aE;exact aE))))
def pj(e q:Int)(x:jm):Int:=
 match fb x.aM,fb x.hi with
 |some a,some b=>if hE e q a∧hE e q b∧¬b<a then 0 else 7
 |_,_=>6
def tR(p:cB)(x:jm):Int:=
 if gU x.f p.bB.length then(match p.bB[x.f.toNat]? with|some f=>pj f.1 f.2 x|none=>7)else 7
def WY{v k:Nat}(h:v<10^k)(U:k<=2000):dF 250 v:=rn (fC h (zai (zat (by decide) U) (by decide +kernel)))
def sD{s:ac bv}(ae:s.length<=2000){x:Rat}(h:fb s=some x):cA 250 x:=by
 obtain⟨P,q,iA,_,_,hH,hq,zR,hint,z6⟩:=Oa ae;by_cases du:oQ (dw s).1 P q iA
 ·obtain⟨aG,aI,a4⟩:=du;have uT:=WY (rI aG.2.1) (by omega);cases iA with
  |false=>
   have e:=hint ⟨aG,aI,a4⟩ rfl;rw[h]at e;cases e;exact uf (by rw[uB];exact uT) (cD (nV (by decide)) (by decide)) (by decide)
  |true=>
   obtain⟨h3,au,aW⟩:=a4 rfl;have px:b1 q≠0:=fun h=>au (w4 h3 h);have e:=z6 ⟨aG,aI,a4⟩ rfl;rw[h]at e;split at e
   ·cases e;exact uf (by rw[uB];exact uT) (WY (rI h3.2.1) (by omega)) px
   ·cases e
 ·rw[zR du]at h;cases h
def fQ(s:ac bv):Rat:=(fb s).getD 0
def afL(x:jm):Nat->ac ab
 |0=>[.b false,.nl,.nl,.b false,.nl,.nl]
 |1=>iS (fQ x.aM)++[.b false,.nl,.nl]
 |_=>iS (fQ x.aM)++iS (fQ x.hi)
def avQ{own:ac ay}{n p:Nat}{e cj:bO}{o q r t:ay}(h:kM [0,1,2,3] cj e)(ai:∃bf,own[0]? =some bf∧e8 [0,1,2,3] o bf)(hq:∃bf,own[1]? =some bf∧e8 [0,1,2,3] q bf)(hr:∃bf,own[2]? =some bf∧e8 [0,1,2,3] r bf)(aN:∃bf,own[3]? =some bf∧e8 [0,1,2,3] t bf)(hp:pinned p [0,1,2,3] 0=true:=by rfl):Sub p [0,1,2,3] ⟨own,n,e⟩ ⟨[o,q,r,t],4,cj⟩:=⟨by simp,rfl,⟨ai,hq,hr,aN,trivial⟩,h,hp⟩
def Dm:bh where
 L:=cB×Nat×jm
 args:=fun(p,i,x)=>[gM p,.i .i64 (i:Int)]
 pre:=fun(p,i,x)=>p.ins[i]? =some x∧x.aM.length<=2000∧x.hi.length<=2000
 res:=fun(p,i,x)=>.i .i64 (tR p x)
def amJ:a9 aT.ctx 46 Dm.spec:=by
 refine bH [(49,sS.spec),(11,uz.spec),(93,Ck.spec),(12,sH.spec)] Up.1 ?_;intro⟨p,i,x⟩ ⟨hj,fo,fI⟩ H aH;have a0:∀{c:Int},tR p x=c->bZ (.i .i64 c) (Dm.res (p,i,x)):=fun h=>.of (by rw[<-h];rfl);refine I ?_;refine dP x hj ?_;refine I ?_;refine aL yV (x.f,(p.bB.length:Int)) trivial ?_;by_cases h3:gU x.f p.bB.length
 case neg=>
  refine ea 24 h3 (I ?_);exact ar rfl (a0 (zaa h3))
 refine dx 24 h3 ?_;obtain⟨f,aa⟩:∃f:Nat,x.f=(f:Int):=⟨x.f.toNat,by have:=h3.1;omega⟩;have tD:x.f.toNat=f:=by omega
 have tF:f<p.bB.length:=by have:=h3.2;omega
 obtain⟨⟨jV,jW⟩,hq⟩:∃w,p.bB[f]? =some w:=⟨_,bF tF⟩;have aq:∀{c:Int},pj jV jW x=c->bZ (.i .i64 c) (Dm.res (p,i,x)):=fun h=>a0 (by unfold tR;rw[zab h3,tD,hq];exact h);refine I ?_;refine c6 (L:=Nat) (fun k=>k<=2∧(1<=k->fb x.aM=some (fQ x.aM))∧(2<=k->fb x.hi=some (fQ x.hi))) (fun(k:Nat)=>⟨[.c 118 (di p),.c 38 (Ae x),.c 175 (afL x k),.c 36 [.s x.aM,.s x.hi]],4,[(2,.p 0 0),(4,.i .i64 0),(5,.p 1 0),(6,.p 2 0),(30,.aY 3 1 0 2 2),(31,.i .i64 2),(32,.i .i64 (k:Int))]⟩) (fun k=>2-k) [0,1,2,3] 0 ⟨by omega,fun h=>absurd h (by decide),fun h=>absurd h (by decide)⟩ (by show 2-0<bQ+1;unfold bQ;omega) oa ?_;rintro(k:Nat) ⟨U,Vu,aki⟩;rcases(show k=0∨k=1∨k=2 by omega)with rfl|rfl|rfl
 ·refine I ?_;refine ix (j:=0) ?_;refine I ?_;refine aL sJ x.aM fo ?_;cases h:fb x.aM with
  |none=>
   refine ah 39 (.bu [bG 0,.i .i64 6]) rfl (by show iM x.aM=_;unfold iM;rw[h]) (I ?_);exact ar rfl (aq (by unfold pj;rw[h]))
  |some X=>
  have az:fb x.aM=some (fQ x.aM):=by unfold fQ;rw[h];rfl
  refine ah 39 (.bu [bG (fQ x.aM),.i .i64 0]) rfl (by show iM x.aM=_;unfold iM;rw[az]) (I ?_);refine er (nh (j:=0) rfl rfl (by decide)) ?_;refine I ?_;exact a1 [0,1,2,3] 1 ⟨by decide,by decide,fun _=>h.symm.trans az,fun h=>absurd h (by decide)⟩ oa
 ·have e4:=Vu (by decide);refine I ?_;refine ix (j:=1) ?_;refine I ?_;refine aL sJ x.hi fI ?_;cases h:fb x.hi with
  |none=>
   refine ah 39 (.bu [bG 0,.i .i64 6]) rfl (by show iM x.hi=_;unfold iM;rw[h]) (I ?_);exact ar rfl (aq (by unfold pj;rw[h,e4]))
  |some X=>
  have az:fb x.hi=some (fQ x.hi):=by unfold fQ;rw[h];rfl
  refine ah 39 (.bu [bG (fQ x.hi),.i .i64 0]) rfl (by show iM x.hi=_;unfold iM;rw[az]) (I ?_);refine er (nh (j:=1) rfl rfl (by decide)) ?_;refine I ?_;exact a1 [0,1,2,3] 2 ⟨by decide,by decide,fun _=>e4,fun _=>h.symm.trans az⟩ oa
 ·have e4:=Vu (by decide);have a5:=aki (by decide);have g0:pj jV jW x=if hE jV jW (fQ x.aM)∧hE jV jW (fQ x.hi)∧¬fQ x.hi<fQ x.aM then 0 else 7:=by unfold pj;rw[e4,a5]
  refine ak 53 ?_;refine ah 53 (.i .i64 (f:Int)) rfl (by rw[aa]) (I ?_);refine dP (jV,jW) hq ?_;refine I ?_;have DH:=sD fo e4;have DI:=sD fI a5;have no:¬(hE jV jW (fQ x.aM)∧hE jV jW (fQ x.hi)∧¬fQ x.hi<fQ x.aM)->bZ (.i .i64 7) (Dm.res (p,i,x)):=fun h=>aq (g0.trans (zaa h));refine er (nh (j:=0) rfl rfl (by decide)) ?_;refine I ?_;refine aL Lg (jV,jW,fQ x.aM) DH ?_;by_cases cr:hE jV jW (fQ x.aM)
  case neg=>
   refine ea 59 cr (I ?_);exact ar rfl (no (fun h=>cr h.1))
  refine dx 59 cr (I ?_);refine er (nh (j:=1) rfl rfl (by decide)) ?_;refine I ?_;refine aL Lg (jV,jW,fQ x.hi) DI ?_;by_cases cz:hE jV jW (fQ x.hi)
  case neg=>
   refine ea 65 cz (I ?_);exact ar rfl (no (fun h=>cz h.2.1))
  refine dx 65 cz (I ?_);refine er (nh (j:=0) rfl rfl (by decide)) ?_;refine I ?_;refine er (nh (j:=1) rfl rfl (by decide)) ?_;refine I ?_;refine aL sI (fQ x.aM,fQ x.hi) ⟨dn DH (by decide),dn DI (by decide)⟩ (ak 74 ?_);by_cases dT:fQ x.hi<fQ x.aM
  ·have hc:=pS.2 dT;refine dx 74 hc (I ?_);exact ar rfl (no (fun h=>h.2.2 dT))
  ·have hc:¬0<g4 (fQ x.aM) (fQ x.hi):=fun h=>dT (pS.1 h);refine ea 74 hc (I ?_);exact ar rfl (aq (g0.trans (zab ⟨cr,cz,dT⟩)))
def jH(i f:Int)(n:fv):Bool:=decide (n.op=2)&&(decide (n.a=i)&&decide (n.f≠f))
def YH:bh where
 L:=fv×Int×Int
 args:=fun(n,i,f)=>[.agg (kG n),.ip [.i .i64 i],.ip [.i .i64 f]]
 pre:=fun _=>True
 res:=fun(n,i,f)=>.b (jH i f n)
def ao4:a9 aT.ctx 99 YH.spec:=by
 refine bH [] U6.1 ?_;intro⟨n,i,f⟩ _ H aH;refine ak 7 ?_;by_cases h1:n.op=2
 ·refine dx 7 h1 (ak 12 ?_);by_cases h2:n.a=i
  ·refine dx 12 h2 (I ?_);exact ar rfl (.of (b8 (by unfold jH;rw[zad h1,zad h2];rfl)))
  ·refine ea 12 h2 (I ?_);exact ar rfl (.of (b8 (by unfold jH;rw[zad h1,zac h2];rfl)))
 ·refine ea 7 h1 (I ?_);exact ar rfl (.of (b8 (by unfold jH;rw[zac h1];rfl)))
def rj(q:fv->Bool):ac fv->Nat->Int
 |[],_=> -1
 |n::l,k=>if q n=true then k else rj q l (k+1)
theorem Ww(q:fv->Bool):∀(l:ac fv) (k:Nat),decide (0<=rj q l k)=l.any q
 |[],_=>rfl
 |n::l,k=>by
  unfold rj;rw[List.any_cons];cases h:q n with
  |true=>simp
  |false=>simpa using Ww q l (k+1)
def N1(i f:Int):ab:=.fn (.func 99) [] [.ip [.i .i64 i],.ip [.i .i64 f]]
def WA:bh where
 L:=ac fv×Int×Int
 args:=fun(l,i,f)=>[.cc 7 fv kG l,N1 i f]
 pre:=fun(l,i,f)=>l.length<=1000000
 res:=fun(l,i,f)=>.i .i64 (rj (jH i f) l 0)
def amI:a9 aT.ctx 182 WA.spec:=by
 refine bH [(99,YH.spec)] SX.1 ?_;intro⟨l,i,f⟩ (hl:l.length<=1000000) H aH;refine I ?_;refine c6 (L:=Nat) (fun k=>k<=l.length∧rj (jH i f) (l.drop k) k=rj (jH i f) l 0) (fun(k:Nat)=>⟨[],0,[(0,.cc 7 fv kG l),(1,N1 i f),(4,.i .i64 0),(7,.i .i64 (l.length:Int)),(8,.i .i64 (k:Int))]⟩) (fun k=>l.length-k) [] 0 ⟨zag _,rfl⟩ mj eP ?_;rintro(k:Nat) ⟨U,aE⟩;refine ak 9 ?_;by_cases aV:k<l.length
 ·refine ah 9 (.b true) rfl (b8 (zad (by omega))) (I ?_);refine dP l[k] (bF aV) ?_;refine I ?_;have al:l.drop k=l[k]::l.drop (k+1):=hB aV;rw[al]at aE;refine Ef ao4 (l[k],i,f) trivial ?_;cases h:jH i f l[k]with
  |true=>
   refine ah 16 (.b true) rfl (b8 h) (I ?_);exact ar rfl (.of (by show ab.i _ _=ab.i .i64 (rj (jH i f) l 0);rw[<-aE];unfold rj;rw[zab h]))
  |false=>
   refine ah 16 (.b false) rfl (b8 h) (ak 18 ?_);refine ah 18 (.i .i64 ((k+1:Nat):Int)) rfl bx (I ?_);refine a1 [] (k+1) ⟨by omega,aV,?_⟩ eP;rw[<-aE];conv=>rhs;unfold rj
   rw[zaa (by rw[h];decide)]
 ·refine ah 9 (.b false) rfl (b8 (zac (by omega))) (I ?_);exact ar rfl (.of (by show ab.i _ _=ab.i .i64 (rj (jH i f) l 0);rw[<-aE,zbj (by omega)];rfl))
def Q6:bh where
 L:=ac fv×Int×Int
 args:=fun(l,i,f)=>[.cc 7 fv kG l,N1 i f]
 pre:=fun(l,i,f)=>l.length<=1000000
 res:=fun(l,i,f)=>.b (l.any (jH i f))
def adZ:a9 aT.ctx 100 Q6.spec:=by
 refine bH [(182,WA.spec)] R4.1 ?_;intro⟨l,i,f⟩ hl H aH;refine I ?_;refine aL amI (l,i,f) hl ?_;refine ah 7 (.i .i64 (rj (jH i f) l 0)) rfl rfl (I ?_);exact ar rfl (.of (b8 (Ww _ l 0)))
def wI(p:cB)(i:Nat)(s:s3):Int:=
 if¬(0<=s.i∧s.i<p.head)∨¬(0<=s.n∧s.n<p.tail)then 7
 else match p.a6[s.i.toNat]?,p.a6[s.n.toNat]? with
  |some a,some b=>if b.f≠a.f∨p.a6.any (jH i a.f)=true then 143 else 0
  |_,_=>0
def uF:bh where
 L:=cB×Nat×s3
 args:=fun(p,i,s)=>[gM p,.i .i64 (i:Int)]
 pre:=fun(p,i,s)=>p.dE[i]? =some s∧p.head<=(p.a6.length:Int)∧p.tail<=(p.a6.length:Int)∧p.a6.length<=1000000
 res:=fun(p,i,s)=>.i .i64 (wI p i s)
def asT:a9 aT.ctx 48 uF.spec:=by
 refine bH [(49,sS.spec),(100,Q6.spec)] Ur.1 ?_;intro⟨p,i,s⟩ ⟨hj,hh,aN,hl⟩ H aH;have a0:∀{c:Int},wI p i s=c->bZ (.i .i64 c) (uF.res (p,i,s)):=fun h=>.of (by rw[<-h];rfl);refine I ?_;refine dP s hj ?_;refine I ?_;refine aL yV (s.i,p.head) trivial ?_;by_cases h1:0<=s.i∧s.i<p.head
 case neg=>
  refine ea 19 h1 (I ?_);exact ar rfl (a0 (zab (.inl h1)))
 refine dx 19 h1 (I ?_);refine aL yV (s.n,p.tail) trivial ?_;by_cases h2:0<=s.n∧s.n<p.tail
 case neg=>
  refine ea 27 h2 (I ?_);exact ar rfl (a0 (zab (.inr h2)))
 refine dx 27 h2 ?_;obtain⟨a,ha⟩:∃a:Nat,s.i=(a:Int):=⟨s.i.toNat,by omega⟩;obtain⟨b,hb⟩:∃b:Nat,s.n=(b:Int):=⟨s.n.toNat,by omega⟩;have oz:s.i.toNat=a:=by omega
 have gh:s.n.toNat=b:=by omega
 have ki:a<p.a6.length:=by omega
 have kA:b<p.a6.length:=by omega
 have aq:∀{c:Int},(if(p.a6[b]).f≠(p.a6[a]).f∨p.a6.any (jH i (p.a6[a]).f)=true then 143 else 0)=c->bZ (.i .i64 c) (uF.res (p,i,s)):=fun h=>a0 (by
  unfold wI;rw[zaa (fun h=>h.elim (fun h=>h h1) (fun h=>h h2)),oz,gh,bF ki,bF kA];exact h)
 refine ak 34 ?_;refine ah 34 (.i .i64 (a:Int)) rfl (by rw[ha]) ?_;refine dP p.a6[a] (bF ki) ?_;refine ak 37 ?_
 iterate 2 refine gW ?_
 refine ZI 3 ?_;refine ZI 6 ?_;refine ak 43 ?_;refine cu 43 (.i .i64 (b:Int)) rfl rfl (by rw[hb]) ?_;refine I ?_;refine hS p.a6[b] (bF kA) ?_;refine ak 48 ?_;by_cases h3:(p.a6[b]).f≠(p.a6[a]).f
 ·refine cu 48 (.b true) rfl rfl (b8 (zad h3)) ?_;refine I ?_;exact ar rfl (aq (zab (.inl h3)))
 refine cu 48 (.b false) rfl rfl (b8 (zac h3)) ?_;refine I ?_;refine bo adZ (p.a6,(i:Int),(p.a6[a]).f) hl ?_;cases au:p.a6.any (jH i (p.a6[a]).f)with
 |true=>
  refine ah 54 (.b true) rfl (b8 au) (I ?_);exact ar rfl (aq (zab (.inr au)))
 |false=>
  refine ah 54 (.b false) rfl (b8 au) (I ?_);exact ar rfl (aq (zaa (fun h=>h.elim h3 (fun h=>Bool.noConfusion (au.symm.trans h)))))
def eZ{α:Type}(g:Nat->α->Int):ac α->Nat->am (Nat×Int)
 |[],_=>none
 |x::l,k=>if g k x=0 then eZ g l (k+1)else some (k,g k x)
def vj{α:Type}{g:Nat->α->Int}{l:ac α}{j:Nat}(hj:j<l.length):eZ g (l.drop j) j=if g j l[j]=0 then eZ g (l.drop (j+1)) (j+1)else some (j,g j l[j]):=by
 rw[hB hj];rfl
def mg(_:cB)(_:Nat)(x:Int×Int):Int:=if cq x.1 x.2 then 0 else 2
def mh(p:cB)(_:Nat)(x:jm):Int:=tR p x
def mZ(p:cB)(i:Nat)(n:fv):Int:=rA p i n
def m0(p:cB)(i:Nat)(s:s3):Int:=wI p i s
def lJ(p:cB):Int×Int×Int:=
 match eZ (mg p) p.bB 0 with
 |some x=>(1,x.1,x.2)
 |none=>match eZ (mh p) p.ins 0 with
  |some x=>(2,x.1,x.2)
  |none=>match eZ (mZ p) p.a6 0 with
   |some x=>(3,x.1,x.2)
   |none=>match eZ (m0 p) p.dE 0 with
    |some x=>(4,x.1,x.2)
    |none=>if¬gU p.out p.a6.length∨fX p p.out=1 then(5,0,7)else(0,0,0)
def dm(p:cB):Int×Int×Int:=if m6 p=0 then lJ p else(0,0,m6 p)
def w6(x:Int×Int×Int):ab:=.bu [.i .i64 x.1,.i .i64 x.2.1,.i .i64 x.2.2]
def oT(p:cB):Prop:=(∀x∈p.ins,x.aM.length<=2000∧x.hi.length<=2000)∧∀n∈p.a6,n.v.length<=2000
variable{x:Rat}
def zo:bh where
 L:=cB
 args:=fun p=>[gM p]
 pre:=oT
 res:=fun p=>w6 (dm p)
 hp:=iT
 hm:=iT.up
def BP(p:cB):ac ab:=[.i .i64 (p.bB.length:Int),.fn (.func 45) [gM p] [],.i .i64 (p.ins.length:Int),.fn (.func 46) [gM p] [],.i .i64 (p.a6.length:Int),.fn (.func 47) [gM p] [],.i .i64 (p.dE.length:Int),.fn (.func 48) [gM p] []]
def vm{p:cB}(h:m6 p=0):p.bB.length<=6∧p.ins.length<=6∧p.a6.length<=64∧p.dE.length<=4∧p.tail<=(p.a6.length:Int)∧p.head<=p.tail∧0<=p.head:=by
 unfold m6 at h;split at h
 ·cases h
 split at h
 ·cases h
 split at h
 ·cases h
 omega
def KH:a9 aT.ctx 14 zo.spec:=by
 refine jy [(44,zO.spec),(45,RY.spec),(46,Dm.spec),(47,Nw.spec),(48,uF.spec),(49,sS.spec),(50,wE.spec)] Sr.1 ?_;intro(p:cB) ⟨b4,iq⟩ H aH dv;have a0:∀{c:Int×Int×Int},dm p=c->bZ (w6 c) (zo.res p):=fun h=>.of (by rw[<-h];rfl);refine I ?_;refine aL ajs p trivial ?_;refine ah 15 (.i .i64 (m6 p)) rfl rfl (ak 17 ?_);by_cases aJ:m6 p=0
 case neg=>
  refine dx 17 aJ (I ?_);exact ar rfl (a0 (zaa aJ))
 refine ah 17 (.b false) rfl (b8 (zac (fun h=>h aJ))) ?_;have aq:∀{c:Int×Int×Int},lJ p=c->bZ (w6 c) (zo.res p):=fun h=>a0 ((zab aJ).trans h);obtain⟨fa,g8,rm,anp,Dq,Dr,WU⟩:=vm aJ;refine I ?_;refine c6 (L:=Nat) (fun k=>k<=4∧(1<=k->eZ (mg p) p.bB 0=none)∧(2<=k->eZ (mh p) p.ins 0=none)∧(3<=k->eZ (mZ p) p.a6 0=none)∧(4<=k->eZ (m0 p) p.dE 0=none)) (fun(k:Nat)=>⟨[.c 27 (di p),.c 118 (di p),.c 121 (BP p)],3,[(1,.p 0 0),(5,.p 1 0),(44,.aY 2 2 0 4 4),(45,.i .i64 4),(46,.i .i64 (k:Int))]⟩) (fun k=>4-k) [0,1,2] 0 ⟨by omega,fun h=>absurd h (by decide),fun h=>absurd h (by decide),fun h=>absurd h (by decide),fun h=>absurd h (by decide)⟩ (by show 4-0<bQ+1;unfold bQ;omega) jK ?_;rintro(k:Nat) ⟨U,fN,gY,ny,Bw⟩;rcases(show k=0∨k=1∨k=2∨k=3∨k=4 by omega)with rfl|rfl|rfl|rfl|rfl
 ·refine I ?_;refine ix (j:=0) ?_;refine I ?_;refine c6 (L:=Nat) (fun j=>j<=p.bB.length∧eZ (mg p) (p.bB.drop j) j=eZ (mg p) p.bB 0) (fun(j:Nat)=>⟨[.c 27 (di p),.c 118 (di p),.c 121 (BP p),.c 121 [.i .i64 (p.bB.length:Int),.fn (.func 45) [gM p] []]],4,[(1,.p 0 0),(5,.p 1 0),(44,.aY 2 2 0 4 4),(45,.i .i64 4),(46,.i .i64 (0:Nat)),(8,.i .i64 (0:Nat)),(9,.p 3 0),(52,.i .i64 (p.bB.length:Int)),(53,.i .i64 (j:Int))]⟩) (fun j=>p.bB.length-j) [0,1,2,3] 0 ⟨zag _,rfl⟩ mj oa ?_;rintro(j:Nat) ⟨hX,aE⟩;refine ak 54 ?_;by_cases hj:j<p.bB.length
  ·refine ah 54 (.b true) rfl (b8 (zad (by omega))) (I ?_);rw[vj hj]at aE;refine Ef agB (p,j,(p.bB[j]).1,(p.bB[j]).2) (bF hj) ?_;refine ah 59 (.i .i64 (mg p j p.bB[j])) rfl rfl (ak 61 ?_);by_cases he:mg p j p.bB[j]=0
   ·rw[zab he]at aE;refine ah 61 (.b false) rfl (b8 (zac (fun h=>h he))) (ak 66 ?_);refine ah 66 (.i .i64 ((j+1:Nat):Int)) rfl bx (I ?_);exact a1 [0,1,2,3] (j+1) ⟨by omega,hj,aE⟩ oa
   ·rw[zaa he]at aE;refine dx 61 he (I ?_);refine ar rfl (aq (c:=(1,(j:Int),mg p j p.bB[j])) ?_);unfold lJ;simp only[<-aE]
  ·refine ah 54 (.b false) rfl (b8 (zac (by omega))) ?_;have aE:eZ (mg p) p.bB 0=none:=by rw[<-aE,zbj (by omega)];rfl
   refine I ?_;exact a1 [0,1,2] 1 ⟨by decide,by decide,fun _=>aE,fun h=>absurd h (by decide),fun h=>absurd h (by decide),fun h=>absurd h (by decide)⟩ jK
 ·refine I ?_;refine ix (j:=1) ?_;refine I ?_;refine c6 (L:=Nat) (fun j=>j<=p.ins.length∧eZ (mh p) (p.ins.drop j) j=eZ (mh p) p.ins 0) (fun(j:Nat)=>⟨[.c 27 (di p),.c 118 (di p),.c 121 (BP p),.c 121 [.i .i64 (p.ins.length:Int),.fn (.func 46) [gM p] []]],4,[(1,.p 0 0),(5,.p 1 0),(44,.aY 2 2 0 4 4),(45,.i .i64 4),(46,.i .i64 (1:Nat)),(8,.i .i64 (1:Nat)),(9,.p 3 0),(52,.i .i64 (p.ins.length:Int)),(53,.i .i64 (j:Int))]⟩) (fun j=>p.ins.length-j) [0,1,2,3] 0 ⟨zag _,rfl⟩ mj oa ?_;rintro(j:Nat) ⟨hX,aE⟩;refine ak 54 ?_;by_cases hj:j<p.ins.length
  ·refine ah 54 (.b true) rfl (b8 (zad (by omega))) (I ?_);rw[vj hj]at aE;refine Ef amJ (p,j,p.ins[j]) ⟨bF hj,b4 _ (dV hj)⟩ ?_;refine ah 59 (.i .i64 (mh p j p.ins[j])) rfl rfl (ak 61 ?_);by_cases he:mh p j p.ins[j]=0
   ·rw[zab he]at aE;refine ah 61 (.b false) rfl (b8 (zac (fun h=>h he))) (ak 66 ?_);refine ah 66 (.i .i64 ((j+1:Nat):Int)) rfl bx (I ?_);exact a1 [0,1,2,3] (j+1) ⟨by omega,hj,aE⟩ oa
   ·rw[zaa he]at aE;refine dx 61 he (I ?_);refine ar rfl (aq (c:=(2,(j:Int),mh p j p.ins[j])) ?_);unfold lJ;simp only[fN (by decide),<-aE]
  ·refine ah 54 (.b false) rfl (b8 (zac (by omega))) ?_;have aE:eZ (mh p) p.ins 0=none:=by rw[<-aE,zbj (by omega)];rfl
   refine I ?_;exact a1 [0,1,2] 2 ⟨by decide,by decide,fun _=>fN (by decide),fun _=>aE,fun h=>absurd h (by decide),fun h=>absurd h (by decide)⟩ jK
 ·refine I ?_;refine ix (j:=2) ?_;refine I ?_;refine c6 (L:=Nat) (fun j=>j<=p.a6.length∧eZ (mZ p) (p.a6.drop j) j=eZ (mZ p) p.a6 0) (fun(j:Nat)=>⟨[.c 27 (di p),.c 118 (di p),.c 121 (BP p),.c 121 [.i .i64 (p.a6.length:Int),.fn (.func 47) [gM p] []]],4,[(1,.p 0 0),(5,.p 1 0),(44,.aY 2 2 0 4 4),(45,.i .i64 4),(46,.i .i64 (2:Nat)),(8,.i .i64 (2:Nat)),(9,.p 3 0),(52,.i .i64 (p.a6.length:Int)),(53,.i .i64 (j:Int))]⟩) (fun j=>p.a6.length-j) [0,1,2,3] 0 ⟨zag _,rfl⟩ mj oa ?_;rintro(j:Nat) ⟨hX,aE⟩;refine ak 54 ?_;by_cases hj:j<p.a6.length
  ·refine ah 54 (.b true) rfl (b8 (zad (by omega))) (I ?_);rw[vj hj]at aE;refine Ef aop (p,j,p.a6[j]) ⟨bF hj,iq _ (dV hj)⟩ ?_ (hh:=dv);refine ah 59 (.i .i64 (mZ p j p.a6[j])) rfl rfl (ak 61 ?_);by_cases he:mZ p j p.a6[j]=0
   ·rw[zab he]at aE;refine ah 61 (.b false) rfl (b8 (zac (fun h=>h he))) (ak 66 ?_);refine ah 66 (.i .i64 ((j+1:Nat):Int)) rfl bx (I ?_);exact a1 [0,1,2,3] (j+1) ⟨by omega,hj,aE⟩ oa
   ·rw[zaa he]at aE;refine dx 61 he (I ?_);refine ar rfl (aq (c:=(3,(j:Int),mZ p j p.a6[j])) ?_);unfold lJ;simp only[fN (by decide),gY (by decide),<-aE]
  ·refine ah 54 (.b false) rfl (b8 (zac (by omega))) ?_;have aE:eZ (mZ p) p.a6 0=none:=by rw[<-aE,zbj (by omega)];rfl
   refine I ?_;exact a1 [0,1,2] 3 ⟨by decide,by decide,fun _=>fN (by decide),fun _=>gY (by decide),fun _=>aE,fun h=>absurd h (by decide)⟩ jK
 ·refine I ?_;refine ix (j:=3) ?_;refine I ?_;refine c6 (L:=Nat) (fun j=>j<=p.dE.length∧eZ (m0 p) (p.dE.drop j) j=eZ (m0 p) p.dE 0) (fun(j:Nat)=>⟨[.c 27 (di p),.c 118 (di p),.c 121 (BP p),.c 121 [.i .i64 (p.dE.length:Int),.fn (.func 48) [gM p] []]],4,[(1,.p 0 0),(5,.p 1 0),(44,.aY 2 2 0 4 4),(45,.i .i64 4),(46,.i .i64 (3:Nat)),(8,.i .i64 (3:Nat)),(9,.p 3 0),(52,.i .i64 (p.dE.length:Int)),(53,.i .i64 (j:Int))]⟩) (fun j=>p.dE.length-j) [0,1,2,3] 0 ⟨zag _,rfl⟩ mj oa ?_;rintro(j:Nat) ⟨hX,aE⟩;refine ak 54 ?_;by_cases hj:j<p.dE.length
  ·refine ah 54 (.b true) rfl (b8 (zad (by omega))) (I ?_);rw[vj hj]at aE;refine Ef asT (p,j,p.dE[j]) ⟨bF hj,by omega,Dq,by omega⟩ ?_;refine ah 59 (.i .i64 (m0 p j p.dE[j])) rfl rfl (ak 61 ?_);by_cases he:m0 p j p.dE[j]=0
   ·rw[zab he]at aE;refine ah 61 (.b false) rfl (b8 (zac (fun h=>h he))) (ak 66 ?_);refine ah 66 (.i .i64 ((j+1:Nat):Int)) rfl bx (I ?_);exact a1 [0,1,2,3] (j+1) ⟨by omega,hj,aE⟩ oa
   ·rw[zaa he]at aE;refine dx 61 he (I ?_);refine ar rfl (aq (c:=(4,(j:Int),m0 p j p.dE[j])) ?_);unfold lJ;simp only[fN (by decide),gY (by decide),ny (by decide),<-aE]
  ·refine ah 54 (.b false) rfl (b8 (zac (by omega))) ?_;have aE:eZ (m0 p) p.dE 0=none:=by rw[<-aE,zbj (by omega)];rfl
   refine I ?_;exact a1 [0,1,2] 4 ⟨by decide,by decide,fun _=>fN (by decide),fun _=>gY (by decide),fun _=>ny (by decide),fun _=>aE⟩ jK
 ·have cK:=fN (by decide);have c9:=gY (by decide);have hQ:=ny (by decide);have u2:=Bw (by decide);have cL:lJ p=if¬gU p.out p.a6.length∨fX p p.out=1 then(5,0,7)else(0,0,0):=by unfold lJ;simp only[cK,c9,hQ,u2]
  refine I ?_;refine aL yV (p.out,(p.a6.length:Int)) trivial ?_;by_cases h1:gU p.out p.a6.length
  case neg=>
   refine ea 73 h1 (I ?_);exact ar rfl (aq (c:=(5,0,7)) (cL.trans (zab (.inl h1))))
  refine dx 73 h1 (I ?_);refine aL OP (p,p.out) trivial ?_;refine ah 79 (.i .i64 (fX p p.out)) rfl rfl (ak 80 ?_);by_cases h2:fX p p.out=1
  ·refine dx 80 h2 (I ?_);exact ar rfl (aq (c:=(5,0,7)) (cL.trans (zab (.inr h2))))
  ·refine ea 80 h2 (I ?_);exact ar rfl (aq (c:=(0,0,0)) (cL.trans (zaa (fun h=>h.elim (fun h=>h h1) h2))))
def IK(x:Rat)(k:Int):mkRat (x.num*((cS (mkRat 1 1) k).den:Int)) (x.den*(cS (mkRat 1 1) k).num.natAbs)=cS x (-k):=by
 obtain⟨aq,e2⟩:=yH k;rw[aq,e2,zdM];unfold cS;by_cases h: -k<0
 ·rw[zab h,show(-k).toNat=0 by omega,show(-(-k))=k by omega];simp
 ·rw[zaa h,show k.toNat=0 by omega];simp
def aau(h:x.num=0)(k:Int):(cS x k).den=1:=by
 unfold cS;rw[h];split<;>simp[zdl,Rat.mkRat_zero]
def aq6(h:0<=x.num)(k:Int):0<=(cS x k).num:=by
 unfold cS;split
 ·rw[(ss _ _ (zbd x.den_nz (by have:=zah (-k).toNat;omega))).1];exact zeL h (by omega)
 ·rw[(ss _ _ x.den_nz).1];exact zeL (zcg h (by exact zcM (Int.pow_pos (by decide)))) (by omega)
def ajI{e p:Int}(h:cq e p):0<=(kU e p).num:=by
 unfold kU;apply aq6;have:mkRat 1 1<=cS (mkRat 1 1) p:=by
  rw[Rat.le_iff,(yH p).1,(yH p).2,show(-p).toNat=0 by have:=h.2.2.1;omega];have:(1:Int)<=2^p.toNat:=by have:=zah p.toNat;have h2:((2^p.toNat:Nat):Int)=2^p.toNat:=by simp
                                                                                                       omega
  show(1:Int)*((2^0:Nat):Int)<=2^p.toNat*1;omega
 exact Rat.num_nonneg.2 ((Rat.le_iff_sub_nonneg _ _).1 this)
def E5(e p:Int)(x:Rat):Prop:=cq e p∧¬kU e p<gv x∧(mkRat (x.num*((cS (mkRat 1 1) (nn e p x)).den:Int)) (x.den*(cS (mkRat 1 1) (nn e p x)).num.natAbs)).den=1
def has_eq(e p:Int)(x:Rat):E5 e p x↔hE e p x:=by
 unfold E5 hE;constructor
 ·rintro⟨h1,h2,h3⟩;rw[IK]at h3;by_cases h0:x.num=0
  ·exact⟨h1,.inl h0⟩
  ·rw[<-aaS h0]at h3;unfold Jm at h3;rw[zaa h0]at h3;exact⟨h1,.inr ⟨h3,h2⟩⟩
 ·rintro⟨h1,h0|⟨h3,h2⟩⟩
  ·refine⟨h1,?_,by rw[IK];exact aau h0 _⟩;intro h;have hn:=ajI h1;rw[Rat.lt_iff,(mV x).1,(mV x).2,h0]at h;have:0<=(kU e p).num*(x.den:Int):=zcg hn (by omega);simp at h;omega
  ·by_cases h0:x.num=0
   ·exact⟨h1,h2,by rw[IK];exact aau h0 _⟩
   ·refine⟨h1,h2,?_⟩;rw[IK,<-aaS h0];unfold Jm;rw[zaa h0];exact h3
def Fw(K:ac (Nat×gu)){f:ci}(xf:dh){S:ht}(h:∀l,S.pre l->∀H i0 aH,S.hp H->i0.length=(S.own l).length->aU.ok ⟨cX bl (dc aT.ctx (cf K)) (bQ+1),bQ+1,f,H,i0,aH,E4 S l xf.res⟩ ⟨[],.c xf.body,⟨S.own l,(S.own l).length,nI 0 (S.args l)⟩⟩)
 (J:bl.get f=some xf:=by kernel_rfl) (hl:∀l,(S.args l).length<=xf.aO:=by exact fun _=>Nat.le_of_ble_eq_true rfl):a9 aT.ctx f S.spec:=Rc aT.fA gF (cf K) J hl h
abbrev lI:Type:=ac Bool×ac Bool
variable{p:cB}{k:Nat}{s:lI}{i:Nat}{n:fv}
def jF(p:cB):Nat->lI->Nat->lI
 |0,s,_=>s
 |f+1,s,i=>if s.1.getD i true=true then s else match p.a6[i]? with
  |none=>s
  |some n=>match n.op==2,p.dE[n.a.toNat]? with
   |true,some t=>jF p f (jF p f ((((dX n).foldl (fun s (k:Int)=>jF p f s k.toNat) (s.1.set i true,s.2)).1,((dX n).foldl (fun s (k:Int)=>jF p f s k.toNat) (s.1.set i true,s.2)).2.set n.a.toNat true)) t.i.toNat) t.n.toNat
   |_,_=>(dX n).foldl (fun s (k:Int)=>jF p f s k.toNat) (s.1.set i true,s.2)
def fold(p:cB)(k:Nat)(l:ac Int)(s:lI):lI:=l.foldl (fun s (q:Int)=>jF p k s q.toNat) s
def anV(h:s.1.getD i true=true):jF p (k+1) s i=s:=by
 rw[jF,zab h]
def anW(h:¬s.1.getD i true=true)(hn:p.a6[i]? =some n)(h2:n.op≠2):jF p (k+1) s i=fold p k (dX n) (s.1.set i true,s.2):=by
 rw[jF,zaa h,hn];simp only[zaO.2 h2];rfl
def anX{t:s3}(h:¬s.1.getD i true=true)(hn:p.a6[i]? =some n)(h2:n.op=2)(aN:p.dE[n.a.toNat]? =some t):
 jF p (k+1) s i=jF p k (jF p k ((fold p k (dX n) (s.1.set i true,s.2)).1,(fold p k (dX n) (s.1.set i true,s.2)).2.set n.a.toNat true) t.i.toNat) t.n.toNat:=by
 rw[jF,zaa h,hn];simp only[h2,aN];rfl
def Fits(s t:lI):Prop:=t.1.length=s.1.length∧t.2.length=s.2.length∧t.1.count false<=s.1.count false
def Fits.refl(s:lI):Fits s s:=⟨rfl,rfl,zch _⟩
def Fits.trans{t u:lI}(h:Fits s t)(g:Fits t u):Fits s u:=⟨g.1.trans h.1,g.2.1.trans h.2.1,zai g.2.2 h.2.2⟩
def count_set(l:ac Bool)(i:Nat):(l.set i true).count false<=l.count false:=by
 induction l generalizing i with
 |nil=>simp
 |cons a l aZ=>
  cases i with
  |zero=>simp only[List.set_cons_zero,zdR];cases a<;>simp
  |succ i=>simp only[List.set_cons_succ,zdR];have:=aZ i;omega
def ad1(l:ac Bool)(i:Nat)(h:l[i]? =some false):(l.set i true).count false+1=l.count false:=by
 induction l generalizing i with
 |nil=>simp at h
 |cons a l aZ=>
  cases i with
  |zero=>simp at h;subst h;simp[zdR]
  |succ i=>simp at h;simp only[List.set_cons_succ,zdR];have:=aZ i h;omega
theorem Ln{f:lI->Int->lI}(h:∀s k,Fits s (f s k)):∀(l:ac Int) (s:lI),Fits s (l.foldl f s)
 |[],s=>.refl s
 |k::l,s=>(h s k).trans (Ln h l (f s k))
def aq2(s:lI)(i:Nat):Fits s (s.1.set i true,s.2):=⟨by simp,rfl,count_set _ _⟩
def aqX(s:lI)(i:Nat):Fits s (s.1,s.2.set i true):=⟨rfl,by simp,zch _⟩
theorem DC(p:cB):∀(f:Nat) (s:lI) (i:Nat),Fits s (jF p f s i)
 |0,s,_=>.refl s
 |f+1,s,i=>by
  have aZ:=DC p f;have aa:∀(n:fv),Fits s ((dX n).foldl (fun s (k:Int)=>jF p f s k.toNat) (s.1.set i true,s.2)):=fun n=>(aq2 s i).trans (Ln (fun s k=>aZ s k.toNat) _ _);unfold jF;split
  ·exact .refl s
  ·split
   ·exact .refl s
   ·split
    ·exact(((aa _).trans (aqX _ _)).trans (aZ _ _)).trans (aZ _ _)
    ·exact aa _
def as2{own:ac ay}{n p:Nat}{e cj:bO}{o q r t:ay}(h:kM [0,1,2,3] cj e)(ai:∃bf,own[0]? =some bf∧e8 [0,1,2,3] o bf)(hq:∃bf,own[1]? =some bf∧e8 [0,1,2,3] q bf)(hr:∃bf,own[2]? =some bf∧e8 [0,1,2,3] r bf)(aN:∃bf,own[3]? =some bf∧e8 [0,1,2,3] t bf)(hp:pinned p [0,1,2,3] 0=true:=by rfl):Sub p [0,1,2,3] ⟨own,n,e⟩ ⟨[o,q,r,t],4,cj⟩:=⟨by simp,rfl,⟨ai,hq,hr,aN,trivial⟩,h,hp⟩
def J0(p:cB):Prop:=(∀(i:Nat) (n:fv),p.a6[i]? =some n->(∀k∈dX n,0<=k∧k<(p.a6.length:Int))∧(n.op=2->gU n.a p.dE.length))∧(∀s∈p.dE,gU s.i p.a6.length∧gU s.n p.a6.length)
def HR(p:cB)(n m:Nat):ac ab:=di p++[.aY 1 1 0 n n,.aY 2 1 0 m m]
def Nl(k:Nat):acj where
 L:=cB×lI×Nat
 own:=fun(p,s,i)=>[.c 364 (HR p s.1.length s.2.length),.a 4 false 1 Bool ka s.1,.a 4 false 1 Bool ka s.2]
 args:=fun(p,s,i)=>[.p 0 0,.i .i64 (i:Int)]
 pre:=fun(p,s,i)=>J0 p∧s.1.length=p.a6.length∧s.2.length=p.dE.length∧i<s.1.length∧s.1.count false<k
 bC:=fun(p,s,i)=>[.c 364 (HR p s.1.length s.2.length),.a 4 false 1 Bool ka (jF p k s i).1,.a 4 false 1 Bool ka (jF p k s i).2]
 res:=fun _=>.bu []
 hp:=iT
 hm:=iT.up
theorem Xw:∀k:Nat,a9 aT.ctx 343 (Nl k).spec
 |0=>by
  refine Fw [] Lw.1 ?_;rintro⟨p,s,i⟩ ⟨_,_,_,_,h⟩;exact absurd h (zcV _)
 |k+1=>by
  have aZ:=Xw k;refine Fw [(97,Hu.spec),(343,(Nl k).spec)] Lw.1 ?_;rintro⟨p,⟨N,S⟩,i⟩ ⟨aF,iq,cb,hi,hc⟩ H i0 aH dv h0;obtain⟨iz,cK,c9,rfl⟩:∃a b c,i0=[a,b,c]:=by
   match i0,h0 with
   |[a,b,c],_=>exact⟨a,b,c,rfl⟩
  simp only at iq cb hi hc;show aU.ok _ ⟨_,_,⟨[.c 364 (HR p N.length S.length),.a 4 false 1 Bool ka N,.a 4 false 1 Bool ka S],3,[(0,.p 0 0),(1,.i .i64 (i:Int))]⟩⟩;refine I ?_;refine ix ?_;refine pA N[i] (bF hi) ?_;cases hb:N[i]with
  |true=>
   have cL:jF p (k+1) (N,S) i=(N,S):=by
    exact anV (by show N.getD i true=true;rw[zdm,bF hi,hb];rfl)
   refine I ?_;exact j3 ⟨.inr rfl,⟨_,rfl,rfl,.refl _⟩,[0,1,2],rfl,yK trivial ⟨_,rfl,rfl⟩ ⟨_,rfl,(by show ay.a _ _ _ _ _ _=ay.a _ _ _ _ _ _;rw[cL]),fun _=>rfl⟩ ⟨_,rfl,(by show ay.a _ _ _ _ _ _=ay.a _ _ _ _ _ _;rw[cL]),fun _=>rfl⟩⟩
  |false=>
   have GO:i<p.a6.length:=by omega
   obtain⟨n,hn⟩:∃n,p.a6[i]? =some n:=⟨_,bF GO⟩;obtain⟨nR,k3⟩:=aF.1 i n hn;refine I ?_;refine ix ?_;refine kp true ?_;refine I ?_;refine dP n hn ?_;refine I ?_;refine aL WM n trivial (I ?_) (hh:=dv);have q6:¬(N,S).1.getD i true=true:=by show¬N.getD i true=true;rw[zdm,bF hi,hb];decide
   have eL:=ad1 N i (by rw[bF hi,hb]);have a5:∀l:ac Int,(fold p k l (N.set i true,S)).1.length=N.length∧(fold p k l (N.set i true,S)).2.length=S.length∧(fold p k l (N.set i true,S)).1.count false<k:=fun l=>by
    obtain⟨cr,cz,dT⟩:=Ln (f:=fun s (q:Int)=>jF p k s q.toNat) (fun s q=>DC p k s q.toNat) l (N.set i true,S);have cr:(fold p k l (N.set i true,S)).1.length=(N.set i true).length:=cr;have cz:(fold p k l (N.set i true,S)).2.length=S.length:=cz;have dT:(fold p k l (N.set i true,S)).1.count false<=(N.set i true).count false:=dT;rw[zbv]at cr;exact⟨cr,cz,by omega⟩
   have GS:=MY n;refine c6 (L:=Nat) (fun j=>j<=(dX n).length) (fun(j:Nat)=>⟨[.c 364 (HR p N.length S.length),.a 4 false 1 Bool ka (fold p k ((dX n).take j) (N.set i true,S)).1,.a 4 false 1 Bool ka (fold p k ((dX n).take j) (N.set i true,S)).2,.c 126 (kG n)],4,[(0,.p 0 0),(4,.p 3 0),(29,.cc 1 Int ee (dX n)),(30,.i .i64 ((dX n).length:Int)),(31,.i .i64 (j:Int))]⟩) (fun j=>(dX n).length-j) [0,1,2,3] 0 (zag _) mj oa ?_;rintro(j:Nat) hj;refine ak 32 ?_;by_cases hl:j<(dX n).length
   ·refine ah 32 (.b true) rfl (b8 (zad (by omega))) (I ?_);refine dP (dX n)[j] (bF hl) ?_;obtain⟨gE,EM⟩:=nR _ (dV hl);obtain⟨cr,cz,dT⟩:=a5 ((dX n).take j);have eR:fold p k ((dX n).take (j+1)) (N.set i true,S)=jF p k (fold p k ((dX n).take j) (N.set i true,S)) (dX n)[j].toNat:=by
     unfold fold;rw[zba hl,List.foldl_append];rfl
    refine ak 36 ?_;refine ah 36 (.i .i64 ((dX n)[j].toNat:Int)) rfl (congrArg (ab.i .i64) (by omega)) ?_;refine ap6 aZ (p,fold p k ((dX n).take j) (N.set i true,S),(dX n)[j].toNat) ⟨aF,cr.trans iq,cz.trans cb,by show _<(fold _ _ _ _).1.length;omega,dT⟩ ?_ (h1:=by show ay.c _ _=ay.c _ _;rw[cr,cz];rfl) (hh:=dv);refine ak 38 ?_;refine ah 38 (.i .i64 ((j+1:Nat):Int)) rfl bx (I ?_);exact a1 [0,1,2,3] (j+1) ⟨by omega,hl⟩ (as2 ⟨rfl,rfl,rfl,rfl,rfl,trivial⟩ ⟨_,rfl,(by show ay.c _ _=ay.c _ _;rw[cr,cz];rfl)⟩ ⟨_,rfl,(by show ay.a _ _ _ _ _ _=ay.a _ _ _ _ _ _;rw[eR]),fun _=>rfl⟩ ⟨_,rfl,(by show ay.a _ _ _ _ _ _=ay.a _ _ _ _ _ _;rw[eR]),fun _=>rfl⟩ ⟨_,rfl,rfl⟩)
   ·refine ah 32 (.b false) rfl (b8 (zac (by omega))) ?_;rw[zay (by omega)];obtain⟨cr,cz,dT⟩:=a5 (dX n);refine ak 41 ?_;by_cases h2:n.op=2
    ·refine dx 41 h2 ?_;have k0:=k3 h2;obtain⟨a,ha⟩:∃a:Nat,n.a=(a:Int):=⟨n.a.toNat,by have:=k0.1;omega⟩;have oz:n.a.toNat=a:=by omega
     have ki:a<p.dE.length:=by have:=k0.2;omega
     obtain⟨t,aN⟩:∃t,p.dE[a]? =some t:=⟨_,bF ki⟩;obtain⟨⟨t1,t2⟩,t3,t4⟩:=aF.2 t (zaz aN);have cL:=anX (k:=k) q6 hn h2 (by rw[oz];exact aN);rw[oz]at cL;generalize fold p k (dX n) (N.set i true,S)=F at *;obtain⟨wV,hO⟩:=F;simp only at cr cz dT;obtain⟨jJ,lz,n6⟩:=DC p k (wV,hO.set a true) t.i.toNat;simp only[zbv]at jJ lz n6;generalize du:jF p k (wV,hO.set a true) t.i.toNat=G at *;obtain⟨JO,aci⟩:=G;simp only at jJ lz n6;refine ak 47 ?_;refine cu 47 (.i .i64 (a:Int)) rfl rfl (by rw[ha]) ?_;refine I ?_;refine lg ?_;refine nC true ?_;refine ak 56 ?_;refine cu 56 (.i .i64 (a:Int)) rfl rfl (by rw[ha]) ?_;refine I ?_;refine hS t aN ?_;refine ak 59 ?_;refine cu 59 (.i .i64 (t.i.toNat:Int)) rfl rfl (congrArg (ab.i .i64) (by omega)) ?_;refine Rg aZ (p,(wV,hO.set a true),t.i.toNat) ⟨aF,cr.trans iq,by simp only[zbv];exact cz.trans cb,by show _<wV.length;omega,dT⟩ ?_ (h1:=by show ay.c _ _=ay.c _ _;rw[cr,zbv,cz];rfl) (hh:=dv);refine ak 68 ?_;refine cu 68 (.i .i64 (a:Int)) rfl rfl (by rw[ha]) ?_;refine I ?_;refine hS t aN ?_;refine ak 71 ?_;refine cu 71 (.i .i64 (t.n.toNat:Int)) rfl rfl (congrArg (ab.i .i64) (by omega)) ?_;refine Rg aZ (p,(JO,aci),t.n.toNat) ⟨aF,(jJ.trans cr).trans iq,(lz.trans cz).trans cb,by show _<JO.length;omega,by show JO.count false<k;omega⟩ ?_ (h1:=by show ay.c _ _=ay.c _ _;simp only[zbv,jJ,lz];rfl) (h2:=by rw[du];exact⟨rfl,fun _=>rfl⟩) (h3:=by rw[du];exact⟨rfl,fun _=>rfl⟩) (hh:=dv);refine I ?_;exact j3 ⟨.inl rfl,⟨_,rfl,rfl,.refl _⟩,[0,1,2],rfl,yK trivial ⟨_,rfl,(by show ay.c _ _=ay.c _ _;simp only[jJ,lz,cr,cz];rfl)⟩ ⟨_,rfl,(by show ay.a _ _ _ _ _ _=ay.a _ _ _ _ _ _;rw[cL]),fun _=>rfl⟩ ⟨_,rfl,(by show ay.a _ _ _ _ _ _=ay.a _ _ _ _ _ _;rw[cL]),fun _=>rfl⟩⟩
    ·refine ea 41 h2 ?_;have cL:=anW (k:=k) q6 hn h2;refine I ?_;exact j3 ⟨.inl rfl,⟨_,rfl,rfl,.refl _⟩,[0,1,2],rfl,yK trivial ⟨_,rfl,rfl⟩ ⟨_,rfl,(by show ay.a _ _ _ _ _ _=ay.a _ _ _ _ _ _;rw[cL]),fun _=>rfl⟩ ⟨_,rfl,(by show ay.a _ _ _ _ _ _=ay.a _ _ _ _ _ _;rw[cL]),fun _=>rfl⟩⟩
def abN:bh where
 L:=cB
 args:=fun p=>[gM p]
 pre:=oT
 res:=fun p=>.i .i64 (dm p).2.2
 hp:=iT
 hm:=iT.up
def atH:a9 aT.ctx 112 abN.spec:=by
 refine jy [(14,zo.spec)] R5.1 ?_;intro(p:cB) hp H aH dv;refine I ?_;refine aL KH p hp ?_ (hh:=dv);refine ah 8 (.bu [.i .i64 (dm p).1,.i .i64 (dm p).2.1,.i .i64 (dm p).2.2]) rfl rfl (I ?_);exact ar rfl (.refl _)
def ry(p:cB):lI:=jF p 65 (List.replicate p.a6.length false,List.replicate p.dE.length false) p.out.toNat
def XP:bh where
 L:=cB
 args:=fun p=>[gM p]
 pre:=fun p=>oT p∧(dm p=(0,0,0)->J0 p∧gU p.out p.a6.length)
 res:=fun p=>if dm p=(0,0,0)then .bu [.cc 1 Bool ka (ry p).1,.cc 1 Bool ka (ry p).2,.i .i64 0]else .bu [.nl,.nl,.i .i64 (dm p).2.2]
 hp:=iT
 hm:=iT.up
theorem Cm{α:Type}{g:Nat->α->Int}:∀{l:ac α} {k:Nat} {x:Nat×Int},eZ g l k=some x->x.2≠0
 |[],_,_,h=>by cases h
 |a::l,k,x,h=>by
  unfold eZ at h;split at h
  ·exact Cm h
  ·cases h;assumption
def BQ(h:(dm p).2.2=0):dm p=(0,0,0):=by
 unfold dm at h⊢;by_cases aJ:m6 p=0
 case neg=>rw[zaa aJ]at h;exact absurd h aJ
 rw[zab aJ]at h⊢;unfold lJ at h⊢;cases aq:eZ (mg p) p.bB 0 with
 |some x=>rw[aq]at h;exact absurd h (Cm aq)
 |none=>
 rw[aq]at h;cases e2:eZ (mh p) p.ins 0 with
 |some x=>rw[e2]at h;exact absurd h (Cm e2)
 |none=>
 rw[e2]at h;cases bV:eZ (mZ p) p.a6 0 with
 |some x=>rw[bV]at h;exact absurd h (Cm bV)
 |none=>
 rw[bV]at h;cases eQ:eZ (m0 p) p.dE 0 with
 |some x=>rw[eQ]at h;exact absurd h (Cm eQ)
 |none=>
 rw[eQ]at h;by_cases kR:¬gU p.out p.a6.length∨fX p p.out=1
 ·have h:(if¬gU p.out p.a6.length∨fX p p.out=1 then((5,0,7):Int×Int×Int)else(0,0,0)).2.2=0:=h;rw[zab kR]at h;cases h
 ·exact zaa kR
def KM(h:dm p=(0,0,0)):p.a6.length<=64∧p.dE.length<=4:=by
 unfold dm at h;split at h
 ·rename_i aJ;obtain⟨_,_,h3,au,_⟩:=vm aJ;exact⟨h3,au⟩
 ·rename_i aJ;exact absurd (congrArg (fun x:Int×Int×Int=>x.2.2) h) aJ
def adm{en ld a b c a' dN bT nx iz oY:ay}(h1:me [4,2,3] nx a')(h2:me [4,2,3] iz dN)(h3:me [4,2,3] oY bT):y1 [4,2,3] [en,ld,b,c,a] [en,ld,dN,bT,a'] [nx,iz,oY]:=by
 refine⟨rfl,fun j hj=> ?_,fun i k bf U ai=> ?_⟩
 ·match j with
  |0=>rfl
  |1=>rfl
  |2=>exact absurd (by simp) hj
  |3=>exact absurd (by simp) hj
  |4=>exact absurd (by simp) hj
  |j+5=>rfl
 ·match i with
  |0=>cases U;cases ai;exact⟨_,rfl,h1⟩
  |1=>cases U;cases ai;exact⟨_,rfl,h2⟩
  |2=>cases U;cases ai;exact⟨_,rfl,h3⟩
  |i+3=>simp at U
def aob:a9 aT.ctx 176 XP.spec:=by
 refine jy [(112,abN.spec),(343,(Nl 65).spec)] SQ.1 ?_;intro(p:cB) ⟨hp,aF⟩ H aH dv;refine I ?_;refine aL atH p hp ?_ (hh:=dv);refine ah 8 (.i .i64 (dm p).2.2) rfl rfl (ak 10 ?_);by_cases h0:(dm p).2.2=0
 case neg=>
  refine dx 10 h0 (I ?_);exact ar rfl (.of (zaa (fun h=>h0 (by rw[h]))).symm)
 refine ah 10 (.b false) rfl (b8 (zac (fun h=>h h0))) ?_;have hc:=BQ h0;obtain⟨aF,ai⟩:=aF hc;refine I ?_;refine wy Tz.1 (by kernel_rfl) ?_;intro H1 i1 s1 au9 hle;refine I ?_;obtain⟨hx,mw⟩:=KM hc;refine Ri ka false ?_;refine I ?_;refine Ri ka false ?_;refine ak 17 ?_;refine ah 17 (.i .i64 (p.out.toNat:Int)) rfl (congrArg (ab.i .i64) (by have:=ai.1;omega)) ?_;refine ap7 (bC:=[.c 27 (di p),.c 27 (di p),.a 4 false 1 Bool ka (ry p).1,.a 4 false 1 Bool ka (ry p).2,.c 364 (di p++[.aY 2 1 0 p.a6.length p.a6.length,.aY 3 1 0 p.dE.length p.dE.length])]) (Xw 65) [4,2,3] (p,(List.replicate p.a6.length false,List.replicate p.dE.length false),p.out.toNat) ⟨aF,by simp,by simp,by simp;have:=ai.1;have:=ai.2;omega,by simp;omega⟩ ?_ ?_ ?_ (iT.up hle dv)
 rotate_left 1
 ·exact⟨by simp,rfl,⟨⟨_,rfl,(by show ay.c _ _=ay.c _ _;simp only[zbq];rfl)⟩,⟨_,rfl,rfl,fun _=>rfl⟩,⟨_,rfl,rfl,fun _=>rfl⟩,trivial⟩,trivial,rfl⟩
 ·exact adm (by show ay.c _ _=ay.c _ _;simp only[zbq];rfl) ⟨rfl,fun _=>rfl⟩ ⟨rfl,fun _=>rfl⟩
 refine I ?_;refine j3 ⟨.inr rfl,_,rfl,?_⟩;refine ak 4 ?_
 iterate 2 refine gW ?_
 obtain⟨f1,f2,_⟩:=DC p 65 (List.replicate p.a6.length false,List.replicate p.dE.length false) p.out.toNat;simp only[zbq]at f1 f2;refine Eh 2 ?_ (hn:=f1);refine Eh 3 ?_ (hn:=f2);refine I ?_;exact ar rfl (.of (zab hc).symm)
theorem F7{α:Type}{g:Nat->α->Int}:∀{l:ac α} {k:Nat},eZ g l k=none->∀(i:Nat) (x:α),l[i]? =some x->g (k+i) x=0
 |[],_,_,i,x,h=>by simp at h
 |a::l,k,h,i,x,J=>by
  unfold eZ at h;split at h
  ·rename_i h0;cases i with
   |zero=>simp at J;subst J;exact h0
   |succ i=>
    have:=F7 h i x (by simpa using J);rw[show k+1+i=k+(i+1) by omega]at this;exact this
  ·cases h
def aoo(hi:i<p.a6.length)(h:rA p i n=0):(∀k∈dX n,0<=k∧k<(p.a6.length:Int))∧(n.op=2->gU n.a p.dE.length):=by
 unfold rA at h;split at h
 ·cases h
 split at h
 ·cases h
 split at h
 ·cases h
 split at h
 ·cases h
 split at h
 ·cases h
 rename_i cr cz dT jI D1;refine⟨?_,fun h2=>Classical.byContradiction fun hn=>D1 ⟨h2,.inr hn⟩⟩;split at h
 ·rename_i h3;intro k U;have:dX n=[]:=by
   unfold dX;rw[zab (Classical.byContradiction fun hn=>cr (.inl hn)),h3];rfl
  rw[this]at U;cases U
 ·split at h
  ·rename_i eu;intro k U;have:=zbg.1 eu k U;unfold uA at this;have:=zbF this;omega
  ·cases h
def asS{s:s3}(aN:p.tail<=(p.a6.length:Int))(hh:p.head<=p.tail)(h:wI p i s=0):gU s.i p.a6.length∧gU s.n p.a6.length:=by
 unfold wI at h;split at h
 ·cases h
 ·rename_i q;have a:0<=s.i∧s.i<p.head:=Classical.byContradiction fun hn=>q (.inl hn);have b:0<=s.n∧s.n<p.tail:=Classical.byContradiction fun hn=>q (.inr hn);exact⟨⟨a.1,by omega⟩,b.1,by omega⟩
def adQ(h:dm p=(0,0,0)):J0 p∧gU p.out p.a6.length:=by
 unfold dm at h;split at h
 case isFalse aJ=>exact absurd (congrArg (fun x:Int×Int×Int=>x.2.2) h) aJ
 rename_i aJ;obtain⟨_,_,_,_,Dq,Dr,WU⟩:=vm aJ;unfold lJ at h;have z:∀{x y:Int×Int×Int},x=y->x.1=y.1:=fun h=>by rw[h]
 cases aq:eZ (mg p) p.bB 0 with
 |some x=>rw[aq]at h;have:=z h;simp at this
 |none=>
 rw[aq]at h;cases e2:eZ (mh p) p.ins 0 with
 |some x=>rw[e2]at h;have:=z h;simp at this
 |none=>
 rw[e2]at h;cases bV:eZ (mZ p) p.a6 0 with
 |some x=>rw[bV]at h;have:=z h;simp at this
 |none=>
 rw[bV]at h;cases eQ:eZ (m0 p) p.dE 0 with
 |some x=>rw[eQ]at h;have:=z h;simp at this
 |none=>
 rw[eQ]at h;by_cases kR:¬gU p.out p.a6.length∨fX p p.out=1
 ·have h:(if¬gU p.out p.a6.length∨fX p p.out=1 then((5,0,7):Int×Int×Int)else(0,0,0))=(0,0,0):=h;rw[zab kR]at h;have:=z h;simp at this
 ·refine⟨⟨fun i n hn=> ?_,fun s ae=> ?_⟩,Classical.byContradiction fun hn=>kR (.inl hn)⟩
  ·have:=F7 bV i n hn;rw[zaw]at this;exact aoo (zae.1 hn).1 this
  ·obtain⟨i,hi⟩:=zcp.1 ae;exact asS Dq Dr (F7 eQ i s hi)
def ik(N:ac Bool)(l:ac Int):ac Bool:=l.foldl (fun N (k:Int)=>N.set k.toNat true) N
def Y8:bh where
 L:=ac bv
 args:=fun s=>[.s s]
 pre:=fun s=>s.length<=2000
 res:=fun s=>.i .i64 (qT s)
def apA:a9 aT.ctx 238 Y8.spec:=by
 refine bH [(68,D6.spec)] Tg.1 ?_;intro(s:ac bv) ae H aH;refine I ?_;refine aL Oo s ae ?_;cases h:fb s with
 |some x=>
  refine ah 7 (.bu [dj x,.i .i64 0]) rfl (by show pw s=_;unfold pw;rw[h]) (I ?_);exact ar rfl (.of (by show _=ab.i .i64 (qT s);unfold qT;rw[h];rfl))
 |none=>
  refine ah 7 (.bu [dj 0,.i .i64 6]) rfl (by show pw s=_;unfold pw;rw[h]) (I ?_);exact ar rfl (.of (by show _=ab.i .i64 (qT s);unfold qT;rw[h];rfl))
def ur(x y:Rat):Rat:=mkRat (x.num*(y.den:Int)) (x.den*y.num.natAbs)
def Zs:bh where
 L:=Rat×Rat
 args:=fun(x,y)=>[dj x,dj y]
 pre:=fun(x,y)=>eg 60000 x∧eg 60000 y∧0<y.num
 res:=fun(x,y)=>.bu [dj (ur x y),.i .i64 0]
def apR:a9 aT.ctx 28 Zs.spec:=by
 refine bH [(74,yz.spec),(75,yw.spec),(73,wm.spec)] TC.1 ?_;intro⟨x,y⟩ ⟨(J:eg _ x),(aA:eg _ y),(hp:0<y.num)⟩ H aH;have hg:=A4 x.num;have mR:y.num.sign=1:=zby hp;have ab6:y.num≠0:=by omega
 refine ak 8 ?_;refine v0 8 (show¬y.num.sign=0 by omega) (ak 18 ?_);refine cu 18 (cV y.den) rfl rfl (by rw[zaa ab6];rfl) ?_;refine bo qz (x.num.natAbs,y.den) ⟨cZ J.1 (by decide),cZ aA.2 (by decide)⟩ (I ?_);refine bo rE x trivial (I ?_);refine bo qz (x.den,y.num.natAbs) ⟨cZ J.2 (by decide),cZ aA.1 (by decide)⟩ (ak 14 ?_);refine ah 14 (.i .i64 x.num.sign) rfl (by rw[mR,Int.mul_one];exact bx rfl (by omega) (by omega)) (I ?_);refine bo uo (x.num.sign,x.num.natAbs*y.den,x.den*y.num.natAbs) ⟨hg.1,hg.2,cZ (mM J.1 aA.2) (by decide),cZ (mM J.2 aA.1) (by decide),zbd x.den_nz (by omega)⟩ ?_;have e:mkRat (x.num.sign*((x.num.natAbs*y.den:Nat):Int)) (x.den*y.num.natAbs)=ur x y:=by
  unfold ur;rw[zap,<-zbz,zcI]
 refine ah 25 (dj (ur x y)) rfl (congrArg dj e) (I ?_);exact ar rfl (.refl _)
def Zr:bh where
 L:=Rat×Rat
 args:=fun(x,y)=>[dj x,dj y]
 pre:=fun(x,y)=>eg 60000 x∧eg 60000 y∧0<y.num
 res:=fun(x,y)=>dj (ur x y)
def apQ:a9 aT.ctx 245 Zr.spec:=by
 refine bH [(28,Zs.spec)] Tm.1 ?_;intro⟨x,y⟩ hp H aH;refine I ?_;refine aL apR (x,y) hp ?_;refine ah 10 (.bu [dj (ur x y),.i .i64 0]) rfl rfl (I ?_);exact ar rfl (.refl _)
def Y6:bh where
 L:=Int×Int×Rat
 args:=fun(e,p,x)=>[m5 e p,dj x]
 pre:=fun(e,p,x)=>cq e p∧eg 60000 x
 res:=fun(e,p,x)=>.b (decide (kU e p<gv x))
def apv:a9 aT.ctx 331 Y6.spec:=by
 refine bH [(248,Iw.spec),(149,Za.spec),(79,D7.spec)] TS.1 ?_;intro⟨e,p,x⟩ ⟨av,(J:eg _ x)⟩ H aH;refine I ?_;refine bo Oe x trivial (I ?_);refine bo apC (e,p) av (I ?_);refine bo IH (gv x,kU e p) ⟨lx (Ny J) (by decide),lx (aos av) (by decide)⟩ (I ?_);exact ar rfl (.of (b8 (decide_eq_decide.2 pS)))
def Zf:bh where
 L:=Rat
 args:=fun x=>[dj x]
 pre:=fun x=>dR 268435456 x.den
 res:=fun x=>.b (decide (x.den=1))
def apF:a9 aT.ctx 78 Zf.spec:=by
 refine bH [(75,yw.spec),(77,wo.spec),(155,sF.spec)] Lx.1 ?_;intro(x:Rat) J H aH;refine I ?_;refine aL rE x trivial (I ?_);refine aL uq () trivial (I ?_);refine aL rF (x.den,1) ⟨cZ J (by decide),D3⟩ (I ?_);refine ar rfl (.of (b8 (decide_eq_decide.2 ?_)));show hR x.den 1=0↔x.den=1;unfold hR;have:=x.den_nz;by_cases h:x.den=1
 ·rw[zaa (by omega),zab h];exact⟨fun _=>h,fun _=>rfl⟩
 ·rw[zaa (by omega),zaa h];exact⟨(fun h=>by cases h),fun az=>absurd az h⟩
def asV{e p:Int}(h:cq e p)(J:eg 300 x): -20000<=nn e p x∧nn e p x<=20000:=by
 obtain⟨h1,h2,h3,au,aW⟩:=h;obtain⟨cK,c9⟩:=jn h1 h2;have hQ:=Dv x.num.natAbs x.den;have u2:=qx J.1;have BG:=qx J.2;unfold nn;split<;>omega
def IC:bh where
 L:=Int×Int×Rat
 args:=fun(e,p,x)=>[m5 e p,dj x]
 pre:=fun(e,p,x)=>eg 300 x
 res:=fun(e,p,x)=>.b (hasB e p x)
def Zc:a9 aT.ctx 235 IC.spec:=by
 refine bH [(135,Iz.spec),(331,Y6.spec),(243,Zy.spec),(245,Zr.spec),(78,Zf.spec)] Td.1 ?_;intro⟨e,p,x⟩ (J:eg 300 x) H aH;have no:¬E5 e p x->bZ (.b false) (IC.res (e,p,x)):=fun h=>.of (b8 (by unfold hasB;exact(zac (fun az=>h ((has_eq e p x).2 az))).symm));have yes:E5 e p x->bZ (.b true) (IC.res (e,p,x)):=fun h=>.of (b8 (by unfold hasB;exact(zad ((has_eq e p x).1 h)).symm));refine I ?_;refine bo Y7 (e,p) trivial ?_;by_cases h1:cq e p
 case neg=>
  refine ah 6 (.i .i64 2) rfl (congrArg (ab.i .i64) (zaa h1)) (I ?_);exact ar rfl (no (fun h=>h1 h.1))
 refine ah 6 (.i .i64 0) rfl (congrArg (ab.i .i64) (zab h1)) (I ?_);refine bo apv (e,p,x) ⟨h1,lx J (by decide)⟩ ?_;by_cases h2:kU e p<gv x
 ·refine dx 11 h2 (I ?_);exact ar rfl (no (fun h=>h.2.1 h2))
 refine ea 11 h2 ?_;obtain⟨a2,bw⟩:=asV h1 J;have NB:=NA (c:=20000) (k:=nn e p x) (by omega) (by omega);have auy:0<(cS (mkRat 1 1) (nn e p x)).num:=by
  rw[(yH _).1];exact Int.pow_pos (by decide)
 refine I ?_;refine bo apY (e,p,x) ⟨h1,lx J (by decide)⟩ (I ?_);refine bo apQ (x,cS (mkRat 1 1) (nn e p x)) ⟨lx J (by decide),lx NB (by decide),auy⟩ ?_;have bU:eg 60000 (ur x (cS (mkRat 1 1) (nn e p x))):=by
  refine yj ?_ (cZ (mM J.2 NB.1) (by decide)) (zbd x.den_nz (by omega));rw[zbN,zaC];exact cZ (mM J.1 NB.2) (by decide)
 refine I ?_;refine bo apF (ur x (cS (mkRat 1 1) (nn e p x))) (cZ bU.2 (by decide)) ?_;by_cases h3:(ur x (cS (mkRat 1 1) (nn e p x))).den=1
 ·refine dx 20 h3 (I ?_);exact ar rfl (yes ⟨h1,h2,h3⟩)
 ·refine ea 20 h3 (I ?_);exact ar rfl (no (fun h=>h3 h.2.2))
def yy:a9 aT.ctx 139 sS.spec:=by
 refine bH [] Sq.1 ?_;intro⟨n,m⟩ _ H aH;refine ak 6 ?_;by_cases h:0<=n
 ·refine v1 6 h (I ?_);exact ar rfl (.of (b8 (decide_eq_decide.2 ⟨fun az=>⟨h,az⟩,fun az=>az.2⟩)))
 ·refine v0 6 h (I ?_);exact ar rfl (.of (b8 (zac (fun az=>h az.1)).symm))
def IE:a9 aT.ctx 140 wE.spec:=by
 refine bH [] Ss.1 ?_;intro⟨p,i⟩ _ H aH;have aq:∀{c:Int},fX p i=c->bZ (.i .i64 c) (wE.res (p,i)):=fun h=>.of (by rw[<-h];rfl);refine ak 8 ?_;by_cases h:i<p.head
 ·refine v1 8 h (I ?_);exact ar rfl (aq (zab h))
 refine v0 8 h (ak 12 ?_);by_cases h2:i<p.tail
 ·refine v1 12 h2 (I ?_);exact ar rfl (aq ((zaa h).trans (zab h2)))
 refine v0 12 h2 (I ?_);exact ar rfl (aq ((zaa h).trans (zaa h2)))
def apW:a9 aT.ctx 240 wF.spec:=by
 refine bH [(140,wE.spec)] Ti.1 ?_;intro⟨p,i,k⟩ _ H aH;have no:¬(0<=k∧k<i∧(fX p k=0∨fX p k=fX p i))->bZ (.b false) (wF.res (p,i,k)):=fun h=>.of (b8 (zac h).symm);have yes:(0<=k∧k<i∧(fX p k=0∨fX p k=fX p i))->bZ (.b true) (wF.res (p,i,k)):=fun h=>.of (b8 (zad h).symm);refine ak 8 ?_;by_cases h:0<=k
 case neg=>
  refine hA 8 h (I ?_);exact ar rfl (no (by omega))
 refine gE 8 h (ak 12 ?_);by_cases h2:k<i
 case neg=>
  refine hA 12 h2 (I ?_);exact ar rfl (no (by omega))
 refine gE 12 h2 (I ?_);refine bo IE (p,k) trivial ?_;refine ah 17 (.i .i64 (fX p k)) rfl rfl (ak 18 ?_);by_cases h3:fX p k=0
 ·refine v1 18 h3 (I ?_);exact ar rfl (yes ⟨h,h2,.inl h3⟩)
 refine v0 18 h3 (I ?_);refine bo IE (p,k) trivial ?_;refine ah 22 (.i .i64 (fX p k)) rfl rfl (I ?_);refine bo IE (p,i) trivial ?_;refine ah 25 (.i .i64 (fX p i)) rfl rfl (ak 26 ?_);by_cases au:fX p k=fX p i
 ·refine v1 26 au (I ?_);exact ar rfl (yes ⟨h,h2,.inr au⟩)
 refine v0 26 au (I ?_);exact ar rfl (no (fun h=>h.2.2.elim h3 au))
def qN(op:Int):Int:=if 1<=op∧op<=15 then(nU op.toNat:Int)else -1
def ze:bh where
 L:=Int
 args:=fun n=>[.i .i64 n]
 pre:=fun _=>True
 res:=fun n=>.i .i64 (qN n)
def anf:∀o,o<16->1<=o->nU o=if o<=3 then 0 else if o<=7 then 1 else if o<=13 then 2 else if o=14 then 3 else 4:=by decide +kernel
def atu:∀o,o<16->1<=o->uI o=if o=1∨o=2 then 1 else nU o:=by decide +kernel
def zf:a9 aT.ctx 236 ze.spec:=by
 refine bH [] Te.1 ?_;intro(n:Int) _ H aH;have aq:∀{c:Int},qN n=c->bZ (.i .i64 c) (ze.res n):=fun h=>.of (by rw[<-h];rfl);refine ak 5 ?_;by_cases h1:n<1
 ·refine v1 5 h1 (I ?_);exact ar rfl (aq (zaa (by omega)))
 refine v0 5 h1 (ak 8 ?_);by_cases h2:15<n
 ·refine v1 8 h2 (I ?_);exact ar rfl (aq (zaa (by omega)))
 refine v0 8 h2 ?_;obtain⟨o,ai⟩:∃o:Nat,n=(o:Int):=⟨n.toNat,by omega⟩;have U:=anf o (by omega) (by omega);have e2:∀{c:Nat},nU o=c->bZ (.i .i64 (c:Int)) (ze.res n):=fun h=>aq (by unfold qN;rw[zab (by omega),ai,zbX,h]);refine ak 12 ?_;by_cases h3:n<=3
 ·refine v1 12 h3 (I ?_);exact ar rfl (e2 (c:=0) (U.trans (zab (by omega))))
 refine v0 12 h3 ?_;rw[zaa (by omega)]at U;refine ak 15 ?_;by_cases au:n<=7
 ·refine v1 15 au (I ?_);exact ar rfl (e2 (c:=1) (U.trans (zab (by omega))))
 refine v0 15 au ?_;rw[zaa (by omega)]at U;refine ak 18 ?_;by_cases aW:n<=13
 ·refine v1 18 aW (I ?_);exact ar rfl (e2 (c:=2) (U.trans (zab (by omega))))
 refine v0 18 aW ?_;rw[zaa (by omega)]at U;refine ak 21 ?_;by_cases ch:n=14
 ·refine v1 21 ch (I ?_);exact ar rfl (e2 (c:=3) (U.trans (zab (by omega))))
 refine v0 21 ch (I ?_);exact ar rfl (e2 (c:=4) (U.trans (zaa (by omega))))
def Lj(n:fv):ac ab:=[.i .i64 n.a,.i .i64 n.b,.i .i64 n.c,.i .i64 n.d]
def Lh:bh where
 L:=fv
 args:=fun n=>[.agg (kG n)]
 pre:=fun _=>True
 res:=fun n=>.agg (Lj n)
def RP:a9 aT.ctx 332 Lh.spec:=by
 refine bH [] TT.1 ?_;intro(n:fv) _ H aH;refine I ?_;exact ar rfl (.refl _)
def apG(n:fv):Nat×ac Int->cG
 |(k,[])=>⟨[.c 126 (kG n),.a 277 false 1 Int ee (e0 n)],2,[(1,.p 0 0),(3,.p 1 0),(4,.nl),(5,.i .i64 (k:Int))]⟩
 |(k,d::ds)=>⟨[.c 126 (kG n),.a 277 false 1 Int ee (e0 n),.a 3 true 1 Int ee (d::ds)],3,[(1,.p 0 0),(3,.p 1 0),(4,.aY 2 1 0 (ds.length+1) (ds.length+1)),(5,.i .i64 (k:Int))]⟩
def Zg:bh where
 L:=fv
 args:=fun n=>[.agg (kG n)]
 pre:=fun n=>1<=n.op∧n.op<=15
 res:=fun n=>.cc 1 Int ee (dX n)
def as0{own:ac ay}{n p:Nat}{e cj:bO}{m:Nat}{o q r:ay}(h:kM [0,1,m] cj e)(ai:∃bf,own[0]? =some bf∧e8 [0,1,m] o bf)(hq:∃bf,own[1]? =some bf∧e8 [0,1,m] q bf)(hr:∃bf,own[m]? =some bf∧e8 [0,1,m] r bf)(hm:1<m:=by decide)(hp:pinned p [0,1,m] 0=true:=by rfl):Sub p [0,1,m] ⟨own,n,e⟩ ⟨[o,q,r],3,cj⟩:=⟨by simp;omega,rfl,⟨ai,hq,hr,trivial⟩,h,hp⟩
def apH:a9 aT.ctx 239 Zg.spec:=by
 refine bH [(332,Lh.spec),(236,ze.spec)] Th.1 ?_;intro(n:fv) ⟨(h1:1<=n.op),(h2:n.op<=15)⟩ H aH;obtain⟨o,ai⟩:∃o:Nat,n.op=(o:Int):=⟨n.op.toNat,by omega⟩;have mx:n.op.toNat=o:=by omega
 obtain⟨hu,_⟩:=Jc o (by omega);have a5:dX n=(e0 n).take (nU o):=by unfold dX;rw[mx];exact zab ⟨h1,h2⟩
 have e4:qN n.op=(nU o:Int):=by unfold qN;rw[zab ⟨h1,h2⟩,mx]
 generalize nU o=u at *;refine I ?_;refine aL RP n trivial ?_;refine ah 7 (.agg (Lj n)) rfl rfl (ak 5 ?_);refine nk 1 ee (e0 n) ?_;refine I ?_;refine c6 (L:=Nat×ac Int) (fun(k,l)=>k<=u∧l=(e0 n).take k) (apG n) (fun l=>u-l.1) [0,1] (0,[]) ⟨zag _,rfl⟩ (by show u-0<bQ+1;unfold bQ;omega) ij ?_;rintro⟨k,l⟩ ⟨U,aE⟩;have tF:(e0 n).length=4:=rfl;have nN:l.length=k:=by rw[aE,zas];omega
 by_cases aV:k<u
 ·have CJ:k<(e0 n).length:=by omega
  have eR:(e0 n).take (k+1)=l++[(e0 n)[k]]:=by rw[zba CJ,aE]
  cases l with
  |nil=>
   refine I ?_;refine aL zf n.op trivial ?_;refine ah 11 (.i .i64 (u:Int)) rfl (congrArg (ab.i .i64) e4) (ak 12 ?_);refine v1 12 (show(k:Int)<u by omega) (I ?_);refine IZ (j:=k) ?_;refine pA (e0 n)[k] (bF CJ) ?_;refine I ?_;refine wx ee [(e0 n)[k]] (j4 (R:=ee) [(e0 n)[k]] rfl) ?_;refine ak 14 ?_;refine nu 14 ((k+1:Nat):Int) (I ?_);exact a1 [0,1,3] (k+1,[(e0 n)[k]]) ⟨by show u-(k+1)<u-k;omega,aV,eR.symm⟩ jK
  |cons d ds=>
   have gJ:ds.length+1=k:=nN;refine I ?_;refine aL zf n.op trivial ?_;refine ah 11 (.i .i64 (u:Int)) rfl (congrArg (ab.i .i64) e4) (ak 12 ?_);refine v1 12 (show(k:Int)<u by omega) (I ?_);refine IZ (j:=k) ?_;refine pA (e0 n)[k] (bF CJ) ?_;refine I ?_;refine wv (R:=ee) [(e0 n)[k]] (j4 (R:=ee) [(e0 n)[k]] rfl) ?_;refine ak 14 ?_;refine nu 14 ((k+1:Nat):Int) (I ?_);exact a1 [0,1,4] (k+1,d::(ds++[(e0 n)[k]])) ⟨by show u-(k+1)<u-k;omega,aV,eR.symm⟩ (as0 ⟨rfl,rfl,congrArg (fun k=>some (ab.aY 4 1 0 k k)) (by simp),rfl,trivial⟩ ⟨_,rfl,rfl⟩ ⟨_,rfl,rfl,fun _=>rfl⟩ ⟨_,rfl,rfl,fun _=>rfl⟩)
 ·obtain rfl:k=u:=by omega
  rw[<-a5]at aE;cases l with
  |nil=>
   refine I ?_;refine aL zf n.op trivial ?_;refine ah 11 (.i .i64 (k:Int)) rfl (congrArg (ab.i .i64) e4) (ak 12 ?_);refine v0 12 (show¬(k:Int)<k by omega) (I ?_);exact ar rfl (bZ.nl.trans (.of (by show ab.cc 1 Int ee []=ab.cc 1 Int ee (dX n);rw[<-aE])))
  |cons d ds=>
   refine I ?_;refine aL zf n.op trivial ?_;refine ah 11 (.i .i64 (k:Int)) rfl (congrArg (ab.i .i64) e4) (ak 12 ?_);refine v0 12 (show¬(k:Int)<k by omega) (ak 21 ?_);refine ko 21 ?_;refine I ?_;exact ar rfl (.of (by show ab.cc 1 Int ee (d::ds)=ab.cc 1 Int ee (dX n);rw[<-aE]))
def aa5:bh where
 L:=fv
 args:=fun n=>[.agg (kG n)]
 pre:=fun n=>1<=n.op∧n.op<=15
 res:=fun n=>.b (!ri n)
def as4:a9 aT.ctx 237 aa5.spec:=by
 refine bH [(332,Lh.spec),(236,ze.spec)] Tf.1 ?_;intro(n:fv) ⟨(h1:1<=n.op),(h2:n.op<=15)⟩ H aH;obtain⟨o,ai⟩:∃o:Nat,n.op=(o:Int):=⟨n.op.toNat,by omega⟩;have mx:n.op.toNat=o:=by omega
 obtain⟨_,hu⟩:=Jc o (by omega);have aN:=atu o (by omega) (by omega);have e4:qN n.op=(nU o:Int):=by unfold qN;rw[zab ⟨h1,h2⟩,mx]
 have a5:ri n=(((e0 n).drop (uI o)).all (fun x=>x==0)&&(n.v.isEmpty||decide (n.op=3))):=by unfold ri;rw[mx]
 generalize uI o=u at *;refine I ?_;refine aL zf n.op trivial ?_;refine ah 8 (.i .i64 (nU o:Int)) rfl (congrArg (ab.i .i64) e4) (ak 3 ?_)
 iterate 3 refine gW ?_
 refine fJ (L:=Unit) (fun _=>True) (fun _=>⟨[.c 126 (kG n)],1,[(1,.p 0 0),(3,.i .i64 (u:Int))]⟩) ?_ ?_
 ·refine ak 11 ?_;by_cases eK:n.op=1
  ·refine v1 11 eK ?_;rw[zab (.inl (by omega))]at aN;subst aN;refine I ?_;exact a1 [0] () trivial dD
  refine v0 11 eK (ak 15 ?_);by_cases fO:n.op=2
  ·refine v1 15 fO ?_;rw[zab (.inr (by omega))]at aN;subst aN;refine I ?_;exact a1 [0] () trivial dD
  refine v0 15 fO ?_;rw[zaa (by omega)]at aN;subst aN;refine I ?_;exact a1 [0] () trivial dD
 intro _ _;refine I ?_;refine aL RP n trivial ?_;refine ah 18 (.agg (Lj n)) rfl rfl (ak 19 ?_);refine nk 1 ee (e0 n) ?_;refine I ?_;refine c6 (L:=Nat) (fun k=>u<=k∧k<=4∧(((e0 n).drop u).take (k-u)).all (fun x=>x==0)=true) (fun(k:Nat)=>⟨[.c 126 (kG n),.a 277 false 1 Int ee (e0 n)],2,[(1,.p 0 0),(4,.p 1 0),(5,.i .i64 (k:Int))]⟩) (fun k=>4-k) [0,1] u ⟨zch _,hu,by rw[Nat.sub_self];rfl⟩ (by show 4-u<bQ+1;unfold bQ;omega) ij ?_;rintro(k:Nat) ⟨VU,U,aE⟩;have tF:(e0 n).length=4:=rfl;have hlen:((e0 n).drop u).length=4-u:=by rw[zaE];rfl
 refine ak 21 ?_;by_cases hl:k<4
 ·refine v1 21 (show(k:Int)<4 by omega) ?_;have Ma:k-u<((e0 n).drop u).length:=by omega
  have kj:(e0 n)[k]? =some ((e0 n).drop u)[k-u]:=by
   rw[<-bF Ma,zaF,show u+(k-u)=k by omega]
  refine I ?_;refine IZ (j:=k) ?_;refine pA ((e0 n).drop u)[k-u] kj ?_;refine ak 27 ?_;by_cases J:((e0 n).drop u)[k-u]=0
  ·refine v0 27 (jf J) (ak 23 ?_);refine nu 23 ((k+1:Nat):Int) (I ?_);exact a1 [0,1] (k+1) ⟨by omega,by omega,hl,by rw[show k+1-u=(k-u)+1 by omega];exact Wt Ma aE J⟩ ij
  ·refine v1 27 J (I ?_);refine ar rfl (.of (b8 ?_));have:((e0 n).drop u).all (fun x=>x==0)=false:=by
    rw[List.all_eq_false];exact⟨((e0 n).drop u)[k-u],dV Ma,by simpa using J⟩
   rw[a5,this];rfl
 ·refine v0 21 (show¬(k:Int)<4 by omega) ?_;have ph:((e0 n).drop u).all (fun x=>x==0)=true:=by
   rw[zay (by omega)]at aE;exact aE
  refine ak 30 ?_;by_cases h3:n.op=3
  ·refine v0 30 (jf h3) (I ?_);exact ar rfl (.of (b8 (by rw[a5,ph,zad h3];simp)))
  ·refine v1 30 h3 (ak 34 ?_);cases aF:n.v with
   |nil=>
    refine ah 34 (.b false) rfl rfl (I ?_);exact ar rfl (.of (b8 (by rw[a5,ph,aF];rfl)))
   |cons c v=>
    refine ah 34 (.b true) rfl rfl (I ?_);exact ar rfl (.of (b8 (by rw[a5,ph,aF,zac h3];rfl)))
def aug:a9 aT.ctx 134 zO.spec:=by
 refine bH [] Sl.1 ?_;intro(p:cB) _ H aH;have a0:∀{c:Int},m6 p=c->bZ (.i .i64 c) (zO.res p):=fun h=>.of (by rw[<-h];rfl);refine ak 10 ?_;by_cases h1:6<(p.bB.length:Int)
 ·refine v1 10 h1 (I ?_);exact ar rfl (a0 (zab (.inl h1)))
 refine v0 10 h1 (ak 15 ?_);by_cases h2:6<(p.ins.length:Int)
 ·refine v1 15 h2 (I ?_);exact ar rfl (a0 (zab (.inr (.inl h2))))
 refine v0 15 h2 (ak 19 ?_);by_cases h3:64<(p.a6.length:Int)
 ·refine v1 19 h3 (I ?_);exact ar rfl (a0 (zab (.inr (.inr (.inl h3)))))
 refine v0 19 h3 (ak 25 ?_);by_cases au:4<(p.dE.length:Int)
 ·refine v1 25 au (I ?_);exact ar rfl (a0 (zab (.inr (.inr (.inr au)))))
 refine v0 25 au ?_;have mF:¬(6<(p.bB.length:Int)∨6<(p.ins.length:Int)∨64<(p.a6.length:Int)∨4<(p.dE.length:Int)):=fun h=>h.elim h1 fun h=>h.elim h2 fun h=>h.elim h3 au;have aq:=fun{c} h=> @a0 c ((zaa mF).trans h);refine ak 30 ?_;by_cases aG:(p.bB.length:Int)=0
 ·refine v1 30 aG (I ?_);exact ar rfl (aq (zab (.inl aG)))
 refine v0 30 aG (ak 33 ?_);by_cases aI:(p.a6.length:Int)=0
 ·refine v1 33 aI (I ?_);exact ar rfl (aq (zab (.inr (.inl aI))))
 refine v0 33 aI (ak 38 ?_);by_cases a4:p.mode<0
 ·refine v1 38 a4 (I ?_);exact ar rfl (aq (zab (.inr (.inr (.inl a4)))))
 refine v0 38 a4 (ak 43 ?_);by_cases b2:4<p.mode
 ·refine v1 43 b2 (I ?_);exact ar rfl (aq (zab (.inr (.inr (.inr b2)))))
 refine v0 43 b2 ?_;have jf:¬((p.bB.length:Int)=0∨(p.a6.length:Int)=0∨p.mode<0∨4<p.mode):=fun h=>h.elim aG fun h=>h.elim aI fun h=>h.elim a4 b2;have e2:=fun{c} h=> @aq c ((zaa jf).trans h);refine ak 47 ?_;by_cases a2:p.head<0
 ·refine v1 47 a2 (I ?_);exact ar rfl (e2 (zab (.inl a2)))
 refine v0 47 a2 (ak 53 ?_);by_cases bw:p.tail<p.head
 ·refine v1 53 bw (I ?_);exact ar rfl (e2 (zab (.inr (.inl bw))))
 refine v0 53 bw (ak 59 ?_);by_cases dr:(p.a6.length:Int)<p.tail
 ·refine v1 59 dr (I ?_);exact ar rfl (e2 (zab (.inr (.inr dr))))
 refine v0 59 dr ?_;have yc:¬(p.head<0∨p.tail<p.head∨(p.a6.length:Int)<p.tail):=fun h=>h.elim a2 fun h=>h.elim bw dr;have bV:=fun{c} h=> @e2 c ((zaa yc).trans h);refine ak 65 ?_;by_cases eW:(p.dE.length:Int)=0
 ·refine v1 65 eW (ak 70 ?_);by_cases g1:p.head<(p.a6.length:Int)
  ·refine v1 70 g1 (I ?_);exact ar rfl (bV (zab ⟨eW,by omega⟩))
  ·refine v0 70 g1 (I ?_);exact ar rfl (bV (zaa (fun h=>h.2 (by omega))))
 ·refine v0 65 eW (I ?_);exact ar rfl (bV (zaa (fun h=>eW h.1)))
def Y4{v:Nat}(h:v<10^k)(U:k<=2000):dR 300 v:=by
 refine iW (by decide) (zcP h (zai (zat (by decide) U) ?_));decide +kernel
def YS{s:ac bv}(ae:s.length<=2000)(h:fb s=some x):eg 300 x:=by
 obtain⟨P,q,iA,_,_,hH,hq,zR,hint,z6⟩:=Oa ae;by_cases du:oQ (dw s).1 P q iA
 ·obtain⟨aG,aI,a4⟩:=du;have uT:=Y4 (rI aG.2.1) (by omega);cases iA with
  |false=>
   have e:=hint ⟨aG,aI,a4⟩ rfl;rw[h]at e;cases e;exact yj (by rw[uB];exact uT) (by show(aR _ 1).length<=_;rw[ve];exact jN rfl) (by decide)
  |true=>
   obtain⟨h3,au,aW⟩:=a4 rfl;have px:b1 q≠0:=fun h=>au (w4 h3 h);have e:=z6 ⟨aG,aI,a4⟩ rfl;rw[h]at e;split at e
   ·cases e;exact yj (by rw[uB];exact uT) (Y4 (rI h3.2.1) (by omega)) px
   ·cases e
 ·rw[zR du]at h;cases h
def D4:bh where
 L:=cB×jm
 args:=fun(p,x)=>[gM p,.agg (Ae x)]
 pre:=fun(p,x)=>x.aM.length<=2000∧x.hi.length<=2000
 res:=fun(p,x)=>.i .i64 (tR p x)
def apD:a9 aT.ctx 136 D4.spec:=by
 refine bH [(139,sS.spec),(68,D6.spec),(235,IC.spec),(79,D7.spec)] Sn.1 ?_;intro⟨p,x⟩ ⟨fo,fI⟩ H aH;have a0:∀{c:Int},tR p x=c->bZ (.i .i64 c) (D4.res (p,x)):=fun h=>.of (by rw[<-h];rfl);refine I ?_;refine aL yy (x.f,(p.bB.length:Int)) trivial ?_;by_cases h3:gU x.f p.bB.length
 case neg=>
  refine ea 14 h3 (I ?_);exact ar rfl (a0 (zaa h3))
 refine dx 14 h3 ?_;obtain⟨f,aa⟩:∃f:Nat,x.f=(f:Int):=⟨x.f.toNat,by have:=h3.1;omega⟩;have tD:x.f.toNat=f:=by omega
 have tF:f<p.bB.length:=by have:=h3.2;omega
 obtain⟨⟨jV,jW⟩,hq⟩:∃w,p.bB[f]? =some w:=⟨_,bF tF⟩;have aq:∀{c:Int},pj jV jW x=c->bZ (.i .i64 c) (D4.res (p,x)):=fun h=>a0 (by unfold tR;rw[zab h3,tD,hq];exact h);refine I ?_;refine aL Oo x.aM fo ?_;cases e4:fb x.aM with
 |none=>
  refine ah 19 (.bu [dj 0,.i .i64 6]) rfl (by show pw x.aM=_;unfold pw;rw[e4]) (I ?_);exact ar rfl (aq (by unfold pj;rw[e4]))
 |some X=>
 refine ah 19 (.bu [dj X,.i .i64 0]) rfl (by show pw x.aM=_;unfold pw;rw[e4]) (I ?_);refine aL Oo x.hi fI ?_;cases a5:fb x.hi with
 |none=>
  refine ah 28 (.bu [dj 0,.i .i64 6]) rfl (by show pw x.hi=_;unfold pw;rw[a5]) (I ?_);exact ar rfl (aq (by unfold pj;rw[e4,a5]))
 |some Y=>
 refine ah 28 (.bu [dj Y,.i .i64 0]) rfl (by show pw x.hi=_;unfold pw;rw[a5]) ?_;have DH:=YS fo e4;have DI:=YS fI a5;have g0:pj jV jW x=if hE jV jW X∧hE jV jW Y∧¬Y<X then 0 else 7:=by unfold pj;rw[e4,a5]
 have no:¬(hE jV jW X∧hE jV jW Y∧¬Y<X)->bZ (.i .i64 7) (D4.res (p,x)):=fun h=>aq (g0.trans (zaa h));refine ak 37 ?_;refine ah 37 (.i .i64 (f:Int)) rfl (by rw[aa]) ?_;refine dP (jV,jW) hq ?_;refine I ?_;refine aL Zc (jV,jW,X) DH ?_;by_cases cr:hE jV jW X
 case neg=>
  refine ea 42 cr (I ?_);exact ar rfl (no (fun h=>cr h.1))
 refine dx 42 cr (I ?_);refine aL Zc (jV,jW,Y) DI ?_;by_cases cz:hE jV jW Y
 case neg=>
  refine ea 47 cz (I ?_);exact ar rfl (no (fun h=>cz h.2.1))
 refine dx 47 cz (I ?_);refine aL IH (X,Y) ⟨lx DH (by decide),lx DI (by decide)⟩ (ak 54 ?_);by_cases dT:Y<X
 ·refine v1 54 (pS.2 dT) (I ?_);exact ar rfl (no (fun h=>h.2.2 dT))
 ·refine v0 54 (fun h=>dT (pS.1 h)) (I ?_);exact ar rfl (aq (g0.trans (zab ⟨cr,cz,dT⟩)))
