/- What the functions of the program and of the document compute, for every input, and the plain laws of it (part 6); conditions as in the statements. -/
import Derived.Test.YtdinjknpilkilaaGreatDoorC5
import Derived.Test.YtdinjknpilkilaaGreatDoorC3
import Derived.Test.YtdinjknpilkilaaGreatDoorS2
import Derived.Test.YtdinjknpilkilaaGreatDoorZ
noncomputable section
set_option linter.all false
namespace Go.ah.aW
open Go.ah
set_option maxRecDepth 100000
set_option maxHeartbeats 32000000
variable{l:ac b5}{x:ac cI}
def E6(r:CC):ae:=.bM [ca r.lo,ca r.aa,.aZ 3 eG ez r.low,.aZ 3 eG ez r.high,.i .i64 r.e]
def PV:bN where
 L:=ac b5×ac cI
 args:=fun(l,x)=>[.bb 2 b5 c5 l,.bb 2 cI gh x]
 pre:=fun(l,x)=>qo l∧rB x
 res:=fun(l,x)=>E6 (kc l x)
def zD{e:Int}(h:kc l x=⟨0,0,[],[],e⟩):bV (.bM [.agg [.i .i64 0,.nl,.nl],.agg [.i .i64 0,.nl,.nl],.nl,.nl,.i .i64 e]) (PV.res (l,x)):=bV.trans (b:=E6 ⟨0,0,[],[],e⟩) (.bM ⟨y6,y6,bV.nl,bV.nl,.refl _,trivial⟩) (.of (by show _=E6 (kc l x);rw[h]))
def S9(dF:hW l x=0):fJ x=0∧lK x.length l=0∧rv l (g3 (iq x)) (cM l) x.length:=by
 have hb:fJ x=0:=by
  unfold hW at dF;split at dF
  ·assumption
  ·rename_i h;exact absurd dF h
 have aF:lK x.length l=0:=by
  unfold hW at dF;rw[zab hb]at dF;split at dF
  ·assumption
  ·rename_i h;exact absurd dF h
 have hp:¬600<ck (cM l) x.length:=by
  unfold hW at dF;rw[zab hb,zab aF]at dF;split at dF
  ·cases dF
  ·assumption
 obtain⟨kE,ic⟩:=FO aF;have mn:=LD hb;refine⟨hb,aF,kE,fun j hj=> ?_,fun j=>Da (fun t aF=>(ic t aF).2.1) j,fun k j=> ?_,?_⟩
 ·unfold g3;rw[bE (show j<(iq x).length by omega)];exact Gn _ (zas _)
 ·unfold jn;by_cases hk:k<l.length
  ·rw[bE hk];exact GR (zas hk) j
  ·rw[zbi (by omega)];exact zac _
 ·have:=FA (cM l) x.length;omega
def rO(F:Rat->Rat->Rat)(g:Nat->Rat):Nat->Rat
 |0=>g 0
 |k+1=>F (rO F g k) (g k)
def aoI(m x:Rat):pq m x=q1 m x:=by
 unfold pq q1;by_cases h:m<x
 ·rw[zab h,zaa (Ql h)]
 ·rw[zaa h];by_cases h2:x<m
  ·rw[zab h2]
  ·rw[zaa h2];exact Qm h2 h
def aoH(m x:Rat):qa m x=sc m x:=rfl
theorem Ds{F:Rat->Rat->Rat}(ar:∀a,F a a=a)(g:Nat->Rat):∀k,rO F g (k+1)=(aY (k+1) g).tail.foldl F ((aY (k+1) g).headD 0)
 |0=>ar _
 |k+1=>by
  show F (rO F g (k+1)) (g (k+1))=_;rw[Ds ar g k,Cl (k+1) g];have hl:(aY (k+1) g).length=k+1:=eu _ _;cases h:aY (k+1) g with
  |nil=>rw[h]at hl;cases hl
  |cons y al=>
   show F (al.foldl F y) (g (k+1))=(al++[g (k+1)]).foldl F y;rw[zeW];rfl
def afQ(x:ac cI)(v:Nat)(a:c2)(lo aa:Rat)(M:Nat)(g:Nat->Rat)(k:Nat):ac Rat->ac Rat->cr
 |u::us,w::ws=>⟨[.c 34 [.i .i64 0,.nl,.nl],.c 34 [.i .i64 0,.nl,.nl],.c 94 (gQ a),.c 34 (cN lo),.c 34 (cN aa),.a 34 true 3 Rat cN (u::us),.a 34 true 3 Rat cN (w::ws)],7,[(1,.aZ 2 cI gh x),(4,.p 0 0),(5,.p 1 0),(10,.aZ 3 Rat cN (aY M g)),(12,.i .i64 (v:Int)),(14,.p 2 0),(16,.p 3 0),(17,.p 4 0),(19,.aN 5 3 0 (us.length+1) (us.length+1)),(20,.aN 6 3 0 (ws.length+1) (ws.length+1)),(21,.i .i64 (k:Int))]⟩
 |_,_=>⟨[.c 34 [.i .i64 0,.nl,.nl],.c 34 [.i .i64 0,.nl,.nl],.c 94 (gQ a),.c 34 (cN lo),.c 34 (cN aa)],5,[(1,.aZ 2 cI gh x),(4,.p 0 0),(5,.p 1 0),(10,.aZ 3 Rat cN (aY M g)),(12,.i .i64 (v:Int)),(14,.p 2 0),(16,.p 3 0),(17,.p 4 0),(19,.nl),(20,.nl),(21,.i .i64 (k:Int))]⟩
def aqn:bw a4.ctx 6 PV.spec:=by
 refine bZ [(27,JH.spec),(28,abl.spec),(29,P4.spec),(30,Fe.spec),(31,aaV.spec),(32,aa4.spec),(33,aa3.spec),(34,Ff.spec),(35,Qb.spec),(36,P2.spec)] eB.1 ?_;intro⟨l,x⟩ ⟨(hl:qo l),(J:rB x)⟩ H aK;refine I ?_;refine aX aqm (l,x) ⟨hl,J⟩ (I ?_);by_cases dF:hW l x=0
 case neg=>
  have e:kc l x=⟨0,0,[],[],hW l x⟩:=zaa dF;refine ax 34 (.aZ 1 Nat fo (aY 0 (cM l))) rfl (by rw[show kA l x=[]from zaa dF];rfl) ?_;refine aX abm (cM l,0) (zac _) (ag 39 ?_);refine v0 39 dF (ag 45 ?_);refine v1 45 dF (I ?_);exact aM rfl (zD e)
 have a7:kc l x=_:=zab dF;obtain⟨hb,aF,ei⟩:=S9 dF;have gd:kA l x=aY x.length (cM l):=zab dF;have ml:zC l x=aY (ck (cM l) x.length) (zJ l x):=zab dF;have yW:=J.1;have yv:=L2 (cM l) x.length;refine ax 34 (.aZ 1 Nat fo (aY x.length (cM l))) rfl (by rw[gd]) ?_;refine aX abm (cM l,x.length) yW (ag 39 ?_);refine v1 39 dF ?_;rw[gd]at a7;by_cases h1:lS (cM l) x.length=1
 case neg=>
  have aB:lN (aY x.length (cM l))= -1:=by
   rcases KJ (cM l) x.length with⟨aB,_⟩|⟨v,aB,ak⟩
   ·exact aB
   ·exfalso;have:=(Pg (k:=x.length) ak.rest ak.pos).1;rw[zab ak.lt]at this;exact h1 this
  have e:kc l x=⟨0,0,[],[],7⟩:=a7.trans (zab (by rw[aB];decide));refine ag 41 ?_;refine ax 41 (.b false) rfl (jU (zai (fun h=>h1 (by have:((lS (cM l) x.length:Nat):Int)=1:=h;omega)))) (I ?_);exact aM rfl (zD e)
 have ak:=S5 h1;obtain⟨v,aB⟩:∃v,v=qX (cM l) x.length:=⟨_,rfl⟩;rw[<-aB]at ak;refine ag 41 ?_;refine ax 41 (.b true) rfl (jU (zad (show((lS (cM l) x.length:Nat):Int)=1 by omega))) ?_;have XV:lN (aY x.length (cM l))=(v:Int):=by
  rcases KJ (cM l) x.length with⟨_,hn⟩|⟨v',Bj,lC⟩
  ·exact absurd ak (hn v)
  ·have:=(Pg (k:=x.length) lC.rest lC.pos).2 lC.lt;rw[Bj,aB,this]
 have iz:v<x.length:=ak.lt;have aq:=a7.trans (zaa (by rw[XV];omega));rw[XV,zcj,bE ak.lt]at aq;have aq:kc l x=if(ej x[v]).1=(ej x[v]).2 then⟨0,0,[],[],8⟩else xX (qw l x) (ck (cM l) x.length) (ej x[v]) v x.length:=aq;have p1:x≠[]:=ne_of_lt ak.lt;have p2:=J.2 _ (zas ak.lt);refine ax 12 (.i .i64 (v:Int)) rfl (by rw[aB]) ?_;refine dS 1 (.aZ 2 cI gh x) rfl (.ga p1) ?_;refine ag 45 ?_;refine v0 45 (fc dF) (I ?_);refine db x[v] (bE ak.lt) ?_;refine I ?_;refine aX P5 x[v] p2 ?_;obtain⟨a,ha⟩:∃a,a=ej x[v]:=⟨_,rfl⟩;obtain⟨ve,vf⟩:=O6 x[v];rw[<-ha]at ve vf aq;refine I ?_;rw[<-ha];refine aX JN (a.1,a.2) ⟨cC (da ve),cC (da vf)⟩ (ag 62 ?_);by_cases rU:a.1=a.2
 ·refine ax 62 (.b true) rfl (jU (zad (Gz.2 rU))) (I ?_);exact aM rfl (zD (aq.trans (zab rU)))
 refine ax 62 (.b false) rfl (jU (zai (fun h=>rU (Gz.1 h)))) ?_;have e2:=aq.trans (zaa rU);have aE:a.1<a.2:=of_lt ha rU;have Bh:=arb ei ak;have vi:=LS hb aF ak;have Nc:=ak.pos;have aly:=ei.ao v;obtain⟨N,fq⟩:∃N,N=ck (cM l) x.length:=⟨_,rfl⟩;have AX:N=cM l v+1:=by rw[fq];exact ak.ck.1
 obtain⟨c,hc⟩:∃c,c=qw l x:=⟨_,rfl⟩;rw[<-hc,<-fq]at vi e2 Bh;have ml:zC l x=aY N c:=by rw[ml,<-fq];exact h5 Bh
 refine ax 10 (.aZ 3 Rat cN (aY N c)) rfl (by rw[ml]) (I ?_);refine aX aqs (N,c) ⟨by show 1<=N;omega,by show N<=1048576;omega,fun i aa=>b2 (vi i aa)⟩ ?_;obtain⟨M,e3⟩:∃M,M=iw N:=⟨_,rfl⟩;obtain⟨g,aO⟩:∃g,g=nj c N:=⟨_,rfl⟩;have az:∀k,k<M->ba 300010 (g k):=fun k hk=>by rw[aO];exact My (by omega) (by omega) vi k (by rw[<-e3];exact hk)
 have Ht:2<=M∧M<=18:=by rw[e3];unfold iw;split<;>omega
 refine ax 66 (.aZ 3 Rat cN (aY M g)) rfl (by rw[e3,aO];rfl) (I ?_);refine dp (j:=0) (g 0) (di (n:=M) (i:=0) g (by omega)) ?_;refine I ?_;refine dp (j:=0) (g 0) (di (n:=M) (i:=0) g (by omega)) ?_;refine I ?_;have Zm:∀k,k<=M->ba 300010 (rO pq g k):=fun k=>by
  induction k with
  |zero=>exact fun _=>az 0 (by omega)
  |succ k a1=>
   intro hk;show ba 300010 (pq _ _);unfold pq;split
   ·exact a1 (by omega)
   ·exact az k (by omega)
 have Zn:∀k,k<=M->ba 300010 (rO qa g k):=fun k=>by
  induction k with
  |zero=>exact fun _=>az 0 (by omega)
  |succ k a1=>
   intro hk;show ba 300010 (qa _ _);unfold qa;split
   ·exact az k (by omega)
   ·exact a1 (by omega)
 refine cw (L:=Nat) (fun k=>k<=M) (fun k=>⟨[.c 34 [.i .i64 0,.nl,.nl],.c 34 [.i .i64 0,.nl,.nl],.c 94 (gQ a),.c 34 (cN (rO pq g k)),.c 34 (cN (rO qa g k))],5,[(1,.aZ 2 cI gh x),(4,.p 0 0),(5,.p 1 0),(10,.aZ 3 Rat cN (aY M g)),(12,.i .i64 (v:Int)),(14,.p 2 0),(16,.p 3 0),(17,.p 4 0),(18,.i .i64 (k:Int))]⟩) (fun k=>M-k) [0,1,2,3,4] 0 (zac _) (by show M-0<bc+1;unfold bc;omega) bo ?_;rintro(k:Nat) (hk:k<=M);refine ag 75 ?_;refine ax 75 (.i .i64 (M:Int)) rfl (by rw[eu]) (ag 76 ?_);by_cases iK:k<M
 ·refine v1 76 (show(k:Int)<(M:Int) by omega) (I ?_);refine dp (g k) (di g iK) ?_;refine I ?_;refine bC aqA (rO pq g k,g k) ⟨cC (da (Zm k hk)),cC (da (az k iK))⟩ (I ?_);refine dp (g k) (di g iK) ?_;refine I ?_;refine bC aqz (rO qa g k,g k) ⟨cC (da (Zn k hk)),cC (da (az k iK))⟩ (ag 78 ?_);refine b3 78 ((k+1:Nat):Int) (I ?_);exact aU [0,1,2,3,4] (k+1) ⟨by show M-(k+1)<M-k;omega,iK⟩ bo
 have iK:M=k:=by omega
 subst iK;refine v0 76 (show¬(M:Int)<(M:Int) by omega) ?_;obtain⟨lo,fG⟩:∃lo,lo=rO pq g M:=⟨_,rfl⟩;obtain⟨aa,g6⟩:∃aa,aa=rO qa g M:=⟨_,rfl⟩;have wT:ba 300010 lo:=by rw[fG];exact Zm M (zae _)
 have wP:ba 300010 aa:=by rw[g6];exact Zn M (zae _)
 have aha:lo=EF (aY M g):=by
  rw[fG,show(pq:Rat->Rat->Rat)=q1 from by funext p q;exact aoI p q];obtain⟨xF,rfl⟩:∃xF,M=xF+1:=⟨M-1,by omega⟩;exact Ds (fun p=>by unfold q1;simp) g xF
 have ag3:aa=EG (aY M g):=by
  rw[g6,show(qa:Rat->Rat->Rat)=sc from by funext p q;exact aoH p q];obtain⟨xF,rfl⟩:∃xF,M=xF+1:=⟨M-1,by omega⟩;exact Ds (fun p=>by unfold sc;simp) g xF
 rw[<-fG,<-g6];obtain⟨cR,pV⟩:∃cR:Nat->Rat,cR=fun k=>g k-lo:=⟨_,rfl⟩;obtain⟨cV,yy⟩:∃cV:Nat->Rat,cV=fun k=>aa-g k:=⟨_,rfl⟩;have OR:∀k,k<M->ba 4000000 (cR k):=fun k hk=>by rw[pV];exact b2 (q3 (az k hk) wT)
 have OQ:∀k,k<M->ba 4000000 (cV k):=fun k hk=>by rw[yy];exact b2 (q3 wP (az k hk))
 obtain⟨qb,Nu⟩:∃qb,qb=vN.mk' ⟨M,cR,a,v,x.length⟩:=⟨_,rfl⟩;have DK:xX c N a v x.length=if(!([lo,aa].any fN)&&(cE qb cR M&&cE qb cV M))=true then⟨lo,aa,fE qb cR M,fE qb cV M,0⟩else⟨0,0,[],[],3⟩:=by
  rw[pV,yy,Nu,aha,ag3,e3,aO];rfl
 refine I ?_;refine cw (L:=Nat×ac Rat×ac Rat) (fun(k,us,vs)=>k<=M∧us=aY k cR∧vs=aY k cV) (fun(k,us,vs)=>afQ x v a lo aa M g k us vs) (fun l=>M-l.1) [0,1,2,3,4] (0,[],[]) ⟨zac _,rfl,rfl⟩ (by show M-0<bc+1;unfold bc;omega) bo ?_;rintro⟨k,us,vs⟩ ⟨hk,Eh,jM⟩;have km:us.length=k:=by rw[Eh,eu]
 have Ej:vs.length=k:=by rw[jM,eu]
 by_cases iK:k<M
 case neg=>
  have iK:M=k:=by omega
  subst iK;rcases us with _|⟨u,us⟩<;>rcases vs with _|⟨w,vs⟩
  ·exfalso;simp at km;omega
  ·exfalso;simp at km;omega
  ·exfalso;simp at Ej;omega
  refine ag 93 ?_;refine ax 93 (.i .i64 (M:Int)) rfl (by rw[eu]) (ag 94 ?_);refine v0 94 (show¬(M:Int)<(M:Int) by omega) ?_;refine gq 19 ?_;refine gq 20 ?_;rw[Eh,jM];obtain⟨c3,iU⟩:∃c3,c3=cE qb cR M:=⟨_,rfl⟩;obtain⟨eP,mm⟩:∃eP,eP=cE qb cV M:=⟨_,rfl⟩;have ahb:vN.mk' ⟨M,cV,a,v,x.length⟩=qb:=by rw[Nu];rfl
  refine I ?_;refine aX abh ⟨M,cR,a,v,x.length⟩ ⟨by show 1<=M;omega,Ht.2,OR,ve,vf,aE,iz,yW⟩ ?_;refine ax 121 (.bM [.aZ 3 eG ez (fE qb cR M),.b c3]) rfl (by rw[iU,Nu];rfl) (I ?_);refine aX abh ⟨M,cV,a,v,x.length⟩ ⟨by show 1<=M;omega,Ht.2,OQ,ve,vf,aE,iz,yW⟩ ?_;refine ax 130 (.bM [.aZ 3 eG ez (fE qb cV M),.b eP]) rfl (by rw[mm,<-ahb];rfl) ?_;have Hy:(!([lo,aa].any fN)&&(c3&&eP))=false->kc l x=⟨0,0,[],[],3⟩:=fun h=>e2.trans (DK.trans (zaa (by rw[<-iU,<-mm,h];decide)));refine ag 133 ?_;cases c3 with
  |false=>
   refine I ?_;exact aM rfl (zD (Hy (by simp)))
  |true=>
   refine ag 136 ?_;cases eP with
   |false=>
    refine I ?_;exact aM rfl (zD (Hy (by simp)))
   |true=>
    refine I ?_;refine aX zF lo (b2 wT) ?_;cases fg:fN lo with
    |true=>
     refine ev 141 (b:=true) fg (I ?_);exact aM rfl (zD (Hy (by simp[fg])))
    |false=>
     refine ev 141 (b:=false) fg (I ?_);refine aX zF aa (b2 wP) ?_;cases e1:fN aa with
     |true=>
      refine ev 145 (b:=true) e1 (I ?_);exact aM rfl (zD (Hy (by simp[e1])))
     |false=>
      refine ev 145 (b:=false) e1 ?_;have qM:kc l x=⟨lo,aa,fE qb cR M,fE qb cV M,0⟩:=e2.trans (DK.trans (zab (by rw[<-iU,<-mm];simp[fg,e1])));refine I ?_;exact aM rfl (.of (by show _=E6 (kc l x);rw[qM];rfl))
 have TR:g k-lo=cR k:=by rw[pV]
 have TQ:aa-g k=cV k:=by rw[yy]
 have lA:=Cl k cR;have M0:=Cl k cV;rw[<-Eh]at lA;rw[<-jM]at M0;rcases us with _|⟨u,us⟩<;>rcases vs with _|⟨w,vs⟩
 ·refine ag 93 ?_;refine ax 93 (.i .i64 (M:Int)) rfl (by rw[eu]) (ag 94 ?_);refine v1 94 (show(k:Int)<(M:Int) by omega) (I ?_);refine dp (g k) (di g iK) ?_;refine I ?_;refine bC xc (g k,lo) ⟨cC (da (az k iK)),cC (da wT)⟩ (I ?_);refine L9 cN [cR k] (eR (R:=cN) [cR k] (by rw[<-TR])) ?_;refine I ?_;refine dp (g k) (di g iK) ?_;refine I ?_;refine bC xc (aa,g k) ⟨cC (da wP),cC (da (az k iK))⟩ (I ?_);refine L9 cN [cV k] (eR (R:=cN) [cV k] (by rw[<-TQ])) ?_;refine ag 96 ?_;refine b3 96 ((k+1:Nat):Int) (I ?_);exact aU [0,1,2,3,4,6,8] (k+1,[cR k],[cV k]) ⟨by show M-(k+1)<M-k;omega,iK,lA.symm,M0.symm⟩ bo
 ·exfalso;simp at km Ej;omega
 ·exfalso;simp at km Ej;omega
 ·refine ag 93 ?_;refine ax 93 (.i .i64 (M:Int)) rfl (by rw[eu]) (ag 94 ?_);refine v1 94 (show(k:Int)<(M:Int) by omega) (I ?_);refine dp (g k) (di g iK) ?_;refine I ?_;refine bC xc (g k,lo) ⟨cC (da (az k iK)),cC (da wT)⟩ (I ?_);refine L8 (R:=cN) [cR k] (eR (R:=cN) [cR k] (by rw[<-TR])) ?_ (hn:=by simp) (hb:=by show(5*(us.length+1+1)+1792)*57<=1125899906842624;simp at km Ej;omega);refine ax 105 (.aN _ 3 0 ((us++[cR k]).length+1) ((us++[cR k]).length+1)) rfl (sw (by simp)) (I ?_);refine dp (g k) (di g iK) ?_;refine I ?_;refine bC xc (aa,g k) ⟨cC (da wP),cC (da (az k iK))⟩ (I ?_);refine L8 (R:=cN) [cV k] (eR (R:=cN) [cV k] (by rw[<-TQ])) ?_ (hn:=by simp) (hb:=by show(5*(vs.length+1+1)+1792)*57<=1125899906842624;simp at km Ej;omega);refine ax 114 (.aN _ 3 0 ((vs++[cV k]).length+1) ((vs++[cV k]).length+1)) rfl (sw (by simp)) (ag 96 ?_);refine b3 96 ((k+1:Nat):Int) (I ?_);exact aU [0,1,2,3,4,8,10] (k+1,u::(us++[cR k]),w::(vs++[cV k])) ⟨by show M-(k+1)<M-k;omega,iK,lA.symm,M0.symm⟩ bo
set_option maxHeartbeats 16000000
theorem QQ{mk:Rat->Nat->fQ}{g:Nat->Rat}:∀{k:Nat} {s:eG},s∈fE mk g k->∃j,j<k∧s=(mk (g j) j).dx
 |0,s,h=>by cases h
 |k+1,s,h=>by
  unfold fE at h;split at h
  ·obtain⟨j,h1,h2⟩:=QQ h;exact⟨j,by omega,h2⟩
  ·rcases zbw.1 h with h|h
   ·obtain⟨j,h1,h2⟩:=QQ h;exact⟨j,by omega,h2⟩
   ·exact⟨k,zbp k,zcD.1 h⟩
theorem adh{x dQ:Nat}{f:Nat->Rat}:∀m,(lJ x dQ f m).length<=m∧∀t,t∈lJ x dQ f m->t.cp.length=dQ
 |0=>⟨zae _,fun t h=>by cases h⟩
 |m+1=>by
  obtain⟨h1,h2⟩:=adh (x:=x) (dQ:=dQ) (f:=f) m;unfold lJ;split
  ·exact⟨by omega,h2⟩
  ·refine⟨by rw[zaE];simp;omega,fun t aF=> ?_⟩;rcases zbw.1 aF with h|h
   ·exact h2 t h
   ·rw[zcD.1 h];unfold FN;rw[zbj,zav]
def ata{S:fQ}(h1:S.n<=17)(h2:S.k<=S.n)(ab:S.ht<=1048576):vO S.dx:=by
 obtain⟨a,b⟩:=adh (x:=S.x) (dQ:=S.ht) (f:=S.f) S.m;have hm:S.m<=18:=by unfold fQ.m;omega
 refine⟨?_,fun t aF=> ?_⟩
 ·show(lJ S.x S.ht S.f S.m).length*40<=140737488355328;omega
 ·show t.cp.length*8<=140737488355328;rw[b t aF];omega
structure F0(r:CC):Prop where
 lo:ba 400000 r.lo
 aa:ba 400000 r.aa
 low:mI 48 vO r.low
 high:mI 48 vO r.high
def GJ{e:Int}:F0 ⟨0,0,[],[],e⟩:=⟨b2 (lF 0 (by decide) (by decide)),b2 (lF 0 (by decide) (by decide)),⟨by simp,fun s h=>by cases h⟩,⟨by simp,fun s h=>by cases h⟩⟩
def afW{c:Nat->Rat}{N:Nat}{a:c2}{v dQ:Nat}(fq:2<=N)(ym:N<=17)(hc:∀i,i<N->ba 100000 (c i))(aa:dQ<=1048576):F0 (xX c N a v dQ):=by
 obtain⟨M,e3⟩:∃M,M=iw N:=⟨_,rfl⟩;have Ht:2<=M∧M<=18:=by rw[e3];unfold iw;split<;>omega
 have az:∀y,y∈aY (iw N) (nj c N)->ba 400000 y:=fun y ay=>by
  obtain⟨i,aa,rfl⟩:=acT ay;exact b2 (My fq ym hc i aa)
 have yz:aY (iw N) (nj c N)≠[]:=fun e=>by have:=eu (iw N) (nj c N);rw[e,<-e3]at this;simp at this;omega
 have a2:∀g,mI 48 vO (fE (fun(d:Rat) (k:Nat)=>(⟨d,iw N-1,k,a,v,dQ⟩:fQ)) g (iw N)):=fun g=>by
  refine⟨?_,fun s af=> ?_⟩
  ·have:=zP (fun(d:Rat) (k:Nat)=>(⟨d,iw N-1,k,a,v,dQ⟩:fQ)) g (iw N);show _*48<=140737488355328;rw[<-e3]at this⊢;omega
  ·obtain⟨j,hj,rfl⟩:=QQ af;exact ata (by show iw N-1<=17;omega) (by show j<=iw N-1;omega) aa
 have key:∀(b:Bool) aH aI,F0 (if b=true then⟨EF (aY (iw N) (nj c N)),EG (aY (iw N) (nj c N)),fE (fun(d:Rat) (k:Nat)=>(⟨d,iw N-1,k,a,v,dQ⟩:fQ)) aH (iw N),fE (fun(d:Rat) (k:Nat)=>(⟨d,iw N-1,k,a,v,dQ⟩:fQ)) aI (iw N),0⟩else⟨0,0,[],[],3⟩):=fun b aH aI=>by
  split
  ·exact⟨az _ (IM Y6 yz),az _ (IM Zb yz),a2 _,a2 _⟩
  ·exact GJ
 exact key _ _ _
def afX(J:x.length<=1048576):F0 (kc l x):=by
 by_cases dF:hW l x=0
 case neg=>rw[show kc l x=⟨0,0,[],[],hW l x⟩from zaa dF];exact GJ
 have a7:kc l x=_:=zab dF;obtain⟨hb,aF,ei⟩:=S9 dF;have gd:kA l x=aY x.length (cM l):=zab dF;rw[gd]at a7;rcases KJ (cM l) x.length with⟨aB,_⟩|⟨v,aB,ak⟩
 ·rw[a7.trans (zab (by rw[aB];decide))];exact GJ
 have iz:v<x.length:=ak.lt;have aq:=a7.trans (zaa (by rw[aB];omega));rw[aB,zcj,bE ak.lt]at aq;have aq:kc l x=if(ej x[v]).1=(ej x[v]).2 then⟨0,0,[],[],8⟩else xX (qw l x) (ck (cM l) x.length) (ej x[v]) v x.length:=aq;rw[aq];split
 ·exact GJ
 ·have h1:=ak.ck.1;have h2:=ak.pos;have ab:=ei.ao v;exact afW (by omega) (by omega) (LS hb aF ak) J
def ZB:bN where
 L:=Rat
 args:=fun x=>[c8 x,ca x]
 pre:=fun x=>ba 400000 x
 res:=fun _=>.b true
 hp:=iQ
 hm:=iQ.up
def ZA:bw a4.ctx 7 ZB.spec:=by
 refine pK [(37,Qx.spec),(38,JF.spec)] gb.1 ?_;intro(x:Rat) (J:ba _ x) H aK gx;refine I ?_;refine bC Qy x (b2 J) (I ?_) (hh:=gx);refine bC rb x (cC (da J)) (ag 9 ?_);refine ax 9 (.b true) rfl (by rw[zbT]) (I ?_);exact aM rfl (.refl _)
def SV:bN where
 L:=me
 args:=fun c=>[.aZ 6 me oj [c]]
 pre:=fun _=>True
 res:=fun c=>.agg (y3 ⟨0,0,[],[c],[]⟩)
def SW:bw a4.ctx 9 SV.spec:=by
 refine bZ [] sV.1 ?_;intro(c:me) _ H aK;refine I ?_;exact aM rfl (.agg ⟨.refl _,.refl _,.refl _,.bb,bV.nl.trans .bb,trivial⟩)
def ZL:bN where
 L:=rz
 args:=fun x=>[.aZ 5 rz y3 [x]]
 pre:=fun _=>True
 res:=fun x=>.agg (E2 ⟨[x],[],[],[]⟩)
def ZK:bw a4.ctx 40 ZL.spec:=by
 refine bZ [] V6.1 ?_;intro(x:rz) _ H aK;refine I ?_;exact aM rfl (.refl _)
def abY:bN where
 L:=rz
 args:=fun x=>[.agg (y3 x),.agg (y3 x)]
 pre:=CI
 res:=fun _=>.b true
def arP:bw a4.ctx 8 abY.spec:=by
 refine bZ [(40,ZL.spec),(39,JP.spec)] nV.1 ?_;intro(x:rz) (J:CI x) H aK;have av:RB ⟨[x],[],[],[]⟩:=⟨by show 1*80<=140737488355328;decide,fun y ay=>by rw[zcD.1 ay];exact J⟩;refine I ?_;refine GM ZK y3 6 2 [x] x trivial ?_;refine I ?_;refine GM ZK y3 9 3 [x] x trivial ?_;refine I ?_;refine bC aqG (⟨[x],[],[],[]⟩,⟨[x],[],[],[]⟩) av ?_;refine ax 11 (.b true) rfl (jU (ahp _)) (I ?_);exact aM rfl (.refl _)
def QH(G:bu->Prop)(eh:∀{H a5:bu},dj H a5->G H->G a5):bN where
 L:=Unit
 args:=fun _=>[]
 pre:=fun _=>True
 res:=fun _=>.b true
 hp:=G
 hm:=eh
def Ok(G:bu->Prop)(eh:∀{H a5:bu},dj H a5->G H->G a5):bN where
 L:=ac b5×ac cI
 args:=fun(l,x)=>[.bb 2 b5 c5 l,.bb 2 cI gh x]
 pre:=fun(l,x)=>qo l∧rB x
 res:=fun _=>.b true
 hp:=G
 hm:=eh
def an8{G:bu->Prop}{eh:∀{H a5:bu},dj H a5->G H->G a5}(eZ:∀{H},G H->iQ H)(bX:bw a4.ctx 10 (QH G eh).spec):bw a4.ctx 3 (Ok G eh).spec:=by
 refine L6 a4.hO jf (b8 [(5,GH.spec),(6,PV.spec),(7,ZB.spec),(9,SV.spec),(8,abY.spec),(10,(QH G eh).spec)]) (xf:=bj.1) (by kernel_rfl) (fun l=>kv rfl) ?_;intro⟨l,x⟩ ⟨(hl:qo l),(J:rB x)⟩ H aK gx;have gz:=eZ gx;have av:=afX (l:=l) J.1;refine I ?_;refine aX afR (l,x) ⟨hl,J⟩ ?_ (hh:=gz);refine ax 20 (AE (kc l x)) rfl rfl ?_;obtain⟨r,aL⟩:∃r,r=kc l x:=⟨_,rfl⟩;rw[<-aL]at av⊢;refine I ?_;refine aX aqn (l,x) ⟨hl,J⟩ ?_;refine ax 29 (E6 r) rfl (by rw[aL];rfl) ?_;obtain⟨c,hc⟩:∃c:me,c=⟨0,[],[],[],r.low,r.high⟩:=⟨_,rfl⟩;have Yy:bV (.agg [.i .i64 0,.s [],.s [],.s [],.aZ 3 eG ez r.low,.aZ 3 eG ez r.high]) (.agg (oj c)):=by rw[hc];exact .agg ⟨.refl _,.refl _,.refl _,.refl _,.bb,.bb,trivial⟩
 have atL:CI ⟨0,0,[],[c],[]⟩:=⟨⟨by show 1*104<=140737488355328;decide,fun y ay=>by rw[zcD.1 ay,hc];exact⟨av.low,av.high⟩⟩,⟨by simp,fun s h=>by cases h⟩⟩;refine ag 37 ?_;refine dS 37 (.agg (oj c)) rfl Yy ?_;refine ag 40 ?_;refine dS 40 (.agg (oj c)) rfl Yy ?_;refine ag 43 ?_;refine dO 43 (.b true) rfl rfl (jU (zad rfl)) ?_;refine I ?_;refine bC ZA r.lo av.lo (I ?_) (hh:=gz);refine bC ZA r.aa av.aa (I ?_) (hh:=gz);refine GM SW oj 56 6 [c] c trivial ?_;refine I ?_;refine GM SW oj 59 7 [c] c trivial ?_;refine I ?_;refine bC arP ⟨0,0,[],[c],[]⟩ atL (I ?_);refine bC bX () trivial (I ?_) (hh:=gx);exact aM rfl (.refl _)
end Go.ah.aW
namespace Go.ah.aW
open Go.ah Go.ah.gk
set_option maxRecDepth 100000
theorem YV{h:an bt}{s:dd}:∀(os:ac (Nat×bt)),(∀o∈os,s.cO.get o.1=some o.1∧h.get o.1=some o.2∧u9 o.2 o.2 s=some s)->za h os s=some s
 |[],_=>rfl
 |o::os,hh=>by
  obtain⟨h1,h2,ab⟩:=hh o (by simp);show bm (s.cO.get o.1) (fun j=>bm (h.get j) (fun p=>bm (u9 o.2 p s) (za h os) none) none) none=_;rw[h1,Sym.e6,h2,Sym.e6,ab,Sym.e6];exact YV os fun p hp=>hh p (zaB _ hp)
def Hp{Q:Nat×bt->Prop}(h0:Q re)(h2:Q n6)(dq:Q BZ):∀p∈kK.gs,Q p:=fun p hp=>by
 have hp:p∈[re,n6,BZ]:=hp;simp only[zap,List.not_mem_nil,or_false]at hp;rcases hp with rfl|rfl|rfl<;>assumption
def ka(H:bu):Prop:=∀p∈kK.gs,H p.1=some p.2
variable{H:bu}{st:au}
def ka.up{a5:bu}(h:dj H a5)(aO:ka H):ka a5:=fun p hp=>h _ _ (aO p hp)
def W2:∀p∈kK.gs,k8.cO.get p.1=some p.1∧u9 p.2 p.2 k8=some k8:=
 Hp ⟨by kernel_rfl,by kernel_rfl⟩ ⟨by kernel_rfl,by kernel_rfl⟩ ⟨by kernel_rfl,by kernel_rfl⟩
def aen{s:dd}{gs:ac (Nat×bt)}{aG:Nat}{t:Bool}(hc:s.a6<=aG)(h:za st.h gs s=some s):(⟨[],gs,[],.bool t,[],aG⟩:ec).app s [] st=some (.ret (.bool t) ⟨st.h,st.aj+(aG-s.a6)⟩ false):=by
 unfold ec.app;show bm (za st.h gs s) _ none=_;rw[h,Sym.e6];show cond (Nat.beq s.a6 (Nat.add s.a6 0)) (cond (Nat.ble s.a6 aG) (g4 (Nat.add st.aj (Nat.sub aG s.a6)) fun n=>some (eb.ret (.bool t) ⟨st.h,n⟩ false)) none) none=_;rw[show Nat.beq s.a6 (Nat.add s.a6 0)=true from zaN _,show Nat.ble s.a6 aG=true from zdA hc];show g4 (Nat.add st.aj (Nat.sub aG s.a6)) (fun n=>some (eb.ret (.bool t) ⟨st.h,n⟩ false))=_;unfold g4;rw[zaN];rfl
def ao5:k8.a6<=12721:=by rw[oK.2.1];exact kv (by kernel_rfl)
def ar4(h:∀p∈kK.gs,st.h.get p.1=some p.2):kK.app k8 [] st=some (.ret (.bool true) ⟨st.h,st.aj+(12721-k8.a6)⟩ false):=
 aen (gs:=kK.gs) ao5 (YV kK.gs fun o ak=>⟨(W2 o ak).1,h o ak,(W2 o ak).2⟩)
def ar5:bw a4.ctx 10 (QH ka ka.up).spec:=by
 rintro vs st ⟨⟨l,H⟩,_,gx,ar,ao⟩;have ao:vs=[]:=ao;subst ao;refine⟨.bool true,⟨st.h,st.aj+(12721-k8.a6)⟩,?_,?_⟩
 ·rintro⟨l',a5⟩ ⟨_,ave,dG,_⟩;have hw:∀b,st.aj+(12721-k8.a6)<=b->st.h.get b=none:=fun b hb=>dG.wf b (by omega);exact⟨a5,⟨hw,dG.le,rfl,rfl,zdS,fun b hb=>by simp at hb,fun k o b hk=>by simp at hk⟩,⟨dj.refl _,fun _ _ _=>rfl,fun _ _ _=>rfl,zcG _ _,dk.refl _,fun b hb=>.inl hb⟩,rfl⟩
 ·intro ι as' w ha hw;exact RQ R4 oK.1 oK.2.1 oK.2.2 (ar4 fun p hp=>ar.le _ _ (gx p hp)) ι as' w ha hw
theorem Tt{H:bu}{k:d8}:∀l:ac Int,dH H (l.map fun n=>.i k n) [] (l.map fun n=>Value.int k n)
 |[]=>rfl
 |n::l=>⟨_,_,rfl,rfl,Tt l⟩
def aqf:n6=(2,.cells ((List.range 20).map fun k=>Value.int .u64 ((10^k:Nat):Int)) 383 (0,20) false):=by kernel_rfl
def akF(h:ka H):iQ H:=by
 have bg:=h n6 (by show n6∈[re,n6,BZ];simp);rw[aqf]at bg;refine⟨_,_,_,_,bg,fun a5=> ?_⟩;have:=Tt (H:=a5) (k:=.u64) ((List.range 20).map fun k=>((10^k:Nat):Int));rw[zch,zch]at this;exact this
def Yt:bw a4.ctx 3 (Ok ka ka.up).spec:=an8 (fun h=>akF h) ar5
