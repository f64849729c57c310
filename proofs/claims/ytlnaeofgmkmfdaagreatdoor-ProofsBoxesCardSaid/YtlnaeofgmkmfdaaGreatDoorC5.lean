/- What the functions of the program and of the document compute, for every input (part 5); conditions as in the statements. -/
import Derived.Test.YtlnaeofgmkmfdaaGreatDoorC4
import Derived.Test.YtlnaeofgmkmfdaaGreatDoorZ
set_option linter.all false
namespace Go.an.a7
open Go.an
set_option maxRecDepth 100000
set_option maxHeartbeats 4000000
def nR(s:ac ce):ac aj:=[.s s]
section
variable{p:cz}{q:ew}{ins:ac (ac ce)}{fS:ac Nat}{bh:ac (ac bZ)}{c:Int}
variable{xs:ac Rat}
def TZ(h:gZ p q=(fS,bh,c))(hc:c≠0):nm p q ins=(0,c):=by
 unfold nm;rw[h];exact zaa hc
def TY(h:gZ p q=(fS,bh,0))(hl:ins.length≠p.ins.length):nm p q ins=(0,2):=by
 unfold nm;rw[h];exact(zab rfl).trans (zaa hl)
def HE(h:gZ p q=(fS,bh,0))(hl:ins.length=p.ins.length)(hn:kN ins=none):nm p q ins=(0,6):=by
 unfold nm;rw[h,hn];exact(zab rfl).trans (zab hl)
def T0(h:gZ p q=(fS,bh,0))(hl:ins.length=p.ins.length)(hn:kN ins=some xs)(ae:¬0<=jG xs bh 0):nm p q ins=(0,7):=by
 unfold nm;rw[h,hn];refine(zab rfl).trans ((zab hl).trans ?_);show(match fS[(jG xs bh 0).toNat]? with|some i=>if 0<=jG xs bh 0 then((i:Int),(0:Int))else(0,7)|none=>(0,7))=_;cases fS[(jG xs bh 0).toNat]? with
 |none=>rfl
 |some i=>exact zaa ae
def T1(h:gZ p q=(fS,bh,0))(hl:ins.length=p.ins.length)(hn:kN ins=some xs){k i:Nat}(ae:jG xs bh 0=(k:Int))(ab:fS[k]? =some i):nm p q ins=((i:Int),0):=by
 unfold nm;rw[h,hn];refine(zab rfl).trans ((zab hl).trans ?_);show(match fS[(jG xs bh 0).toNat]? with|some i=>if 0<=jG xs bh 0 then((i:Int),(0:Int))else(0,7)|none=>(0,7))=_;rw[ae,zbb,ab];exact zab (Int.natCast_nonneg k)
end
variable{s:ac ce}{x:Rat}
theorem Yk(xs:ac Rat):∀(l:ac (ac bZ)) (k:Nat),jG xs l k= -1∨∃j,jG xs l k=((k+j:Nat):Int)∧j<l.length
 |[],k=>.inl rfl
 |b::l,k=>by
  unfold jG;by_cases h:n6 b xs=true
  ·rw[zab h];exact .inr ⟨0,rfl,zdt _⟩
  ·rw[zaa h];rcases Yk xs l (k+1)with e|⟨j,e,hj⟩
   ·exact .inl e
   ·exact .inr ⟨j+1,by rw[e];congr 1;omega,Nat.succ_lt_succ hj⟩
def LK{p:cz}{q:ew}(ah:sN p)(oI:KV q){fS:ac Nat}{bh:ac (ac bZ)}{c:Int}(h:gZ p q=(fS,bh,c)):(∀b∈bh,mz p b)∧fS.length=bh.length∧bh.length<=q.bt.length:=by
 have z:∀{d:Int},(([]:ac Nat),([]:ac (ac bZ)),d)=(fS,bh,c)->(∀b∈bh,mz p b)∧fS.length=bh.length∧bh.length<=q.bt.length:=fun h=>by
  cases h;exact⟨fun b hb=>absurd hb zce,rfl,zaf _⟩
 unfold gZ at h;split at h
 ·rename_i h0;split at h
  ·split at h
   ·exact z h
   ·rename_i j a b hl;cases h;unfold mi xd at hl;split at hl
    ·cases hl
    ·rename_i j a b aV;split at hl
     ·cases hl;have hi:∀t x,t∈q.bt->gz p t x=0->lS t≠true->mz p x->mz p (gQ t x)∧mz p (g5 t x):=fun t x aV he af aM=>D6 (oI t aV) he af aM;obtain⟨g1,aP⟩:=QC hi (Qb h0 ah) aV;obtain⟨_,_,bd⟩:=Ge aV;obtain⟨_,cu⟩:=CK aV;exact⟨g1,aP,by omega⟩
     ·cases hl
  ·exact z h
 ·exact z h
theorem Fg:∀{l:ac (ac ce)} {xs:ac Rat},kN l=some xs->xs.length=l.length
 |[],_,h=>by cases h;rfl
 |r::l,xs,h=>by
  unfold kN at h;split at h
  ·rename_i I U;cases h;rw[zay,zay,Fg U]
  ·cases h
theorem ZC:∀{l:ac (ac ce)} {xs:ac Rat},(∀s∈l,s.length<=2000)->kN l=some xs->CY xs
 |[],_,_,h=>by cases h;exact fun x aa=>absurd aa zce
 |r::l,xs,ah,h=>by
  unfold kN at h;split at h
  ·rename_i I U;cases h;intro x aa;rcases zah.1 aa with rfl|aa
   ·exact so (ah r zbf) I
   ·exact ZC (fun s dP=>ah s (zaC _ dP)) U x aa
  ·cases h
def Je{l:ac (ac ce)}:∀{k:Nat} (ab:k<l.length),cF l[k]=none->kN l=none:=by
 induction l with
 |nil=>intro k ab;exact absurd ab (zcr _)
 |cons r l ba=>
  intro k ab h;unfold kN;cases k with
  |zero=>rw[show cF r=none from h]
  |succ k=>
   rw[ba (Nat.lt_of_succ_lt_succ ab) h];cases cF r<;>rfl
theorem OR:∀{l:ac (ac ce)} {xs:ac Rat} {r:ac ce} {x:Rat},kN l=some xs->cF r=some x->kN (l++[r])=some (xs++[x])
 |[],_,r,x,h,aa=>by cases h;show(match cF r,some []with|some x,some xs=>some (x::xs)|_,_=>none)=_;rw[aa];rfl
 |s::l,xs,r,x,h,aa=>by
  unfold kN at h;split at h
  ·rename_i I U;cases h;show(match cF s,kN (l++[r])with|some x,some xs=>some (x::xs)|_,_=>none)=_;rw[I,OR U aa];rfl
  ·cases h
def aiD(p:cz)(q:ew)(ins:ac (ac ce))(fS:ac Nat)(bh:ac (ac bZ)):Nat×ac Rat->cB
 |(k,[])=>⟨[.c 27 (eS p),.c 31 (h8 q),.c 34 [.bq 1 (ac ce) nR ins],.c 3 [.i .i64 0],.c 37 [.bq 1 Nat iA fS],.c 38 [.bq 1 (ac bZ) eP bh],.c 95 [.nl]],7,[(0,.p 2 0),(1,.p 0 0),(2,.p 5 0),(3,.p 4 0),(4,.p 3 0),(5,.p 6 0),(16,.bq 1 (ac ce) nR ins),(17,.i .i64 (ins.length:Int)),(18,.i .i64 (k:Int))]⟩
 |(k,d::ds)=>⟨[.c 27 (eS p),.c 31 (h8 q),.c 34 [.bq 1 (ac ce) nR ins],.c 3 [.i .i64 0],.c 37 [.bq 1 Nat iA fS],.c 38 [.bq 1 (ac bZ) eP bh],.c 95 [.a5 7 3 0 (ds.length+1) (ds.length+1)],.a 64 true 3 Rat hN (d::ds)],8,[(0,.p 2 0),(1,.p 0 0),(2,.p 5 0),(3,.p 4 0),(4,.p 3 0),(5,.p 6 0),(16,.bq 1 (ac ce) nR ins),(17,.i .i64 (ins.length:Int)),(18,.i .i64 (k:Int))]⟩
def Pl:bU where
 L:=cz×ew×ac (ac ce)
 args:=fun(p,q,ins)=>[jc p,.agg (h8 q),.bq 1 (ac ce) nR ins]
 pre:=fun(p,q,ins)=>Ab p q∧ins.length<=1000∧∀s∈ins,s.length<=2000
 res:=fun(p,q,ins)=>.bn [.i .i64 (nm p q ins).1,.i .i64 (nm p q ins).2]
 hp:=l6
 hm:=l6.up
def au6{own:ac aY}{n p m:Nat}{e bS:bQ}{a b c d f g o r:aY}(h:kZ [0,1,2,3,4,5,6,m] bS e)(h0:∃a8,own[0]? =some a8∧gm [0,1,2,3,4,5,6,m] a a8)(I:∃a8,own[1]? =some a8∧gm [0,1,2,3,4,5,6,m] b a8)(U:∃a8,own[2]? =some a8∧gm [0,1,2,3,4,5,6,m] c a8)(ag:∃a8,own[3]? =some a8∧gm [0,1,2,3,4,5,6,m] d a8)(au:∃a8,own[4]? =some a8∧gm [0,1,2,3,4,5,6,m] f a8)(a0:∃a8,own[5]? =some a8∧gm [0,1,2,3,4,5,6,m] g a8)(b5:∃a8,own[6]? =some a8∧gm [0,1,2,3,4,5,6,m] o a8)(cY:∃a8,own[m]? =some a8∧gm [0,1,2,3,4,5,6,m] r a8)(hm:6<m:=by decide)(hp:pinned p [0,1,2,3,4,5,6,m] 0=true:=by rfl):Sub p [0,1,2,3,4,5,6,m] ⟨own,n,e⟩ ⟨[a,b,c,d,f,g,o,r],8,bS⟩:=⟨by simp;omega,rfl,⟨h0,I,U,ag,au,a0,b5,cY,trivial⟩,h,hp⟩
def arc:bD aX.ctx 10 Pl.spec:=by
 refine Ds [(6,Pk.spec),(30,BV.spec),(31,Ff.spec),(32,Se.spec)] qU.1 ?_;intro⟨p,q,ins⟩ ⟨⟨hp,hq,oI⟩,yN,Eg⟩ H aN fc;obtain⟨⟨fS,bh,c⟩,jQ⟩:∃r,gZ p q=r:=⟨_,rfl⟩;obtain⟨aM,XE,Bk⟩:=LK hp oI jQ;have NL:q.bt.length<=20:=hq.1;have fin:∀{eF e5:Int},nm p q ins=(eF,e5)->b7 (.bn [.i .i64 eF,.i .i64 e5]) (Pl.res (p,q,ins)):=fun h=>.of (by show _=aj.bn _;rw[h]);refine J ?_;refine a9 aax (p,q) ⟨hp,hq,oI⟩ ?_ (hh:=fc);refine aB 13 (.bn [.bq 1 Nat iA fS,.bq 1 (ac bZ) eP bh,.i .i64 c]) rfl (by show aj.bn _=_;rw[jQ]) (av 18 ?_);by_cases hc:c=0
 case neg=>
  refine v1 18 hc (J ?_);exact aA rfl (fin (TZ jQ hc))
 subst hc;refine v0 18 (gH rfl) (J ?_);refine aso (n:=4611686018427387902) (by unfold b0;rfl) (g1:=62) (t:=39) (ts:=152) Vv.1 (by kernel_rfl) (by kernel_rfl) (by kernel_rfl) ?_;intro H1 i1 s1 il hle;have il:i1.length=6:=il;refine av 14 ?_;by_cases hl:ins.length=p.ins.length
 case neg=>
  refine v0 14 (show¬(ins.length:Int)=(p.ins.length:Int) by omega) (J ?_);refine tN gj (false,2) trivial (dL 2) rfl ?_;refine J ?_;refine c8 (.inr ⟨2,rfl,?_⟩);refine J ?_;exact aA rfl (fin (TY jQ hl))
 refine v1 14 (show(ins.length:Int)=(p.ins.length:Int) by omega) (J ?_);refine xE gj (true,2) trivial (.bn []) rfl (J ?_);refine nH (L:=ac Rat) (fun xs=>kN ins=some xs) (fun xs=>⟨[.c 27 (eS p),.c 31 (h8 q),.c 34 [.bq 1 (ac ce) nR ins],.c 3 [.i .i64 0],.c 37 [.bq 1 Nat iA fS],.c 38 [.bq 1 (ac bZ) eP bh],.c 95 [.bq 3 Rat hN xs]],7,[(0,.p 2 0),(1,.p 0 0),(2,.p 5 0),(3,.p 4 0),(4,.p 3 0),(5,.p 6 0)]⟩) ?_ ?_
 ·refine df (L:=Nat×ac Rat) (fun(k,xs)=>k<=ins.length∧kN (ins.take k)=some xs) (aiD p q ins fS bh) (fun l=>ins.length-l.1) [0,1,2,3,4,5,6] (0,[]) ⟨zaf _,rfl⟩ (by show _-0<4611686018427387902+1;omega) (lk (by show pinned i1.length _ _=_;rw[il];rfl)) ?_;rintro⟨k,xs⟩ ⟨ab,ax⟩;by_cases aT:k<ins.length
  case neg=>
   rw[zau (by omega)]at ax;cases xs with
   |nil=>
    refine av 19 ?_;refine v0 19 (show¬(k:Int)<(ins.length:Int) by omega) ?_;refine ass 6 (cs:=[.nl]) [.bq 3 Rat hN []] ?_ ⟨.nl,trivial⟩;refine J ?_;exact br [0,1,2,3,4,5,6] [] ax (lk (by show pinned i1.length _ _=_;rw[il];rfl))
   |cons d ds=>
    refine av 19 ?_;refine v0 19 (show¬(k:Int)<(ins.length:Int) by omega) ?_;refine FN 6 7 ?_ (ha:=by exact Mw);refine J ?_;exact br [0,1,2,3,4,5,6] (d::ds) ax (lk (by show pinned i1.length _ _=_;rw[il];rfl))
  have jo:ins[k].length<=2000:=Eg _ (dp aT);cases aD:cF ins[k]with
  |none=>
   cases xs with
   |nil=>
    refine av 19 ?_;refine v1 19 (show(k:Int)<(ins.length:Int) by omega) (J ?_);refine dv ins[k] (bg aT) ?_;refine J ?_;refine ij m1 ins[k] jo (dL 6) (xl aD) ?_;refine J ?_;refine c8 (.inr ⟨6,rfl,?_⟩);refine J ?_;exact aA rfl (fin (HE jQ hl (Je aT aD)))
   |cons d ds=>
    refine av 19 ?_;refine v1 19 (show(k:Int)<(ins.length:Int) by omega) (J ?_);refine dv ins[k] (bg aT) ?_;refine J ?_;refine ij m1 ins[k] jo (dL 6) (xl aD) ?_;refine J ?_;refine c8 (.inr ⟨6,rfl,?_⟩);refine J ?_;exact aA rfl (fin (HE jQ hl (Je aT aD)))
  |some x=>
   have eJ:kN (ins.take (k+1))=some (xs++[x]):=by rw[zaP aT];exact OR ax aD
   have r7:=Fg ax;have r7:xs.length<=1000:=by rw[r7,zao];omega
   cases xs with
   |nil=>
    refine av 19 ?_;refine v1 19 (show(k:Int)<(ins.length:Int) by omega) (J ?_);refine dv ins[k] (bg aT) ?_;refine J ?_;refine lM m1 ins[k] jo (dz x) (tx aD) (J ?_);refine AI hN [x] (h9 (R:=hN) [x] rfl) ?_;refine av 27 ?_;refine eY 27 ((k+1:Nat):Int) (J ?_);exact br [0,1,2,3,4,5,6,8] (k+1,[x]) ⟨by show _-(k+1)<_-k;omega,aT,eJ⟩ (lk (by show pinned i1.length _ _=_;rw[il];rfl))
   |cons d ds=>
    have iT:ds.length+1<=1000:=r7;refine av 19 ?_;refine v1 19 (show(k:Int)<(ins.length:Int) by omega) (J ?_);refine dv ins[k] (bg aT) ?_;refine J ?_;refine lM m1 ins[k] jo (dz x) (tx aD) (J ?_);refine wv (R:=hN) [x] (h9 (R:=hN) [x] rfl) ?_ (hb:=by show(5*(ds.length+1+1)+1792)*57<=_;omega);refine av 27 ?_;refine eY 27 ((k+1:Nat):Int) (J ?_);exact br [0,1,2,3,4,5,6,9] (k+1,d::(ds++[x])) ⟨by show _-(k+1)<_-k;omega,aT,eJ⟩ (au6 ⟨rfl,rfl,rfl,rfl,rfl,rfl,rfl,rfl,rfl,trivial⟩ ⟨_,rfl,rfl⟩ ⟨_,rfl,rfl⟩ ⟨_,rfl,rfl⟩ ⟨_,rfl,rfl⟩ ⟨_,rfl,rfl⟩ ⟨_,rfl,rfl⟩ ⟨_,rfl,by show aY.c _ [.a5 9 3 0 _ _]=aY.c _ [.a5 9 3 0 _ _];rw[zap];rfl⟩ ⟨_,rfl,rfl,fun _=>rfl⟩ (hp:=by show pinned i1.length _ _=_;rw[il];rfl))
 ·intro xs nt;have r7:=Fg nt;have kH:(∀b∈bh,(∀s∈b,Af s)∧b.length=xs.length∧b.length<=1000)∧bh.length<=1000∧CY xs:=⟨fun b hb=>by
   obtain⟨g1,aP⟩:=aM b hb;exact⟨aP,by rw[g1,r7,hl],by rw[g1,<-hl];exact yN⟩,by omega,ZC Eg nt⟩
  refine av 28 ?_;refine P2 5 ?_;refine J ?_;refine a9 ae1 (bh,xs) kH ?_;rcases Yk xs bh 0 with e|⟨k,e,ab⟩
  ·refine aB 30 (.i .i64 (-1)) rfl (by show aj.i .i64 (jG xs bh 0)=_;rw[e]) (J ?_);refine tN gj (false,7) trivial (dL 7) rfl ?_;refine J ?_;refine c8 (.inr ⟨7,rfl,?_⟩);refine J ?_;exact aA rfl (fin (T0 jQ hl nt (by rw[e];decide)))
  rw[zas]at e;have Ej:k<fS.length:=by omega
  refine aB 30 (.i .i64 (k:Int)) rfl (by show aj.i .i64 (jG xs bh 0)=_;rw[e]) (av 32 ?_);refine v1 32 (show 0<=(k:Int) by omega) (J ?_);refine xE gj (true,7) trivial (.bn []) rfl (J ?_);refine dv fS[k] (bg Ej) ?_;refine J ?_;refine c8 (.inl ⟨.inl rfl,?_⟩);refine J ?_;exact aA rfl (fin (T1 jQ hl nt e (bg Ej)))
def x1:ac aj:=[.i .i64 0,.nl,.nl,.i .i64 0,.nl,.nl,.i .i64 0,.nl,.nl]
def sx(q:ew):ac aj:=match pS q with
 |some ((x,y),z)=>if ej x y<=0∧0<=z.num.sign then jI x++(jI y++jI z)else x1
 |none=>x1
def JQ:bU where
 L:=ew
 args:=fun q=>[.agg [.i .i64 0,.s q.aK,.s q.ae,.s q.err,.nl,.nl]]
 pre:=fun q=>q.aK.length<=2000∧q.ae.length<=2000∧q.err.length<=2000
 res:=fun q=>.bn [.agg (sx q),.i .i64 (l2 q)]
def tH(h:cF s=some x):nD s= .bn [cT x,.i .i64 0]:=by unfold nD;rw[h]
def Ce(h:cF s=none):nD s= .bn [cT 0,.i .i64 6]:=by unfold nD;rw[h]
def ar4:bD aX.ctx 68 JQ.spec:=by
 refine b3 [(35,vr.spec),(77,xz.spec),(152,abn.spec)] Wv.1 ?_;intro(q:ew) ⟨I,U,ag⟩ H aN;have no:pS q=none->b7 (.bn [.agg x1,.i .i64 6]) (JQ.res q):=fun h=>.of (by show _=aj.bn _;unfold sx l2;rw[h]);refine J ?_;refine a9 o3 q.aK I ?_;cases ha:cF q.aK with
 |none=>
  refine aB 11 (.bn [cT 0,.i .i64 6]) rfl (Ce ha) (J ?_);exact aA rfl (no (afM ha))
 |some x=>
 refine aB 11 (.bn [cT x,.i .i64 0]) rfl (tH ha) (J ?_);refine a9 o3 q.ae U ?_;cases hb:cF q.ae with
 |none=>
  refine aB 21 (.bn [cT 0,.i .i64 6]) rfl (Ce hb) (J ?_);exact aA rfl (no (afN ha hb))
 |some y=>
 refine aB 21 (.bn [cT y,.i .i64 0]) rfl (tH hb) (J ?_);refine a9 o3 q.err ag ?_;cases hc:cF q.err with
 |none=>
  refine aB 31 (.bn [cT 0,.i .i64 6]) rfl (Ce hc) (J ?_);exact aA rfl (no (afO ha hb hc))
 |some z=>
 refine aB 31 (.bn [cT z,.i .i64 0]) rfl (tH hc) ?_;have n5:=afP ha hb hc;have bad:¬(ej x y<=0∧0<=z.num.sign)->b7 (.bn [.agg x1,.i .i64 171]) (JQ.res q):=fun h=>.of (by
  show _=aj.bn _;unfold sx l2;rw[n5];show _=aj.bn [.agg (if ej x y<=0∧0<=z.num.sign then _ else x1),.i .i64 (if ej x y<=0∧0<=z.num.sign then 0 else 171)];rw[zaa h,zaa h])
 refine J ?_;refine a9 vt (x,y) ⟨jH (tI I ha),jH (tI U hb)⟩ (av 41 ?_);by_cases au:ej x y>0
 ·refine v1 41 au (J ?_);exact aA rfl (bad fun h=>by omega)
 refine v0 41 au (J ?_);refine a9 ar8 z trivial (av 45 ?_);by_cases a0:z.num.sign<0
 ·refine v1 45 a0 (J ?_);exact aA rfl (bad fun h=>by omega)
 refine v0 45 a0 (J ?_);exact aA rfl (.of (by
  show aj.bn [.agg (jI x++(jI y++jI z)),_]=aj.bn _;unfold sx l2;rw[n5];show _=aj.bn [.agg (if ej x y<=0∧0<=z.num.sign then _ else x1),.i .i64 (if ej x y<=0∧0<=z.num.sign then 0 else 171)];rw[zab ⟨by omega,by omega⟩,zab ⟨by omega,by omega⟩]))
def abr:bU where
 L:=ew
 args:=fun q=>[.agg (h8 q)]
 pre:=fun q=>GC q
 res:=fun q=>.i .i64 (l2 q)
def asD(q:ew):sx q=x1∨∃x y z,sx q=jI x++(jI y++jI z):=by
 unfold sx;split
 ·split
  ·exact .inr ⟨_,_,_,rfl⟩
  ·exact .inl rfl
 ·exact .inl rfl
def asc:bD aX.ctx 27 abr.spec:=by
 refine b3 [(68,JQ.spec)] Vk.1 ?_;intro(q:ew) ⟨I,U,ag,au⟩ H aN;refine av 8 ?_;refine v0 8 (show¬(q.bt.length:Int)>200 by omega) (J ?_);refine a9 ar4 q ⟨by omega,by omega,by omega⟩ ?_;rcases asD q with e|⟨x,y,z,e⟩
 ·refine aB 17 (.bn [.agg x1,.i .i64 (l2 q)]) rfl (by show aj.bn _=_;rw[e]) (J ?_);exact aA rfl (.refl _)
 ·refine aB 17 (.bn [.agg (jI x++(jI y++jI z)),.i .i64 (l2 q)]) rfl (by show aj.bn _=_;rw[e]) (J ?_);exact aA rfl (.refl _)
def XG:bU where
 L:=ac bZ×gX×Bool
 args:=fun(b,x,u)=>[.bq 2 bZ eu b,.agg (sd x),.b u]
 pre:=fun(b,x,_)=>b.length<=1000000∧∃k:Nat,x.dy=(k:Int)∧k<b.length
 res:=fun(b,x,u)=>.bq 2 bZ eu (if u=true then g5 x b else gQ x b)
def wZ:bD aX.ctx 70 XG.spec:=by
 refine b3 [] Wx.1 ?_;intro⟨b,⟨cM,dy,cut,bI,st⟩,u⟩ ⟨hb,k,uP,ab⟩ H aN;have uP:dy=(k:Int):=uP;subst uP;have hne:b≠[]:=ne_of_lt ab;have aM:b[k]? =some b[k]:=bg ab;have az:gQ ⟨cM,(k:Int),cut,bI,st⟩ b=b.set k (b[k].1,cut):=by
  unfold gQ;show b.set (k:Int).toNat (((b[(k:Int).toNat]?).getD ([],[])).1,cut)=_;rw[zbb,aM];rfl
 have e2:g5 ⟨cM,(k:Int),cut,bI,st⟩ b=b.set k (cut,b[k].2):=by
  unfold g5;show b.set (k:Int).toNat (cut,((b[(k:Int).toNat]?).getD ([],[])).2)=_;rw[zbb,aM];rfl
 refine J ?_;refine oi (z:=2) 1 eu ([]:ac bZ) ?_;refine pF 8 (.a5 1 2 0 0 0) rfl IQ ?_;refine J8 (R:=eu) b (tS rfl (fun _=>rfl) (fun _=>rfl)) b ?_ (h0:=hne) (Bo:=by have:=zbi.2 hne;omega);refine aB 10 (.a5 2 2 0 b.length b.length) rfl (by rw[zas]) ?_;cases u with
 |true=>
  refine J ?_;refine kt ?_;refine J ?_;refine abL (cut,b[k].2) aM ?_;refine av 26 ?_;refine iw 26 ?_;refine J ?_;exact aA rfl (.of (by show _=aj.bq 2 bZ eu (g5 _ b);rw[e2]))
 |false=>
  refine J ?_;refine kt ?_;refine J ?_;refine abL (b[k].1,cut) aM ?_;refine av 26 ?_;refine iw 26 ?_;refine J ?_;exact aA rfl (.of (by show _=aj.bq 2 bZ eu (gQ _ b);rw[az]))
def PG:bU where
 L:=cz×gX×ac bZ
 args:=fun(p,x,b)=>[jc p,.agg (sd x),.bq 2 bZ eu b]
 pre:=fun(p,x,b)=>mz p b∧x.cut.length<=2000
 res:=fun(p,x,b)=>.i .i64 (gz p x b)
def afk{c aK ae:ac ce}{l h:Rat}{e:Int}(aa:cF c=some x)(hl:cF aK=some l)(hh:cF ae=some h):k1 c aK ae e=if l<x then(if x<h then 0 else e)else e:=by
 unfold k1;rw[aa,hl];simp only[hh]
def aa4:bD aX.ctx 69 PG.spec:=by
 refine b3 [(35,vr.spec),(77,xz.spec)] Ww.1 ?_;intro⟨p,⟨cM,dy,cut,bI,st⟩,b⟩ ⟨hb,iE⟩ H aN;have iE:cut.length<=2000:=iE;have fin:∀{c:Int},gz p ⟨cM,dy,cut,bI,st⟩ b=c->b7 (.i .i64 c) (PG.res (p,⟨cM,dy,cut,bI,st⟩,b)):=fun h=>.of (by show _=aj.i _ _;rw[h]);refine av 15 ?_;by_cases g8:cM=1
 ·refine v1 15 g8 ?_;have iC:¬(dy=0∧cut=[]∧bI.length=p.bs.length∧st.length=p.eX.length)->gz p ⟨cM,dy,cut,bI,st⟩ b=170:=fun h=>(zab g8).trans (zaa h);refine av 18 ?_;by_cases I:dy=0
  case neg=>
   refine v1 18 I (J ?_);exact aA rfl (fin (iC (fun h=>I h.1)))
  refine v0 18 (gH I) (av 22 ?_);by_cases U:cut=[]
  case neg=>
   refine lG 22 (show(!(cut==[]))=true by rw[zaM.2 U];rfl) (J ?_);exact aA rfl (fin (iC (fun h=>U h.2.1)))
  refine lG 22 (show(!(cut==[]))=false by rw[U];rfl) (av 31 ?_);by_cases ag:(bI.length:Int)=(p.bs.length:Int)
  case neg=>
   refine v1 31 ag (J ?_);exact aA rfl (fin (iC (fun h=>ag (by rw[h.2.2.1]))))
  refine v0 31 (gH ag) (av 40 ?_);by_cases au:(st.length:Int)=(p.eX.length:Int)
  case neg=>
   refine v1 40 au (J ?_);exact aA rfl (fin (iC (fun h=>au (by rw[h.2.2.2]))))
  refine v0 40 (gH au) (J ?_);exact aA rfl (fin ((zab g8).trans (zab ⟨I,U,zcH.1 ag,zcH.1 au⟩)))
 refine v0 15 g8 ?_;have iC:¬(cM=2∧bI=[]∧st=[]∧0<=dy∧dy<(p.ins.length:Int))->gz p ⟨cM,dy,cut,bI,st⟩ b=170:=fun h=>(zaa g8).trans (zaa h);refine av 44 ?_;by_cases g1:cM=2
 case neg=>
  refine v1 44 g1 (J ?_);exact aA rfl (fin (iC (fun h=>g1 h.1)))
 refine v0 44 (gH g1) (av 49 ?_);by_cases aP:¬(bI.length:Int)>0
 case neg=>
  refine v1 49 (Decidable.of_not_not aP) (J ?_);exact aA rfl (fin (iC (fun h=>aP (by rw[h.2.1];decide))))
 refine v0 49 aP (av 55 ?_);by_cases bd:¬(st.length:Int)>0
 case neg=>
  refine v1 55 (Decidable.of_not_not bd) (J ?_);exact aA rfl (fin (iC (fun h=>bd (by rw[h.2.2.1];decide))))
 refine v0 55 bd (av 60 ?_);by_cases cu:¬dy<0
 case neg=>
  refine v1 60 (Decidable.of_not_not cu) (J ?_);exact aA rfl (fin (iC (fun h=>cu (by omega))))
 refine v0 60 cu (av 68 ?_);by_cases dh:¬dy>=(p.ins.length:Int)
 case neg=>
  refine v1 68 (Decidable.of_not_not dh) (J ?_);exact aA rfl (fin (iC (fun h=>dh (by omega))))
 refine v0 68 dh ?_;obtain⟨k,rfl⟩:∃n:Nat,dy=(n:Int):=⟨dy.toNat,by omega⟩;have ab:k<b.length:=by rw[hb.1];omega
 have aM:b[k]? =some b[k]:=bg ab;obtain⟨ml,fP,mm,lW⟩:=hb.2 _ (dp ab);obtain⟨aK,el⟩:=zbH.1 ml;obtain⟨ae,Mc⟩:=zbH.1 fP;have rG:bI=[]:=zaX (by omega);have vL:st=[]:=zaX (by omega);have z9:(0:Int)<=(k:Int):=by omega
 have QX:(k:Int)<(p.ins.length:Int):=by omega
 have wB:gz p ⟨cM,(k:Int),cut,bI,st⟩ b=k1 cut b[k].1 b[k].2 170:=by
  unfold gz;rw[zaa g8,zab ⟨g1,rG,vL,z9,QX⟩];show(match b[(k:Int).toNat]? with|some s=>k1 cut s.1 s.2 170|none=>170)=_;rw[zbb,aM]
 refine J ?_;refine a9 o3 cut iE ?_;cases hc:cF cut with
 |none=>
  refine aB 73 (.bn [cT 0,.i .i64 6]) rfl (Ce hc) (J ?_);exact aA rfl (fin (wB.trans (by unfold k1;rw[hc])))
 |some x=>
 refine aB 73 (.bn [cT x,.i .i64 0]) rfl (tH hc) (J ?_);refine dv b[k] aM ?_;refine J ?_;refine a9 o3 b[k].1 mm ?_;refine aB 86 (.bn [cT aK,.i .i64 0]) rfl (tH el) (J ?_);refine dv b[k] aM ?_;refine J ?_;refine a9 o3 b[k].2 lW ?_;refine aB 96 (.bn [cT ae,.i .i64 0]) rfl (tH Mc) ?_;have AP:=wB.trans (afk (e:=170) hc el Mc);have ai:=jH (tI iE hc) (show 300<=268435456 by decide);have nl:=jH (tI mm el) (show 300<=268435456 by decide);have aqo:=jH (tI lW Mc) (show 300<=268435456 by decide);refine J ?_;refine a9 vt (x,aK) ⟨ai,nl⟩ (av 102 ?_);by_cases eF:aK<x
 case neg=>
  refine v1 102 (show ej x aK<=0 from SK.2 eF) (J ?_);exact aA rfl (fin (AP.trans (zaa eF)))
 refine v0 102 (show¬ej x aK<=0 from fun g=>SK.1 g eF) (J ?_);refine a9 vt (x,ae) ⟨ai,aqo⟩ (av 107 ?_);by_cases e5:x<ae
 case neg=>
  refine v1 107 (show ej x ae>=0 from SJ.2 e5) (J ?_);exact aA rfl (fin (AP.trans ((zab eF).trans (zaa e5))))
 refine v0 107 (show¬ej x ae>=0 from fun g=>SJ.1 g e5) (J ?_);exact aA rfl (fin (AP.trans ((zab eF).trans (zab e5))))
section
variable{aC:fp}{K:ac eN}{own aZ bN:ac aY}{aL bj ck:Nat}{e a6:bQ}{xs:ac (bA×cD)}
def S6(k:Nat){z:Nat}{el:ci}{cs:ac aj}{α:Type}(R:α->ac aj)(l:ac α)(cn:aW.ok aC ⟨K,.d xs bN a6 bj ck,⟨aZ,aL,e⟩⟩)(ab:own[k]? =some (.c el cs):=by rfl)(ax:∀w,(R w).length=z:=by exact fun _=>rfl)(al:jV own k (.a el false z α R l) some=some aZ:=by rfl)(dJ:cs=l.flatMap R:=by rfl):aW.ok aC ⟨K,.d xs bN a6 bj ck,⟨own,aL,e⟩⟩:=by
 have h:=kQ al;cases h;exact fun cQ gu H ids st fr fj ah a3 ao af cv=>cn cQ gu H ids st fr fj ah a3 (Lq l ab dJ ax ao) af cv
end
variable{n m:Nat}{b:aj}
def afz{T j k eG ch:Nat}(h:m=eG)(aG:n=ch):aY.c T [.a5 j 1 0 m m,.a5 k 1 0 n n,.i .i64 0,.i .i64 0]=aY.c T [.a5 j 1 0 eG eG,.a5 k 1 0 ch ch,.i .i64 0,.i .i64 0]:=by rw[h,aG]
def aef{i:Nat}{d:Nat}{ds:ac Nat}(h:(d::ds).length<=i):(d::(ds++[i])).length<=i+1:=by
 have I:(ds++[i]).length=ds.length+1:=by simp
 have U:ds.length+1<=i:=h;show(ds++[i]).length+1<=i+1;omega
def aiW:wI 6 1 n b [.a5 6 1 0 n n,.a5 7 1 0 m m,.i .i64 0,.i .i64 0]=[b,.a5 7 1 0 m m,.i .i64 0,.i .i64 0]:=by
 show(match Nat.beq 6 6&&(Nat.beq 1 1&&(Nat.beq 0 0&&(Nat.beq n n&&Nat.beq n n)))with|true=>b|false=>aj.a5 6 1 0 n n)::_=_;simp only[zax];rfl
def aiX{a:aj}{α:Type}{R:α->ac aj}{l:ac α}(ha:a= .bq 1 α R l:=by rfl):wI 7 1 n b [a,.a5 7 1 0 n n,.i .i64 0,.i .i64 0]=[a,b,.i .i64 0,.i .i64 0]:=by
 subst ha;show _::(match Nat.beq 7 7&&(Nat.beq 1 1&&(Nat.beq 0 0&&(Nat.beq n n&&Nat.beq n n)))with|true=>b|false=>aj.a5 7 1 0 n n)::_=_;simp only[zax];rfl
def s0(p:cz)(bt:ac gX)(m i:Nat)(W:ac (ac bZ))(a:ac Nat)(b:ac (ac bZ)):vZ (ac bZ):=mb (gz p) lS gQ g5 bt m i W a b
section
variable{p:cz}{bt:ac gX}{m i:Nat}{W:ac (ac bZ)}{a:ac Nat}{b:ac (ac bZ)}{x:ac bZ}{t:gX}
def WT(aV:bt[i]? =some t)(he:gz p t x≠0):s0 p bt (m+1) i (x::W) a b= .c5 (gz p t x):=by
 unfold s0 mb;rw[aV];exact zaa he
def WU(aV:bt[i]? =some t)(he:gz p t x=0)(hl:lS t=true):s0 p bt (m+1) i (x::W) a b=s0 p bt m (i+1) W (a++[i]) (b++[x]):=by
 unfold s0;rw[mb,aV];show(if gz p t x=0 then(if lS t=true then _ else _)else _)=_;rw[zab he,zab hl]
def WV(aV:bt[i]? =some t)(he:gz p t x=0)(hl:lS t≠true):s0 p bt (m+1) i (x::W) a b=s0 p bt m (i+1) (gQ t x::g5 t x::W) a b:=by
 unfold s0;rw[mb,aV];show(if gz p t x=0 then(if lS t=true then _ else _)else _)=_;rw[zab he,zaa hl]
end
def abS{x:ac bZ}{W:ac (ac bZ)}:(x::W).reverse[W.length]? =some x:=by
 rw[List.reverse_cons,zav (by rw[zaJ];exact zaO _),zaJ,zbZ];rfl
def abT{x:ac bZ}{W:ac (ac bZ)}:((x::W).reverse.drop 0).take (W.length-0)=W.reverse:=by
 rw[zaq,List.reverse_cons,zcu (by rw[zaJ];exact zbP _ _),zau (by rw[zaJ];exact zaO _)]
def alI(p:cz)(q:ew):Nat×ac bZ->cB
 |(k,[])=>⟨[.c 27 (eS p),.c 31 (h8 q),.c 27 (eS p),.c 31 (h8 q),.c 92 [.nl,.nl,.i .i64 0,.i .i64 0]],5,[(2,.p 2 0),(3,.p 3 0),(4,.p 4 0),(5,.nl),(6,.i .i64 (k:Int))]⟩
 |(k,d::ds)=>⟨[.c 27 (eS p),.c 31 (h8 q),.c 27 (eS p),.c 31 (h8 q),.c 92 [.nl,.nl,.i .i64 0,.i .i64 0],.a 68 true 2 bZ eu (d::ds)],6,[(2,.p 2 0),(3,.p 3 0),(4,.p 4 0),(5,.a5 5 2 0 (ds.length+1) (ds.length+1)),(6,.i .i64 (k:Int))]⟩
structure Gx where
 i:Nat
 W:ac (ac bZ)
 a:ac Nat
 b:ac (ac bZ)
def WO(p:cz)(q:ew):Gx->cB
 |⟨i,W,[],b⟩=>⟨[.c 27 (eS p),.c 31 (h8 q),.c 27 (eS p),.c 31 (h8 q),.c 92 [.nl,.nl,.i .i64 0,.i .i64 0],.c 92 [.nl,.nl,.i .i64 0,.i .i64 0]],6,[(2,.p 2 0),(3,.p 3 0),(4,.p 4 0),(7,.bq 1 (ac bZ) eP W.reverse),(8,.p 5 0),(9,.i .i64 (i:Int))]⟩
 |⟨i,W,d::ds,b⟩=>⟨[.c 27 (eS p),.c 31 (h8 q),.c 27 (eS p),.c 31 (h8 q),.c 92 [.nl,.nl,.i .i64 0,.i .i64 0],.c 92 [.a5 6 1 0 (d::ds).length (d::ds).length,.a5 7 1 0 b.length b.length,.i .i64 0,.i .i64 0],.a 3 true 1 Nat iA (d::ds),.a 69 true 1 (ac bZ) eP b],8,[(2,.p 2 0),(3,.p 3 0),(4,.p 4 0),(7,.bq 1 (ac bZ) eP W.reverse),(8,.p 5 0),(9,.i .i64 (i:Int))]⟩
def Q7(p:cz)(bt:ac gX)(g:Gx):Prop:=g.i<=bt.length∧s0 p bt (bt.length-g.i) g.i g.W g.a g.b=mi p bt∧(∀x∈g.W,mz p x)∧(g.a.length<=g.i∧g.b.length<=g.i∧g.W.length<=g.i+1)∧(g.a=[]->g.b=[])
def Cf:bU where
 L:=cz×ew
 args:=fun(p,q)=>[jc p,.agg (h8 q)]
 pre:=fun(p,q)=>Ab p q
 res:=fun(p,q)=>.bn [.bq 1 Nat iA (gZ p q).1,.bq 1 (ac bZ) eP (gZ p q).2.1,.i .i64 (gZ p q).2.2]
def aaT:bD aX.ctx 7 Cf.spec:=by
 refine b3 [(26,MJ.spec),(27,abr.spec),(69,PG.spec),(70,XG.spec)] gp.1 ?_;intro⟨p,q⟩ ⟨hp,hq,oI⟩ H aN;have NL:q.bt.length<=20:=hq.1;have c5:∀{c:Int},gZ p q=([],[],c)->b7 (.bn [.nl,.nl,.i .i64 c]) (Cf.res (p,q)):=fun h=>Om.trans (.of (by show _=aj.bn _;rw[h]));refine J ?_;refine a9 WS p hp ?_;refine aB 10 (.i .i64 (dU p).2.2) rfl rfl (av 12 ?_);by_cases h0:(dU p).2.2=0
 case neg=>
  refine v0 12 h0 (av 16 ?_);refine v1 16 h0 (J ?_);exact aA rfl (c5 (by unfold gZ;rw[zaa h0]))
 refine v1 12 h0 (J ?_);refine a9 asc q hq ?_;refine aB 14 (.i .i64 (l2 q)) rfl rfl (av 16 ?_);by_cases hw:l2 q=0
 case neg=>
  refine v1 16 hw (J ?_);exact aA rfl (c5 (by unfold gZ;rw[zab h0,zaa hw]))
 refine v0 16 (gH hw) ?_;have AP:gZ p q=(match mi p q.bt with|.c5 c=>([],[],c)|.ok _ a b=>(a,b,0)):=by unfold gZ;exact(zab h0).trans (zab hw)
 have AV:∀{c:Int},mi p q.bt= .c5 c->b7 (.bn [.nl,.nl,.i .i64 c]) (Cf.res (p,q)):=fun h=>c5 (by rw[AP,h]);have yN:=MI h0;have an2:=Qb h0 hp;have q4:(jJ p).length=p.ins.length:=zbB ..;refine J ?_;refine P3 Vr.1 (by kernel_rfl) ?_;intro H1 i1 s1 il _;have il:i1.length=2:=il;refine J ?_;refine nH (L:=Unit) (fun _=>True) (fun _=>⟨[.c 27 (eS p),.c 31 (h8 q),.c 27 (eS p),.c 31 (h8 q),.c 92 [.nl,.nl,.i .i64 0,.i .i64 0]],5,[(2,.p 2 0),(3,.p 3 0),(4,.p 4 0),(5,.bq 2 bZ eu (jJ p))]⟩) ?_ ?_
 ·refine df (L:=Nat×ac bZ) (fun(k,l)=>k<=p.ins.length∧l=(jJ p).take k) (alI p q) (fun l=>p.ins.length-l.1) [0,1,2,3,4] (0,[]) ⟨zaf _,rfl⟩ (by show _-0<4611686018427387903+1;omega) (lk (by rw[il];rfl)) ?_;rintro⟨k,l⟩ ⟨ab,ax⟩;have q3:l.length=k:=by rw[ax,zao];omega
  by_cases aT:k<p.ins.length
  case neg=>
   rw[zau (by omega)]at ax;cases l with
   |nil=>
    refine av 17 ?_;refine v0 17 (show¬(k:Int)<(p.ins.length:Int) by omega) ?_;refine pF 5 (.bq 2 bZ eu (jJ p)) rfl (b7.nl.trans (.of (by show aj.bq 2 bZ eu []=_;rw[<-ax]))) ?_;refine J ?_;exact br [0,1,2,3,4] () trivial (lk (by rw[il];rfl))
   |cons d ds=>
    refine av 17 ?_;refine v0 17 (show¬(k:Int)<(p.ins.length:Int) by omega) ?_;refine iw 5 ?_;refine J ?_;exact br [0,1,2,3,4] () trivial ⟨by simp,rfl,⟨⟨_,rfl,rfl⟩,⟨_,rfl,rfl⟩,⟨_,rfl,rfl⟩,⟨_,rfl,rfl⟩,⟨_,rfl,rfl⟩,trivial⟩,⟨rfl,rfl,rfl,by show some (aj.bq 2 bZ eu (d::ds))=some (aj.bq 2 bZ eu (jJ p));rw[ax],trivial⟩,by rw[il];rfl⟩
  have r2:k<(jJ p).length:=q4.symm▸aT;have eJ:(jJ p).take (k+1)=l++[(p.ins[k].aK,p.ins[k].ae)]:=by
   have aM:(jJ p)[k]=(p.ins[k].aK,p.ins[k].ae):=zcp ..;rw[zaP r2,aM,<-ax]
  cases l with
  |nil=>
   refine av 17 ?_;refine v1 17 (show(k:Int)<(p.ins.length:Int) by omega) (J ?_);refine e3 p.ins[k] (bg aT) ?_;refine J ?_;refine e3 p.ins[k] (bg aT) ?_;refine J ?_;refine AI eu [(p.ins[k].aK,p.ins[k].ae)] (h9 (R:=eu) [(p.ins[k].aK,p.ins[k].ae)] rfl) ?_;refine av 19 ?_;refine eY 19 ((k+1:Nat):Int) (J ?_);exact br [0,1,2,3,4,6] (k+1,[(p.ins[k].aK,p.ins[k].ae)]) ⟨by show _-(k+1)<_-k;omega,aT,eJ.symm⟩ (lk (by rw[il];rfl))
  |cons d ds=>
   have iT:ds.length+1=k:=q3;refine av 17 ?_;refine v1 17 (show(k:Int)<(p.ins.length:Int) by omega) (J ?_);refine e3 p.ins[k] (bg aT) ?_;refine J ?_;refine e3 p.ins[k] (bg aT) ?_;refine J ?_;refine wv (R:=eu) [(p.ins[k].aK,p.ins[k].ae)] (h9 (R:=eu) [(p.ins[k].aK,p.ins[k].ae)] rfl) ?_ (hb:=by show(5*(ds.length+1+1)+1792)*33<=_;omega);refine av 19 ?_;refine eY 19 ((k+1:Nat):Int) (J ?_);exact br [0,1,2,3,4,7] (k+1,d::(ds++[(p.ins[k].aK,p.ins[k].ae)])) ⟨by show _-(k+1)<_-k;omega,aT,eJ.symm⟩ ⟨by simp,rfl,⟨⟨_,rfl,rfl⟩,⟨_,rfl,rfl⟩,⟨_,rfl,rfl⟩,⟨_,rfl,rfl⟩,⟨_,rfl,rfl⟩,⟨_,rfl,rfl,fun _=>rfl⟩,trivial⟩,⟨rfl,rfl,rfl,congrArg (fun k=>some (aj.a5 7 2 0 k k)) (by simp),rfl,trivial⟩,by rw[il];rfl⟩
 intro _ _;refine av 7 ?_;refine oi (z:=1) 5 eP [jJ p] ?_;refine iw 7 ?_;refine J ?_;have anc:s0 p q.bt (q.bt.length-0) 0 [jJ p] [] []=mi p q.bt:=al0 (jJ p);refine nH (L:=Gx) (fun g=>g.i=q.bt.length∧Q7 p q.bt g) (WO p q) ?_ ?_
 ·refine df (L:=Gx) (Q7 p q.bt) (WO p q) (fun g=>q.bt.length-g.i) [0,1,2,3,4,6] ⟨0,[jJ p],[],[]⟩ ⟨zaf _,anc,fun x aa=>by rw[zex.1 aa];exact an2,⟨zaO _,zaO _,zaO _⟩,fun _=>rfl⟩ (by show _-0<4611686018427387903+1;omega) (lk (by rw[il];rfl)) ?_;rintro⟨i,W,a,b⟩ MN;obtain⟨ae,iG,e7,⟨kn,mh,zd⟩,fM⟩:=MN;simp only at ae iG e7 kn mh zd fM;by_cases aT:i<q.bt.length
  case neg=>
   cases a with
   |nil=>
    refine av 42 ?_;refine v0 42 (show¬(i:Int)<(q.bt.length:Int) by omega) (J ?_);exact br [0,1,2,3,4,5] ⟨i,W,[],b⟩ ⟨by show i=_;omega,ae,iG,e7,⟨kn,mh,zd⟩,fM⟩ (lk (by rw[il];rfl))
   |cons d ds=>
    refine av 42 ?_;refine v0 42 (show¬(i:Int)<(q.bt.length:Int) by omega) (J ?_);exact br [0,1,2,3,4,5,6,7] ⟨i,W,d::ds,b⟩ ⟨by show i=_;omega,ae,iG,e7,⟨kn,mh,zd⟩,fM⟩ (lk (by rw[il];rfl))
  obtain⟨m,hm⟩:∃m,q.bt.length-i=m+1:=⟨q.bt.length-i-1,by omega⟩;have kG:q.bt.length-(i+1)=m:=by omega
  obtain⟨⟨cM,dy,cut,bI,st⟩,aa⟩:∃x,q.bt[i]? =some x:=⟨_,bg aT⟩;have iE:cut.length<=2000:=oI _ (zal aa);rw[hm]at iG;cases a with
  |nil=>
   cases W with
   |nil=>
    refine av 42 ?_;refine v1 42 (show(i:Int)<(q.bt.length:Int) by omega) (J ?_);refine c8 ⟨.inr rfl,_,rfl,?_⟩;refine J ?_;exact aA rfl (AV iG.symm)
   |cons x W=>
    have zd:W.length+1<=i+1:=zd;have uN:=e7 x zbf;have Ec:∀y∈W,mz p y:=fun y aJ=>e7 y (zaC _ aJ);have jo:(x::W).reverse.length=W.length+1:=zaJ;refine av 42 ?_;refine v1 42 (show(i:Int)<(q.bt.length:Int) by omega) (av 46 ?_);refine aB 46 (.i .i64 ((W.length+1:Nat):Int)) rfl (by rw[jo]) (av 47 ?_);refine v0 47 (show¬((W.length+1:Nat):Int)=0 by omega) (av 52 ?_);refine aB 52 (.i .i64 ((W.length+1:Nat):Int)) rfl (by rw[jo]) (av 53 ?_);refine eY 53 (W.length:Int) (J ?_);refine dv x abS ?_;refine av 58 ?_;refine aB 58 (.i .i64 ((W.length+1:Nat):Int)) rfl (by rw[jo]) (av 59 ?_);refine eY 59 (W.length:Int) (J ?_);refine abJ (q:=W.length) W.reverse ?_ (hl:=abT) (hq:=by rw[jo];omega);refine J ?_;refine dv (gX.mk cM dy cut bI st) aa ?_;refine J ?_;refine a9 aa4 (p,⟨cM,dy,cut,bI,st⟩,x) ⟨uN,iE⟩ ?_;obtain⟨c,hc⟩:∃c,gz p ⟨cM,dy,cut,bI,st⟩ x=c:=⟨_,rfl⟩;refine aB 69 (.i .i64 c) rfl (by show aj.i .i64 (gz _ _ _)=_;rw[hc]) (av 71 ?_);by_cases j4:c=0
    case neg=>
     refine v1 71 j4 (J ?_);refine c8 ⟨.inr rfl,_,rfl,?_⟩;refine J ?_;exact aA rfl (AV (by rw[<-iG,WT aa (by rw[hc];exact j4),hc]))
    subst j4;refine v0 71 (gH rfl) (av 77 ?_);by_cases g8:cM=1
    ·refine v1 77 g8 ?_;rw[WU aa hc (zae g8),<-kG]at iG;refine J ?_;have kF:=fM rfl;subst kF;refine AI iA [i] (h9 (R:=iA) [i] rfl) ?_;refine J ?_;refine AI eP [x] (h9 (R:=eP) [x] rfl) ?_;refine av 44 ?_;refine eY 44 ((i+1:Nat):Int) (J ?_);exact br [0,1,2,3,4,5,8,10] ⟨i+1,W,[i],[x]⟩ ⟨by show _-(i+1)<_-i;omega,aT,iG,Ec,⟨by show 1<=i+1;omega,by show 1<=i+1;omega,by show W.length<=i+1+1;omega⟩,fun h=>by cases h⟩ (lk (by rw[il];rfl))
    refine v0 77 g8 ?_;have el:lS ⟨cM,dy,cut,bI,st⟩≠true:=fun h=>g8 (zbd h);obtain⟨_,j,hj,Nh,_⟩:=Oc uN.1 hc el;have hj:dy=(j:Int):=hj;subst hj;obtain⟨uA,yC⟩:=D6 iE hc el uN;have kH:x.length<=1000000∧∃k:Nat,(j:Int)=(k:Int)∧k<x.length:=⟨by rw[uN.1];omega,j,rfl,Nh⟩;rw[WV aa hc el,<-kG]at iG;have Ed:∀y∈gQ ⟨cM,(j:Int),cut,bI,st⟩ x::g5 ⟨cM,(j:Int),cut,bI,st⟩ x::W,mz p y:=fun y aJ=>by
     rcases zah.1 aJ with rfl|aJ
     ·exact uA
     ·rcases zah.1 aJ with rfl|aJ
      ·exact yC
      ·exact Ec y aJ
    have wC:(gQ ⟨cM,(j:Int),cut,bI,st⟩ x::g5 ⟨cM,(j:Int),cut,bI,st⟩ x::W).reverse=W.reverse++[g5 ⟨cM,(j:Int),cut,bI,st⟩ x,gQ ⟨cM,(j:Int),cut,bI,st⟩ x]:=by simp
    by_cases s6:W=[]
    ·subst s6;refine J ?_;refine S6 7 eP ([]:ac (ac bZ)) ?_;refine pF 90 (.a5 7 1 0 0 0) rfl IQ ?_;refine S3 (R:=eP) (l:=[]) (tS rfl (fun _=>rfl) (fun _=>rfl)) ?_;refine J ?_;refine cq wZ (x,⟨cM,(j:Int),cut,bI,st⟩,true) kH ?_;refine aB 95 (.bq 2 bZ eu (g5 ⟨cM,(j:Int),cut,bI,st⟩ x)) rfl rfl (J ?_);refine cq wZ (x,⟨cM,(j:Int),cut,bI,st⟩,false) kH ?_;refine aB 98 (.bq 2 bZ eu (gQ ⟨cM,(j:Int),cut,bI,st⟩ x)) rfl rfl (J ?_);refine S4 (R:=eP) (l:=[]) (n:=0) (c:=0) [g5 ⟨cM,(j:Int),cut,bI,st⟩ x,gQ ⟨cM,(j:Int),cut,bI,st⟩ x] _ (h9 (R:=eP) [g5 ⟨cM,(j:Int),cut,bI,st⟩ x,gQ ⟨cM,(j:Int),cut,bI,st⟩ x] rfl) ?_ (by simp) (by simp) rfl (by show(5*2+1792)*25<=1125899906842624;decide);refine av 44 ?_;refine eY 44 ((i+1:Nat):Int) ?_;refine iw 7 ?_;refine J ?_;exact br [0,1,2,3,4,5] ⟨i+1,_,[],b⟩ ⟨by show _-(i+1)<_-i;omega,aT,iG,Ed,⟨zbe kn,zbe mh,by show 2<=i+2;omega⟩,fM⟩ ⟨by simp,rfl,⟨⟨_,rfl,rfl⟩,⟨_,rfl,rfl⟩,⟨_,rfl,rfl⟩,⟨_,rfl,rfl⟩,⟨_,rfl,rfl⟩,⟨_,rfl,rfl⟩,trivial⟩,⟨rfl,rfl,rfl,congrArg (fun l=>some (aj.bq 1 (ac bZ) eP l)) (by rw[wC];rfl),rfl,rfl,trivial⟩,by rw[il];rfl⟩
    ·refine J ?_;refine S5 (R:=eP) W.reverse (tS rfl (fun _=>rfl) (fun _=>rfl)) ?_ (hne:=by simpa using s6) (hb:=by rw[zaJ];omega);refine J ?_;refine cq wZ (x,⟨cM,(j:Int),cut,bI,st⟩,true) kH ?_;refine aB 95 (.bq 2 bZ eu (g5 ⟨cM,(j:Int),cut,bI,st⟩ x)) rfl rfl (J ?_);refine cq wZ (x,⟨cM,(j:Int),cut,bI,st⟩,false) kH ?_;refine aB 98 (.bq 2 bZ eu (gQ ⟨cM,(j:Int),cut,bI,st⟩ x)) rfl rfl (J ?_);refine wv (R:=eP) [g5 ⟨cM,(j:Int),cut,bI,st⟩ x,gQ ⟨cM,(j:Int),cut,bI,st⟩ x] (h9 (R:=eP) [g5 ⟨cM,(j:Int),cut,bI,st⟩ x,gQ ⟨cM,(j:Int),cut,bI,st⟩ x] rfl) ?_ (hb:=by show(5*(W.reverse.length+2)+1792)*25<=_;rw[zaJ];omega);refine av 44 ?_;refine eY 44 ((i+1:Nat):Int) ?_;refine iw 7 ?_;refine J ?_;exact br [0,1,2,3,4,5] ⟨i+1,_,[],b⟩ ⟨by show _-(i+1)<_-i;omega,aT,iG,Ed,⟨zbe kn,zbe mh,by show W.length+2<=i+2;omega⟩,fM⟩ ⟨by simp,rfl,⟨⟨_,rfl,rfl⟩,⟨_,rfl,rfl⟩,⟨_,rfl,rfl⟩,⟨_,rfl,rfl⟩,⟨_,rfl,rfl⟩,⟨_,rfl,rfl⟩,trivial⟩,⟨rfl,rfl,rfl,congrArg (fun l=>some (aj.bq 1 (ac bZ) eP l)) wC.symm,rfl,rfl,trivial⟩,by rw[il];rfl⟩
  |cons d ds=>
   cases W with
   |nil=>
    refine av 42 ?_;refine v1 42 (show(i:Int)<(q.bt.length:Int) by omega) (J ?_);refine c8 ⟨.inr rfl,_,rfl,?_⟩;refine J ?_;exact aA rfl (AV iG.symm)
   |cons x W=>
    have zd:W.length+1<=i+1:=zd;have uN:=e7 x zbf;have Ec:∀y∈W,mz p y:=fun y aJ=>e7 y (zaC _ aJ);have jo:(x::W).reverse.length=W.length+1:=zaJ;refine av 42 ?_;refine v1 42 (show(i:Int)<(q.bt.length:Int) by omega) (av 46 ?_);refine aB 46 (.i .i64 ((W.length+1:Nat):Int)) rfl (by rw[jo]) (av 47 ?_);refine v0 47 (show¬((W.length+1:Nat):Int)=0 by omega) (av 52 ?_);refine aB 52 (.i .i64 ((W.length+1:Nat):Int)) rfl (by rw[jo]) (av 53 ?_);refine eY 53 (W.length:Int) (J ?_);refine dv x abS ?_;refine av 58 ?_;refine aB 58 (.i .i64 ((W.length+1:Nat):Int)) rfl (by rw[jo]) (av 59 ?_);refine eY 59 (W.length:Int) (J ?_);refine abJ (q:=W.length) W.reverse ?_ (hl:=abT) (hq:=by rw[jo];omega);refine J ?_;refine dv (gX.mk cM dy cut bI st) aa ?_;refine J ?_;refine a9 aa4 (p,⟨cM,dy,cut,bI,st⟩,x) ⟨uN,iE⟩ ?_;obtain⟨c,hc⟩:∃c,gz p ⟨cM,dy,cut,bI,st⟩ x=c:=⟨_,rfl⟩;refine aB 69 (.i .i64 c) rfl (by show aj.i .i64 (gz _ _ _)=_;rw[hc]) (av 71 ?_);by_cases j4:c=0
    case neg=>
     refine v1 71 j4 (J ?_);refine c8 ⟨.inr rfl,_,rfl,?_⟩;refine J ?_;exact aA rfl (AV (by rw[<-iG,WT aa (by rw[hc];exact j4),hc]))
    subst j4;refine v0 71 (gH rfl) (av 77 ?_);by_cases g8:cM=1
    ·refine v1 77 g8 ?_;rw[WU aa hc (zae g8),<-kG]at iG;refine J ?_;refine wv (R:=iA) [i] (h9 (R:=iA) [i] rfl) ?_ (hb:=by show(5*((d::ds).length+1)+1792)*9<=_;omega);refine J ?_;refine wv (R:=eP) [x] (h9 (R:=eP) [x] rfl) ?_ (hb:=by show(5*(b.length+1)+1792)*25<=_;omega);refine av 44 ?_;refine eY 44 ((i+1:Nat):Int) (J ?_);exact br [0,1,2,3,4,5,10,12] ⟨i+1,W,d::(ds++[i]),b++[x]⟩ ⟨by show _-(i+1)<_-i;omega,aT,iG,Ec,⟨aef kn,by show(b++[x]).length<=i+1;rw[zap];exact Nat.succ_le_succ mh,by show W.length<=i+1+1;omega⟩,fun h=>by cases h⟩ ⟨by simp,rfl,⟨⟨_,rfl,rfl⟩,⟨_,rfl,rfl⟩,⟨_,rfl,rfl⟩,⟨_,rfl,rfl⟩,⟨_,rfl,rfl⟩,⟨_,rfl,afz (by simp) (by simp)⟩,⟨_,rfl,rfl,fun _=>rfl⟩,⟨_,rfl,rfl,fun _=>rfl⟩,trivial⟩,⟨rfl,rfl,rfl,rfl,rfl,rfl,trivial⟩,by rw[il];rfl⟩
    refine v0 77 g8 ?_;have el:lS ⟨cM,dy,cut,bI,st⟩≠true:=fun h=>g8 (zbd h);obtain⟨_,j,hj,Nh,_⟩:=Oc uN.1 hc el;have hj:dy=(j:Int):=hj;subst hj;obtain⟨uA,yC⟩:=D6 iE hc el uN;have kH:x.length<=1000000∧∃k:Nat,(j:Int)=(k:Int)∧k<x.length:=⟨by rw[uN.1];omega,j,rfl,Nh⟩;rw[WV aa hc el,<-kG]at iG;have Ed:∀y∈gQ ⟨cM,(j:Int),cut,bI,st⟩ x::g5 ⟨cM,(j:Int),cut,bI,st⟩ x::W,mz p y:=fun y aJ=>by
     rcases zah.1 aJ with rfl|aJ
     ·exact uA
     ·rcases zah.1 aJ with rfl|aJ
      ·exact yC
      ·exact Ec y aJ
    have wC:(gQ ⟨cM,(j:Int),cut,bI,st⟩ x::g5 ⟨cM,(j:Int),cut,bI,st⟩ x::W).reverse=W.reverse++[g5 ⟨cM,(j:Int),cut,bI,st⟩ x,gQ ⟨cM,(j:Int),cut,bI,st⟩ x]:=by simp
    by_cases s6:W=[]
    ·subst s6;refine J ?_;refine S6 9 eP ([]:ac (ac bZ)) ?_;refine pF 90 (.a5 9 1 0 0 0) rfl IQ ?_;refine S3 (R:=eP) (l:=[]) (tS rfl (fun _=>rfl) (fun _=>rfl)) ?_;refine J ?_;refine cq wZ (x,⟨cM,(j:Int),cut,bI,st⟩,true) kH ?_;refine aB 95 (.bq 2 bZ eu (g5 ⟨cM,(j:Int),cut,bI,st⟩ x)) rfl rfl (J ?_);refine cq wZ (x,⟨cM,(j:Int),cut,bI,st⟩,false) kH ?_;refine aB 98 (.bq 2 bZ eu (gQ ⟨cM,(j:Int),cut,bI,st⟩ x)) rfl rfl (J ?_);refine S4 (R:=eP) (l:=[]) (n:=0) (c:=0) [g5 ⟨cM,(j:Int),cut,bI,st⟩ x,gQ ⟨cM,(j:Int),cut,bI,st⟩ x] _ (h9 (R:=eP) [g5 ⟨cM,(j:Int),cut,bI,st⟩ x,gQ ⟨cM,(j:Int),cut,bI,st⟩ x] rfl) ?_ (by simp) (by simp) rfl (by show(5*2+1792)*25<=1125899906842624;decide);refine av 44 ?_;refine eY 44 ((i+1:Nat):Int) ?_;refine iw 7 ?_;refine J ?_;exact br [0,1,2,3,4,5,6,7] ⟨i+1,_,d::ds,b⟩ ⟨by show _-(i+1)<_-i;omega,aT,iG,Ed,⟨zbe kn,zbe mh,by show 2<=i+2;omega⟩,fM⟩ ⟨by simp,rfl,⟨⟨_,rfl,rfl⟩,⟨_,rfl,rfl⟩,⟨_,rfl,rfl⟩,⟨_,rfl,rfl⟩,⟨_,rfl,rfl⟩,⟨_,rfl,rfl⟩,⟨_,rfl,rfl,fun _=>rfl⟩,⟨_,rfl,rfl,fun _=>rfl⟩,trivial⟩,⟨rfl,rfl,rfl,congrArg (fun l=>some (aj.bq 1 (ac bZ) eP l)) (by rw[wC];rfl),rfl,rfl,trivial⟩,by rw[il];rfl⟩
    ·refine J ?_;refine S5 (R:=eP) W.reverse (tS rfl (fun _=>rfl) (fun _=>rfl)) ?_ (hne:=by simpa using s6) (hb:=by rw[zaJ];omega);refine J ?_;refine cq wZ (x,⟨cM,(j:Int),cut,bI,st⟩,true) kH ?_;refine aB 95 (.bq 2 bZ eu (g5 ⟨cM,(j:Int),cut,bI,st⟩ x)) rfl rfl (J ?_);refine cq wZ (x,⟨cM,(j:Int),cut,bI,st⟩,false) kH ?_;refine aB 98 (.bq 2 bZ eu (gQ ⟨cM,(j:Int),cut,bI,st⟩ x)) rfl rfl (J ?_);refine wv (R:=eP) [g5 ⟨cM,(j:Int),cut,bI,st⟩ x,gQ ⟨cM,(j:Int),cut,bI,st⟩ x] (h9 (R:=eP) [g5 ⟨cM,(j:Int),cut,bI,st⟩ x,gQ ⟨cM,(j:Int),cut,bI,st⟩ x] rfl) ?_ (hb:=by show(5*(W.reverse.length+2)+1792)*25<=_;rw[zaJ];omega);refine av 44 ?_;refine eY 44 ((i+1:Nat):Int) ?_;refine iw 7 ?_;refine J ?_;exact br [0,1,2,3,4,5,6,7] ⟨i+1,_,d::ds,b⟩ ⟨by show _-(i+1)<_-i;omega,aT,iG,Ed,⟨zbe kn,zbe mh,by show W.length+2<=i+2;omega⟩,fM⟩ ⟨by simp,rfl,⟨⟨_,rfl,rfl⟩,⟨_,rfl,rfl⟩,⟨_,rfl,rfl⟩,⟨_,rfl,rfl⟩,⟨_,rfl,rfl⟩,⟨_,rfl,rfl⟩,⟨_,rfl,rfl,fun _=>rfl⟩,⟨_,rfl,rfl,fun _=>rfl⟩,trivial⟩,⟨rfl,rfl,rfl,congrArg (fun l=>some (aj.bq 1 (ac bZ) eP l)) wC.symm,rfl,rfl,trivial⟩,by rw[il];rfl⟩
 rintro⟨i,W,a,b⟩ ⟨fN,MN⟩;obtain⟨ae,iG,e7,_,fM⟩:=MN;simp only at fN ae iG e7 fM;rw[fN,zbZ]at iG;have mK:(if W.length=0 then vZ.ok q.bt.length a b else .c5 170)=mi p q.bt:=iG;have jo:W.reverse.length=W.length:=zaJ;by_cases s6:W.length=0
 ·rw[zab s6]at mK;have fin:b7 (.bn [.bq 1 Nat iA a,.bq 1 (ac bZ) eP b,.i .i64 0]) (Cf.res (p,q)):=.of (by show _=aj.bn _;rw[AP,<-mK]);cases a with
  |nil=>
   have kF:=fM rfl;subst kF;refine av 102 ?_;refine aB 102 (.i .i64 0) rfl (by rw[jo,s6];rfl) (J ?_);refine c8 ⟨.inr rfl,_,rfl,?_⟩;refine J ?_;exact aA rfl (Om.trans fin)
  |cons d ds=>
   refine av 102 ?_;refine aB 102 (.i .i64 0) rfl (by rw[jo,s6];rfl) ?_;refine FN 5 6 ?_ (ha:=by exact aiW);refine FN 5 7 ?_ (ha:=by exact aiX);refine J ?_;refine c8 ⟨.inr rfl,_,rfl,?_⟩;refine J ?_;exact aA rfl fin
 ·rw[zaa s6]at mK;cases a with
  |nil=>
   refine av 102 ?_;refine aB 102 (.i .i64 (W.length:Int)) rfl (by rw[jo]) (av 103 ?_);refine v1 103 (show(W.length:Int)>0 by omega) (J ?_);refine c8 ⟨.inr rfl,_,rfl,?_⟩;refine J ?_;exact aA rfl (AV mK.symm)
  |cons d ds=>
   refine av 102 ?_;refine aB 102 (.i .i64 (W.length:Int)) rfl (by rw[jo]) (av 103 ?_);refine v1 103 (show(W.length:Int)>0 by omega) (J ?_);refine c8 ⟨.inr rfl,_,rfl,?_⟩;refine J ?_;exact aA rfl (AV mK.symm)
def Rc(xs:ac Rat):Prop:=∀x∈xs,ev 268435456 x
def PE:bU where
 L:=ac bZ×ac Rat
 args:=fun(b,xs)=>[.bq 2 bZ eu b,.bq 3 Rat jI xs]
 pre:=fun(b,xs)=>(∀s∈b,Af s)∧b.length=xs.length∧b.length<=1000∧Rc xs
 res:=fun(b,xs)=>.b (n6 b xs)
def arM:bD aX.ctx 36 PE.spec:=by
 refine b3 [(35,vr.spec),(77,xz.spec)] VV.1 ?_;intro⟨b,xs⟩ ⟨bR,hlen,hl,gP⟩ H aN;refine J ?_;refine df (L:=Nat) (fun k=>k<=b.length∧n6 (b.drop k) (xs.drop k)=n6 b xs) (fun(k:Nat)=>⟨[],0,[(0,.bq 2 bZ eu b),(1,.bq 3 Rat jI xs),(5,.i .i64 (k:Int))]⟩) (fun k=>b.length-k) [] 0 ⟨zaf _,rfl⟩ jk dW ?_;rintro(k:Nat) ⟨ab,ax⟩;refine av 13 ?_;by_cases aT:k<b.length
 case neg=>
  refine v0 13 (show¬(k:Int)<(b.length:Int) by omega) ?_;rw[zaH (by omega)]at ax;refine J ?_;exact aA rfl (.of (cA ax))
 have nr:k<xs.length:=by omega
 refine v1 13 (show(k:Int)<(b.length:Int) by omega) ?_;rw[hx aT,hx nr]at ax;have ax:(u4 b[k] xs[k]&&n6 (b.drop (k+1)) (xs.drop (k+1)))=n6 b xs:=ax;obtain⟨ml,fP,mm,lW⟩:=bR _ (dp aT);obtain⟨aK,az⟩:=zbH.1 ml;obtain⟨ae,e2⟩:=zbH.1 fP;have aa:=gP _ (dp nr);have hH:u4 b[k] xs[k]=(decide (0<=ej xs[k] aK)&&decide (ej xs[k] ae<=0)):=by unfold u4;rw[az,e2]
 have no:u4 b[k] xs[k]=false->b7 (.b false) (PE.res (b,xs)):=fun h=>.of (cA (by rw[h]at ax;exact ax));refine J ?_;refine dv b[k] (bg aT) ?_;refine J ?_;refine a9 o3 b[k].1 mm ?_;refine aB 22 (.bn [cT aK,.i .i64 0]) rfl (tH az) (J ?_);refine dv b[k] (bg aT) ?_;refine J ?_;refine a9 o3 b[k].2 lW ?_;refine aB 31 (.bn [cT ae,.i .i64 0]) rfl (tH e2) (J ?_);refine e3 xs[k] (bg nr) ?_;refine J ?_;refine cq vt (xs[k],aK) ⟨aa,jH (tI mm az)⟩ (av 40 ?_);by_cases I:ej xs[k] aK<0
 ·refine v1 40 I (J ?_);exact aA rfl (no (by rw[hH,zad (by omega)];rfl))
 refine v0 40 I (J ?_);refine e3 xs[k] (bg nr) ?_;refine J ?_;refine cq vt (xs[k],ae) ⟨aa,jH (tI lW e2)⟩ (av 48 ?_);by_cases U:ej xs[k] ae>0
 ·refine v1 48 U (J ?_);exact aA rfl (no (by rw[hH,zad (show¬ej xs[k] ae<=0 by omega),zdT]))
 refine v0 48 U (av 15 ?_);refine eY 15 ((k+1:Nat):Int) (J ?_);exact br [] (k+1) ⟨by omega,aT,by rw[<-ax,hH,zae (by omega),zae (by omega)];rfl⟩ dW
def arI(p:cz)(q:ew)(ins:ac (ac ce))(fS:ac Nat)(bh:ac (ac bZ)):Nat×ac Rat->cB
 |(k,[])=>⟨[.c 27 (eS p),.c 31 (h8 q)],2,[(2,.bq 1 (ac ce) nR ins),(8,.bq 1 Nat iA fS),(9,.bq 1 (ac bZ) eP bh),(11,.nl),(12,.i .i64 (k:Int))]⟩
 |(k,d::ds)=>⟨[.c 27 (eS p),.c 31 (h8 q),.a 103 true 3 Rat jI (d::ds)],3,[(2,.bq 1 (ac ce) nR ins),(8,.bq 1 Nat iA fS),(9,.bq 1 (ac bZ) eP bh),(11,.a5 2 3 0 (ds.length+1) (ds.length+1)),(12,.i .i64 (k:Int))]⟩
def PD:bU where
 L:=cz×ew×ac (ac ce)
 args:=fun(p,q,ins)=>[jc p,.agg (h8 q),.bq 1 (ac ce) nR ins]
 pre:=fun(p,q,ins)=>Ab p q∧ins.length<=1000∧∀s∈ins,s.length<=2000
 res:=fun(p,q,ins)=>.bn [.i .i64 (nm p q ins).1,.i .i64 (nm p q ins).2]
theorem ZD:∀{l:ac (ac ce)} {xs:ac Rat},(∀s∈l,s.length<=2000)->kN l=some xs->Rc xs
 |[],_,_,h=>by cases h;exact fun x aa=>absurd aa zce
 |r::l,xs,ah,h=>by
  unfold kN at h;split at h
  ·rename_i I U;cases h;intro x aa;rcases zah.1 aa with rfl|aa
   ·exact jH (tI (ah r zbf) I)
   ·exact ZD (fun s dP=>ah s (zaC _ dP)) U x aa
  ·cases h
def arJ:bD aX.ctx 11 PD.spec:=by
 refine b3 [(7,Cf.spec),(35,vr.spec),(36,PE.spec)] wK.1 ?_;intro⟨p,q,ins⟩ ⟨⟨hp,hq,oI⟩,yN,Eg⟩ H aN;obtain⟨⟨fS,bh,c⟩,jQ⟩:∃r,gZ p q=r:=⟨_,rfl⟩;obtain⟨aM,XE,Bk⟩:=LK hp oI jQ;have NL:q.bt.length<=20:=hq.1;have fin:∀{eF e5:Int},nm p q ins=(eF,e5)->b7 (.bn [.i .i64 eF,.i .i64 e5]) (PD.res (p,q,ins)):=fun h=>.of (by show _=aj.bn _;rw[h]);refine J ?_;refine a9 aaT (p,q) ⟨hp,hq,oI⟩ ?_;refine aB 19 (.bn [.bq 1 Nat iA fS,.bq 1 (ac bZ) eP bh,.i .i64 c]) rfl (by show aj.bn _=_;rw[jQ]) (av 24 ?_);by_cases hc:c=0
 case neg=>
  refine v0 24 hc (av 34 ?_);refine v1 34 hc (J ?_);exact aA rfl (fin (TZ jQ hc))
 subst hc;refine v1 24 rfl (av 31 ?_);by_cases hl:ins.length=p.ins.length
 case neg=>
  refine v1 31 (show(ins.length:Int)≠(p.ins.length:Int) by omega) (J ?_);exact aA rfl (fin (TY jQ hl))
 refine v0 31 (gH (show(ins.length:Int)=(p.ins.length:Int) by omega)) (av 34 ?_);refine v0 34 (gH rfl) (J ?_);refine nH (L:=ac Rat) (fun xs=>kN ins=some xs) (fun xs=>⟨[],0,[(8,.bq 1 Nat iA fS),(9,.bq 1 (ac bZ) eP bh),(11,.bq 3 Rat jI xs)]⟩) ?_ ?_
 ·refine df (L:=Nat×ac Rat) (fun(k,xs)=>k<=ins.length∧kN (ins.take k)=some xs) (arI p q ins fS bh) (fun l=>ins.length-l.1) [0,1] (0,[]) ⟨zaf _,rfl⟩ jk lk ?_;rintro⟨k,xs⟩ ⟨ab,ax⟩;by_cases aT:k<ins.length
  case neg=>
   rw[zau (by omega)]at ax;cases xs with
   |nil=>
    refine av 39 ?_;refine v0 39 (show¬(k:Int)<(ins.length:Int) by omega) ?_;refine pF 11 (.bq 3 Rat jI []) rfl .nl ?_;refine J ?_;exact br [] [] ax lk
   |cons d ds=>
    refine av 39 ?_;refine v0 39 (show¬(k:Int)<(ins.length:Int) by omega) ?_;refine iw 11 ?_;refine J ?_;exact br [] (d::ds) ax lk
  have jo:ins[k].length<=2000:=Eg _ (dp aT);cases aD:cF ins[k]with
  |none=>
   cases xs with
   |nil=>
    refine av 39 ?_;refine v1 39 (show(k:Int)<(ins.length:Int) by omega) (J ?_);refine dv ins[k] (bg aT) ?_;refine J ?_;refine a9 o3 ins[k] jo ?_;refine aB 47 (.bn [cT 0,.i .i64 6]) rfl (Ce aD) (J ?_);exact aA rfl (fin (HE jQ hl (Je aT aD)))
   |cons d ds=>
    refine av 39 ?_;refine v1 39 (show(k:Int)<(ins.length:Int) by omega) (J ?_);refine dv ins[k] (bg aT) ?_;refine J ?_;refine a9 o3 ins[k] jo ?_;refine aB 47 (.bn [cT 0,.i .i64 6]) rfl (Ce aD) (J ?_);exact aA rfl (fin (HE jQ hl (Je aT aD)))
  |some x=>
   have eJ:kN (ins.take (k+1))=some (xs++[x]):=by rw[zaP aT];exact OR ax aD
   have r7:=Fg ax;have r7:xs.length<=1000:=by rw[r7,zao];omega
   cases xs with
   |nil=>
    refine av 39 ?_;refine v1 39 (show(k:Int)<(ins.length:Int) by omega) (J ?_);refine dv ins[k] (bg aT) ?_;refine J ?_;refine a9 o3 ins[k] jo ?_;refine aB 47 (.bn [cT x,.i .i64 0]) rfl (tH aD) (J ?_);refine FL jI [x] (h9 (R:=jI) [x] rfl) ?_;refine av 41 ?_;refine eY 41 ((k+1:Nat):Int) (J ?_);exact br [0,1,4] (k+1,[x]) ⟨by show _-(k+1)<_-k;omega,aT,eJ⟩ lk
   |cons d ds=>
    have iT:ds.length+1<=1000:=r7;refine av 39 ?_;refine v1 39 (show(k:Int)<(ins.length:Int) by omega) (J ?_);refine dv ins[k] (bg aT) ?_;refine J ?_;refine a9 o3 ins[k] jo ?_;refine aB 47 (.bn [cT x,.i .i64 0]) rfl (tH aD) (J ?_);refine FK (R:=jI) [x] (h9 (R:=jI) [x] rfl) ?_ (hb:=by show(5*(ds.length+1+1)+1792)*57<=_;omega);refine av 41 ?_;refine eY 41 ((k+1:Nat):Int) (J ?_);exact br [0,1,5] (k+1,d::(ds++[x])) ⟨by show _-(k+1)<_-k;omega,aT,eJ⟩ ⟨by simp,rfl,⟨⟨_,rfl,rfl⟩,⟨_,rfl,rfl⟩,⟨_,rfl,rfl,fun _=>rfl⟩,trivial⟩,⟨rfl,rfl,rfl,congrArg (fun k=>some (aj.a5 5 3 0 k k)) (by simp),rfl,trivial⟩,rfl⟩
 intro xs nt;have r7:=Fg nt;have anF:=ZD Eg nt;refine J ?_;refine df (L:=Nat) (fun k=>k<=bh.length∧jG xs (bh.drop k) k=jG xs bh 0) (fun(k:Nat)=>⟨[],0,[(8,.bq 1 Nat iA fS),(9,.bq 1 (ac bZ) eP bh),(11,.bq 3 Rat jI xs),(15,.i .i64 (k:Int))]⟩) (fun k=>bh.length-k) [] 0 ⟨zaf _,rfl⟩ jk dW ?_;rintro(k:Nat) ⟨ab,ax⟩;refine av 60 ?_;by_cases aT:k<bh.length
 case neg=>
  refine v0 60 (show¬(k:Int)<(fS.length:Int) by omega) ?_;rw[zaH (by omega)]at ax;have ax:(-1:Int)=jG xs bh 0:=ax;refine J ?_;exact aA rfl (fin (T0 jQ hl nt (by rw[<-ax];decide)))
 have Ej:k<fS.length:=by omega
 refine v1 60 (show(k:Int)<(fS.length:Int) by omega) ?_;rw[hx aT]at ax;obtain⟨g1,aP⟩:=aM _ (dp aT);refine J ?_;refine dv bh[k] (bg aT) ?_;refine J ?_;refine a9 arM (bh[k],xs) ⟨aP,by rw[g1,r7,hl],by rw[g1,<-hl];exact yN,anF⟩ ?_;cases h:n6 bh[k] xs with
 |true=>
  refine lG 68 h (J ?_);refine dv fS[k] (bg Ej) ?_;refine J ?_;exact aA rfl (fin (T1 jQ hl nt (by rw[<-ax];unfold jG;rw[zab h]) (bg Ej)))
 |false=>
  refine lG 68 h (av 62 ?_);refine eY 62 ((k+1:Nat):Int) (J ?_);refine br [] (k+1) ⟨by omega,aT,?_⟩ dW;rw[<-ax];conv=>rhs;unfold jG
  rw[zaa (by rw[h];decide)]
def Ys:bU where
 L:=ac Nat
 args:=fun l=>[.bq 1 Nat iA l,.bq 1 Nat iA l]
 pre:=fun l=>l.length<=1000
 res:=fun _=>.b true
def aoR:bD aX.ctx 8 Ys.spec:=by
 refine b3 [] n1.1 ?_;intro(l:ac Nat) (hl:l.length<=1000) H aN;refine av 10 ?_;refine v0 10 (gH rfl) (J ?_);refine df (L:=Nat) (fun k=>k<=l.length) (fun(k:Nat)=>⟨[],0,[(0,.bq 1 Nat iA l),(1,.bq 1 Nat iA l),(5,.i .i64 (k:Int))]⟩) (fun k=>l.length-k) [] 0 (zaf _) jk dW ?_;rintro(k:Nat) ab;refine av 14 ?_;by_cases aT:k<l.length
 case neg=>
  refine v0 14 (show¬(k:Int)<(l.length:Int) by omega) (J ?_);exact aA rfl (.refl _)
 refine v1 14 (show(k:Int)<(l.length:Int) by omega) (J ?_);refine e3 l[k] (bg aT) ?_;refine J ?_;refine e3 l[k] (bg aT) ?_;refine av 25 ?_;refine fi 25 (gH rfl) (av 16 ?_);refine eY 16 ((k+1:Nat):Int) (J ?_);exact br [] (k+1) ⟨by omega,aT⟩ dW
def ab8:bU where
 L:=ac (ac bZ)
 args:=fun l=>[.bq 1 (ac bZ) eP l,.bq 1 (ac bZ) eP l]
 pre:=fun l=>l.length<=1000∧∀b∈l,b.length<=1000
 res:=fun _=>.b true
def atd:bD aX.ctx 9 ab8.spec:=by
 refine b3 [] qV.1 ?_;intro(l:ac (ac bZ)) ⟨hl,hb⟩ H aN;refine av 11 ?_;refine v0 11 (gH rfl) (J ?_);refine df (L:=Nat) (fun k=>k<=l.length) (fun(k:Nat)=>⟨[],0,[(0,.bq 1 (ac bZ) eP l),(1,.bq 1 (ac bZ) eP l),(5,.i .i64 (k:Int))]⟩) (fun k=>l.length-k) [] 0 (zaf _) jk dW ?_;rintro(k:Nat) ab;refine av 15 ?_;by_cases aT:k<l.length
 case neg=>
  refine v0 15 (show¬(k:Int)<(l.length:Int) by omega) (J ?_);exact aA rfl (.refl _)
 refine v1 15 (show(k:Int)<(l.length:Int) by omega) ?_;have jP:=hb _ (dp aT);refine J ?_;refine e3 l[k] (bg aT) ?_;refine J ?_;refine e3 l[k] (bg aT) ?_;refine av 28 ?_;refine fi 28 (gH rfl) (J ?_);refine df (L:=Nat) (fun j=>j<=l[k].length) (fun(j:Nat)=>⟨[],0,[(0,.bq 1 (ac bZ) eP l),(1,.bq 1 (ac bZ) eP l),(5,.i .i64 (k:Int)),(6,.i .i64 (j:Int))]⟩) (fun j=>l[k].length-j) [] 0 (zaf _) jk dW ?_;rintro(j:Nat) hj;refine J ?_;refine dv l[k] (bg aT) ?_;refine av 35 ?_;by_cases hS:j<l[k].length
 case neg=>
  refine v0 35 (show¬(j:Int)<(l[k].length:Int) by omega) (av 17 ?_);refine eY 17 ((k+1:Nat):Int) (J ?_);exact br [] (k+1) ⟨by omega,aT⟩ dW
 refine v1 35 (show(j:Int)<(l[k].length:Int) by omega) (J ?_);refine e3 l[k] (bg aT) ?_;refine J ?_;refine e3 l[k][j] (bg hS) ?_;refine J ?_;refine e3 l[k] (bg aT) ?_;refine J ?_;refine e3 l[k][j] (bg hS) ?_;refine J ?_;refine ag7 ?_;refine av 37 ?_;refine eY 37 ((j+1:Nat):Int) (J ?_);exact br [] (j+1) ⟨by omega,hS⟩ dW
abbrev CV:=cz×ew×ac (ac ce)
def GD(s:CV):Prop:=Ak s.1∧aed s.2.1
variable{p:cz}{q:ew}
def Qr(G:bm->Prop)(db:∀{H a2:bm},dm H a2->G H->G a2):bU where
 L:=Unit
 args:=fun _=>[]
 pre:=fun _=>True
 res:=fun _=>.b true
 hp:=G
 hm:=db
def Ok(G:bm->Prop)(db:∀{H a2:bm},dm H a2->G H->G a2):bU where
 L:=CV
 args:=fun s=>[.agg (eS s.1++h8 s.2.1),.bq 1 (ac ce) nR s.2.2]
 pre:=GD
 res:=fun _=>.b true
 hp:=G
 hm:=db
def afm(h:¬zj p q):Ab p q:=by
 have I:¬20<(q.bt.length:Int):=fun g=>h (.inr (.inl g));have U:¬300<(q.aK.length:Int):=fun g=>h (.inr (.inr (.inl g)));have ag:¬300<(q.ae.length:Int):=fun g=>h (.inr (.inr (.inr (.inl g))));have au:¬300<(q.err.length:Int):=fun g=>h (.inr (.inr (.inr (.inr (.inl g)))));have a0:¬q.bt.any tn=true:=fun g=>h (.inr (.inr (.inr (.inr (.inr (.inl g))))));refine⟨acq fun g=>h (.inl (.inl g)),⟨by omega,by omega,by omega,by omega⟩,fun x aa=> ?_⟩;have b5:¬BD x:=fun g=>a0 (zcP.2 ⟨x,aa,zae g⟩);have cY:¬300<(x.cut.length:Int):=fun g=>b5 (.inr (.inr (.inl g)));omega
def afh{fS:ac Nat}{bh:ac (ac bZ)}{c:Int}(h:gZ p q=(fS,bh,c)){b:ac bZ}(hb:b∈bh):p.ins.length<=1000:=by
 unfold gZ at h;split at h
 ·rename_i h0;exact MI h0
 ·cases h;exact absurd hb zce
def apE{G:bm->Prop}{db:∀{H a2:bm},dm H a2->G H->G a2}(hi:∀{H},G H->l6 H∧C2 H)(cv:bD aX.ctx 5 (Qr G db).spec):bD aX.ctx 3 (Ok G db).spec:=by
 refine Ha aX.ek eM (cn [(4,IN.spec),(5,(Qr G db).spec),(6,Pk.spec),(7,Cf.spec),(8,Ys.spec),(9,ab8.spec),(10,Pl.spec),(11,PD.spec)]) (xf:=bd.1) (by kernel_rfl) (fun l=>jw rfl) ?_;intro⟨p,q,ins⟩ ⟨hp,axb⟩ H aN fc;refine J ?_;refine a9 apA (p,q) hp ?_;by_cases I:zj p q
 ·refine v1 15 I (J ?_);refine a9 cv () trivial (J ?_) (hh:=fc);exact aA rfl (.refl _)
 refine v0 15 I (av 19 ?_);by_cases U:(ins.length:Int)>20
 ·refine v1 19 U (J ?_);refine a9 cv () trivial (J ?_) (hh:=fc);exact aA rfl (.refl _)
 refine v0 19 U ?_;have Bd:=afm I;clear I;refine J ?_;refine nH (L:=Unit) (fun _=>∀s∈ins,s.length<=300) (fun _=>⟨[.c 33 (eS p++h8 q)],1,[(1,.bq 1 (ac ce) nR ins),(2,.p 0 0)]⟩) ?_ ?_
 ·refine df (L:=Nat) (fun k=>k<=ins.length∧∀s∈ins.take k,s.length<=300) (fun(k:Nat)=>⟨[.c 33 (eS p++h8 q)],1,[(1,.bq 1 (ac ce) nR ins),(2,.p 0 0),(5,.i .i64 (k:Int))]⟩) (fun k=>ins.length-k) [0] 0 ⟨zaf _,fun s ah=>absurd ah zce⟩ jk dX ?_;rintro(k:Nat) ⟨ab,ax⟩;refine av 25 ?_;by_cases aT:k<ins.length
  case neg=>
   rw[zau (by omega)]at ax;refine v0 25 (show¬(k:Int)<(ins.length:Int) by omega) (J ?_);exact br [0] () ax dX
  refine v1 25 (show(k:Int)<(ins.length:Int) by omega) (J ?_);refine dv ins[k] (bg aT) ?_;refine av 33 ?_;by_cases ag:(ins[k].length:Int)>300
  ·refine v1 33 ag (J ?_);refine a9 cv () trivial (J ?_) (hh:=fc);exact aA rfl (.refl _)
  refine v0 33 ag (av 27 ?_);refine eY 27 ((k+1:Nat):Int) (J ?_);refine br [0] (k+1) ⟨by omega,aT,fun s ah=> ?_⟩ dX;rw[zaP aT]at ah;rcases zbl.1 ah with ah|ah
  ·exact ax s ah
  ·rw[zex.1 ah];omega
 intro _ hH;have Xt:Ab p q∧ins.length<=1000∧∀s∈ins,s.length<=2000:=⟨Bd,by omega,fun s ah=>zag (hH s ah) (by decide)⟩;obtain⟨⟨fS,bh,c⟩,jQ⟩:∃r,gZ p q=r:=⟨_,rfl⟩;obtain⟨aM,XE,Bk⟩:=LK Bd.1 Bd.2.2 jQ;have NL:q.bt.length<=20:=Bd.2.1.1;obtain⟨⟨f1,f2⟩,af⟩:∃r,nm p q ins=r:=⟨_,rfl⟩;refine J ?_;refine a9 aax (p,q) Bd ?_ (hh:=(hi fc).1);refine aB 40 (.bn [.bq 1 Nat iA fS,.bq 1 (ac bZ) eP bh,.i .i64 c]) rfl (by show aj.bn _=_;rw[jQ]) (J ?_);refine a9 aaT (p,q) Bd ?_;refine aB 49 (.bn [.bq 1 Nat iA fS,.bq 1 (ac bZ) eP bh,.i .i64 c]) rfl (by show aj.bn _=_;rw[jQ]) (J ?_);refine a9 aoR fS (by show fS.length<=1000;omega) (J ?_);have n3:∀b∈bh,b.length<=1000:=fun b hb=>by
  rw[(aM b hb).1];exact afh jQ hb
 refine a9 atd bh ⟨by omega,n3⟩ (av 66 ?_);refine v0 66 (gH rfl) (J ?_);refine a9 arc (p,q,ins) Xt ?_ (hh:=(hi fc).1);refine aB 74 (.bn [.i .i64 f1,.i .i64 f2]) rfl (by show aj.bn _=_;rw[af]) (J ?_);refine a9 arJ (p,q,ins) Xt ?_;refine aB 83 (.bn [.i .i64 f1,.i .i64 f2]) rfl (by show aj.bn _=_;rw[af]) (av 88 ?_);refine v1 88 rfl (av 92 ?_);refine v1 92 rfl (J ?_);refine a9 cv () trivial (J ?_) (hh:=fc);exact aA rfl (.refl _)
end Go.an.a7
namespace Go.an.a7
open Go.an Go.an.hf
set_option maxRecDepth 100000
theorem Y2{h:aq bB}{s:dn}:∀(os:ac (Nat×bB)),(∀o∈os,s.cb.get o.1=some o.1∧h.get o.1=some o.2∧ve o.2 o.2 s=some s)->zl h os s=some s
 |[],_=>rfl
 |o::os,hh=>by
  obtain⟨I,U,ag⟩:=hh o (by simp);show bp (s.cb.get o.1) (fun j=>bp (h.get j) (fun p=>bp (ve o.2 p s) (zl h os) none) none) none=_;rw[I,Sym.eB,U,Sym.eB,ag,Sym.eB];exact Y2 os fun p hp=>hh p (zaC _ hp)
def HP{Q:Nat×bB->Prop}(h0:Q zF)(U:Q su)(ag:Q pE)(au:Q mo)(a0:Q qm):∀p∈kP.gs,Q p:=fun p hp=>by
 have hp:p∈[zF,su,pE,mo,qm]:=hp;simp only[zah,zce,or_false]at hp;rcases hp with rfl|rfl|rfl|rfl|rfl<;>assumption
def kA(H:bm):Prop:=∀p∈kP.gs,H p.1=some p.2
variable{H:bm}{st:ar}
def kA.up{a2:bm}(h:dm H a2)(aM:kA H):kA a2:=fun p hp=>h _ _ (aM p hp)
def WX:∀p∈kP.gs,lE.cb.get p.1=some p.1∧ve p.2 p.2 lE=some lE:=
 HP ⟨by kernel_rfl,by kernel_rfl⟩ ⟨by kernel_rfl,by kernel_rfl⟩ ⟨by kernel_rfl,by kernel_rfl⟩ ⟨by kernel_rfl,by kernel_rfl⟩ ⟨by kernel_rfl,by kernel_rfl⟩
def aes{s:dn}{gs:ac (Nat×bB)}{aL:Nat}{t:Bool}(hc:s.bj<=aL)(h:zl st.h gs s=some s):(⟨[],gs,[],.bool t,[],aL⟩:c3).app s [] st=some (.ret (.bool t) ⟨st.h,st.ai+(aL-s.bj)⟩ false):=by
 unfold c3.app;show bp (zl st.h gs s) _ none=_;rw[h,Sym.eB];show cond (Nat.beq s.bj (Nat.add s.bj 0)) (cond (Nat.ble s.bj aL) (gb (Nat.add st.ai (Nat.sub aL s.bj)) fun n=>some (dk.ret (.bool t) ⟨st.h,n⟩ false)) none) none=_;rw[show Nat.beq s.bj (Nat.add s.bj 0)=true from zax _,show Nat.ble s.bj aL=true from zdd hc];show gb (Nat.add st.ai (Nat.sub aL s.bj)) (fun n=>some (dk.ret (.bool t) ⟨st.h,n⟩ false))=_;unfold gb;rw[zax];rfl
def aqr:lE.bj<=8180:=by rw[py.2.1];exact jw (by kernel_rfl)
def atu(h:∀p∈kP.gs,st.h.get p.1=some p.2):kP.app lE [] st=some (.ret (.bool true) ⟨st.h,st.ai+(8180-lE.bj)⟩ false):=
 aes (gs:=kP.gs) aqr (Y2 kP.gs fun o al=>⟨(WX o al).1,h o al,(WX o al).2⟩)
def atv:bD aX.ctx 5 (Qr kA kA.up).spec:=by
 rintro vs st ⟨⟨l,H⟩,_,fc,ao,ay⟩;have ay:vs=[]:=ay;subst ay;refine⟨.bool true,⟨st.h,st.ai+(8180-lE.bj)⟩,?_,?_⟩
 ·rintro⟨l',a2⟩ ⟨_,awF,cl,_⟩;have hw:∀b,st.ai+(8180-lE.bj)<=b->st.h.get b=none:=fun b hb=>cl.wf b (by omega);exact⟨a2,⟨hw,cl.le,rfl,rfl,zdq,fun b hb=>by simp at hb,fun k o b ab=>by simp at ab⟩,⟨dm.refl _,fun _ _ _=>rfl,fun _ _ _=>rfl,zci _ _,c0.refl _,fun b hb=>.inl hb⟩,rfl⟩
 ·intro ι as' w ha hw;exact RA RN py.1 py.2.1 py.2.2 (atu fun p hp=>ao.le _ _ (fc p hp)) ι as' w ha hw
theorem L1{H:bm}{k:d8}:∀l:ac Int,c4 H (l.map fun n=>.i k n) [] (l.map fun n=>Value.int k n)
 |[]=>rfl
 |n::l=>⟨_,_,rfl,rfl,L1 l⟩
def arw:qm=(5,.cells ((List.range 20).map fun k=>Value.int .u64 ((10^k:Nat):Int)) 428 (0,20) false):=by kernel_rfl
def al3(h:kA H):C2 H:=by
 have a0:=h qm (by show qm∈[zF,su,pE,mo,qm];simp);rw[arw]at a0;refine⟨_,_,_,_,a0,fun a2=> ?_⟩;have:=L1 (H:=a2) (k:=.u64) ((List.range 20).map fun k=>((10^k:Nat):Int));rw[zcl,zcl]at this;exact this
def aci:ac Int:=Kl.flatMap fun p=>[(p.1:Int),(p.2:Int)]
def arv:pE=(3,.cells (aci.map fun n=>Value.int .i64 n) 362 (0,32) false):=by kernel_rfl
def al4(h:kA H):l6 H:=by
 have h0:=h pE (by show pE∈[zF,su,pE,mo,qm];simp);rw[arv]at h0;exact⟨_,_,_,_,h0,fun a2=>L1 (k:=.i64) aci⟩
def YJ:bD aX.ctx 3 (Ok kA kA.up).spec:=apE (fun h=>⟨al4 h,al3 h⟩) atv
