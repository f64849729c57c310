/- What the functions of the program and of the document compute, for every input, and the plain laws of it (part 3); conditions as in the statements. -/
import Derived.Test.YtnbgimpdclpgbaaGreatDoorSqC2
import Derived.Test.YtnbgimpdclpgbaaGreatDoorSqS2
import Derived.Test.YtnbgimpdclpgbaaGreatDoorSqS3
import Derived.Test.YtnbgimpdclpgbaaGreatDoorSqC1
noncomputable section
set_option linter.all false
namespace Go.bC.dg
open Go.bC
set_option maxRecDepth 100000
set_option maxHeartbeats 4000000
variable{k:Nat}
def Hw:bl 116 (bV λ((x,y):Rat×Rat)=>([c0 x,c0 y],eT 67108864 x/\eT 67108864 y,c0<|x*y)):=by
 refine bL [kN,la,l8] VE.1 ?_;intro⟨x,y⟩ ⟨(O:eT _ x),(T:eT _ y)⟩ H aq;have hc:=xA<|x.num*y.num;have es:=Int.sign_mul x.num y.num;refine I 13<|ca kN (x.num.natAbs,y.num.natAbs) ⟨c7 O.1,c7 T.1⟩<|I 1<|ca la x az<|I 1<|ca la y az<|ca kN (x.den,y.den) ⟨c7 O.2,c7 T.2⟩<|I 5<|dF 9 (.aa (x.num*y.num).sign) j j (eV es.symm R R)<|ca l8 ((x.num*y.num).sign,x.num.natAbs*y.num.natAbs,x.den*y.den) ⟨hc.1,hc.2,c7<|lK O.1 T.1,c7<|lK O.2 T.2,n6 x.den_nz y.den_nz⟩<|I 4<|cC (congrArg c0 ?_);rw[Rat.mul_def',<-sX,AJ]
def YU{n:Nat}(h:ei k n):ej (2*k) n:=je ai (vM (tz h)<|by rw[qy];exact v5 ai k)
def sJ{x:Rat}(h:cq k x):eT (2*k) x:=⟨YU h.1,YU h.2⟩
end Go.bC.dg
namespace Go.bC.dg
def ff:Nat->Nat->Nat
 |_,0=>1
 |0,_+1=>0
 |n+1,k+1=>ff n k+ff n (k+1)
def b2(g:Nat->Rat):Nat->Nat->Rat
 |p,0=>g p
 |0,_+1=>g 0
 |p+1,r+1=>b2 g (p+1) r+b2 g p r
open Go.bC
set_option maxRecDepth 100000
set_option maxHeartbeats 4000000
def SZ(n:Int):Rat:=mkRat n 1
def al7(n m:Bool)(a b:Nat):bF (n != m) (a*b)=bF n a*bF m b:=by cases n<;>cases m<;>simp[bF,AL,Int.mul_neg]
def Hx:bl 15 (bV λ((x,y):Rat×Rat)=>([cU x,cU y],cq 268435456 x/\cq 268435456 y,cU<|x*y)):=by
 refine bL [nf,vc,oE] TI.1 ?_;intro⟨x,y⟩ ⟨(O:cq _ x),(T:cq _ y)⟩ H aq;refine I 13<|ca vc (x.num.natAbs,y.num.natAbs) ⟨dq O.1,dq T.1⟩<|I 1<|ca nf x az<|I 1<|ca nf y az<|ca vc (x.den,y.den) ⟨dq O.2,dq T.2⟩<|I 5<|ca oE (decide (x.num<0) != decide (y.num<0),x.num.natAbs*y.num.natAbs,x.den*y.den) ⟨dq<|lI O.1 T.1,dq<|lI O.2 T.2,n6 x.den_nz y.den_nz⟩<|I 4<|cC (congrArg cU ?_);show mkRat (bF _ _) _=x*y;rw[al7,<-GS,<-GS,Rat.mul_def']
def jB(n:Nat):ac ag:=[.aa (n:Int)]
def yp{j:Type}(n:Nat)(f:Nat->j):ac j:=(List.range n).map f
def xO{a b:Nat}{x y:Rat}(aC:cq a x)(aI:cq b y):cq (a+b) (x*y):=by
 rw[Rat.mul_def'];exact pq (by rw[sX];exact lI aC.1 aI.1) (lI aC.2 aI.2)<|n6 x.den_nz y.den_nz
def YV(K:ac (Nat×dV)){f:d7}(a4:cX){S:df}(ms:S.L->ac (bv×ag))(jz:∀l,S.pre l->∀p∈ms l,∃ct:fH,ct.ok p.1=true)
 (h:∀l,S.pre l->∀H aq ab,S.hp H->Fit H [] aq [] 0->cG H (S.args l) [] ab->∃(bO:ac ag) (cE:ac fC),cG H bO [] ab/\nc H cE (ms l)/\jd ⟨cg aL (cw b5.ctx<|bD K)<|bs+1,bs+1,f,H,[],aq,LI cE aq.ae a4.res⟩ a4.body ⟨[],0,iT 0 bO⟩)
 (O:aL.get f=some a4:=by kernel_rfl) (aB:∀l,(S.args l).length<=a4.aN:=by exactλ_=>ib j) (N:∀l,S.res l= .g (fO<|ms l):=by exactλ_=>j):bl f S:=agk b5.eh ez (bD K) O ms N aB jz h
structure Na(f:Poly)(W P:Poly):Prop where
 all:∀p∈P,p.1.fP∧cq 200000001 p.2∧(p.1∉W.map (·.1)->p∈f)
variable{g:Poly}{x:Rat}{p:aE×Rat}{es:ac f7}{seen:ac Nat}{m:f7}{H:bb}{k:aE}
def al8{f W:Poly}(D:f.dU)(F:∀p∈f,p.1.fP/\cq 100000000 p.2)(j:∀p∈g,p.1.fP/\cq 50000000 p.2)(O:cq 50000000 x)(h:Na f W (dS f x W))(hp:p∈g)(aj:p.1∉W.map (·.1)):Na f (W++[p]) (dS f x<|W++[p]):=by
 rw[Mv];refine⟨λq E=>?_⟩;rcases(lG (nN D) p.1 (p.2*x) q).1 E with⟨Y,G,A⟩|⟨Y,G⟩
 .have hm:=xO (j p hp).2 O;have d:cq 100000000 (b3 (dS f x W) p.1):=by
   by_cases N:∃y,(p.1,y)∈dS f x W
   .obtain⟨y,T⟩:=N;rw[k8 (nN D) T];exact(F _<|(h.all _ T).2.2 aj).2
   .rw[tu λr I e=>N ⟨r.2,by rw[<-e];exact I⟩];exact arF arF
  refine⟨by rw[Y];exact(j p hp).1,by rw[G];exact eL<|xx hm d,λN=>absurd ?_ N⟩;rw[Y];simp
 .obtain⟨B,C,u⟩:=h.all q Y;exact⟨B,C,λN=>u λe=>N<|by rw[rL];exact n5 _ e⟩
def left(es:ac f7)(seen:ac Nat):Nat:=(es.filter λm=>decide (m.born∉seen)).length
def xP(hm:m∈es)(h:m.born∉seen):left es (seen++[m.born])<left es seen:=by
 unfold left;have key:∀l:ac f7,(l.filter λR=>decide (R.born∉seen++[m.born])).length<=(l.filter λm=>decide (m.born∉seen)).length/\(m∈l->(l.filter λR=>decide (R.born∉seen++[m.born])).length<(l.filter λm=>decide (m.born∉seen)).length):=by
  intro l
  induction l with
  |nil=>exact⟨c5 _,λh=>by cases h⟩
  |cons x l I=>
   rw[Dy,Dy];by_cases Y:x.born∈seen
   .have G:x.born∈seen++[m.born]:=n5 _ Y;simp only[Y,G,not_true,decide_false,qp,if_false];refine⟨I.1,λO=>?_⟩;rcases fh.1 O with rfl|O
    .exact absurd Y h
    .exact I.2 O
   .by_cases G:x.born=m.born
    .have A:x.born∈seen++[m.born]:=by rw[G];simp
     simp only[Y,A,not_true,not_false_eq_true,decide_false,decide_true,qp,if_false,if_true,hQ];exact atk atk
    .have A:x.born∉seen++[m.born]:=by simp only[gA,gC,not_or];exact⟨Y,G⟩
     simp only[Y,A,not_false_eq_true,decide_true,if_true,hQ];refine⟨by have:=I.1;omega,λO=>?_⟩;rcases fh.1 O with rfl|O
     .exact absurd j G
     .have:=I.2 O;omega
 exact(key es).2 hm
def z0(es:ac f7)(seen:ac Nat):left es seen<=es.length:=List.length_filter_le _ _
def al9:∀{f:Poly},(∀p∈f,p.1.fP)->(∀p∈g,p.1.fP)->f.dU->∀q∈dS f x g,q.1.fP:=by
 induction g with
 |nil=>exactλh _ _=>h
 |cons p g I=>
  intro f Y G D;refine I (f:=dc f p.1<|p.2*x) (λq E=>?_) (λq E=>G q<|fq _ E)<|lH D _ _;rcases(lG D p.1 (p.2*x) q).1 E with⟨h,_⟩|⟨h,_⟩
  .rw[h];exact G p hT
  .exact Y q h
def ama{P:Poly}(aj:b3 P p.1≠0)(h:b3 P p.1=p.2):p∈P:=by
 induction P with
 |nil=>exact absurd j aj
 |cons q P I=>
  unfold b3 at h aj;split at h
  .rename_i e;have:p=q:=by cases p;cases q;simp only at e h;rw[e,h]
   rw[this];exact hT
  .rename_i e;rw[av e]at aj;exact fq _<|I aj h
def xQ(k:aE):den H (mF k) [] (eE k):=⟨_,j,_,_,j,j,_,_,j,j,_,_,j,j,_,_,j,j,_,_,j,j,_,_,j,j,j⟩
def xR{clock:Nat}{ms:ac (bv×ag)}(h:hB H es clock ms){R:f7}(hm:m∈es)(D:R∈es){u:ac aE}(aw:m.key=eE k)(af:R.born∈seen↔∃k∈u,R.key=eE k):R.born∈seen++[m.born]↔∃J∈u++[k],R.key=eE J:=by
 constructor
 .intro M;rcases gA.1 M with M|M
  .obtain⟨J,Y,G⟩:=af.1 M;exact⟨J,n5 _ Y,G⟩
  .rw[gC]at M;rw[JU h.jM D hm M];exact⟨k,au,aw⟩
 .rintro⟨J,Y,G⟩;rcases gA.1 Y with Y|Y
  .exact n5 _<|af.2 ⟨J,Y,G⟩
  .rw[gC]at Y;rw[Y]at G;rw[uniq h.keys D hm<|G.trans aw.symm];simp
def Hy:bl 104 (bV λ((f,g,x):Poly×Poly×Rat)=>([.g<|fO<|e9 f,.g<|fO<|e9 g,cU x],f.dU/\g.dU/\f.iS/\(∀p∈f,p.1.fP/\cq 100000000 p.2)/\(∀p∈g,p.1.fP/\cq 50000000 p.2)/\cq 50000000 x/\f.length<=1000000/\g.length<=1000000,.g<|fO<|e9<|dS f x g)):=by
 refine YV [Hx,(99,zP.jR CN)] LY.1 (λ(f,g,x)=>e9<|dS f x g) ?_ ?_
 .rintro⟨f,g,x⟩ ⟨(D:f.dU),(O:g.dU),(aj:f.iS),z,ad,_⟩ p hp;obtain⟨q,E,rfl⟩:=da.1 hp;exact asc asc
 rintro⟨f,g,x⟩ ⟨(D:f.dU),(O:g.dU),(aj:f.iS),z,ad,(ak:cq _ x),(a0:f.length<=_),(a5:g.length<=_)⟩ H aq a2 _ aY aM;obtain⟨v1,aT,rfl,ar,a1,aS,rfl,av,a4,Z,rfl,aw,F⟩:=aM;have F:Z=[]:=F;subst F;obtain⟨eG,n,o,rfl,d,X⟩:=ar;obtain⟨fD,ag,V,rfl,aF,i⟩:=av;have aL:=vg O;refine⟨[.v<|.map<|some eG,.v<|.map<|some fD,cU x],(dS f x g).map<|ru<|(rr n).po g,⟨_,_,j,j,_,_,j,j,_,_,j,aw,j⟩,?_,?_⟩
 .refine Mx (rq D aj) λp hp u v w J=>?_;unfold gE.po at J;split at J
  .cases J
  .rename_i N;have al:=k8 (nN D) (k:=p.1) (x:=p.2) hp;rw[sD D aL,tu (P:=g) λq E e=>N<|da.2 ⟨q,E,e⟩,Rat.zero_mul,Rat.zero_add]at al;have aH:p∈f:=ama (by rw[al];exact rq D aj p hp) al;obtain⟨m,hm,ai⟩:=vi X aH;obtain⟨q,E,aQ,aV,w',Y,G,A,T⟩:=vh X hm;have:=key_inj<|ai.symm.trans Y;have aW:q.2=p.2:=by rw[<-k8 D (k:=q.1) (x:=q.2) E,<-this];exact k8 D aH
   rw[<-this,J]at A;cases A;rw[<-aW,<-G];exact T
 have aO:∀{ck:Nat} {L:gE} {P:Poly},(∀p∈P,p.1.fP)->∀p∈fz ck L P,(fH.arr .i64 6).ok p.1=true:=λaP p hp=>by
  obtain⟨q,E,rfl⟩:=da.1 hp;exact qe<|aP q E
 show jd _ (.seq _<|.seq _<|.seq (.seq _<|.block _<|.loop _)<|.seq (.seq _<|.block _<|.loop _) _) _;refine im<|gK ?_;refine I 4<|bn ?_;refine im<|gK ?_;refine I 1<|Cv ?_;refine I 2<|bn ?_;refine zv (L:=Unit) (λ_=>True) (λ_=>⟨[.c 45<|jU x,.g<|h6<|fz aq.ae (rr n) f],2,[(1,.v<|.map<|some fD),(5,.p 0 0),(7,.mp 1)]⟩) ?_ ?_
 .refine im<|gK ?_;refine I 2<|xo d ?_;refine I 1<|bn ?_;refine uY ?_;refine xj (L:=ac Nat×ac aE) (λ(seen,a')=>(∀s∈seen,s<o)/\∀m∈n,m.born∈seen↔∃k∈a',m.key=eE k)
   (λ(seen,a')=>⟨[.c 45<|jU x,.g<|h6<|fz aq.ae (rr n)<|f.filter λq=>decide (q.1∈a'),.g<|mB eG o seen],3,[(1,.v<|.map<|some fD),(5,.p 0 0),(7,.mp 1),(14,.p 2 0)]⟩)
   (λl=>left n l.1) [0,1,2] ([],[]) ⟨aqI,λm _=>apB⟩ ?_ (bk (aC:=⟨gJ,⟨_,j,?_⟩,gJ,az⟩)) ?_
  .exact atV
  .show aZ.g _=aZ.g _;rw[List.filter_eq_nil_iff.2 λq _=>au];rfl
  rintro⟨seen,a'⟩ ⟨ah,aa⟩;refine im<|uZ (k:=2) (r:=eG) (clock:=o) (seen:=seen) (es:=n) j j d ah (λm hm af=>?_) λU=>?_
  .refine I 2<|bn ?_;refine gK ?_;refine I 7 ?_;obtain⟨p,hp,u,v,w,Y,G,A,T⟩:=vh X hm;refine xp (mF p.1) (.agg [xn (.v u)<|.b<|decide (p.2.num<0),xn (.v v)<|dt p.2.num.natAbs,xn (.v w)<|rm p.2.den]) d hm X.jM (X.born m hm) (λB _=>?_) (λB hle=>?_) ?_
   .exact aqp
   .rw[G];rw[G]at T;exact by
       have h:=iR hle _ apu T;obtain⟨a3,e,aQ,aT,S,ar,aV,aS,ab,av,w',Z,aN,aw,ay⟩:=h;have ay:Z=[]:=ay;subst ay aN ab S;cases e;exact asv asv
   refine I 12 ?_;have N:p.1∉a':=λe=>af<|(aa m hm).2 ⟨p.1,e,Y⟩;have aG:=akQ (ck:=aq.ae) (L:=rr n) D hp N;rw[A]at aG;refine SQ (fz aq.ae (rr n)<|f.filter λq=>decide (q.1∈a'++[p.1])) aG (xw p.1) (aO λq E=>(z q (rO.1 E).1).1) ?_ (jz:=qe (z p hp).1);refine I 2<|bn ⟨[0,1,2],(seen++[m.born],a'++[p.1]),⟨xP hm af,λs M=>?_,λR Q=>?_⟩,RX ⟨j,j,j,j,az⟩ gJ gJ gJ⟩
   .rcases gA.1 M with M|M
    .exact ah s M
    .exact arj
   .exact xR X hm Q Y<|aa R Q
  .have e:(f.filter λq=>decide (q.1∈a'))=f:=At.2 λq E=>by
    obtain⟨m,hm,ai⟩:=vi X E;obtain⟨k,N,aB⟩:=(aa m hm).1<|U m hm;rw[key_inj<|ai.symm.trans aB];exact cm N
   refine I 2<|bn ?_;refine gK ?_;refine I 4<|bn ?_;show k2 0 _ _ _;refine⟨[0,1],(),az,?_⟩;exact RP ⟨j,j,j,az⟩ gJ ⟨_,j,by show aZ.g _=aZ.g _;rw[e]⟩
 rintro⟨⟩ _;refine zv (L:=Unit) (λ_=>True) (λ_=>⟨[.g<|h6<|fz aq.ae ((rr n).po g)<|dS f x g],1,[(7,.mp 0)]⟩) ?_ ?_
 .refine im<|gK ?_;refine I 2<|xo aF ?_;refine I 1<|bn ?_;refine uY ?_;refine xj (L:=ac Nat×Poly) (λ(seen,W)=>(∀s∈seen,s<V)/\(∀m∈ag,m.born∈seen↔∃k∈W.map (·.1),m.key=eE k)/\(∀p∈W,p∈g)/\(W.map (·.1)).Nodup/\Na f W (dS f x W))
   (λ(seen,W)=>⟨[.c 45<|jU x,.g<|h6<|fz aq.ae ((rr n).po W)<|dS f x W,.g<|mB fD V seen],3,[(5,.p 0 0),(7,.mp 1),(24,.p 2 0)]⟩)
   (λl=>left ag l.1) [0,1,2] ([],[]) ⟨aqI,(λm _=>apB),(λp h=>by cases h),oU,⟨λp hp=>⟨(z p hp).1,eL (z p hp).2,λ_=>hp⟩⟩⟩ ?_ (bk (aC:=⟨gJ,⟨_,j,?_⟩,gJ,az⟩)) ?_
  .show left ag []<bs+1;have Y:=z0 ag [];have G:=i.len;exact ap3
  .show aZ.g _=aZ.g _;rw[akN];rfl
  rintro⟨seen,W⟩ ⟨ah,aa,aA,aI,ao⟩;refine im<|uZ (k:=2) (r:=fD) (clock:=V) (seen:=seen) (es:=ag) j j aF ah (λm hm af=>?_) λU=>?_
  .refine I 2<|bn ?_;refine gK ?_;refine I 7 ?_;obtain⟨p,hp,u,v,w,Y,G,A,T⟩:=vh i hm;refine xp (mF p.1) (cU p.2) aF hm i.jM (i.born m hm) (λB _=>?_) (λB hle=>?_) ?_
   .exact aqp
   .exact iR hle _ apu T
   refine I 11 ?_;have N:p.1∉W.map (·.1):=λe=>af<|(aa m hm).2 ⟨p.1,e,Y⟩;refine ca Hx (p.2,x) ⟨eL (ad p hp).2,eL ak⟩<|I 2<|zz CO 1 (aq.ae,(rr n).po W,dS f x W,p.1,p.2*x) ⟨nN D,λq E=>⟨(ao.all q E).1,eL (ao.all q E).2.1⟩,(ad p hp).1,eL<|xO (ad p hp).2 ak⟩ (c5 _) ?_;refine I 2 ?_;have aU:=al8 D z ad ak ao hp N;refine bn ⟨[0,1,2],(seen++[m.born],W++[p]),⟨xP hm af,λs M=>?_,λR Q=>?_,λq E=>?_,?_,aU⟩,RX ⟨j,j,j,az⟩ gJ ⟨_,j,by show aZ.g _=aZ.g _;rw[akO,Mv]⟩ gJ⟩
   .rcases gA.1 M with M|M
    .exact ah s M
    .rw[gC]at M;rw[M];exact i.born m hm
   .rw[rL];exact xR i hm Q Y<|aa R Q
   .rcases gA.1 E with E|E
    .exact aA q E
    .rw[gC]at E;rw[E];exact hp
   .rw[rL];exact Ay.2 ⟨aI,au,λa aJ b C e=>by simp at C;rw[e,C]at aJ;exact N aJ⟩
  .have aK:∀p,p∈W↔p∈g:=λp=>⟨aA p,λhp=>by
    obtain⟨m,hm,ai⟩:=vi i hp;obtain⟨k,N,aB⟩:=(aa m hm).1<|U m hm;obtain⟨q,E,aR⟩:=da.1 N;have S:q.1=p.1:=aR.trans<|key_inj<|aB.symm.trans ai;have ab:q.2=p.2:=by
     have Y:=k8 O (k:=q.1) (x:=q.2)<|aA q E;rw[S,k8 O (k:=p.1) (x:=p.2) hp]at Y;exact Y.symm
    have:q=p:=by cases q;cases p;simp only at S ab;rw[S,ab]
    rw[<-this];exact E⟩
   have S:=akP (rr n) aK;have ab:=akM (x:=x) D aj aI aL aK;refine I 2<|bn ?_;refine gK ?_;refine I 4<|bn ?_;show k2 0 _ _ _;refine⟨[1],(),az,?_⟩;exact arR arR
 rintro⟨⟩ _;refine gK ?_;exact I 7<|bn ⟨.inr j,0,j,_,_,j,Mw _,.refl _⟩
def aE.add(k J:aE):aE:=⟨k.a+J.a,k.b+J.b,k.c+J.c,k.d+J.d,k.e+J.e,k.f+J.f⟩
def amb{u J:aE}(h:k.add J=u.add J):k=u:=by
 cases k;cases u;unfold aE.add at h;simp at h⊢;omega
abbrev oK:=ac<|(aE×Rat)×(aE×Rat)
variable{f:Poly}{w:(aE×Rat)×(aE×Rat)}
def ek(W:oK):Poly:=W.foldl (λP w=>dc P (w.1.1.add w.2.1)<|w.1.2*w.2.2) []
def vx{W:oK}:ek (W++[w])=dc (ek W) (w.1.1.add w.2.1) (w.1.2*w.2.2):=by
 rw[ek];rw[List.foldl_append];rfl
def z1{j:Type}{p:ac j->Prop}(bX:p [])(aC:∀l a,p l->p (l++[a]))(l:ac j):p l:=by
 have:∀r:ac j,p r.reverse:=λr=>by
  induction r with
  |nil=>exact bX
  |cons a r I=>rw[List.reverse_cons];exact aC _ _ I
 have:=this l.reverse
 rwa [List.reverse_reverse]at this
def sK(W:oK):(ek W).dU:=z1 (p:=λW=>(ek W).dU) List.Pairwise.nil (λW w h=>by rw[vx];exact lH h _ _) W
def Hz(W:oK):(ek W).iS:=z1 (p:=λW=>(ek W).iS) apF (λW w h=>by rw[vx];exact zI (sK W) h _ _) W
def nj:ac Rat->Rat
 |[]=>0
 |x::l=>x+nj l
theorem YW:∀l m:ac Rat,nj (l++m)=nj l+nj m
 |[],m=>by show nj m=0+nj m;rw[Rat.zero_add]
 |x::l,m=>by show x+nj (l++m)=x+nj l+nj m;rw[YW l m,IL]
def amc{l m:ac Rat}(h:l.Perm m):nj l=nj m:=by
 induction h with
 |nil=>rfl
 |cons x _ I=>show x+_=x+_;rw[I]
 |swap x y l=>show y+(x+nj l)=x+(y+nj l);rw[<-IL,Rat.add_comm y x,IL]
 |trans _ _ d S=>exact d.trans S
def amd(w:(aE×Rat)×(aE×Rat)):Rat:=w.1.2*w.2.2
def at_(s:aE)(W:oK):ac Rat:=(W.filter λw=>decide (w.1.1.add w.2.1=s)).map amd
theorem Nb(W:oK):∀s,b3 (ek W) s=nj (at_ s W):=z1 (p:=λW=>∀s,b3 (ek W) s=nj (at_ s W)) (λs=>j) (λW w I s=>by
 rw[vx,GC<|sK W];rw[at_,List.filter_append,rL,YW];have r:=I s;rw[at_]at r;by_cases h:s=w.1.1.add w.2.1
 .rw[aD h,<-h,r];have:[w].filter (λw=>decide (w.1.1.add w.2.1=s))=[w]:=by simp[h]
  rw[this];show _=_+(w.1.2*w.2.2+0);rw[AN,Rat.add_comm]
 .rw[av h,r];have:[w].filter (λw=>decide (w.1.1.add w.2.1=s))=[]:=by grind
  rw[this];show _=_+0;rw[AN]) W
def gy(f g:Poly):oK:=f.flatMap λp=>g.map λq=>(p,q)
def sL:w∈gy f g↔w.1∈f/\w.2∈g:=by
 rw[gy];simp only[sQ,da];constructor
 .rintro⟨p,hp,q,E,rfl⟩;exact⟨hp,E⟩
 .rintro⟨Y,G⟩;exact⟨w.1,Y,w.2,G,j⟩
def z2(h:f.dU):f.Nodup:=h.imp λ{p q} B e=>by rw[e]at B;exact aE.nK _ B
def Nc(D:f.Nodup)(O:g.Nodup):(gy f g).Nodup:=by
 induction f with
 |nil=>exact oU
 |cons p f I=>
  rw[uc]at D;refine Ay.2 ⟨oS.2<|O.imp λ{a b} Y e=>Y<|congrArg Prod.snd e,I D.2,λa A b C e=>?_⟩;obtain⟨q,_,rfl⟩:=da.1 A;rw[<-e]at C;exact D.1 (sL.1 C).1
def ame{W V:oK}(E:W.Nodup)(I:V.Nodup)(h:∀w,w∈W↔w∈V):ek W=ek V:=
 GD (sK W) (sK V) (Hz W) (Hz V) λk=>by
  rw[Nb,Nb];exact amc<|(((DA E I).2 h).filter _).map _
theorem Nd{j:Type}[DecidableEq j]:∀{l m:ac j},l.Nodup->(∀x∈l,x∈m)->l.length<=m.length
 |[],_,_,_=>c8 _
 |x::l,m,aj,h=>by
  rw[uc]at aj;have O:=h x hT;have:=Nd (m:=m.erase x) aj.2 λy T=>by
   exact(List.mem_erase_of_ne λe=>aj.1<|by rw[<-e];exact T).2<|h y<|fq _ T
  rw[List.length_erase_of_mem O]at this;have hp:=List.length_pos_of_mem O;simp;omega
theorem YX{m:Nat}:∀{l:ac Rat},(∀x∈l,cq m x)->cq (l.length*(m+1)+2) (nj l)
 |[],_=>eL ats au
 |x::l,h=>by
  refine eL (xx (h x hT)<|YX λy T=>h y<|fq _ T) ?_;rw[hQ,fb];omega
def Nf{W:oK}{a b:Nat}(D:f.dU)(E:W.Nodup)(h:∀w∈W,w.1∈f/\w.2∈g)(I:∀p∈f,cq a p.2)(j:∀p∈g,cq b p.2):∀p∈ek W,cq (g.length*(a+b+1)+2) p.2:=λp hp=>by
 rw[<-k8 (sK W) hp,Nb];refine eL (YX (m:=a+b) λx O=>?_) ?_
 .obtain⟨w,F,rfl⟩:=da.1 O;have⟨d,G⟩:=h w (rO.1 F).1;exact xO (I _ d)<|j _ G
 .exact DL (lN _ (by
   rw[at_,hI];have:=Nd (l:=(W.filter λw=>decide (w.1.1.add w.2.1=p.1)).map (·.2)) (by
    refine oS.2<|(E.sublist DG).imp_of_mem λ{a b} i C Y e=>Y ?_;have⟨n,r⟩:=rO.1 i;have⟨Z,u⟩:=rO.1 C;have G:=iY u;rw[<-e]at G;have A:=amb<|(iY r).trans G.symm;have o:=k8 D (h a n).1;rw[A]at o;have T:=o.symm.trans<|k8 D (h b Z).1;exact Prod.ext (Prod.ext A T) e) λx O=>by
     obtain⟨w,F,rfl⟩:=da.1 O;exact(h w (rO.1 F).1).2
   rw[hI]at this;exact this)) 2
def aE.hO(k:aE):Prop:=k.a<2048/\k.b<2048/\k.c<2048/\k.d<2048/\k.e<2048/\k.f<2048
def Ng{J:aE}(h:k.hO)(D:J.hO):(k.add J).fP:=by unfold aE.hO at h D;unfold aE.fP aE.add;simp only;omega
def xS(h:k.hO):k.fP:=by rw[aE.hO]at h;rw[aE.fP];omega
def YY:∀W:oK,(∀w∈W,(w.1.1.add w.2.1).fP)->∀p∈ek W,p.1.fP:=λW=>z1 (p:=λW=>(∀w∈W,(w.1.1.add w.2.1).fP)->∀p∈ek W,p.1.fP) (λ_ p hp=>by cases hp) (λW w I h p hp=>by
 rw[vx]at hp;obtain⟨Y,_⟩|⟨Y,_⟩:=(lG (sK W) _ _ p).1 hp
 .rw[Y];exact h w au
 .exact I (λw F=>h w<|n5 _ F) p Y) W
end Go.bC.dg
namespace Go.bC.dg
open Go.bC Go.bC.Sym
set_option maxRecDepth 100000
set_option maxHeartbeats 4000000
section
variable{an:eR}{K:ac dA}{own:ac aZ}{ax:Nat}{e:bP}
def Nh{n z a8 U J:Nat}{bD:f6}{x i:ce}{d:Tmp}{aA:ac Tmp}{back:Nat}{l:ac (bj×cn)}{a9:ac aZ}{aX:bP}{aT bU:Nat}(I:bM.ok an ⟨K,.d l a9 ((d,.p a8<|U+J*z)::aX) aT bU,⟨own,ax,(d,.p a8<|U+J*z)::e⟩⟩)
 (O:a5 (dZ aA aX) x=some (.p a8 U):=by rfl) (af:a5 (dZ aA aX) i=some (.i bD (J:Int)):=by rfl) (ba:J<n:=by decide) (ay:back<aT:=by decide):bM.ok an ⟨K,.d ((⟨some d,.rV n z x i,none⟩,.read back aA)::l) a9 aX aT bU,⟨own,ax,e⟩⟩:=
 l2 (d:=some d) (s:=⟨own,ax,e⟩) ay (λH u st h D _ _=>by
  obtain⟨b,Y,G⟩:=D.ar O;have A:h.ar i= .int bD (J:Int):=D.ar af;refine⟨_,arP,λL _ _=>?_⟩;show s5 n z x i an.call h L=_;unfold s5;rw[G,lx,Sym.ed,A,l1,ou,fo R,nB];rfl) I
end
def amf(k:aE):gE.kM (λ_=>none) k=λ_=>none:=funext λJ=>by unfold gE.kM;split<;>rfl
def amg{a b:Nat}(bR:a<4096)(ay:b<4096):ag.aa (IntKind.i64.wrap<|(a:Int)+(b:Int))=ag.aa ((a+b:Nat):Int):=by
 rw[gn R R];rfl
def amh(k J:aE)(i:Nat):ac ag:=[.aa ((if 0<i then k.a+J.a else k.a:Nat):Int),.aa ((if 1<i then k.b+J.b else k.b:Nat):Int),.aa ((if 2<i then k.c+J.c else k.c:Nat):Int),
 .aa ((if 3<i then k.d+J.d else k.d:Nat):Int),.aa ((if 4<i then k.e+J.e else k.e:Nat):Int),.aa ((if 5<i then k.f+J.f else k.f:Nat):Int)]
def HA:bl 102 (bV λ((f,g,a,b):Poly×Poly×Nat×Nat)=>([.g<|fO<|e9 f,.g<|fO<|e9 g],f.dU/\g.dU/\(∀p∈f,p.1.hO/\cq a p.2)/\(∀p∈g,p.1.hO/\cq b p.2)/\a+b<=200000000/\g.length*(a+b+1)+2<=268435456/\f.length<=1000000/\g.length<=1000000,.g<|fO<|e9<|ek<|gy f g)):=by
 refine YV [Hx,(99,zP.jR CN)] LX.1 (λ(f,g,_,_)=>e9<|ek<|gy f g) ?_ ?_
 .rintro⟨f,g,a,b⟩ ⟨(D:f.dU),(O:g.dU),z,ab,_⟩ p hp;obtain⟨q,E,rfl⟩:=da.1 hp;exact arT arT
 rintro⟨f,g,a,b⟩ ⟨(D:f.dU),(O:g.dU),z,ab,(bo:a+b<=_),(a4:List.length g*(a+b+1)+2<=_),(bu:f.length<=_),(bx:g.length<=_)⟩ H aq bw _ Z T;obtain⟨v1,bq,rfl,b',bd,bc,rfl,ba,aC⟩:=T;have aC:bc=[]:=aC;subst aC;obtain⟨eG,n,o,rfl,aI,X⟩:=b';obtain⟨fD,av,V,rfl,aL,aj⟩:=ba;have a3:=z2 D;have bf:=z2 O;refine⟨[.v<|.map<|some eG,.v<|.map<|some fD],(ek<|gy f g).map<|ru λ_=>none,Ni,?_,?_⟩
 .exact Mx (Hz _) λp hp u v w J=>by cases J
 show jd _ (.seq _<|.seq _<|.seq (.seq _<|.block _<|.loop _) _) _;refine im<|gK ?_;refine I 3<|bn ?_;refine im<|gK ?_;refine I 1<|Cv ?_;refine I 2<|bn ?_;refine zv (L:=Unit) (λ_=>True) (λ_=>⟨[.g<|h6<|fz aq.ae (λ_=>none)<|ek<|gy f g],1,[(5,.mp 0)]⟩) ?_ ?_
 .refine im<|gK ?_;refine I 2<|xo aI ?_;refine I 1<|bn ?_;refine uY ?_;refine xj (L:=ac Nat×ac aE×oK) (λ(seen,ah,W)=>(∀s∈seen,s<o)/\(∀m∈n,m.born∈seen↔∃k∈ah,m.key=eE k)/\W.Nodup/\(∀w∈W,w.1∈f/\w.2∈g)/\∀w,w.1∈f->w.2∈g->(w∈W↔w.1.1∈ah))
   (λ(seen,ah,W)=>⟨[.g<|h6<|fz aq.ae (λ_=>none)<|ek W,.g<|mB eG o seen],2,[(1,.v<|.map<|some fD),(5,.mp 0),(14,.p 1 0)]⟩)
   (λl=>left n l.1) [0,1] ([],[],[]) ⟨aqI,(λm _=>apB),oU,(λw h=>by cases h),λw _ _=>⟨apQ,λh=>by cases h⟩⟩ ?_ bk ?_
  .exact atV
  rintro⟨seen,ah,W⟩ ⟨aY,aM,A,aS,aR⟩;refine im<|uZ (k:=1) (r:=eG) (clock:=o) (seen:=seen) (es:=n) j j aI aY (λm hm aV=>?_) λaK=>?_
  .refine I 2<|bn ?_;refine im<|gK ?_;refine I 2<|bn ?_;refine uY ?_;refine im<|gK ?_;refine I 1 ?_;obtain⟨p,hp,u,v,w,Y,G,bm,a8⟩:=vh X hm;refine xp (mF p.1) (cU p.2) aI hm X.jM (X.born m hm) (λaB _=>?_) (λaB hle=>?_) ?_
   .exact aqp
   .exact iR hle _ apu a8
   have N:p.1∉ah:=λe=>aV<|(aM m hm).2 ⟨p.1,e,Y⟩;refine I 7<|bn ?_;refine im<|gK ?_;refine I 2<|xo aL ?_;refine I 1<|bn ?_;refine uY ?_;refine xj (L:=ac Nat×ac aE×oK) (λ(ad,al,a')=>(∀s∈ad,s<V)/\(∀m∈av,m.born∈ad↔∃k∈al,m.key=eE k)/\a'.Nodup/\(∀w∈a',w.1∈f/\w.2∈g)/\∀w,w.1∈f->w.2∈g->(w∈a'↔w.1.1∈ah\/w.1=p/\w.2.1∈al))
    (λ(ad,al,a')=>⟨[.g<|h6<|fz aq.ae (λ_=>none)<|ek a',.g<|mB eG o<|seen++[m.born],.c 197 [.aa (p.1.a:Int),.aa (p.1.b:Int),.aa (p.1.c:Int),.aa (p.1.d:Int),.aa (p.1.e:Int),.aa (p.1.f:Int)],.c 45<|jU p.2,.g<|mB fD V ad],5,[(1,.v<|.map<|some fD),(5,.mp 0),(14,.p 1 0),(6,.p 2 0),(7,.p 3 0),(21,.p 4 0)]⟩)
    (λl=>left av l.1) [0,1,2,3,4] ([],[],W) ⟨aqI,(λm _=>apB),A,aS,λw B C=>(aR w B C).trans ⟨.inl,λh=>h.elim id λh=>by cases h.2⟩⟩ ?_
    bk ?_
   .show left av []<bs+1;have Y:=z0 av [];have G:=aj.len;exact ap3
   rintro⟨ad,al,a'⟩ ⟨a1,aA,ay,ao,aG⟩;refine im<|uZ (k:=4) (r:=fD) (clock:=V) (seen:=ad) (es:=av) j j aL a1 (λar ak aO=>?_) λaK=>?_
   .refine I 2<|bn ?_;refine gK ?_;refine I 7 ?_;obtain⟨q,E,bp,bd,Gm,aH,bh,a0,cJ⟩:=vh aj ak;refine xp (mF q.1) (cU q.2) aL ak aj.jM (aj.born ar ak) (λaB _=>?_) (λaB hle=>?_) ?_
    .rw[aH];exact xQ q.1
    .exact iR hle _ apu cJ
    have bb:q.1∉al:=λe=>aO<|(aA ar ak).2 ⟨q.1,e,aH⟩;have a2:=xS (z p hp).1;have a5:=xS (ab q E).1;refine I 22 ?_;refine ea (L:=Nat) (λi=>i<=6) (λ(i:Nat)=>⟨[.g<|h6<|fz aq.ae (λ_=>none)<|ek a',.g<|mB eG o<|seen++[m.born],.c 197 [.aa (p.1.a:Int),.aa (p.1.b:Int),.aa (p.1.c:Int),.aa (p.1.d:Int),.aa (p.1.e:Int),.aa (p.1.f:Int)],.c 45<|jU p.2,.g<|mB fD V<|ad++[ar.born],
     .c 197 [.aa (q.1.a:Int),.aa (q.1.b:Int),.aa (q.1.c:Int),.aa (q.1.d:Int),.aa (q.1.e:Int),.aa (q.1.f:Int)],.c 45<|jU q.2,.c 197<|amh p.1 q.1 i],8,
     [(1,.v<|.map<|some fD),(5,.mp 0),(14,.p 1 0),(6,.p 2 0),(7,.p 3 0),(21,.p 4 0),(8,.p 5 0),(9,.p 6 0),(10,.p 7 0),(28,.aa (i:Nat))]⟩)
     (λi=>6-i) [0,1,2,3,4,5,6,7] 0 R (by show 6-0<bs+1;unfold bs;omega)
     bk ?_
    rintro(i:Nat) af;rcases(show i=0\/i=1\/i=2\/i=3\/i=4\/i=5\/i=6 by omega)with rfl|rfl|rfl|rfl|rfl|rfl|rfl
    rotate_left 6
    .refine I 15<|ca Hx (p.2,q.2) ⟨eL (z p hp).2 R,eL (ab q E).2 R⟩<|I 2 ?_;have a7:(p,q)∉a':=λe=>((aG (p,q) hp E).1 e).elim N λh=>bb h.2;refine zz CO 0 (aq.ae,λ_=>none,ek a',p.1.add q.1,p.2*q.2) ⟨sK a',λr aQ=>⟨YY a' (λw F=>Ng (z _ (ao w F).1).1 (ab _ (ao w F).2).1) r aQ,eL (Nf D ay ao (λp hp=>(z p hp).2) (λp hp=>(ab p hp).2) r aQ) a4⟩,Ng (z p hp).1 (ab q E).1,eL (xO (z p hp).2 (ab q E).2) R⟩ (c5 _) ?_;refine I 2 ?_;refine bn ⟨[0,1,2,3,4],(ad++[ar.born],al++[q.1],a'++[(p,q)]),⟨xP ak aO,λs M=>?_,λaF Q=>xR aj ak Q aH<|aA aF Q,?_,λw F=>?_,λw B C=>?_⟩,
      ⟨ai,j,⟨⟨_,j,by show aZ.g _=aZ.g _;rw[amf,vx]⟩,gJ,gJ,gJ,gJ,az⟩,⟨j,j,j,j,j,j,az⟩,j⟩⟩
     .rcases gA.1 M with M|M
      .exact a1 s M
      .rw[gC]at M;rw[M];exact aj.born ar ak
     .exact Ay.2 ⟨ay,au,λa aT b aU e=>by
       rw[gC]at aU;rw[e,aU]at aT;exact a7 aT⟩
     .rcases gA.1 F with F|F
      .exact ao w F
      .rw[gC]at F;rw[F];exact⟨hp,E⟩
     .rw[gA,gC,aG w B C,gA,gC];constructor
      .rintro((h|h)|h)
       .exact .inl h
       .exact .inr ⟨h.1,.inl h.2⟩
       .rw[h];exact .inr ⟨j,.inr j⟩
      .rintro(h|⟨h,aw|aw⟩)
       .exact .inl<|.inl h
       .exact .inl<|.inr ⟨h,aw⟩
       .refine .inr<|Prod.ext h<|Prod.ext aw ?_;have S:=k8 O (k:=w.2.1) (x:=w.2.2) C;rw[aw,k8 O (k:=q.1) (x:=q.2) E]at S;exact S.symm
    all_goals
     refine I 19<|Nh ?_;refine I 2<|Nh ?_;refine I 2<|dF 37 (.aa ((_+_:Nat):Int)) j j (amg (by simp;unfold aE.fP at a2;omega)<|by unfold aE.fP at a5;omega)<|Nh ?_;refine I 8<|bB [0,1,2,3,4,5,6,7] _ ?_ ⟨ai,j,?_,⟨j,j,j,j,j,j,j,j,j,j,az⟩,j⟩
     .exact atj atj
     exact⟨gJ,gJ,gJ,gJ,gJ,gJ,gJ,gJ,az⟩
   .refine I 2<|bn ?_;refine gK ?_;refine I 4<|bn ?_;show k2 0 _ _ _;refine⟨[0,1],(seen++[m.born],ah++[p.1],a'),⟨xP hm aV,λs M=>?_,λaF Q=>xR X hm Q Y<|aM aF Q,ay,ao,λw B C=>(aG w B C).trans ?_⟩,?_⟩
    .rcases gA.1 M with M|M
     .exact aY s M
     .exact arj
    .rw[gA,gC];constructor
     .exactλh=>h.imp id λh=>by rw[h.1]
     .refineλh=>h.imp id λh=>⟨?_,?_⟩
      .have S:=k8 D (k:=w.1.1) (x:=w.1.2) B;rw[h,k8 D (k:=p.1) (x:=p.2) hp]at S;exact Prod.ext h S.symm
      .obtain⟨aW,aP,aN⟩:=vi aj C;obtain⟨k,N,aJ⟩:=(aA aW aP).1<|aK aW aP;rw[key_inj<|aN.symm.trans aJ];exact N
    .exact RP ⟨j,j,j,az⟩ gJ gJ
  .have S:ek W=ek (gy f g):=ame A (Nc a3 bf) λw=>by
    rw[sL];refine⟨aS w,λh=>(aR w h.1 h.2).2 ?_⟩;obtain⟨m,hm,aN⟩:=vi X h.1;obtain⟨k,N,aJ⟩:=(aM m hm).1<|aK m hm;rw[key_inj<|aN.symm.trans aJ];exact N
   refine I 2<|bn ?_;refine im<|gK ?_;refine I 2<|bn ?_;show k2 0 _ _ _;refine⟨[0],(),az,?_⟩;exact ik ⟨j,az⟩ ⟨_,j,by show aZ.g _=aZ.g _;rw[S]⟩
 rintro⟨⟩ _;refine gK ?_;exact I 7<|bn ⟨.inr j,0,j,_,_,j,Mw _,.refl _⟩
end Go.bC.dg
namespace Go.bC.dg
open Go.bC
set_option maxRecDepth 100000
set_option maxHeartbeats 4000000
variable{f:d7}
instance:Coe PP dV:=⟨λS=>S.spec.K⟩
def xT(K:ac (Nat×dV))(a4:cX){S:PP}(h:∀l,S.pre l->∀H aq,S.hp H->bM.ok ⟨cg aL (cw b5.ctx<|bD K)<|bs+1,bs+1,f,H,[],aq,Ln S l a4.res⟩ ⟨[],.c a4.body,⟨[],0,iT 0<|S.args l⟩⟩)
 (O:aL.get f=some a4:=by kernel_rfl) (aB:∀l,(S.args l).length<=a4.aN:=by exactλ_=>ib j):ly b5.ctx f S.spec:=by
  refine adY b5.eh ez (bD K) O (λl V st ⟨_,_,_,d⟩=>by rw[gq d];exact aB l.1) ?_;rintro⟨l,H⟩ V st ⟨hp,i,Z,d⟩;apply(h l hp H st i H [] st (eg V) aqd Z<|cS.zero d).mono;rintro x o al ⟨B,u,s,F,W,D,O⟩;obtain⟨O,r,a,Y,G,E,hle⟩|⟨v,rfl,E⟩:=O
  .obtain⟨v,A,T⟩:=sv W D Y;exact .inl ⟨O,v,T,a,B,E,W.less,F.less,hle _ _ _<|tk _ G A _⟩
  .exact .inr ⟨v,j,F6 D.pl,B,E,W.less,F.less⟩
def eu(c:Int):bv:=.iface 182<|.agg #[.int .i64 c]
def ami(b:Bool)(c:Int):q8:=if b=true then .ret (.bc [])else .aV (eu c)
def z3:PP where
 L:=Bool×Int
 args:=λ(b,c)=>[.b b,.aa c]
 pre:=λ_=>True
 out:=λ(b,c)=>ami b c
def jC:ly b5.ctx 88 z3.spec:=by
 apply xT [] UJ.1;rintro⟨b,c⟩ _ H aq _;cases b with
 |true=>
  exact I 8<|bn (tr j j j asI)
 |false=>
  refine I 10<|afx (.agg #[.int .i64 c]) ?_;exact afv<|bn<|jT j
def amj(c:Int):q8:=if c=0 then .ret (.bc [])else .aV (eu c)
def HB:PP where
 L:=Int
 args:=λc=>[.aa c]
 pre:=λ_=>True
 out:=amj
def z4:ly b5.ctx 31 HB.spec:=by
 apply xT [(88,z3)] S8.1;intro(c:Int) _ H aq _;by_cases h:c=0
 .exact I 4<|v1 3 h<|l4 jC (true,c) az (.bc []) j<|I 1<|bn (tr j j (aD h) asI)
 .exact I 4<|v0 3 h<|kK jC (false,c) az (eu c) j<|bn (jT<|av h)
def tK(s:ac ci):q8:=match dK s with
 |some x=>.ret (cU x)
 |none=>.aV<|eu 6
def YZ:PP where
 L:=ac ci
 args:=λs=>[.s s]
 pre:=λs=>s.length<=2000
 out:=tK
def HC:ly b5.ctx 98 YZ.spec:=by
 apply xT [vs,(31,HB)] L1.1;intro s M H aq _;cases h:dK s with
 |some x=>
  exact I 8<|aS vs s M<|aJ 7 (.bc [cU x,.aa 0]) j aqG<|I 11<|l4 z4 (0:Int) az (.bc []) j<|I 9<|bn (tr j j (show tK s= .ret (cU x) by unfold tK;rw[h]) asI)
 |none=>
  exact I 8<|aS vs s M<|aJ 7 (.bc [cU 0,.aa 6]) j aqG<|I 11<|kK z4 (6:Int) az (eu 6) j<|I 1<|bn (jT (show tK s= .aV (eu 6) by unfold tK;rw[h]))
def en(l:ac Nat):Nat:=l.foldr (· +·) 0
def z5(l m:ac Nat):en (l++m)=en l+en m:=by
 induction l with
 |nil=>simp[en]
 |cons a l I=>show a+en (l++m)=a+en l+en m;omega
theorem xU{B:Nat}:∀{l:ac Nat},(∀n∈l,n<=B)->en l<=l.length*B
 |[],_=>c8 _
 |a::l,h=>by
  have aC:=xU λn aj=>h n<|fq _ aj;have G:=h a hT;show a+en l<=(l.length+1)*B;rw[fb];omega
theorem Y0:bl 186 (bV λ(l:ac Nat)=>([.b6 1 Nat jB l],l.length<=1000/\∀n∈l,n<=1000000,.aa (en l:Nat))):=by
 refine bL [] L4.1 ?_;intro(l:ac Nat) ⟨B,C⟩ H aq;have F:∀i,en (l.take i)<=1000000000:=λi=>by
  have Y:=xU (l:=l.take i) λn aj=>C n<|mR aj;have G:(l.take i).length<=1000:=by grind
  omega
 refine rf (λi=>i<=l.length) (λ(i:Nat)=>⟨[],0,[(5,.b6 1 Nat jB l),(6,.aa l.length),(7,.aa i),(2,.aa (en (l.take i):Nat))]⟩) (λi=>l.length-i) [] 0 (c8 _) ?_;rintro i af;refine zC (λh=>?_) λh=>?_
 .have h:i<l.length:=by omega
  have aj:=C _<|dH h;have Y:=F i;have e:en (l.take<|i+1)=en (l.take i)+l[i]:=by
   rw[hR h,z5];simp[en]
  exact I 6<|eW l[i] (aO h) j<|I 16<|bB [] (i+1) ary (k3 aqk)
 .have h:i=l.length:=by omega
  refine u6 ?_
  grind [en]
def amk(K:ac (Nat×dV))(a4:cX){S:PP}(i:Nat)(G:∀l v,S.out l= .aV v->∀(ad T:bH) (u:bv),bd T v u->bd ad v u)
 (h:∀l,S.pre l->∀H aq ab,S.hp H->Fit H [] aq [] 0->cG H (S.args l) [] ab->∃bO:ac ag,cG H bO [] ab/\jd ⟨cg aL (cw b5.ctx<|bD K)<|bs+1,bs+1,f,H,[],aq,LP S l ab i H a4.res⟩ a4.body ⟨[],0,iT 0 bO⟩)
 (O:aL.get f=some a4:=by kernel_rfl) (aB:∀l,(S.args l).length<=a4.aN:=by exactλ_=>ib j):ly b5.ctx f S.spec:=agq b5.eh ez (bD K) O i aB G h
def aE.n(k:aE):ac Nat:=[k.a,k.b,k.c,k.d,k.e,k.f]
def aE.kP(k:aE):Nat:=en k.n
def gM(f:Poly):Bool:=decide (f.length<=200)&&f.all λp=>decide (p.1.kP<=16)
def tL(f:Poly):q8:=if gM f=true then .ret (.g<|fO<|e9 f)else .aV (eu 3)
def Y1:PP where
 L:=Poly
 args:=λf=>[.g<|fO<|e9 f]
 pre:=λf=>f.dU/\(∀p∈f,p.1.fP)/\f.length<=1000000
 out:=tL
theorem vy:ly b5.ctx 101 Y1.spec:=by
 refine amk [(88,z3),Y0] Cx.1 0 ?_ ?_
 .intro f v h aw ao u ab;have h:tL f= .aV v:=h;unfold tL at h;split at h
  .cases h
  .cases h;exact by
    cases ab with
    |iface _ _ w ab=>
     refine .iface _ _ _ ?_;cases ab with
     |agg xs ad Y G=>
      obtain⟨ad⟩:=ad;obtain⟨y,ar,rfl,q,ae⟩:=(bI.uy Y G).cons_inv;have:=ae.qL;subst this;cases q;exact bd.r5<|bI.cons (.int _ _)<|bI.nil _
 rintro(f:Poly) ⟨D,z,av⟩ H aq V _ ak T;obtain⟨v1,au,rfl,O,F⟩:=T;subst F;have J:=O;obtain⟨eG,a',o,rfl,d,X⟩:=O;have al:(e9 f).length=f.length:=by unfold e9;rw[hI]
 refine⟨[.v<|.map<|some eG],ar4,?_⟩;refine im<|gK ?_;refine I 3<|bn ?_;by_cases G:f.length<=200
 case neg=>
  have Z:tL f= .aV (eu 3):=by unfold tL gM;rw[cp G];rfl
  refine im<|gK ?_;exact I 2<|SR (SD d X) (I 1<|cI 6<|kK jC (false,3) az (eu 3) j<|bn (.inr ⟨_,j,Z⟩))
 refine im<|gK ?_;refine I 2<|SR (SD d X) ?_;refine I 1<|cM 6<|l4 jC (true,3) az (.bc []) j<|I 1<|bn ?_;refine zv (L:=Unit) (λ_=>f.all (λp=>decide (p.1.kP<=16))=true) (λ_=>⟨[],0,[(0,.v<|.map<|some eG)]⟩) ?_ ?_
 .refine im<|gK ?_;refine I 2<|xo d ?_;refine I 1<|bn ?_;refine uY ?_;refine xj (λ(seen,W)=>(∀s∈seen,s<o)/\(∀m∈a',m.born∈seen↔∃k∈W,m.key=eE k)/\∀k∈W,k.kP<=16)
   (λ(seen,W)=>⟨[.g<|mB eG o seen],1,[(0,.v<|.map<|some eG),(9,.p 0 0)]⟩)
   (λl=>left a' l.1) [0] ([],[]) ⟨aqI,(λm _=>apB),λk h=>by cases h⟩ ?_ bk ?_
  .show left a' []<bs+1;have Y:=z0 a' [];have G:=X.len;unfold bs;omega
  rintro⟨seen,W⟩ ⟨r,i,S⟩;refine im<|uZ j j d r (λm hm ai=>?_) λU=>?_
  .refine I 2<|bn ?_;refine gK ?_;refine I 7 ?_;obtain⟨p,hp,u,v,w,Y,G,A,af⟩:=vh X hm;refine xp (mF p.1) (cU p.2) d hm X.jM (X.born m hm) (λB _=>?_) (λB hle=>?_) ?_
   .exact aqp
   .exact iR hle _ apu af
   refine I 6<|ks 1 jB p.1.n ?_;refine e0 (zs j j j j (c8 _) R tb) ?_;refine h5 14 ?_ (aj:=show p.1.n.length=6-0 from rfl);refine aS Y0 p.1.n ⟨by show 6<=1000;decide,λn aj=>?_⟩ ?_
   .have C:=z p hp;unfold aE.fP at C;unfold aE.n at aj;simp at aj;omega
   by_cases aa:p.1.kP<=16
   .refine I 1<|aJ 16 (.b true) j (bK (cm<|by unfold aE.kP at aa;omega))<|l4 jC (true,3) az (.bc []) j<|I 2<|bn ⟨[0],(seen++[m.born],W++[p.1]),⟨xP hm ai,λs M=>?_,λah Q=>xR X hm Q Y<|i ah Q,λk N=>?_⟩,ik ⟨j,j,az⟩ gJ⟩
    .rcases gA.1 M with M|M
     .exact r s M
     .exact arj
    .rcases gA.1 N with N|N
     .exact S k N
     .rw[gC]at N;rw[N];exact aa
   .have Z:tL f= .aV (eu 3):=by
     grind [tL,gM]
    exact I 1<|aJ 16 (.b false) j (bK (cp<|by unfold aE.kP at aa;omega))<|kK jC (false,3) az (eu 3) j<|I 1<|bn (.inr ⟨_,j,Z⟩)
  .have e:f.all (λp=>decide (p.1.kP<=16))=true:=ia.2 λq E=>by
    grind [vi,key_inj]
   refine I 2<|bn ?_;refine gK ?_;exact I 4<|bn (⟨[],(),e,k3 ⟨j,az⟩⟩)
 rintro⟨⟩ ag;exact gK<|I 7<|bn (.inl ⟨.inr j,_,_,j,j,by show tL f=_;unfold tL gM;rw[cm G,ag];rfl,J⟩)
def bz.Y2{ms I:ac (bv×ag)}(h:qb ms I):bz (.g<|fO ms) (.g<|fO I):=λ_ _ _ ⟨r,es,c,e,z,d⟩=>⟨r,es,c,e,z,d.SI h⟩
theorem Nj{ck:Nat}{L:gE}:∀P:Poly,qb (fz ck L P) (e9 P)
 |[]=>trivial
 |p::P=>⟨j,Xh,Nj P⟩
def aE.zero:aE:=⟨0,0,0,0,0,0⟩
def Nk:bl 105 (bV λ(x:Rat)=>([cU x],cq 268435456 x,.g<|fO<|e9<|dc [] aE.zero x)):=by
 apply bL [(99,zP.jR CN)] T2.1;intro x O H aq;refine I 8<|Cv ?_;refine I 8<|agp CO 1 (aq.ae,λ_=>none,[],aE.zero,x) ⟨List.Pairwise.nil,apF,by unfold aE.fP aE.zero;decide,O⟩ (c5 _) ?_;exact I 5<|LD 9 (k5<|bz.Y2<|Nj _)
def aE.var(i:Nat):aE:=⟨if i=0 then 1 else 0,if i=1 then 1 else 0,if i=2 then 1 else 0,if i=3 then 1 else 0,if i=4 then 1 else 0,if i=5 then 1 else 0⟩
section
variable{an:eR}{K:ac dA}{own bg:ac aZ}{ax:Nat}{e:bP}
variable{l:ac (bj×cn)}{a9:ac aZ}{aX:bP}{bU:Nat}{ms:ac (bv×ag)}
def Nl{d:Tmp}{aA:ac Tmp}{aT:Nat}(k:bM.ok an ⟨K,.d l a9 (jb d aX) aT bU,⟨bg,ax+1,(d,.mp ax)::e⟩⟩)(E:my own (.g<|h6 []) some=some bg:=by rfl):bM.ok an ⟨K,.d ((⟨some d,.pG,none⟩,.hx aA)::l) a9 aX aT bU,⟨own,ax,e⟩⟩:=by
 have:=m7 E;cases this;refine KZ (λH u st o Z D=>?_) j k;have G:u.length=ax:=Z.len;refine⟨.map<|some st.ae,_,u++[st.ae],?_,(Z.add ⟨[],0,j,SE _⟩),⟨st.ae,by rw[<-G];simp,j⟩,b9.app _ _,λ_ _ _ B=>B.add _,kW _,λb C _=>p9 C⟩;have e:bw an.call .pG o st=st.iD (.map [] 0) λid st=>.ok (.map<|some id) o st:=rfl;rw[e,gj]
def aml{ct:fH}{m k v:ce}{J:Nat}{a' a:ag}{O:bv}{aT:Nat}(I:ac (bv×ag))(aa:xl ms O a I)(N:u2 a' O)(R:∀p∈ms,ct.ok p.1=true)(bD:bM.ok an ⟨K,.d l (a9.map λ_=>.x) aX (aT+1) ax,⟨bg,ax,e⟩⟩)(hm:a5 e m=some (.mp J):=by rfl)(ba:own[J]? =some (.g<|h6 ms):=by rfl)
 (aw:a5 e k=some a':=by rfl) (S:a5 e v=some a:=by rfl) (fF:h1 a=true:=by rfl) (jz:ct.ok O=true:=by rfl) (E:g9 own J (.g<|h6 I) some=some bg:=by rfl):bM.ok an ⟨K,.d ((⟨none,.ext<|.e3 ct m k v,none⟩,.dI)::l) a9 aX aT bU,⟨own,ax,e⟩⟩:=by
 have:=h4 E;cases this;refine Lk (a:=.bc []) (λH u st o F Z D=>?_) bD;obtain⟨v1,al,V,B,Y,G,A,T,C,h,M,_⟩:=(SF hm ba aw N S fF jz R aa) H u st o Z D;exact⟨v1,al,V,B,Y,G,A,T,C,h _ _ _ F,M⟩
def amm(t:Nat){c:du}{k:Nat}(bD:bM.ok an ⟨K,.c c,⟨bg,ax,(t,.g<|fO ms)::e⟩⟩)(N:dn e t=some (.mp k):=by rfl)(aw:own[k]? =some (.g<|h6 ms):=by rfl)(E:g9 own k .x some=some bg:=by rfl):bM.ok an ⟨K,.c c,⟨own,ax,e⟩⟩:=by
 cases h4 E;intro H u st o F Z D;have⟨b,W,I⟩:=D.get t _ N;have⟨⟨es,clock,a0,d⟩,_⟩:=Z.own k _ b aw W;have hle:=pe Z aw j W;refine bD (eP H st b) u st o (F.eP Z aw j W) (Z.eP aw j W) ⟨(D.mono hle apu).pl,λJ q V=>?_⟩;rw[lB]at V;cases C:Nat.beq t J with
 |false=>exact atS
 |true=>
  exact aqy
end
variable{s:ac ci}{x:Rat}{l:ac Int}
def amn{k:aE}{a:ag}:xl [] (eE k) a [(eE k,a)]:=⟨au,au,apF,(λp hp=>by simp at hp;exact .inl hp),j⟩
def Y3:bl 103 (bV λ(i:Nat)=>([.aa (i:Int)],i<6,.g<|fO<|e9 [(aE.var i,1)])):=by
 refine bL [tB] UL.1 ?_;intro(i:Nat) (af:i<6) H aq;rcases(show i=0\/i=1\/i=2\/i=3\/i=4\/i=5 by omega)with rfl|rfl|rfl|rfl|rfl|rfl
 all_goals
  refine I 15<|e0 (tq j j ai) ?_;refine I 5<|ca tB (1:Int) aqq<|Nl ?_;refine I 1<|aml [(eE ⟨_,_,_,_,_,_⟩,cU 1)] amn (xw _) apF ?_ (jz:=qe<|by unfold aE.fP;decide);refine I 2<|fE j ?_;refine amm 2 ?_;exact I 1<|eD
def gb(s:ac ci):be Rat:=if fA s=0 then some (pt s)else none
theorem xV(h:gb s=some x):fA s=0/\pt s=x:=by grind [gb]
def vz(h:gb s=none):fA s≠0:=λe=>by
 rw[gb]at h;rw[aD e]at h;cases h
def Y4(h:gb s=some x):dK s=some x:=by
 have⟨Y,G⟩:=xV h;rw[pt]at G;rw[aD Y]at G;rw[fA]at Y;split at Y
 case isFalse=>cases Y
 split at Y
 case isTrue=>cases Y
 split at Y
 case isFalse=>cases Y
 rename_i M;have⟨y,T⟩:=Ao.1 M;rw[T]at G⊢;rw[<-G];rfl
def amo(h:gb s=some x):cq 250 x:=by
 rw[<-(xV h).2];exact alZ s
def amp(h:gb s=some x):qi s= .bc [cU x,.aa 0]:=by rw[qi];rw[(xV h).1,(xV h).2]
def amq(h:gb s=none):qi s= .bc [cU 0,.aa<|fA s]:=by rw[qi];rw[zY<|vz h]
def Nm(h:gb s=some x):tH s= .bc [c0 x,.aa 0]:=by rw[tH];rw[(xV h).1,(xV h).2]
def amr(h:gb s=none):tH s= .bc [c0 0,.aa<|fA s]:=by rw[tH];rw[zY<|vz h]
def C2(s:ac ci):q8:=match gb s with
 |some x=>.ret (cU x)
 |none=>.aV<|eu<|fA s
def Nn(h:gb s=some x):C2 s= .ret (cU x):=by rw[C2];rw[h]
def No(h:gb s=none):C2 s= .aV (eu<|fA s):=by rw[C2];rw[h]
def Np:PP where
 L:=ac ci
 args:=λs=>[.s s]
 pre:=λs=>s.length<=1048576
 out:=C2
def HD:ly b5.ctx 98 Np.spec:=by
 apply xT [M4,(31,HB)] L1.1;intro s M H aq _;cases h:gb s with
 |some x=>
  exact I 8<|aS M4 s M<|aJ 7 (.bc [cU x,.aa 0]) j (amp h)<|I 11<|l4 z4 (0:Int) az (.bc []) j<|I 9<|bn (tr j j (Nn h) asI)
 |none=>
  exact I 8<|aS M4 s M<|aJ 7 (.bc [cU 0,.aa<|fA s]) j (amq h)<|I 11<|kK z4 (fA s) az (eu<|fA s) (av<|vz h)<|I 1<|bn (jT<|No h)
def Y5:bl 114 (bV λ(s:ac ci)=>([.s s],s.length<=1048576,.aa<|fA s)):=by
 apply bL [vt] L2.1;intro s M H aq;exact I 8<|aS vt s M<|I 15<|eD
def oL(l:ac Int)(J i:Nat):Int:=if i<J then l.getD i 0 else 0
def C3(l:ac Int)(J:Nat):ac ag:=[.aa<|oL l J 0,.aa<|oL l J 1,.aa<|oL l J 2,.aa<|oL l J 3,.aa<|oL l J 4,.aa<|oL l J 5]
def kQ(l:ac Int):aE:=⟨(l.getD 0 0).toNat,(l.getD 1 0).toNat,(l.getD 2 0).toNat,(l.getD 3 0).toNat,(l.getD 4 0).toNat,(l.getD 5 0).toNat⟩
def nk(l:ac Int):Bool:=l.all λk=>decide (0<=k/\k<=16)
theorem ams{J:Nat}(h:J<l.length){i:Nat}:oL l (J+1) i=if i=J then l[J]else oL l J i:=by
 grind [oL]
def Nq(h:nk l=true)(J i:Nat):0<=oL l J i/\oL l J i<=16:=by
 rw[oL];split
 .rw[ue];cases e:l[i]? with
  |none=>exact aqq aqq
  |some x=>
   have:=ia.1 h x<|hh e;exact iY this
 .exact aqq aqq
theorem Nr(h:nk l=true)(i:Nat):((l.getD i 0).toNat:Int)=oL l l.length i:=by
 have G:=Nq h (i+1) i
 grind [oL]
def amt(h:nk l=true):ag.agg (C3 l l.length)=mF (kQ l):=by
 show _=ag.agg [_,_,_,_,_,_];unfold C3 kQ;simp only[Nr h]
def mM(n:Nat)(t:cV):Bool:=decide (t.dO.length=n)&&nk t.dO&&decide ((kQ t.dO).kP<=16)
def qk(n:Nat)(t:cV):q8:=match gb t.b3 with
 |some x=>if mM n t=true then .ret (.bc [mF<|kQ t.dO,cU x])else .aV (eu 7)
 |none=>.aV<|eu<|fA t.b3
def Y6:PP where
 L:=dX×cV
 args:=λ(p,t)=>[iy p,.agg<|h7 t]
 pre:=λ(p,t)=>t.b3.length<=3000/\p.ins.length<=6
 out:=λ(p,t)=>qk p.ins.length t
theorem Y7:bl 186 (kJ λ(l:ac Nat)=>([.a 197 false 1 Nat jB l],[.aH 0 1 0 l.length l.length],l.length<=1000/\∀n∈l,n<=1000000,[.a 197 false 1 Nat jB l],.aa (en l:Nat))):=by
 refine k9 [] L4.1 ?_;intro(l:ac Nat) ⟨B,C⟩ H i0 aq af;obtain⟨d,rfl⟩:∃b,i0=[b]:=mU.1 af;have F:∀i,en (l.take i)<=1000000000:=λi=>by
  have Y:=xU (l:=l.take i) λn aj=>C n<|mR aj;have G:(l.take i).length<=1000:=by grind
  omega
 refine rf (λi=>i<=l.length) (λ(i:Nat)=>⟨[.a 197 false 1 Nat jB l],1,[(5,.aH 0 1 0 l.length l.length),(6,.aa l.length),(7,.aa i),(2,.aa (en (l.take i):Nat))]⟩) (λi=>l.length-i) [0] 0 (c8 _) ?_;rintro i af;refine zC (λh=>?_) λh=>?_
 .have h:i<l.length:=by omega
  have aj:=C _<|dH h;have Y:=F i;have e:en (l.take<|i+1)=en (l.take i)+l[i]:=by
   rw[hR h,z5];simp[en]
  refine I 6<|nE ?_;refine oy l[i] (show l[0+i]? =some l[i] by rw[hU];exact aO h) ?_;exact I 15<|bB [0] (i+1) ary (bk (aI:=aqk))
 .have h:i=l.length:=by omega
  refine I 12<|bn ⟨.inr j,⟨_,j,j,.of ?_⟩,[0],j,ik az jS⟩
  grind [en]
def Y8:ly b5.ctx 100 Y6.spec:=by
 refine xT [(98,Np),(88,z3),Y7] VB.1 ?_;rintro⟨p,t⟩ ⟨(W:t.b3.length<=3000),(hp:p.ins.length<=6)⟩ H aq _;cases O:gb t.b3 with
 |none=>
  exact I 12<|kK HD t.b3 (ch W ai) (eu<|fA t.b3) (No O)<|I 1<|bn (jT<|by show qk _ _=_;unfold qk;rw[O])
 |some x=>
 have bad:mM p.ins.length t≠true->qk p.ins.length t= .aV (eu 7):=λh=>by unfold qk;rw[O];exact av h
 refine I 12<|l4 HD t.b3 (ch W ai) (cU x) (Nn O)<|I 12 ?_;by_cases B:t.dO.length=p.ins.length
 case neg=>
  exact cI 17<|kK jC (false,7) az (eu 7) j<|I 1<|bn (jT (bad<|by unfold mM;rw[cp B];simp))
 refine cM 17<|l4 jC (true,7) az (.bc []) j<|I 12<|ea (L:=Nat) (λJ=>J<=t.dO.length/\nk (t.dO.take J)=true) (λ(J:Nat)=>⟨[.c 27<|g4 p,.c 80<|h7 t,.c 197<|C3 t.dO J,.c 45<|jU x],4,[(4,.p 2 0),(5,.p 3 0),(20,.cd 1 Int er t.dO),(21,.aa t.dO.length),(22,.aa (J:Nat))]⟩) (λJ=>t.dO.length-J) [0,1,2,3] 0 apR (by show t.dO.length-0<bs+1;unfold bs;omega) fU ?_;rintro(J:Nat) ⟨V,d⟩;refine zC (λh=>?_) λh=>?_
 .have h:J<t.dO.length:=by omega
  have u:t.dO≠[]:=λe=>by exact apW
  refine e5 20 (.b6 1 Int er t.dO) j (.h0 u)<|I 7<|eW t.dO[J] (aO h) j<|e5 20 (.cd 1 Int er t.dO) rfl .cd<|I 9 ?_;have X:¬(0<=t.dO[J]/\t.dO[J]<=16)->qk p.ins.length t= .aV (eu 7):=λaj=>bad λe=>by
   unfold mM at e;rw[c1,c1]at e;exact aj<|iY<|ia.1 e.1.2 _<|dH h
  by_cases F:0<=t.dO[J]
  case neg=>
   exact cI 28<|I 4<|kK jC (false,7) az (eu 7) j<|I 6<|bn (jT<|X λe=>F e.1)
  refine cM 28<|I 5 ?_;by_cases r:t.dO[J]<=16
  case neg=>
   exact cI 31<|I 1<|kK jC (false,7) az (eu 7) j<|I 6<|bn (jT<|X λe=>r e.2)
  refine cM 31<|I 1<|l4 jC (true,7) az (.bc []) j<|I 5 ?_;have z:nk (t.dO.take<|J+1)=true:=by
   unfold nk at d⊢;rw[hR h,yl,d,vQ,List.all_nil,cm ⟨F,r⟩];rfl
  rcases(show J=0\/J=1\/J=2\/J=3\/J=4\/J=5 by omega)with rfl|rfl|rfl|rfl|rfl|rfl
  all_goals
   refine e0 (tq j j ai) ?_;refine I 8 ?_;refine bB [0,1,2,3] (_+1) ⟨by show _-(_+1)<_-_;omega,h,z⟩<|bk (aC:=⟨gJ,gJ,⟨_,j,?_⟩,gJ,az⟩);unfold C3;simp only[ams h];rfl
 .have h:J=t.dO.length:=by omega
  rw[h,mS]at d;have N:=amt d;rw[<-h]at N;have N:C3 t.dO J=(kQ t.dO).n.flatMap jB:=ag.agg.inj N;rw[N];refine I 7<|ks 2 jB (kQ t.dO).n ?_;refine e0 (zs (p:=0) (q:=6) j j j j (c8 _) R tb) ?_;refine lC Y7 2 (kQ t.dO).n ⟨by show 6<=1000;decide,λn aj=>?_⟩ ?_
  .show n<=1000000;have C:=λi=>Nq d t.dO.length i;have D:=λi=>Nr d i;have F:=C 0;have Y:=C 1;have G:=C 2;have A:=C 3;have T:=C 4;have o:=C 5;rw[<-D]at F Y G A T o;unfold aE.n kQ at aj;simp only[fh,IM,or_false]at aj;omega
  refine R0 2 ?_;refine I 1 ?_;by_cases r:(kQ t.dO).kP<=16
  case neg=>
   refine aJ 40 (.b false) j (bK (cp<|by show¬((en (kQ t.dO).n:Nat):Int)<=16;unfold aE.kP at r;omega))<|kK jC (false,7) az (eu 7) j<|I 1 ?_;exact bn (jT (bad λe=>by
    unfold mM at e;rw[c1,c1]at e;exact r<|iY e.2))
  refine aJ 40 (.b true) j (bK (cm<|by show((en (kQ t.dO).n:Nat):Int)<=16;unfold aE.kP at r;omega))<|l4 jC (true,7) az (.bc []) j<|I 11 ?_;refine bn (tr j j (show qk _ _= .ret (.bc [mF<|kQ t.dO,cU x]) by
   unfold qk mM;rw[O];exact aD<|by rw[cm B,d,cm r];rfl) asI)
def Y9{v k:Nat}(h:v<10^k)(aw:k<=2000):ei 250 v:=rl atI
theorem amu(M:s.length<=2000)(h:dK s=some x):cq 250 x:=by
 have⟨P,q,d,_,_,Z,E,o,hint,V⟩:=C0 M;by_cases D:jV (dk s).1 P q d
 .have⟨W,I,a0⟩:=D;have U:=Y9 (mH W.2.1) R;cases d with
  |false=>
   exact aqK
  |true=>
   have⟨A,T,C⟩:=a0 j;have e:=V ⟨W,I,a0⟩ j;rw[h]at e;split at e
   .cases e;exact pq asC (Y9 (mH A.2.1) R) λh=>T<|sG A h
   .cases e
 .rw[o D]at h;cases h
def Za(h:dK s=some x):tK s= .ret (cU x):=by rw[tK];rw[h]
def Zb(h:dK s=none):tK s= .aV (eu 6):=by rw[tK];rw[h]
abbrev eH:=Rat×Rat
variable{k:Nat}{t:cV}{a:Rat}{v:Nat}{gz:aE×Rat}{P:Poly}
def l9(s:eH):ac ag:=jU s.1++jU s.2
def g5:ac e1->be (ac eH)
 |[]=>some []
 |s::l=>match dK s.1 with
  |some a=>(match dK s.2 with
   |some b=>(g5 l).map ((a,b)::·)
   |none=>none)
  |none=>none
def ql(ab:ac eH):Bool:=ab.all λv=>decide (¬v.2<v.1)
def xW(n:Nat)(l:ac e1):q8:=if l.length=n then(match g5 l with
 |some V=>if ql V=true then .ret (.b6 6 eH l9 V)else .aV (eu 7)
 |none=>.aV<|eu 6)else .aV (eu 2)
def Ns{s:e1}{l:ac e1}{ab:ac eH}{b:Rat}(bR:dK s.1=some a)(ay:dK s.2=some b):(g5<|s::l).map (ab++·)=(g5 l).map ((ab++[(a,b)])++·):=by
 have e:g5 (s::l)=(g5 l).map ((a,b)::·):=by
  show(match dK s.1 with|some a=>(match dK s.2 with|some b=>(g5 l).map ((a,b)::·)|none=>none)|none=>none)=_;rw[bR,ay]
 rw[e];cases g5 l with
 |none=>rfl
 |some w=>show some (ab++(a,b)::w)=some ((ab++[(a,b)])++w);rw[sY];rfl
def HE{s:e1}{l:ac e1}(bR:dK s.1=none):g5 (s::l)=none:=by
 show(match dK s.1 with|some a=>(match dK s.2 with|some b=>(g5 l).map ((a,b)::·)|none=>none)|none=>none)=_;rw[bR]
def HF{s:e1}{l:ac e1}(bR:dK s.1=some a)(ay:dK s.2=none):g5 (s::l)=none:=by
 show(match dK s.1 with|some a=>(match dK s.2 with|some b=>(g5 l).map ((a,b)::·)|none=>none)|none=>none)=_;rw[bR,ay]
theorem HG:∀{l:ac e1} {ab:ac eH},(∀s∈l,s.1.length<=2000/\s.2.length<=2000)->g5 l=some ab->∀v∈ab,cq 250 v.1/\cq 250 v.2
 |[],ab,_,h,v,S=>by cases h;cases S
 |s::l,ab,M,h,v,S=>by
  cases bR:dK s.1 with
  |none=>rw[HE bR]at h;cases h
  |some a=>
   cases ay:dK s.2 with
   |none=>rw[HF bR ay]at h;cases h
   |some b=>
    have e:g5 (s::l)=(g5 l).map ((a,b)::·):=by
     show(match dK s.1 with|some a=>(match dK s.2 with|some b=>(g5 l).map ((a,b)::·)|none=>none)|none=>none)=_;rw[bR,ay]
    rw[e]at h;cases F:g5 l with
    |none=>rw[F]at h;cases h
    |some w=>
     rw[F]at h;cases h;obtain rfl|S:=fh.1 S
     .grind [amu]
     .exact HG (λt N=>M t<|fq _ N) F v S
theorem HH{y:Rat}:ji x y<=0↔¬y<x:=by
 grind [ji]
def Zc:PP where
 L:=dX×ac e1
 args:=λ(p,l)=>[iy p,.cd 2 e1 mL l]
 pre:=λ(p,l)=>p.ins.length<=6/\∀s∈l,s.1.length<=2000/\s.2.length<=2000
 out:=λ(p,l)=>xW p.ins.length l
def amv(l:ac e1)(k:Nat):ac eH->cb
 |[]=>⟨[],0,[(16,.cd 2 e1 mL l),(17,.aa (l.length:Int)),(18,.aa (k:Nat)),(4,.nl)]⟩
 |v::ab=>⟨[.a 162 true 6 eH l9<|v::ab],1,[(16,.cd 2 e1 mL l),(17,.aa (l.length:Int)),(18,.aa (k:Nat)),(4,.aH 0 6 0 (ab.length+1)<|ab.length+1)]⟩
def Zd:ly b5.ctx 33 Zc.spec:=by
 refine xT [(98,YZ),(88,z3),zM] UD.1 ?_;rintro⟨p,l⟩ ⟨(hp:p.ins.length<=6),(M:∀s∈l,s.1.length<=2000/\s.2.length<=2000)⟩ H aq _;refine I 14 ?_;by_cases B:l.length=p.ins.length
 case neg=>
  exact cI 14<|kK jC (false,2) az (eu 2) j<|I 1<|bn (jT (show xW _ l=_ from av B))
 have Z:∀{U:q8},(match g5 l with
  |some V=>if ql V=true then q8.ret (.b6 6 eH l9 V)else .aV (eu 7)
  |none=>.aV<|eu 6)=U->xW p.ins.length l=U:=λh=>(aD B).trans h
 refine cM 14<|l4 jC (true,2) az (.bc []) j<|I 11<|ea (L:=Nat×ac eH) (λ(k,V)=>k<=l.length/\V.length=k/\g5 l=(g5<|l.drop k).map (V++·)) (λ(k,V)=>amv l k V) (λx=>l.length-x.1) [] (0,[]) ⟨c8 _,j,by rw[iB];cases g5 l<;>rfl⟩ aqc fU ?_;rintro⟨k,V⟩ ⟨N,T,q⟩;by_cases aW:k<l.length
 .have hm:=M l[k]<|hv aW;have u:l≠[]:=λe=>by rw[e]at aW;exact kV _ aW
  rw[fj aW]at q;rcases V with _|⟨v,V⟩<;>(
   refine I 3<|cM 19<|e5 16 (.b6 2 e1 mL l) j (.h0 u)<|I 10<|eW l[k] aqB j<|e5 16 (.cd 2 e1 mL l) rfl .cd ?_;refine st ?_;cases A:dK l[k].1 with
   |none=>
    exact xf HC l[k].1 hm.1 (eu 6) (Zb A)<|I 5<|bn (jT (Z<|by rw[q,HE A];rfl))
   |some a=>
   refine xe HC l[k].1 hm.1 (cU a) (Za A)<|st ?_;cases C:dK l[k].2 with
   |none=>
    exact xf HC l[k].2 hm.2 (eu 6) (Zb C)<|I 5<|bn (jT (Z<|by rw[q,HF A C];rfl))
   |some b=>
   refine xe HC l[k].2 hm.2 (cU b) (Za C)<|I 3 ?_;have n:=q.trans (Ns A C)
   (try refine Lr l9 [(a,b)] (iH (ah:=l9) [(a,b)] j) ?_);(try refine Ls (ah:=l9) [(a,b)] (iH (ah:=l9) [(a,b)] j) ?_ (aj:=au) (ay:=by show(5*(V.length+1+1)+1792)*113<=1125899906842624;have:=T;simp only[hQ]at this;omega))
   refine I 6<|cj 32 ((k+1:Nat):Int)<|I 2 ?_
   first
    |exact bB [2] (k+1,[(a,b)]) ⟨by show l.length-(k+1)<l.length-k;omega,aW,by have:=T;simp only[Az]at this;show 0+1=k+1;omega,n⟩ bk
    |exact bB [3] (k+1,_::(_++[(a,b)])) ⟨by show l.length-(k+1)<l.length-k;omega,aW,by have:=T;simp only[hQ]at this;simp;omega,n⟩<|bk (aI:=⟨j,j,j,congrArg (λk=>some<|ag.aH 3 6 0 k k) au,az⟩))
 .have G:k=l.length:=by omega
  subst G;have q:g5 l=some V:=by
   rw[q,sU];show some (V++[])=_;rw[rP]
  have F:ql V≠true->xW p.ins.length l= .aV (eu 7):=λh=>Z (by rw[q];exact av h);have D:ql V=true->xW p.ins.length l= .ret (.b6 6 eH l9 V):=λh=>Z (by rw[q];exact aD h);rcases V with _|⟨v,V⟩
  .refine I 3<|cI 19<|I 18<|ea (L:=Unit) (λ_=>True) (λ_=>⟨[],0,[(35,.aa 0),(34,.aa 0),(4,.nl)]⟩) (λ_=>0) [] () az (by show 0<bs+1;unfold bs;decide) fU ?_;rintro _ _;exact I 19<|bn (tr j j (D j) bz.nl)
  .refine I 3<|cI 19<|I 18<|ea (L:=Nat) (λi=>i<=V.length+1/\ql ((v::V).take i)=true) (λ(i:Nat)=>⟨[.a 162 true 6 eH l9<|v::V],1,[(35,.aa (i:Nat)),(34,.aa ((V.length+1:Nat):Int)),(33,.aH 0 6 0 (V.length+1)<|V.length+1),(4,.aH 0 6 0 (V.length+1)<|V.length+1)]⟩) (λi=>V.length+1-i) [0] 0 apR (by show V.length+1-0<bs+1;have:=T;simp only[hQ]at this;unfold bs;omega) fU ?_;rintro(i:Nat) ⟨af,C⟩;refine zC (λh=>?_) λh=>?_
   .have h:i<(v::V).length:=by show i<V.length+1;omega
    refine I 6<|nE ?_;refine FW (v::V)[i] (show(v::V)[0+i]? =some (v::V)[i] by rw[hU];exact aO h) ?_;have aj:=HG M q _<|hv h;refine I 9<|aS zM ((v::V)[i].1,(v::V)[i].2) ⟨eL aj.1,eL aj.2⟩<|I 1 ?_;by_cases W:(v::V)[i].2<(v::V)[i].1
    .refine v0 44 (λg=>HH.1 g W) ?_;exact kK jC (false,7) az (eu 7) j<|I 5<|bn (jT<|F λe=>iY (ia.1 e _<|hv h) W)
    .refine v1 44 (HH.2 W)<|l4 jC (true,7) az (.bc []) j<|I 7<|bB [0] (i+1) ⟨by show V.length+1-(i+1)<V.length+1-i;omega,R,?_⟩ bk;unfold ql at C⊢;rw[hR h,yl,C,vQ,List.all_nil,cm W];rfl
   .have h:i=(v::V).length:=by show i=V.length+1;omega
    rw[h,mS]at C;refine I 8<|h5 47 ?_;exact I 4<|bn (tr j j (D C) asI)
def amw(h:v<10^k):ei (k/9+1) v:=by
 refine rl<|vM h ?_
 calc 10^k<=10^(9*(k/9+1)):=j0 ai R
  _=(10^9)^(k/9+1):=qy 10 9 (k/9+1)
  _<=4294967296^(k/9+1):=v5 ai _
def Ze{m:Nat}(h:v<10^k)(aw:k<=m):ei (m/9+2) v:=dq (amw h) R
def Zf(h:dK s=some x):cq (s.length/9+2) x:=by
 have⟨P,q,d,_,_,Z,E,o,hint,V⟩:=C0<|c5 s.length;by_cases D:jV (dk s).1 P q d
 .have⟨W,I,a0⟩:=D;have U:=Ze (mH W.2.1) Z;cases d with
  |false=>
   have e:=hint ⟨W,I,a0⟩ j;rw[h]at e;cases e;exact pq (by rwa [nP]) (dq (iW ai) R) ai
  |true=>
   have⟨A,T,C⟩:=a0 j;have e:=V ⟨W,I,a0⟩ j;rw[h]at e;split at e
   .cases e;exact pq asC (Ze (mH A.2.1) E) λh=>T<|sG A h
   .cases e
 .rw[o D]at h;cases h
def jk(n:Nat)(t:cV):Except Int (aE×Rat):=match gb t.b3 with
 |some x=>if mM n t=true then .ok (kQ t.dO,x)else .error 7
 |none=>.error<|fA t.b3
def amx{n:Nat}(h:jk n t= .ok gz):qk n t= .ret (.bc [mF gz.1,cU gz.2]):=by
 rw[jk]at h;rw[qk];cases O:gb t.b3 with
 |none=>exact ap1
 |some x=>
  rw[O]at h;dsimp only at h⊢;split at h
  .cases h;rename_i e;exact aD e
  .cases h
def amy{n:Nat}{c:Int}(h:jk n t= .error c):qk n t= .aV (eu c):=by
 rw[jk]at h;rw[qk];cases O:gb t.b3 with
 |none=>rw[O]at h;cases h;rfl
 |some x=>
  rw[O]at h;dsimp only at h⊢;split at h
  .cases h
  .cases h;rename_i e;exact av e
def amz(h:nk l=true):(kQ l).hO:=by
 have C:=λi=>Nq h l.length i;have F:=C 0;have Y:=C 1;have G:=C 2;have A:=C 3;have T:=C 4;have d:=C 5;rw[<-(λi=>Nr h i)]at F Y G A T d;unfold aE.hO kQ;dsimp only;omega
def Zg{n:Nat}(h:jk n t= .ok gz):gz.1.hO/\cq (t.b3.length/9+2) gz.2:=by
 rw[jk]at h;cases O:gb t.b3 with
 |none=>exact ap1
 |some x=>
  rw[O]at h;dsimp only at h;split at h
  .rename_i e;cases h;rw[mM]at e;rw[c1,c1]at e;exact⟨amz e.1.2,Zf<|Y4 O⟩
  .cases h
def iK(n:Nat):Poly->ac cV->Except Int Poly
 |P,[]=>.ok P
 |P,t::l=>match jk n t with
  |.ok gz=>iK n (dc P gz.1 gz.2) l
  |.error c=>.error c
def jl(l:ac cV):Nat:=en<|l.map λt=>t.b3.length/9+3
def amA(aw:2<=k):cq k 0:=⟨dq (iW ai) aw,dq (iW ai) aw⟩
theorem C4(aw:2<=k)(h:∀p∈P,cq k p.2)(J:aE):cq k (b3 P J):=by
 induction P with
 |nil=>exact amA aw
 |cons p P I=>
  grind [b3]
def Nt{a b:Nat}(bR:2<=a)(M:P.dU)(h:∀p∈P,p.1.hO/\cq a p.2){k:aE}(aw:k.hO)(O:cq b x):∀p∈dc P k x,p.1.hO/\cq (b+a+1) p.2:=λp hp=>by
 obtain⟨Y,G,_⟩|⟨Y,_⟩:=(lG M k x p).1 hp
 .rw[Y,G];exact⟨aw,xx O<|C4 bR (λq E=>(h q E).2) k⟩
 .exact⟨(h p Y).1,eL (h p Y).2 R⟩
theorem Zh{n:Nat}:∀{l:ac cV} {P f:Poly} {a:Nat},2<=a->P.dU->P.iS->(∀p∈P,p.1.hO/\cq a p.2)->iK n P l= .ok f->f.dU/\f.iS/\∀p∈f,p.1.hO/\cq (a+jl l) p.2
 |[],P,f,a,_,M,aj,h,e=>by cases e;exact⟨M,aj,h⟩
 |t::l,P,f,a,bR,M,aj,h,e=>by
  rw[iK]at e;cases N:jk n t with
  |error c=>rw[N]at e;cases e
  |ok gz=>
   rw[N]at e;have aw:=Zg N;have G:=Zh R (lH M gz.1 gz.2) (zI M aj gz.1 gz.2) (Nt bR M h aw.1 aw.2) e;refine⟨G.1,G.2.1,λp hp=>⟨(G.2.2 p hp).1,eL (G.2.2 p hp).2 ?_⟩⟩;show t.b3.length/9+2+a+1+jl l<=a+(t.b3.length/9+3+jl l);omega
structure hP where
 c:Rat
 k:Int
 f:Poly
def vA(x:hP):ac ag:=jU x.c++[.aa x.k,.g<|fO<|e9 x.f]
def jD(n:Nat)(s:dz):Except Int hP:=match gb s.b3 with
 |some c=>if¬c<0/\-1<=s.gL/\s.gL<(n:Int)then(match iK n [] s.cr with
  |.ok f=>.ok ⟨c,s.gL,f⟩
  |.error e=>.error e)else .error 7
 |none=>.error<|fA s.b3
def hf(n:Nat):ac dz->Except Int (ac hP)
 |[]=>.ok []
 |s::l=>match jD n s with
  |.ok x=>(match hf n l with
   |.ok xs=>.ok (x::xs)
   |.error e=>.error e)
  |.error e=>.error e
def ld(b1:ac eH)(x:hP):be Poly:=
 if gM x.f=true then
  let g:=ek (gy x.f x.f)
  if gM g=true then
   (if 0<=x.k then
    let b:=b1.getD x.k.toNat (0,0)
    let v:Poly:=[(aE.var x.k.toNat,1)]
    let I:=ek (gy g<|ek<|gy (dS v (-1)<|dc [] aE.zero b.1)<|dS (dc [] aE.zero b.2) (-1) v)
    if gM I=true then some I else none
   else some g)
  else none
 else none
def ke(b1:ac eH):Poly->ac hP->be Poly
 |S,[]=>some S
 |S,x::l=>match ld b1 x with
  |some g=>if gM (dS S x.c g)=true then ke b1 (dS S x.c g) l else none
  |none=>none
def vB(n:Nat)(b1:ac eH)(l:ac dz):q8:=
 if l.length<=20/\(∀s∈l,s.cr.length<=200)then(match hf n l with
  |.ok xs=>(match ke b1 [] xs with
   |some S=>.ret (.g<|fO<|e9 S)
   |none=>.aV<|eu 3)
  |.error e=>.aV<|eu e)else .aV (eu 3)
def Nu:PP where
 L:=dX×ac eH×ac dz
 args:=λ(p,b1,l)=>[iy p,.b6 6 eH l9 b1,.cd 3 dz ht l]
 pre:=λ(p,b1,l)=>p.ins.length<=6/\b1.length=p.ins.length/\(∀v∈b1,cq 250 v.1/\cq 250 v.2)/\∀s∈l,s.b3.length<=3000/\(∀t∈s.cr,t.b3.length<=3000)/\jl s.cr<=1000
 out:=λ(p,b1,l)=>vB p.ins.length b1 l
theorem z6:∀(P:Poly) (k:aE) (x:Rat),(dc P k x).length<=P.length+1
 |[],k,x=>by unfold dc;split<;>simp
 |p::P,k,x=>by
  have:=z6 P k x
  grind [dc]
def Zi(W:oK):(ek W).length<=W.length:=z1 (p:=λW=>(ek W).length<=W.length) (c5 _) (λW w I=>by
 rw[vx,me];have:=z6 (ek W) (w.1.1.add w.2.1)<|w.1.2*w.2.2;show _<=W.length+1;omega) W
def Nv(f g:Poly):(gy f g).length=f.length*g.length:=by
 rw[gy]
 induction f with
 |nil=>simp
 |cons p f I=>rw[ub,me,hI,I,hQ,fb];omega
theorem C5{x:Rat}:∀(W P:Poly),(dS P x W).length<=P.length+W.length
 |[],P=>c5 _
 |p::W,P=>by
  have aC:=C5 (x:=x) W<|dc P p.1<|p.2*x
  grind [z6,dS,dc]
theorem HI{Q:aE->Prop}{x:Rat}:∀{W P:Poly},P.dU->(∀p∈P,Q p.1)->(∀p∈W,Q p.1)->∀p∈dS P x W,Q p.1
 |[],P,_,h,_,p,hp=>h p hp
 |w::W,P,M,h,E,p,hp=>HI (lH M w.1<|w.2*x) (λq cD=>by
  obtain⟨aC,_⟩|⟨aC,_⟩:=(lG M w.1 (w.2*x) q).1 cD
  .rw[aC];exact E w hT
  .exact h q aC) (λq cD=>E q<|fq _ cD) p hp
def Zj{W:Poly}{a b c:Nat}(bR:2<=a)(ay:2<=b)(M:P.dU)(F:W.dU)(Z:∀p∈P,cq a p.2)(E:∀p∈W,cq b p.2)(O:cq c x):∀p∈dS P x W,cq (b+c+a+1) p.2:=λp hp=>by
 have e:=k8 (nN M) hp;rw[sD M<|vg F]at e;rw[<-e];exact xx (xO (C4 ay E p.1) O)<|C4 bR Z p.1
def Nw{Q:aE->Prop}(W:oK):(∀w∈W,Q<|w.1.1.add w.2.1)->∀p∈ek W,Q p.1:=z1 (p:=λW=>(∀w∈W,Q<|w.1.1.add w.2.1)->∀p∈ek W,Q p.1) (λ_ p hp=>by cases hp) (λW w I h p hp=>by
 rw[vx]at hp;obtain⟨Y,_⟩|⟨Y,_⟩:=(lG (sK W) _ _ p).1 hp
 .rw[Y];exact h w<|gA.2<|.inr<|gC.2 j
 .exact I (λv S=>h v<|gA.2<|.inl S) p Y) W
def aE.le(n:Nat)(k:aE):Prop:=k.a<=n/\k.b<=n/\k.c<=n/\k.d<=n/\k.e<=n/\k.f<=n
def amB{m n:Nat}{k J:aE}(h:k.le m)(D:J.le n):(k.add J).le (m+n):=by
 unfold aE.le at h D ⊢;rw[aE.add];dsimp only;omega
def C6{n:Nat}{k:aE}(h:k.le n)(aj:n<2048):k.hO:=by rw[aE.le]at h;rw[aE.hO];omega
def xX:aE.zero.le 1:=by unfold aE.le aE.zero;decide
structure eM(n m a:Nat)(f:Poly):Prop where
 s:f.dU
 z:f.iS
 l:f.length<=n
 k:∀p∈f,p.1.le m
 b:∀p∈f,cq a p.2
variable{m b:Nat}
def eM.var(i:Nat):eM 1 1 2 [(aE.var i,1)]:=
 ⟨IA _ _,(λp hp=>by rw[gC]at hp;rw[hp];exact au),c5 _,(λp hp=>by rw[gC]at hp;rw[hp];exact by unfold aE.le aE.var;dsimp only;refine⟨?_,?_,?_,?_,?_,?_⟩<;>split<;>decide),(λp hp=>by rw[gC]at hp;rw[hp];exact(ats:cq 2 1))⟩
def eM.nil:eM 0 1 2 []:=⟨List.Pairwise.nil,apF,c5 _,apF,apF⟩
def eM.put{n a:Nat}{f:Poly}{k:aE}(h:eM n m a f)(bR:2<=a)(aw:k.le m)(O:cq b x):eM (n+1) m (b+a+1) (dc f k x):=
 ⟨lH h.s k x,zI h.s h.z k x,ch (z6 f k x)<|DL h.l 1,λp hp=>by
  obtain⟨Y,_⟩|⟨Y,_⟩:=(lG h.s k x p).1 hp
  .rw[Y];exact aw
  .exact h.k p Y,λp hp=>by
  obtain⟨_,G,_⟩|⟨Y,_⟩:=(lG h.s k x p).1 hp
  .rw[G];exact xx O<|C4 bR h.b k
  .exact eL (h.b p Y) R⟩
def eM.oM{n M a c:Nat}{f g:Poly}(h:eM n m a f)(D:eM M m b g)(bR:2<=a)(ay:2<=b)(O:cq c x):eM (n+M) m (b+c+a+1) (dS f x g):=
 ⟨nN h.s,rq h.s h.z,ch (C5 g f)<|Nat.add_le_add h.l D.l,HI h.s h.k D.k,Zj bR ay h.s D.s h.b D.b O⟩
theorem eM.ek{n M m R a b:Nat}{f g:Poly}(h:eM n m a f)(D:eM M R b g):eM (n*M) (m+R) (M*(a+b+1)+2) (ek<|gy f g):=
 ⟨sK _,Hz _,ch (Zi _)<|by rw[Nv];exact ye h.l D.l,Nw _ λw F=>amB (h.k _ (sL.1 F).1)<|D.k _ (sL.1 F).2,
  λp hp=>eL (Nf h.s (Nc (z2 h.s)<|z2 D.s) (λw F=>sL.1 F) h.b D.b p hp)<|DL (lN _ D.l) 2⟩
def eM.fit{n a:Nat}{f:Poly}(h:eM n m a f)(D:gM f=true):eM 200 16 a f:=by
 rw[gM]at D;rw[c1]at D;refine⟨h.s,h.z,iY D.1,λp hp=>?_,h.b⟩;have N:=iY<|ia.1 D.2 p hp;have e:p.1.kP=p.1.a+(p.1.b+(p.1.c+(p.1.d+(p.1.e+(p.1.f+0))))):=rfl;rw[aE.le];omega
theorem Zk{n:Nat}:∀{l:ac cV} {P f:Poly},iK n P l= .ok f->f.length<=P.length+l.length
 |[],P,f,e=>by cases e;exact c5 _
 |t::l,P,f,e=>by
  rw[iK]at e;cases N:jk n t with
  |error c=>rw[N]at e;cases e
  |ok gz=>
   rw[N]at e;have h:=Zk e;have:=z6 P gz.1 gz.2;rw[hQ];omega
structure p4(n:Nat)(x:hP):Prop where
 f:eM 200 2047 1002 x.f
 c:cq 250 x.c
 a8: -1<=x.k
 bJ:x.k<(n:Int)
variable{c:Rat}{b1:ac eH}{g:Poly}{e:Int}{rC:Poly}{y:Int}
theorem HJ{n:Nat}:∀{l:ac dz} {xs:ac hP},(∀s∈l,s.b3.length<=3000/\jl s.cr<=1000/\s.cr.length<=200)->hf n l= .ok xs->∀x∈xs,p4 n x
 |[],xs,_,h,x,O=>by cases h;cases O
 |s::l,xs,M,h,x,O=>by
  unfold hf at h;cases aC:jD n s with
  |error e=>rw[aC]at h;cases h
  |ok y=>
   rw[aC]at h;cases aI:hf n l with
   |error e=>rw[aI]at h;cases h
   |ok Z=>
    rw[aI]at h;cases h;rcases fh.1 O with rfl|O
    .have:=M s hT;unfold jD at aC;cases W:gb s.b3 with
     |none=>rw[W]at aC;cases aC
     |some c=>
      rw[W]at aC;dsimp only at aC;split at aC
      .rename_i d;cases I:iK n [] s.cr with
       |error e=>rw[I]at aC;cases aC
       |ok f=>
        rw[I]at aC;cases aC;obtain⟨S,z,i⟩:=Zh (c5 2) List.Pairwise.nil apF apF I;have A:=Zk I;refine⟨⟨S,z,by rw[Az]at A;show f.length<=200;omega,λp hp=>?_,λp hp=>eL (i p hp).2 R⟩,amo W,d.2.1,d.2.2⟩;have:=(i p hp).1;unfold aE.hO at this;unfold aE.le;omega
      .cases aC
    .exact HJ (λt N=>M t<|fq _ N) aI x O
def Zl{S:Poly}(E:S.dU)(aj:S.iS)(O:g.dU):dS S 1 (dS [] c g)=dS S c g:=by
 refine GD (nN E) (nN E) (rq E aj) (rq E aj) λk=>?_;rw[sD E<|vg<|nN List.Pairwise.nil,sD List.Pairwise.nil<|vg O,sD E<|vg O];show(b3 g k*c+0)*1+b3 S k=_;rw[Rat.mul_one,AN]
theorem amC{v:Poly}(S:v.dU)(aj:v.iS):dS v 1 (dc [] aE.zero<|-x)=dS v (-1) (dc [] aE.zero x):=by
 have F:∀y,(dc [] aE.zero y).dU:=λy=>lH List.Pairwise.nil _ _;refine GD (nN S) (nN S) (rq S aj) (rq S aj) λk=>?_;rw[sD S<|vg<|F _,sD S<|vg<|F _,GC List.Pairwise.nil,GC List.Pairwise.nil]
 grind [b3]
def amD(p:dX)(b1:ac eH)(l:ac dz)(k:Nat):ac hP->cb
 |[]=>⟨[.c 27<|g4 p],1,[(1,.b6 6 eH l9 b1),(3,.p 0 0),(38,.cd 3 dz ht l),(39,.aa l.length),(40,.aa (k:Nat)),(9,.nl)]⟩
 |x::xs=>⟨[.c 27<|g4 p,.a 194 true 5 hP vA<|x::xs],2,[(1,.b6 6 eH l9 b1),(3,.p 0 0),(38,.cd 3 dz ht l),(39,.aa l.length),(40,.aa (k:Nat)),(9,.aH 1 5 0 (xs.length+1)<|xs.length+1)]⟩
def C7(r:ac hP):Except Int (ac hP)->Except Int (ac hP)
 |.ok xs=>.ok (r++xs)
 |.error e=>.error e
def C8{n:Nat}{s:dz}{l:ac dz}(h:jD n s= .error e)(r:ac hP):C7 r (hf n<|s::l)= .error e:=by
 unfold hf;rw[h];rfl
def amE{n:Nat}{s:dz}{l:ac dz}{x:hP}(h:jD n s= .ok x)(r:ac hP):C7 r (hf n<|s::l)=C7 (r++[x]) (hf n l):=by
 show C7 r (match jD n s with
  |.ok x=>(match hf n l with
   |.ok xs=>.ok (x::xs)
   |.error e=>.error e)
  |.error e=>.error e)=_
 rw[h];cases hf n l with
 |error e=>rfl
 |ok xs=>show Except.ok (r++x::xs)=Except.ok ((r++[x])++xs);rw[sY];rfl
def Zm{n:Nat}{s:dz}(h:gb s.b3=none):jD n s= .error (fA s.b3):=by unfold jD;rw[h]
def HK{n:Nat}{s:dz}(h:gb s.b3=some c)(aI:¬(¬c<0/\-1<=s.gL/\s.gL<(n:Int))):jD n s= .error 7:=by unfold jD;rw[h];exact av aI
def Zn{n:Nat}{s:dz}(h:gb s.b3=some c)(aI:¬c<0/\-1<=s.gL/\s.gL<(n:Int)):jD n s=(match iK n [] s.cr with
 |.ok f=>.ok ⟨c,s.gL,f⟩
 |.error e=>.error e):=by unfold jD;rw[h];exact aD aI
def HL{n:Nat}{l:ac cV}(h:jk n t= .error e):iK n P (t::l)= .error e:=by
 show(match jk n t with
  |.ok gz=>iK n (dc P gz.1 gz.2) l
  |.error c=>.error c)=_
 rw[h]
def HM{n:Nat}{l:ac cV}(h:jk n t= .ok gz):iK n P (t::l)=iK n (dc P gz.1 gz.2) l:=by
 show(match jk n t with
  |.ok gz=>iK n (dc P gz.1 gz.2) l
  |.error c=>.error c)=_
 rw[h]
def Zo(l m:ac cV):jl (l++m)=jl l+jl m:=by unfold jl;rw[rL,z5]
def Zp{l:ac cV}{J:Nat}(h:J<l.length):jl (l.take<|J+1)=jl (l.take J)+(l[J].b3.length/9+3):=by
 rw[hR h,Zo];rfl
def Nx(l:ac cV)(J:Nat):jl (l.take J)<=jl l:=by
 have h:=Zo (l.take J)<|l.drop J;rw[np]at h;omega
def eM.up{n M R a dm:Nat}{f:Poly}(h:eM n m a f)(aC:n<=M)(aI:m<=R)(j:a<=dm):eM M R dm f:=aqt
def eM.fP{n a:Nat}{f:Poly}(h:eM n m a f)(hm:m<2048):∀p∈f,p.1.fP:=λp hp=>xS<|C6 (h.k p hp) hm
def eM.hO{n a:Nat}{f:Poly}(h:eM n m a f)(hm:m<2048)(ay:a<=b):∀p∈f,p.1.hO/\cq b p.2:=λp hp=>⟨C6 (h.k p hp) hm,eL (h.b p hp) ay⟩
def eM.z7{n a:Nat}{f:Poly}(h:eM n m a f)(hm:m<2048)(ay:a<=b):∀p∈f,p.1.fP/\cq b p.2:=λp hp=>⟨xS<|C6 (h.k p hp) hm,eL (h.b p hp) ay⟩
def HN{S:Poly}{x:hP}{l:ac hP}:ke b1 S (x::l)=(match ld b1 x with
 |some g=>if gM (dS S x.c g)=true then ke b1 (dS S x.c g) l else none
 |none=>none):=rfl
def Zq{S:Poly}{x:hP}{l:ac hP}(cD:ld b1 x=some g)(M:dS S x.c g=rC)(h:gM rC=true):ke b1 S (x::l)=ke b1 rC l:=by
 rw[HN,cD];subst M;exact aD h
def Zr{S:Poly}{x:hP}{l:ac hP}(cD:ld b1 x=some g)(M:dS S x.c g=rC)(h:¬gM rC=true):ke b1 S (x::l)=none:=by
 rw[HN,cD];subst M;exact av h
def Zs{S:Poly}{x:hP}{l:ac hP}(cD:ld b1 x=none):ke b1 S (x::l)=none:=by
 rw[HN,cD]
def Zt(h:¬c<0):0<=c.num.sign:=Int.sign_nonneg_iff.2<|IN.2<|Rat.not_lt.1 h
def Zu(h:0<=c.num.sign):¬c<0:=Rat.not_lt.2<|IN.1<|Int.sign_nonneg_iff.1 h
def Zv:ly b5.ctx 32 Nu.spec:=by
 refine xT [(88,z3),(98,Np),rn,(100,Y6),(99,zP.jR CN),tB,(101,Y1),HA,Y3,Nk,Hy] Vp.1 ?_;rintro⟨p,b1,l⟩ ⟨(hp:p.ins.length<=6),(bG:b1.length=p.ins.length),(bw:∀v∈b1,cq 250 v.1/\cq 250 v.2),(M:∀s∈l,s.b3.length<=3000/\(∀t∈s.cr,t.b3.length<=3000)/\jl s.cr<=1000)⟩ H aq _;have a3:¬(l.length<=20/\(∀s∈l,s.cr.length<=200))->vB p.ins.length b1 l= .aV (eu 3):=λh=>av h;refine st ?_;by_cases ba:l.length<=20
 case neg=>
  refine cI 24<|st ?_;refine kK jC (false,3) az (eu 3) j<|st ?_;exact bn<|jT<|a3 λh=>ba h.1
 refine cM 24<|st ?_;refine l4 jC (true,3) az (.bc []) j<|st ?_;refine ea (L:=Nat) (λk=>k<=l.length/\∀s∈l.take k,s.cr.length<=200) (λ(k:Nat)=>⟨[.c 27<|g4 p],1,[(1,.b6 6 eH l9 b1),(2,.cd 3 dz ht l),(3,.p 0 0),(26,.cd 3 dz ht l),(27,.aa l.length),(28,.aa (k:Nat))]⟩) (λk=>l.length-k) [0] 0 ⟨c8 _,λs h=>by cases h⟩ aqc fU ?_;rintro(k:Nat) ⟨N,E⟩;refine dW 29 ?_;by_cases aW:k<l.length
 .have aP:l≠[]:=λe=>by rw[e]at aW;exact kV _ aW
  refine cM 29 ?_;refine e5 26 (.b6 3 dz ht l) j (.h0 aP)<|st ?_;refine l3 l[k] aqB ?_;refine e5 26 (.cd 3 dz ht l) rfl .cd<|st ?_;by_cases aF:l[k].cr.length<=200
  case neg=>
   refine cI 35<|st ?_;refine kK jC (false,3) az (eu 3) j<|st ?_;exact bn<|jT<|a3 λh=>aF<|h.2 _<|hv aW
  refine cM 35<|st ?_;refine l4 jC (true,3) az (.bc []) j<|st ?_;refine bB [0] (k+1) ⟨by show l.length-(k+1)<l.length-k;omega,R,λs hm=>?_⟩ bk;rw[hR aW]at hm;rcases gA.1 hm with hm|hm
  .exact E s hm
  .rw[gC]at hm;rw[hm];exact aF
 have aQ:k=l.length:=R
 rw[aQ,mS]at E;have Z:vB p.ins.length b1 l=(match hf p.ins.length l with
  |.ok xs=>(match ke b1 [] xs with
   |some S=>.ret (.g<|fO<|e9 S)
   |none=>.aV<|eu 3)
  |.error e=>.aV<|eu e):=aD ⟨ba,E⟩
 refine cI 29<|st ?_;have u:∀{e:Int},hf p.ins.length l= .error e->vB p.ins.length b1 l= .aV (eu e):=λh=>by rw[Z,h]
 refine ea (L:=Nat×ac hP) (λ(k,r)=>k<=l.length/\r.length=k/\hf p.ins.length l=C7 r (hf p.ins.length<|l.drop k)) (λ(k,r)=>amD p b1 l k r) (λx=>l.length-x.1) [0] (0,[]) ⟨c8 _,j,by rw[iB];cases hf p.ins.length l<;>rfl⟩ aqc fU ?_;rintro⟨k,r⟩ ⟨N,X,ab⟩;by_cases aW:k<l.length
 .have aP:l≠[]:=λe=>by rw[e]at aW;exact kV _ aW
  have hm:=M l[k]<|hv aW;have bF:=E l[k]<|hv aW;rw[fj aW]at ab;rcases r with _|⟨x,xs⟩
  all_goals
   refine dW 41 ?_;refine cM 41 ?_;refine e5 38 (.b6 3 dz ht l) j (.h0 aP)<|st ?_;refine l3 l[k] aqB ?_;refine e5 38 (.cd 3 dz ht l) rfl .cd<|st ?_;cases W:gb l[k].b3 with
   |none=>
    refine xf HD l[k].b3 (ch hm.1 ai) (eu<|fA l[k].b3) (No W) ?_ (bD:=by
     refine st ?_;refine Nl ?_;refine st ?_;exact bn j)
    refine st ?_;exact bn (jT<|u<|ab.trans<|C8 (Zm W) _)
   |some c=>
   refine xe HD l[k].b3 (ch hm.1 ai) (cU c) (Nn W)<|st ?_;refine Nl ?_;refine st ?_;refine aS rn c az<|dW 54 ?_;by_cases aK:c<0
   .refine v0 54 (λg=>Zu g aK)<|st ?_;refine kK jC (false,7) az (eu 7) j<|st ?_;exact bn<|jT<|u<|ab.trans<|C8 (HK W λg=>g.1 aK) _
   refine v1 54 (Zt aK)<|dW 58 ?_;by_cases Y: -1<=l[k].gL
   case neg=>
    refine cI 58<|st ?_;refine kK jC (false,7) az (eu 7) j<|st ?_;exact bn<|jT<|u<|ab.trans<|C8 (HK W λg=>Y g.2.1) _
   refine cM 58<|dW 66 ?_;by_cases aF:l[k].gL<(p.ins.length:Int)
   case neg=>
    refine cI 66<|st ?_;refine kK jC (false,7) az (eu 7) j<|st ?_;exact bn<|jT<|u<|ab.trans<|C8 (HK W λg=>aF g.2.2) _
   refine cM 66<|st ?_;refine l4 jC (true,7) az (.bc []) j<|st ?_;have a8:=Zn W ⟨aK,Y,aF⟩
   first
   |refine ea (L:=Nat×gE×Poly) (λ(J,L,P)=>J<=l[k].cr.length/\P.dU/\P.iS/\(∀w∈P,w.1.hO/\cq (2+jl (l[k].cr.take J)) w.2)/\iK p.ins.length [] l[k].cr=iK p.ins.length P (l[k].cr.drop J)) (λ((J:Nat),(L:gE),(P:Poly))=>⟨[.c 27<|g4 p,.a 194 true 5 hP vA<|x::xs,.g<|h6<|fz aq.ae L P,.c 194<|jU c++[.aa l[k].gL,.mp 2]],4,[(1,.b6 6 eH l9 b1),(3,.p 0 0),(38,.cd 3 dz ht l),(39,.aa l.length),(40,.aa (k:Nat)),(9,.aH 1 5 0 (xs.length+1)<|xs.length+1),(12,.p (2+1) 0),(70,.cd 2 cV h7 l[k].cr),(71,.aa l[k].cr.length),(72,.aa (J:Nat))]⟩) (λx=>l[k].cr.length-x.1) [0,1,3,4] (0,(λ_=>none),[]) arX asR fU ?_
   |refine ea (L:=Nat×gE×Poly) (λ(J,L,P)=>J<=l[k].cr.length/\P.dU/\P.iS/\(∀w∈P,w.1.hO/\cq (2+jl (l[k].cr.take J)) w.2)/\iK p.ins.length [] l[k].cr=iK p.ins.length P (l[k].cr.drop J)) (λ((J:Nat),(L:gE),(P:Poly))=>⟨[.c 27<|g4 p,.g<|h6<|fz aq.ae L P,.c 194<|jU c++[.aa l[k].gL,.mp 1]],3,[(1,.b6 6 eH l9 b1),(3,.p 0 0),(38,.cd 3 dz ht l),(39,.aa l.length),(40,.aa (k:Nat)),(9,.nl),(12,.p (1+1) 0),(70,.cd 2 cV h7 l[k].cr),(71,.aa l[k].cr.length),(72,.aa (J:Nat))]⟩) (λx=>l[k].cr.length-x.1) [0,2,3] (0,(λ_=>none),[]) arX asR fU ?_
   rintro⟨J,L,P⟩ ⟨V,ar,bl,aJ,ao⟩;refine dW 73 ?_;by_cases B:J<l[k].cr.length
   .have bu:l[k].cr≠[]:=λe=>by rw[e]at B;exact kV _ B
    rw[fj B]at ao;refine cM 73 ?_;refine e5 70 (.b6 2 cV h7 l[k].cr) j (.h0 bu)<|st ?_;refine l3 l[k].cr[J] (aO B) ?_;refine e5 70 (.cd 2 cV h7 l[k].cr) rfl .cd<|st ?_;have bb:=hm.2.1 _<|hv B;have bA:=Zp B;have bH:=Nx l[k].cr J;have bx:=Nx l[k].cr<|J+1;cases al:jk p.ins.length l[k].cr[J]with
    |error e=>
     refine xf Y8 (p,l[k].cr[J]) ⟨bb,hp⟩ (eu e) (amy al)<|st ?_;exact bn (jT<|u<|ab.trans<|C8 (a8.trans<|by rw[ao,HL al]) _)
    |ok gz=>
    have N:=Zg al;refine xe Y8 (p,l[k].cr[J]) ⟨bb,hp⟩ (.bc [mF gz.1,cU gz.2]) (amx al)<|st ?_
    first|(have:=xs;refine zz CO 2 (aq.ae,L,P,gz.1,gz.2) ?_ (c5 _) ?_)|refine zz CO 1 (aq.ae,L,P,gz.1,gz.2) ?_ (c5 _) ?_
    .exact arY arY
    refine st ?_
    first|(have:=xs;refine bB [0,1,2,3] (J+1,L.kM gz.1,dc P gz.1 gz.2) ?_ bk)|refine bB [0,1,2] (J+1,L.kM gz.1,dc P gz.1 gz.2) ?_ bk
    exact⟨by show l[k].cr.length-(J+1)<l[k].cr.length-J;omega,B,lH ar _ _,zI ar bl _ _,λw aG=>⟨(Nt R ar aJ N.1 N.2 w aG).1,eL (Nt R ar aJ N.1 N.2 w aG).2 R⟩,ao.trans<|HM al⟩
   .have B:J=l[k].cr.length:=by omega
    rw[B,sU]at ao;have bd:jD p.ins.length l[k]= .ok ⟨c,l[k].gL,P⟩:=a8.trans (by rw[ao];rfl);have a1:=ab.trans<|amE bd _;refine cI 73<|dW 86 ?_;refine agr 86 4 ?_;refine e5 86 (.agg<|vA ⟨c,l[k].gL,P⟩) j (.agg ⟨.refl _,.refl _,.refl _,.refl _,bz.Y2<|Nj _,az⟩)<|st ?_
    first
    |have:=xs
     refine q6 (ah:=vA) [(⟨c,l[k].gL,P⟩:hP)] (iH (ah:=vA) [⟨c,l[k].gL,P⟩] j) ?_ (aj:=au) (ay:=by show(5*(xs.length+1+1)+1792)*73<=1125899906842624;have:=X;simp only[hQ]at this;omega);refine dW 89 ?_;refine cj 89 ((k+1:Nat):Int)<|st ?_;exact bB [0,5] (k+1,x::(xs++[⟨c,l[k].gL,P⟩])) ⟨by show l.length-(k+1)<l.length-k;omega,aW,by have:=X;simp at this ⊢;omega,a1.trans j⟩ (bk (aI:=⟨j,j,j,j,j,congrArg (λk=>some<|ag.aH 5 5 0 k k) au,az⟩))
    |refine w8 vA [⟨c,l[k].gL,P⟩] (iH (ah:=vA) [⟨c,l[k].gL,P⟩] j)<|dW 89 ?_
     refine cj 89 ((k+1:Nat):Int)<|st ?_;exact bB [0,4] (k+1,[⟨c,l[k].gL,P⟩]) ⟨by show l.length-(k+1)<l.length-k;omega,aW,by have:=X;simp at this ⊢;omega,a1.trans j⟩ bk
 .have aQ:k=l.length:=by omega
  have b':hf p.ins.length l= .ok r:=by
   rw[ab,aQ,sU];show Except.ok (r++[])=_;rw[rP]
  have bq:=HJ (λs hm=>⟨(M s hm).1,(M s hm).2.2,E s hm⟩) b';have Z:vB p.ins.length b1 l=(match ke b1 [] r with
   |some S=>.ret (.g<|fO<|e9 S)
   |none=>.aV<|eu 3):=by rw[Z,b']
  rcases r with _|⟨x,xs⟩
  .refine dW 41 ?_;refine cI 41<|st ?_;refine Cv ?_;refine LD 90<|st ?_;refine aS tB (-1:Int) aqq<|st ?_;refine ea (L:=Unit) (λ_=>True) (λ_=>⟨[],0,[(94,.aa 0),(93,.aa 0),(15,.g<|fO [])]⟩) (λ_=>0) [] () az (by show 0<bs+1;unfold bs;decide) fU ?_;rintro _ _;refine st ?_;exact bn<|tr j j Z asI
  .refine dW 41 ?_;refine cI 41<|st ?_;refine Cv ?_;refine LD 90<|st ?_;refine aS tB (-1:Int) aqq<|st ?_;have aM:ke b1 [] (x::xs)=none->vB p.ins.length b1 l= .aV (eu 3):=λh=>by rw[Z,h]
   refine ea (L:=Nat×Poly) (λ(i,S)=>i<=xs.length+1/\ke b1 [] (x::xs)=ke b1 S ((x::xs).drop i)/\eM 200 16 (2+i*1700000) S)
    (λ((i:Nat),(S:Poly))=>⟨[.a 194 true 5 hP vA<|x::xs,.c 45<|jU<|mkRat (-1) 1],2,[(1,.b6 6 eH l9 b1),(92,.aH 0 5 0 (xs.length+1)<|xs.length+1),(93,.aa ((xs.length+1:Nat):Int)),(94,.aa (i:Nat)),(16,.p 1 0),(15,.g<|fO<|e9 S)]⟩)
    (λq=>xs.length+1-q.1) [1,3] (0,[]) ⟨c8 _,j,eM.nil.up ai ai ai⟩ (by show xs.length+1-0<bs+1;have:=X;simp only[hQ]at this;unfold bs;omega) fU ?_
   rintro⟨i,S⟩ ⟨af,A,aA⟩;have bE:xs.length+1<=20:=by have:=X;simp only[hQ]at this;omega
   refine dW 95 ?_;by_cases h:i<(x::xs).length
   .rw[fj h]at A;refine v1 95 (show(i:Int)<((xs.length+1:Nat):Int) by have:i<xs.length+1:=h;omega)<|st ?_;refine nE ?_;refine FW (x::xs)[i] (show(x::xs)[0+i]? =some (x::xs)[i] by rw[hU];exact aO h) ?_;have bh:=bq _<|hv h;generalize(x::xs)[i]=y at *;obtain⟨c,z,f⟩:=y;obtain⟨D,W,aU,aZ⟩:=bh;replace D:eM 200 2047 1002 f:=D;replace W:cq 250 c:=W;replace aU: -1<=z:=aU;replace aZ:z<(p.ins.length:Int):=aZ;refine st ?_;by_cases f0:gM f=true
    case neg=>
     refine kK vy f ⟨D.s,D.fP ai,ch D.l ai⟩ (eu 3) (av f0)<|st ?_;exact bn<|jT<|aM (A.trans<|by unfold ke ld;rw[av f0])
    refine l4 vy f ⟨D.s,D.fP ai,ch D.l ai⟩ (.g<|fO<|e9 f) (aD f0) ?_;have D:=D.fit f0;refine st ?_;refine aS HA (f,f,1002,1002) ⟨D.s,D.s,D.hO ai<|c5 _,D.hO ai<|c5 _,ai,by have:=D.l;omega,ch D.l ai,ch D.l ai⟩ ?_;have O:=D.ek D;refine e5 103 (.g<|fO<|e9<|ek<|gy f f) j (.refl _) ?_;generalize aR:ek (gy f f)=g at *;by_cases ak:gM g=true
    case neg=>
     refine kK vy g ⟨O.s,O.fP ai,ch O.l ai⟩ (eu 3) (av ak)<|st ?_;exact bn<|jT<|aM (A.trans<|by unfold ke ld;rw[aD f0];dsimp only;rw[aR,av ak])
    refine l4 vy g ⟨O.s,O.fP ai,ch O.l ai⟩ (.g<|fO<|e9 g) (aD ak) ?_;have O:=O.fit ak;refine dW 107 ?_;by_cases aw:0<=z;obtain⟨m,rfl⟩:=Iu aw;refine v1 107 aw<|st ?_;refine ca Y3 m (by show m<6;omega)<|st ?_;have aT:m<b1.length:=R
    have C:=bw _<|hv aT;refine w9 b1[m] (aO aT) ?_;generalize bp:b1[m]=b at *;refine st ?_;refine ca Nk b.1 (eL C.1) ?_;have a':=eM.var m;have o:=eM.nil.put ai xX C.1;have F:=eM.nil.put ai xX C.2;have aL:cq 2 (mkRat (-1) 1):=ats;refine st ?_;refine ca Hy ([(aE.var m,1)],dc [] aE.zero b.1,mkRat (-1) 1) ⟨a'.s,o.s,a'.z,a'.z7 ai ai,o.z7 ai ai,eL aL,ch a'.l ai,ch o.l ai⟩ ?_;have T:=a'.oM o ai ai aL;refine st ?_;refine ca Nk b.2 (eL C.2)<|st ?_;refine ca Hy (dc [] aE.zero b.2,[(aE.var m,1)],mkRat (-1) 1) ⟨F.s,a'.s,F.z,F.z7 ai ai,a'.z7 ai ai,eL aL,ch F.l ai,ch a'.l ai⟩ ?_;have aC:=F.oM a' ai ai aL;refine st ?_;refine ca HA (dS [(aE.var m,1)] (mkRat (-1) 1)<|dc [] aE.zero b.1,dS (dc [] aE.zero b.2) (mkRat (-1) 1) [(aE.var m,1)],258,258) ⟨T.s,aC.s,T.hO ai ai,aC.hO ai ai,ai,by have:=aC.l;omega,ch T.l ai,ch aC.l ai⟩ ?_;have n:=T.ek aC;generalize a6:ek (gy (dS [(aE.var m,1)] (mkRat (-1) 1)<|dc [] aE.zero b.1)<|dS (dc [] aE.zero b.2) (mkRat (-1) 1) [(aE.var m,1)])=Q at *;refine e5 129 (.g<|fO<|e9 Q) j (.of<|by rw[<-a6])<|st ?_;refine ca HA (g,Q,401002,1036) ⟨O.s,n.s,O.hO ai ai,n.hO ai ai,ai,by have:=n.l;omega,ch O.l ai,ch n.l ai⟩ ?_;have d:=O.ek n;generalize a7:ek (gy g Q)=I at *;refine e5 130 (.g<|fO<|e9 I) j (.of<|by rw[<-a7])<|st ?_;have br:mkRat (-1) 1=(-1:Rat):=by decide +kernel
    have a0:ld b1 ⟨c,(m:Int),f⟩=if gM I=true then some I else none:=by
     have bf:b1.getD m (0,0)=b:=by rw[ue,vK aT];exact bp
     unfold ld;dsimp only;rw[aD f0,aR,aD ak,aD aw,vP,bf,<-br,a6,a7]
    by_cases G:gM I=true
    rotate_left
    .refine xf vy I ⟨d.s,d.fP ai,ch d.l ai⟩ (eu 3) (av G)<|st ?_;exact bn (jT<|aM<|A.trans<|Zs<|a0.trans<|av G)
    rotate_left
    refine xe vy I ⟨d.s,d.fP ai,ch d.l ai⟩ (.g<|fO<|e9 I) (aD G) ?_;replace d:eM 200 16 1608158 I:=(d.fit G).up (c5 _) (c5 _) ai;have E:=a0.trans (aD G)
    rotate_left
    refine v0 107 aw ?_;have E:ld b1 ⟨c,z,f⟩=some g:=by
     unfold ld;dsimp only;rw[aD f0,aR,aD ak,av aw]
    have d:eM 200 16 1608158 g:=O.up (c5 _) (c5 _) ai;generalize g=I at *
    all_goals
     refine st ?_;refine aS Hy (S,I,c) ⟨aA.s,d.s,aA.z,aA.z7 ai R,d.z7 ai ai,eL W,ch aA.l ai,ch d.l ai⟩ ?_;have ad:=aA.oM d R ai W;refine e5 136 (.g<|fO<|e9<|dS S c I) j (.refl _) ?_;generalize a5:dS S c I=rC at *;by_cases aB:gM rC=true
     case neg=>
      refine kK vy rC ⟨ad.s,ad.fP ai,ch ad.l ai⟩ (eu 3) (av aB)<|st ?_;exact bn<|jT<|aM<|A.trans<|Zr E a5 aB
     refine l4 vy rC ⟨ad.s,ad.fP ai,ch ad.l ai⟩ (.g<|fO<|e9 rC) (aD aB) ?_;have bo:=ad.fit aB;refine st ?_;refine bB [0,1] (i+1,rC) ⟨by show xs.length+1-(i+1)<xs.length+1-i;have:i<xs.length+1:=h;omega,h,A.trans<|Zq E a5 aB,bo.up (c5 _) (c5 _) R⟩ bk
   .refine v0 95 (show¬(i:Int)<((xs.length+1:Nat):Int) by have:¬i<xs.length+1:=h;omega) ?_;rw[kX R]at A;refine st ?_;exact bn<|tr j j (Z.trans<|by rw[A];rfl) asI
def Ny:bl 306 (bV λ(x:Int)=>([.aa x],True,.b false)):=by
 refine bL [] Um.1 ?_;intro x _ H aq;exact I 14<|bn (ep j j<|.of<|bK<|cp λh=>h j)
def lf(x y:Int):Int:=if x<y then -1 else if y<x then 1 else 0
def Zw:bl 189 (bV λ((x,y):Int×Int)=>([.aa x,.aa y],True,.aa<|lf x y)):=by
 refine bL [Ny] VN.1 ?_;intro⟨x,y⟩ _ H aq;refine I 8<|aS Ny x az<|I 6<|aS Ny y az<|I 27 ?_;by_cases h:x<y
 .exact v1 16 h<|u6 (by show ag.aa (-1)=ag.aa (lf x y);unfold lf;rw[aD h])
 .refine v0 16 h<|I 11 ?_;by_cases G:y<x
  .exact v1 19 (G)<|u6 (by show ag.aa 1=ag.aa (lf x y);unfold lf;rw[av h,aD G])
  .exact v0 19 (G)<|u6 (by show ag.aa 0=ag.aa (lf x y);unfold lf;rw[av h,av G])
def h8:ac Nat->ac Nat->Int
 |a::l,b::m=>if lf a b=0 then h8 l m else lf a b
 |_,_=>0
def amF{x:Int}:lf x y<0↔x<y:=by rw[lf];split<;>(try split)<;>omega
def Zx{x:Int}:lf x y=0↔x=y:=by rw[lf];split<;>(try split)<;>omega
def C9(k J:aE):h8 k.n J.n<0↔aE.lt k J:=by
 unfold aE.n aE.lt;simp only[h8,Zx]
 repeat' split
 all_goals first|(rw[amF];omega)|omega
