/- What the functions of the program and of the document compute, for every input, and the plain laws of it (part 5); conditions as in the statements. -/
import Derived.Test.YtnbgimpdclpgbaaGreatDoorC3
import Derived.Test.YtnbgimpdclpgbaaGreatDoorC4
import Derived.Test.YtnbgimpdclpgbaaGreatDoorS3
import Derived.Test.YtnbgimpdclpgbaaGreatDoorS2
import Derived.Test.YtnbgimpdclpgbaaGreatDoorC2
noncomputable section
set_option linter.all false
namespace Go.bA.c3
open Go.bA
variable{n:Nat}{bL:ac gm}
def xC{u m D a j:Nat}{f:Poly}(h:e9 n m a f)(aF:n<=u)(aL:m<=D)(E:a<=j):e9 u D j f:=⟨h.s,h.z,cC h.l aF,(λp hp=>by have:=h.k p hp;unfold aO.le at this ⊢;omega),λp hp=>eb (h.b p hp) E⟩
def l':b9 2 (-1:Rat):=⟨h5 al,h5 al⟩
theorem apG{x:iO}{g:Poly}(j:nM n x)(aD:bL.length=n)(u:∀v∈bL,b9 250 v.1/\b9 250 v.2)(h:l8 bL x=some g):e9 200 16 1608158 g:=by
 unfold l8 at h;dsimp only at h;split at h
 case isFalse=>cases h
 rename_i q;have b:=j.f.fit q;have a:=b.e8 b;split at h
 case isFalse=>cases h
 rename_i r;have a:=a.fit r;split at h
 ·rename_i w;have hm:x.k.toNat<bL.length:=by have:=j.bH;omega
  have d:=u _<|kc hm;have e:bL.getD x.k.toNat (0,0)=bL[x.k.toNat]:=by grind
  rw[e]at h;have c:=e9.var x.k.toNat;have m:=e9.nil.put al Hr d.1;have l:=e9.nil.put al Hr d.2;have p:=c.zG m al al l';have o:=l.zG c al al l';have t:=p.e8 o;have s:=a.e8 t;split at h
  ·rename_i i;cases h;exact xC (s.fit i) (dt _) (dt _) al
  ·cases h
 ·cases h;exact xC a (dt _) (dt _) al
theorem m'{n:Nat}{bL:ac gm}(aD:bL.length=n)(D:∀v∈bL,b9 250 v.1/\b9 250 v.2):∀{xs:ac iO} {S j:Poly} {a:Nat},(∀x∈xs,nM n x)->e9 200 16 a S->2<=a->kb bL S xs=some j->e9 200 16 (a+xs.length*1700000) j
 |[],S,j,a,_,b,_,h=>by cases h;exact xC b (dt _) (dt _) R
 |x::xs,S,j,a,d,b,f,h=>by
  rw[CN]at h;cases u:l8 bL x with
  |none=>rw[u]at h;cases h
  |some g=>
   rw[u]at h;dsimp only at h;split at h
   ·rename_i l;have bX:=d x g5;have o:=apG bX aD D u;have p:=xC ((b.zG o f al bX.c).fit l) (dt _) (dt _) (show 1608158+250+a+1<=a+1700000 by omega);have m:=m' aD D (λq i=>d q<|e5 _ i) p R h;exact xC m (dt _) (dt _)<|by grind
   ·cases h
def n5(n:Nat)(l:ac fo):Except Int (ac gm):=if l.length=n then(match gM l with
 |some a=>if qY a=true then .ok a else .error 7
 |none=>.error 6)else .error 2
def apH(n:Nat)(l:ac fo):xx n l=match n5 n l with
 |.ok ad=>.ret (.cU 6 gm lF ad)
 |.error e=>.aR (ed e):=by
 unfold xx n5;split
 ·cases gM l with
  |none=>rfl
  |some ad=>dsimp only;split<;>rfl
 ·rfl
def n6(n:Nat)(bL:ac gm)(l:ac dR):Except Int Poly:=
 if l.length<=20/\(∀s∈l,s.dr.length<=200)then(match h0 n l with
  |.ok xs=>(match kb bL [] xs with
   |some S=>.ok S
   |none=>.error 3)
  |.error e=>.error e)else .error 3
def apI(n:Nat)(bL:ac gm)(l:ac dR):vd n bL l=match n6 n bL l with
 |.ok S=>.ret (.g<|fB<|eZ S)
 |.error e=>.aR (ed e):=by
 unfold vd n6;split
 ·cases h0 n l with
  |error e=>rfl
  |ok xs=>dsimp only;cases kb bL [] xs<;>rfl
 ·rfl
def mR(p:ec)(box:ac fo)(l:ac dR):ac dj×Int:=
 if(ez p).2.2=0 then(match n5 p.ins.length box with
  |.ok a=>(match n6 p.ins.length a l with
   |.ok S=>(jU p.ins.length S,0)
   |.error e=>([],e))
  |.error e=>([],e))else([],(ez p).2.2)
def NG{l:ac fo}{ad:ac gm}(j:∀s∈l,s.1.length<=2000/\s.2.length<=2000)(h:n5 n l= .ok ad):ad.length=n/\∀v∈ad,b9 250 v.1/\b9 250 v.2:=by
 unfold n5 at h;split at h
 case isFalse=>cases h
 rename_i i;cases ah:gM l with
 |none=>rw[ah]at h;cases h
 |some o=>
  rw[ah]at h;dsimp only at h;split at h
  ·cases h;refine⟨?_,Na j ah⟩;rw[<-i];clear i j
   induction l generalizing ad with
   |nil=>cases ah;rfl
   |cons s l m=>
    cases c:dq s.1 with
    |none=>rw[Hn c]at ah;cases ah
    |some a=>
     cases g:dq s.2 with
     |none=>rw[Ho c g]at ah;cases ah
     |some b=>
      have e:gM (s::l)=(gM l).map ((a,b)::·):=by
       show(match dq s.1 with|some a=>(match dq s.2 with|some b=>(gM l).map ((a,b)::·)|none=>none)|none=>none)=_;rw[c,g]
      rw[e]at ah;cases f:gM l with
      |none=>rw[f]at ah;cases ah
      |some w=>
       rw[f]at ah;cases ah;have:=m f (by rename_i d;unfold qY at d ⊢;rw[xO,cO]at d;exact d.2);rw[hN,hN,this]
  ·cases h
def NH{l:ac dR}{S:Poly}(aD:bL.length=n)(u:∀v∈bL,b9 250 v.1/\b9 250 v.2)(j:∀s∈l,s.b8.length<=3000/\jD s.dr<=1000)(h:n6 n bL l= .ok S):e9 200 16 40000000 S:=by
 unfold n6 at h;split at h
 case isFalse=>cases h
 rename_i g;cases a:h0 n l with
 |error e=>rw[a]at h;cases h
 |ok xs=>
  rw[a]at h;dsimp only at h;cases b:kb bL [] xs with
  |none=>rw[b]at h;cases h
  |some T=>
   rw[b]at h;cases h;have f:=Hs (λs hm=>⟨(j s hm).1,(j s hm).2,g.2 s hm⟩) a;have p:xs.length=l.length:=by
    clear b f g j
    induction l generalizing xs with
    |nil=>cases a;rfl
    |cons s l i=>
     unfold h0 at a;cases d:kL n s with
     |error e=>rw[d]at a;cases a
     |ok x=>
      rw[d]at a;cases c:h0 n l with
      |error e=>rw[c]at a;cases a
      |ok o=>
       rw[c]at a;cases a;rw[hN,hN,i _ c]
   have m:=m' aD u f (xC e9.nil al al<|dt _) (dt _) b;exact xC m (dt _) (dt _) R
def apJ{S:Poly}(h:e9 200 16 40000000 S)(ah:n<=6):Z6 S n:=⟨h.s,h.z,λp hp=>⟨xv<|Hq (h.k p hp) al,eb (h.b p hp) al⟩,cC h.l al,ah⟩
def h1(x:ac Rat)(i:Nat):Rat:=x.getD i 1
def mono(x:ac Rat)(k:aO):Rat:=h1 x 0^k.a*h1 x 1^k.b*h1 x 2^k.c*h1 x 3^k.d*h1 x 4^k.e*h1 x 5^k.f
def eS(x:ac Rat):Poly->Rat
 |[]=>0
 |p::P=>p.2*mono x p.1+eS x P
theorem n':∀n:Nat,(1:Rat)^n=1
 |0=>Rat.pow_zero _
 |n+1=>by rw[Rat.pow_succ,n' n,Rat.mul_one]
theorem apK(x:ac Rat)(k J:aO):mono x (k.add J)=mono x k*mono x J:=by
 unfold mono aO.add
 grind
def apL(x:ac Rat):mono x aO.zero=1:=by
 unfold mono aO.zero;simp
def apM(x:ac Rat):∀i,i<6->mono x (aO.var i)=h1 x i:=λi af=>by
 have h:i=0\/i=1\/i=2\/i=3\/i=4\/i=5:=R
 have b:∀a:Rat,a^1=a:=λa=>by rw[Rat.pow_succ,Rat.pow_zero,Rat.one_mul]
 unfold mono aO.var;rcases h with rfl|rfl|rfl|rfl|rfl|rfl<;>simp[b]
theorem CW(x:ac Rat)(k:aO)(y:Rat):∀P:Poly,eS x (eC P k y)=eS x P+y*mono x k
 |[]=>by
  unfold eC;split
  ·rename_i h;have h:y=0:=by grind
   grind
  ·show(y+0)*mono x k+0=0+y*mono x k
   grind
 |p::P=>by
  unfold eC;split
  ·rename_i h;split
   ·rename_i a;show eS x P=p.2*mono x p.1+eS x P+y*mono x k;have b:y= -p.2:=by grind
    grind
   ·show(y+p.2)*mono x k+eS x P=p.2*mono x p.1+eS x P+y*mono x k
    grind
  ·split
   ·split
    ·rename_i a;have b:y=0:=by grind
     grind
    ·show(y+0)*mono x k+(p.2*mono x p.1+eS x P)=p.2*mono x p.1+eS x P+y*mono x k
     grind
   ·show p.2*mono x p.1+eS x (eC P k y)=p.2*mono x p.1+eS x P+y*mono x k;rw[CW x k y P];grind
theorem HD(x:ac Rat)(c:Rat):∀(W P:Poly),eS x (fC P c W)=eS x P+eS x W*c
 |[],P=>by show eS x P=eS x P+0*c;grind
 |p::W,P=>by
  show eS x (fC (eC P p.1<|p.2*c) c W)=eS x P+(p.2*mono x p.1+eS x W)*c;rw[HD x c W,CW];grind
def apN(x:ac Rat)(W:mP):eS x (e8 W)=kv (W.map λw=>w.1.2*w.2.2*mono x (w.1.1.add w.2.1)):=xt (p:=λW=>eS x (e8 W)=kv (W.map λw=>w.1.2*w.2.2*mono x (w.1.1.add w.2.1))) j (λW w a=>by
 rw[u7,CW,a,oY,Hg];show _=_+(_+0);rw[Dv]) W
theorem HE(x:ac Rat)(g:Poly):∀f:Poly,eS x (e8<|kJ f g)=eS x f*eS x g:=λf=>by
 rw[apN]
 induction f with
 |nil=>show 0=0*_;grind
 |cons p f a=>
  show kv ((g.map (λq=>(p,q))++kJ f g).map _)=(p.2*mono x p.1+eS x f)*eS x g;rw[oY,Hg,a];have key:∀g:Poly,kv ((g.map λq=>(p,q)).map λw=>w.1.2*w.2.2*mono x (w.1.1.add w.2.1))=p.2*mono x p.1*eS x g:=λg=>by
   induction g with
   |nil=>show(0:Rat)=_*0;grind
   |cons q g a=>
    show p.2*q.2*mono x (p.1.add q.1)+kv _=p.2*mono x p.1*(q.2*mono x q.1+eS x g);rw[a,apK];grind
  grind
theorem o'(a:Rat):0<=a*a:=by
 rcases Rat.le_total with h|h
 ·exact vF h h
 ·have b:0<= -a:=by grind
  have:=vF b b
  grind
def HF(x:ac Rat)(bL:ac gm):Prop:=∀i (h:i<bL.length),bL[i].1<=h1 x i/\h1 x i<=bL[i].2
variable{x:ac Rat}
theorem apO{r:iO}{g:Poly}(u:nM n r)(aD:bL.length=n)(ah:n<=6)(j:HF x bL)(h:l8 bL r=some g):0<=eS x g:=by
 unfold l8 at h;dsimp only at h;split at h
 case isFalse=>cases h
 split at h
 case isFalse=>cases h
 split at h
 ·rename_i m;have hm:r.k.toNat<bL.length:=by have:=u.bH;omega
  have e:bL.getD r.k.toNat (0,0)=bL[r.k.toNat]:=by grind
  rw[e]at h;split at h
  ·cases h;have o:=j _ hm;have a:eS x [(aO.var r.k.toNat,1)]=h1 x r.k.toNat:=by
    show 1*mono x (aO.var r.k.toNat)+0=_;rw[apM x _ R];grind
   have d:eS x ([]:Poly)=0:=rfl;rw[HE,HE,HE,HD,HD,CW,CW,a,apL,d];have c:=o'<|eS x r.f;have b:0<=h1 x r.k.toNat-bL[r.k.toNat].1:=by grind
   have i:0<=bL[r.k.toNat].2-h1 x r.k.toNat:=by grind
   have l:=vF c<|vF b i;generalize eS x r.f*eS x r.f=q at *;generalize h1 x r.k.toNat=t at *;have e:q*((t+(0+bL[r.k.toNat].1*1)* -1)*(0+bL[r.k.toNat].2*1+t* -1))=q*((t-bL[r.k.toNat].1)*(bL[r.k.toNat].2-t)):=by grind
   rw[e];exact l
  ·cases h
 ·cases h;rw[HE];exact o' _
theorem p'{x:ac Rat}{n:Nat}{bL:ac gm}(aD:bL.length=n)(ah:n<=6)(D:HF x bL):∀{xs:ac iO} {S j:Poly},(∀r∈xs,nM n r/\0<=r.c)->0<=eS x S->kb bL S xs=some j->0<=eS x j
 |[],S,j,_,b,h=>by cases h;exact b
 |r::xs,S,j,a,b,h=>by
  rw[CN]at h;cases u:l8 bL r with
  |none=>rw[u]at h;cases h
  |some g=>
   rw[u]at h;dsimp only at h;split at h
   ·have bX:=a r g5;have f:=apO bX.1 aD ah D u;refine p' aD ah D (λi d=>a i<|e5 _ d) ?_ h;rw[HD];have:=vF f bX.2
    grind
   ·cases h
theorem q'{n:Nat}:∀{l:ac dR} {xs:ac iO},h0 n l= .ok xs->∀x∈xs,0<=x.c
 |[],xs,h,x,a=>by cases h;cases a
 |s::l,xs,h,x,a=>by
  unfold h0 at h;cases aF:kL n s with
  |error e=>rw[aF]at h;cases h
  |ok y=>
   rw[aF]at h;cases aL:h0 n l with
   |error e=>rw[aL]at h;cases h
   |ok b=>
    rw[aL]at h;cases h;rcases e1.1 a with rfl|a
    ·unfold kL at aF;cases aS:hy s.b8 with
     |none=>rw[aS]at aF;cases aF
     |some c=>
      rw[aS]at aF;dsimp only at aF;split at aF
      ·rename_i cA;cases j:kK n [] s.dr with
       |error e=>rw[j]at aF;cases aF
       |ok f=>rw[j]at aF;cases aF;exact so.1 cA.1
      ·cases aF
    ·exact q' aL x a
def apP{l:ac dR}{S:Poly}(aD:bL.length=n)(ah:n<=6)(u:HF x bL)(j:∀s∈l,s.b8.length<=3000/\jD s.dr<=1000)(h:n6 n bL l= .ok S):0<=eS x S:=by
 unfold n6 at h;split at h
 case isFalse=>cases h
 rename_i d;cases a:h0 n l with
 |error e=>rw[a]at h;cases h
 |ok xs=>
  rw[a]at h;dsimp only at h;cases b:kb bL [] xs with
  |none=>rw[b]at h;cases h
  |some T=>
   rw[b]at h;cases h;have c:=Hs (λs hm=>⟨(j s hm).1,(j s hm).2,d.2 s hm⟩) a;exact p' aD ah u (λr hm=>⟨c r hm,q' a r hm⟩) Rat.le_refl b
def vi(x:ac Rat)(k:aO)(c:Rat):Nat->Rat
 |0=>c
 |i+1=>vi x k c i*h1 x i^(k.n.getD i 0)
theorem apQ(u:x.length<=6)(k:aO)(c:Rat):vi x k c x.length=c*mono x k:=by
 have j:∀d,d+x.length<=6->vi x k c (x.length+d)=vi x k c x.length:=λd=>by
  induction d with
  |zero=>intro _;rfl
  |succ d i=>
   intro h;show vi x k c (x.length+d)*h1 x (x.length+d)^_=_;rw[i R,show h1 x (x.length+d)=1 from by unfold h1;rw[sq,sm R];rfl,n',Rat.mul_one]
 have g:=j (6-x.length) R;rw[show x.length+(6-x.length)=6 by omega]at g;rw[<-g];show c*h1 x 0^k.a*h1 x 1^k.b*h1 x 2^k.c*h1 x 3^k.d*h1 x 4^k.e*h1 x 5^k.f=_;unfold mono
 grind
def apR{x:Rat}(h:g3 (hc x)≠3):hy (hc x)=some x:=by
 have hp:=anv x;have b:=ane hp;have a:¬xk (hc x):=λa=>h<|Yi b a;obtain⟨c,d⟩:=Yj b a hp;unfold hy;rw[aE c,d]
def apS{f:Poly}{i:Nat}(h:i<f.length):eS x (f.drop i)=f[i].2*mono x f[i].1+eS x (f.drop<|i+1):=by
 rw[vn h];rfl
end Go.bA.c3
namespace Go.bA.c3
open Go.bA Sym
set_option maxRecDepth 100000
set_option maxHeartbeats 8000000
def NI{p:ec}(h:(ez p).2.2=0):p.ins.length<=6:=by
 by_cases a:pR p=0
 ·exact(NF a).2.1
 ·unfold ez at h;rw[aw a]at h;exact absurd h a
def NJ:bl:=pF (λa=>n1 a/\mO a) (λh b=>⟨b.1.up h,b.2.up h⟩) λ((p,bL,l):ec×ac fo×ac dR)=>([jC p,.c6 2 fo si bL,.c6 3 dR k6 l],xB p/\(∀s∈bL,s.1.length<=2000/\s.2.length<=2000)/\∀s∈l,s.b8.length<=3000/\(∀t∈s.dr,t.b8.length<=3000)/\jD s.dr<=1000,.bq [.gb 2 dj iC (mR p bL l).1,.aa (mR p bL l).2])
def apT:bt 7 NJ:=by
 refine sa [(30,HC),(31,Hi),(33,Y3),(32,Nc),(34,(CT λ_=>True).spec)] fs.1 ?_;intro⟨p,bL,l⟩ ⟨hp,u,r⟩ H au ⟨D,C⟩;have bad:∀{c:Int},mR p bL l=([],c)->bJ (.bq [.nl,.aa c]) (NJ.res (p,bL,l)):=λ{c} h=>by
  show bJ _ (.bq [.gb 2 dj iC (mR p bL l).1,.aa (mR p bL l).2]);rw[h];exact .bq ⟨.jx,.refl _,aC⟩
 refine I 12<|afC (n:=4611686018427387902) (by unfold bx;rfl) (cE:=90) (t:=35) (ay:=182) SC.1 br br br ?_;intro F G J E hle;have z:=D.up hle;have A:=C.up hle;refine I 3<|aV apF p hp (aP 9 (.bq [.aa (ez p).1,.aa (ez p).2.1,.aa (ez p).2.2]) j j<|I 12 ?_) (cA:=z);by_cases f:(ez p).2.2=0
 case neg=>
  refine kp zF (ez p).2.2 aC (ed (ez p).2.2) (aw f)<|I 1<|an (.inr ⟨(ez p).2.2,j,?_⟩);exact I 12<|an (az j j<|bad<|aw f)
 refine lz zF (ez p).2.2 aC (.bq []) (aE f) ?_;have m:=NI f;have a:mR p bL l=(match n5 p.ins.length bL with
  |.ok b=>(match n6 p.ins.length b l with
   |.ok S=>(jU p.ins.length S,0)
   |.error e=>([],e))
  |.error e=>([],e)):=aE f
 have o:=apH p.ins.length bL;refine st ?_;cases q:n5 p.ins.length bL with
 |error e=>
  rw[q]at o a;refine wN Y4 (p,bL) ⟨m,u⟩ (ed e) o<|an (.inr ⟨e,j,?_⟩);exact I 12<|an (az j j<|bad a)
 |ok b=>
 rw[q]at o a;obtain⟨y,v⟩:=NG u q;refine wM Y4 (p,bL) ⟨m,u⟩ (.cU 6 gm lF b) o<|I 2 ?_;have i:=apI p.ins.length b l;have w:Nc.pre (p,b,l):=⟨m,y,v,r⟩;cases d:n6 p.ins.length b l with
 |error e=>
  rw[d]at i;dsimp only at a;rw[d]at a;refine wN Zg (p,b,l) w (ed e) i<|an (.inr ⟨e,j,?_⟩);exact I 12<|an (az j j<|bad a)
 |ok S=>
 rw[d]at i;dsimp only at a;rw[d]at a;refine wM Zg (p,b,l) w (.g<|fB<|eZ S) i ?_;have B:=NH y v (λs hm=>⟨(r s hm).1,(r s hm).2.2⟩) d;refine I 3<|cm apv (S,p.ins.length) ⟨apJ B m,aC⟩ (I 2<|an (.inl ⟨.inl j,?_⟩)) (cA:=A);refine I 12<|an (az j j ?_);show bJ _ (.bq [.gb 2 dj iC (mR p bL l).1,.aa (mR p bL l).2]);rw[a];exact .refl _
set_option maxHeartbeats 4000000
def r'{n:Nat}(k:aO)(h:n<=6):(tj n k).length=n:=by unfold tj;simp[aO.n];omega
end Go.bA.c3
namespace Go.bA.c3
open Go.bA
set_option maxRecDepth 100000
set_option maxHeartbeats 4000000
variable{x:Rat}
def HG(x:Rat)(k:Int):mkRat (x.num*((ej (mkRat 1 1) k).den:Int)) (x.den*(ej (mkRat 1 1) k).num.natAbs)=ej x (-k):=by
 obtain⟨a,b⟩:=xd k;rw[a,b,Ij];unfold ej;by_cases h: -k<0
 ·rw[aE h,show(-k).toNat=0 by omega,show(-(-k))=k by omega];simp
 ·rw[aw h,show k.toNat=0 by omega];simp
def s'(h:x.num=0)(k:Int):(ej x k).den=1:=by
 unfold ej;rw[h];split<;>simp[Rat.zero_mkRat,Rat.mkRat_zero]
def apU(h:0<=x.num)(k:Int):0<=(ej x k).num:=by
 unfold ej;split
 ·rw[(uL _ _<|nw x.den_nz (by have:=la (-k).toNat;omega)).1];exact Int.ediv_nonneg h R
 ·rw[(uL _ _ x.den_nz).1];exact Int.ediv_nonneg (Int.mul_nonneg h<|by exact Int.le_of_lt<|Int.pow_pos al) R
def apV{e p:Int}(h:fJ e p):0<=(nd e p).num:=by
 unfold nd;apply apU;have:mkRat 1 1<=ej (mkRat 1 1) p:=by
  rw[Rat.le_iff,(xd p).1,(xd p).2,show(-p).toNat=0 by have:=h.2.2.1;omega];have:(1:Int)<=2^p.toNat:=by have:=la p.toNat;have a:((2^p.toNat:Nat):Int)=2^p.toNat:=by simp
                                                                                                       omega
  show(1:Int)*((2^0:Nat):Int)<=2^p.toNat*1;omega
 exact Dw.2<|(Rat.le_iff_sub_nonneg _ _).1 this
def HH(e p:Int)(x:Rat):Prop:=fJ e p/\¬nd e p<iA x/\(mkRat (x.num*((ej (mkRat 1 1)<|mM e p x).den:Int))<|x.den*(ej (mkRat 1 1)<|mM e p x).num.natAbs).den=1
def has_eq(e p:Int)(x:Rat):HH e p x↔ku e p x:=by
 unfold HH ku;constructor
 ·rintro⟨c,d,b⟩;rw[HG]at b;by_cases a:x.num=0
  ·exact⟨c,.inl a⟩
  ·rw[<-Xz a]at b;unfold GF at b;rw[aw a]at b;exact⟨c,.inr ⟨b,d⟩⟩
 ·rintro⟨c,a|⟨b,d⟩⟩
  ·refine⟨c,?_,by rw[HG];exact s' a _⟩;intro h;have ah:=apV c;rw[Rat.lt_iff,(qO x).1,(qO x).2,a]at h;have:0<=(nd e p).num*(x.den:Int):=Int.mul_nonneg ah R;simp at h;omega
  ·by_cases a:x.num=0
   ·exact⟨c,d,by rw[HG];exact s' a _⟩
   ·refine⟨c,d,?_⟩;rw[HG,<-Xz a];unfold GF;rw[aw a];exact b
def im(N:ac Bool)(l:ac Int):ac Bool:=l.foldl (λN (k:Int)=>N.set k.toNat true) N
def t':bl:=b3 λ(s:ac ci)=>([.s s],s.length<=2000,.aa<|qV s)
def apW:bt 114 t':=by
 refine bR [(47,Cw)] U1.1 ?_;intro s a b au;refine I 8<|aV MF s a ?_;cases h:dq s with
 |some x=>
  exact aP 7 (.bq [dB x,.aa 0]) j (by show oQ s=_;unfold oQ;rw[h])<|I 15<|an (az j j (.of<|by show _=ag.aa (qV s);unfold qV;rw[h];rfl))
 |none=>
  exact aP 7 (.bq [dB 0,.aa 6]) j (by show oQ s=_;unfold oQ;rw[h])<|I 15<|an (az j j (.of<|by show _=ag.aa (qV s);unfold qV;rw[h];rfl))
def tr(x y:Rat):Rat:=mkRat (x.num*(y.den:Int))<|x.den*y.num.natAbs
def u':bl:=b3 λ((x,a):Rat×Rat)=>([dB x,dB a],eN 60000 x/\eN 60000 a/\0<a.num,.bq [dB<|tr x a,.aa 0])
def apX:bt 408 u':=by
 refine bR [(198,w8),(199,w9),(117,u0)] UM.1 ?_;intro⟨x,y⟩ ⟨a,b,hp⟩ H au;have c:=zw x.num;have f:=rf hp;have d:y.num≠0:=R
 refine I 14<|c2 8<|I 11<|dD 18 (c9 y.den) j j (by rw[aw d];rfl)<|cm pN (x.num.natAbs,y.den) ⟨db a.1,db b.2⟩<|I 1<|cm qT x aC<|I 2<|cm pN (x.den,y.num.natAbs) ⟨db a.2,db b.1⟩<|I 5<|aP 14 (.aa x.num.sign) j (by rw[f,Int.mul_one];exact eM j R R)<|cm s9 (x.num.sign,x.num.natAbs*y.den,x.den*y.num.natAbs) ⟨c.1,c.2,db<|l2 a.1 b.2,db<|l2 a.2 b.1,nw x.den_nz R⟩ ?_;have e:mkRat (x.num.sign*((x.num.natAbs*y.den:Nat):Int)) (x.den*y.num.natAbs)=tr x y:=by
  unfold tr;rw[mT,<-p8,xW]
 exact aP 25 (dB<|tr x y) j (congrArg dB e)<|I 5<|an (az j j dO)
def v':bl:=b3 λ((x,a):Rat×Rat)=>([dB x,dB a],eN 60000 x/\eN 60000 a/\0<a.num,dB<|tr x a)
def apY:bt 382 v':=by
 refine bR [(408,u')] T2.1 ?_;intro⟨x,y⟩ hp H au;exact I 11<|aV apX (x,y) hp<|aP 10 (.bq [dB<|tr x y,.aa 0]) j j<|I 15<|an (az j j dO)
def x':bl:=b3 λ((e,p,x):Int×Int×Rat)=>([pM e p,dB x],fJ e p/\eN 60000 x,.b<|decide (nd e p<iA x))
def apZ:bt 381 x':=by
 refine bR [(406,GP),(407,Xw),(112,Co)] UF.1 ?_;intro⟨e,p,x⟩ ⟨a,b⟩ H au;exact I 10<|cm Mm x aC<|I 1<|cm amh (e,p) a<|cm GR (iA x,nd e p) ⟨k5<|Mz b,k5<|amg a⟩<|I 5<|an (az j j<|.of<|bK<|decide_eq_decide.2 w6)
def y':bl:=b3 λ(x:Rat)=>([dB x],dW 268435456 x.den,.b<|decide (x.den=1))
def ap0:bt 206 y':=by
 refine bR [(199,w9),(119,uY),(197,sd)] LB.1 ?_;intro x a c au;refine I 9<|aV qT x aC<|aV s7 () aC<|aV qS (x.den,1) ⟨db a,Cs⟩<|I 5<|an (az j j<|.of<|bK<|decide_eq_decide.2 ?_);unfold iK;have:=x.den_nz;by_cases h:x.den=1
 ·rw[aw R,aE h];exact⟨λ_=>h,λ_=>j⟩
 ·rw[aw R,aw h];exact⟨(λh=>by cases h),λb=>absurd b h⟩
def ap1{e p:Int}(h:fJ e p)(j:eN 300 x): -20000<=mM e p x/\mM e p x<=20000:=by
 obtain⟨a,b,f,d,g⟩:=h;obtain⟨i,l⟩:=qR a b;have m:=GG x.num.natAbs x.den;have o:=pO j.1;have c:=pO j.2;unfold mM;split<;>omega
def HI:bl:=b3 λ((e,p,x):Int×Int×Rat)=>([pM e p,dB x],eN 300 x,.b<|hasB e p x)
def z':bt 307 HI:=by
 refine bR [(191,GL),(381,x'),(383,Xy),(382,v'),(206,y')] Uz.1 ?_;intro⟨e,p,x⟩ (d:eN 300 x) H au;have no:¬HH e p x->bJ (.b false) (HI.res (e,p,x)):=λh=>.of (bK<|by unfold hasB;exact(cq λl=>h<|(has_eq e p x).2 l).symm);have o:HH e p x->bJ (.b true) (HI.res (e,p,x)):=λh=>.of (bK<|by unfold hasB;exact(ck<|(has_eq e p x).1 h).symm);refine I 10<|cm WZ (e,p) aC ?_;by_cases a:fJ e p
 case neg=>
  exact aP 6 (.aa 2) j (congrArg (ag.aa)<|aw a)<|I 19<|an (az j j<|no λh=>a h.1)
 refine aP 6 (.aa 0) j (congrArg (ag.aa)<|aE a)<|I 7<|cm apZ (e,p,x) ⟨a,k5 d⟩ ?_;by_cases g:nd e p<iA x
 ·exact cg 11 (bK<|ck g)<|I 15<|an (az j j<|no λh=>h.2.1 g)
 refine cg 11 (bK<|cq g) ?_;obtain⟨bH,q⟩:=ap1 a d;have i:=MA (c:=20000) (k:=mM e p x) R R;have m:0<(ej (mkRat 1 1)<|mM e p x).num:=by
  rw[(xd _).1];exact Int.pow_pos al
 refine I 9<|cm amj (e,p,x) ⟨a,k5 d⟩<|I 3<|cm apY (x,ej (mkRat 1 1)<|mM e p x) ⟨k5 d,k5 i,m⟩ ?_;have cT:eN 60000 (tr x<|ej (mkRat 1 1)<|mM e p x):=by
  refine xe ?_ (db<|l2 d.2 i.1) (nw x.den_nz R);rw[tF,Int.natAbs_natCast];exact db<|l2 d.1 i.2
 refine I 1<|cm ap0 (tr x<|ej (mkRat 1 1)<|mM e p x) (db cT.2) ?_;by_cases f:(tr x<|ej (mkRat 1 1)<|mM e p x).den=1
 ·exact cg 20 (bK<|ck f)<|I 5<|an (az j j<|o ⟨a,g,f⟩)
 ·exact cg 20 (bK<|cq f)<|I 5<|an (az j j<|no λh=>f h.2.2)
end Go.bA.c3
namespace Go.bA.c3
open Go.bA Sym
set_option maxRecDepth 100000
set_option maxHeartbeats 8000000
def ap2{n:Nat}{t:dj}{e:Int}(h:l7 n t= .error e):e≠0:=by
 unfold l7 at h;cases a:hy t.b8 with
 |none=>rw[a]at h;cases h;exact Hl a
 |some x=>
  rw[a]at h;dsimp only at h;split at h
  ·cases h
  ·cases h;decide
end Go.bA.c3
namespace Go.bA.c3
open Go.bA
variable{n:Nat}{e:Int}
def ap3{l:ac fo}(h:n5 n l= .error e):e≠0:=by
 unfold n5 at h;split at h
 ·cases ah:gM l with
  |none=>rw[ah]at h;cases h;decide
  |some a=>
   rw[ah]at h;dsimp only at h;split at h
   ·cases h
   ·cases h;decide
 ·cases h;decide
theorem A'{n:Nat}:∀{l:ac dj} {P:Poly} {e:Int},kK n P l= .error e->e≠0
 |[],_,_,h=>by cases h
 |t::l,P,e,h=>by
  cases j:l7 n t with
  |ok a=>rw[Zd j]at h;exact A' h
  |error c=>rw[Zc j]at h;cases h;exact ap2 j
def ap4{s:dR}(h:kL n s= .error e):e≠0:=by
 unfold kL at h;cases b:hy s.b8 with
 |none=>rw[b]at h;cases h;exact Hl b
 |some c=>
  rw[b]at h;dsimp only at h;split at h
  ·cases a:kK n [] s.dr with
   |ok f=>rw[a]at h;cases h
   |error c=>rw[a]at h;cases h;exact A' a
  ·cases h;decide
set_option maxRecDepth 100000
set_option maxHeartbeats 4000000
variable{k:Nat}
def xD:bt 195 sh:=by
 refine bR [] TC.1 ?_;intro⟨n,m⟩ _ H au;refine I 9 ?_;by_cases h:0<=n
 ·exact v1 6 h<|I 12<|an (az j j<|.of<|bK<|decide_eq_decide.2 ⟨λa=>⟨h,a⟩,λa=>a.2⟩)
 ·exact v0 6 h<|I 9<|an (az j j<|.of<|bK (cq λa=>h a.1).symm)
def HJ:bt 196 u3:=by
 refine bR [] Uo.1 ?_;intro⟨p,i⟩ _ H au;have b:∀{c:Int},gS p i=c->bJ (.aa c) (u3.res (p,i)):=λh=>.of (by rw[<-h];rfl);refine I 13 ?_;by_cases h:i<p.head
 ·exact v1 8 h<|I 10<|an (az j j<|b<|aE h)
 refine v0 8 h<|I 12 ?_;by_cases a:i<p.tail
 ·exact v1 12 a<|I 10<|an (az j j<|b<|(aw h).trans<|aE a)
 exact v0 12 a<|I 11<|an (az j j<|b<|(aw h).trans<|aw a)
def ap5:bt 311 u5:=by
 refine bR [(196,u3)] UB.1 ?_;intro⟨p,i,k⟩ _ H au;have no:¬(0<=k/\k<i/\(gS p k=0\/gS p k=gS p i))->bJ (.b false) (u5.res (p,i,k)):=λh=>.of<|bK (cq h).symm;have f:(0<=k/\k<i/\(gS p k=0\/gS p k=gS p i))->bJ (.b true) (u5.res (p,i,k)):=λh=>.of<|bK (ck h).symm;refine I 10 ?_;by_cases h:0<=k
 case neg=>
  exact dG 8 h<|I 24<|an (az j j<|no R)
 refine eE 8 h<|I 7 ?_;by_cases d:k<i
 case neg=>
  exact dG 12 d<|I 20<|an (az j j<|no R)
 refine eE 12 d<|I 7<|cm HJ (p,k) aC<|aP 17 (.aa<|gS p k) j j<|I 2 ?_;by_cases c:gS p k=0
 ·exact v1 18 c<|I 16<|an (az j j<|f ⟨h,d,.inl c⟩)
 refine v0 18 c<|I 7<|cm HJ (p,k) aC<|aP 22 (.aa<|gS p k) j j<|I 5<|cm HJ (p,i) aC<|aP 25 (.aa<|gS p i) j j<|I 2 ?_;by_cases a:gS p k=gS p i
 ·exact v1 26 a<|I 7<|an (az j j<|f ⟨h,d,.inr a⟩)
 exact v0 26 a<|I 7<|an (az j j<|no λh=>h.2.2.elim c a)
def q2(op:Int):Int:=if 1<=op/\op<=15 then(nj op.toNat:Int)else -1
def zT:bl:=b3 λ(n:Int)=>([.aa n],True,.aa<|q2 n)
def ap6:∀U,U<16->1<=U->nj U=if U<=3 then 0 else if U<=7 then 1 else if U<=13 then 2 else if U=14 then 3 else 4:=by decide +kernel
def ap7:∀U,U<16->1<=U->tc U=if U=1\/U=2 then 1 else nj U:=by decide +kernel
def zU:bt 308 zT:=by
 refine bR [] TR.1 ?_;intro(n:Int) _ H au;have d:∀{c:Int},q2 n=c->bJ (.aa c) (zT.res n):=λh=>.of (by rw[<-h];rfl);refine I 11 ?_;by_cases m:n<1
 ·exact v1 5 m<|I 16<|an (az j j<|d<|aw R)
 refine v0 5 m<|I 5 ?_;by_cases p:15<n
 ·exact v1 8 p<|I 13<|an (az j j<|d<|aw R)
 refine v0 8 p ?_;obtain⟨U,q⟩:∃U:Nat,n=(U:Int):=⟨n.toNat,R⟩;have a:=ap6 U R R;have b:∀{c:Nat},nj U=c->bJ (.aa (c:Int)) (zT.res n):=λh=>d (by unfold q2;rw[aE R,q,xK,h]);refine I 9 ?_;by_cases g:n<=3
 ·exact v1 12 g<|I 12<|an (az j j<|b (c:=0)<|a.trans<|aE R)
 refine v0 12 g ?_;rw[aw R]at a;refine I 8 ?_;by_cases f:n<=7
 ·exact v1 15 f<|I 12<|an (az j j<|b (c:=1)<|a.trans<|aE R)
 refine v0 15 f ?_;rw[aw R]at a;refine I 8 ?_;by_cases i:n<=13
 ·exact v1 18 i<|I 12<|an (az j j<|b (c:=2)<|a.trans<|aE R)
 refine v0 18 i ?_;rw[aw R]at a;refine I 8 ?_;by_cases l:n=14
 ·exact v1 21 l<|I 12<|an (az j j<|b (c:=3)<|a.trans<|aE R)
 exact v0 21 l<|I 13<|an (az j j<|b (c:=4)<|a.trans<|aw R)
def NK(n:gD):ac ag:=[.aa n.a,.aa n.b,.aa n.c,.aa n.d]
def NL:bl:=b3 λ(n:gD)=>([.agg<|kI n],True,.agg<|NK n)
def B':bt 384 NL:=by
 refine bR [] Vt.1 ?_;intro(n:gD) _ H au;exact I 21<|an (az j j dO)
def ap8(n:gD):Nat×ac Int->cl
 |(k,[])=>⟨[.c 172<|kI n,.a 368 false 1 Int g4<|e0 n],2,[(1,.p 0 0),(3,.p 1 0),(4,.nl),(5,.aa (k:Int))]⟩
 |(k,d::aN)=>⟨[.c 172<|kI n,.a 368 false 1 Int g4<|e0 n,.a 3 true 1 Int g4<|d::aN],3,[(1,.p 0 0),(3,.p 1 0),(4,.aK 2 1 0 (aN.length+1)<|aN.length+1),(5,.aa (k:Int))]⟩
def C':bl:=b3 λ(n:gD)=>([.agg<|kI n],1<=n.op/\n.op<=15,.cU 1 Int g4<|hM n)
def ap9:bt 310 C':=by
 refine bR [(384,NL),(308,zT)] UA.1 ?_;intro(n:gD) ⟨(h:1<=n.op),(i:n.op<=15)⟩ H au;obtain⟨U,r⟩:∃U:Nat,n.op=(U:Int):=⟨n.op.toNat,R⟩;have m:n.op.toNat=U:=R
 obtain⟨t,_⟩:=Hb U R;have q:hM n=(e0 n).take (nj U):=by unfold hM;rw[m];exact aE ⟨h,i⟩
 have c:q2 n.op=(nj U:Int):=by unfold q2;rw[aE ⟨h,i⟩,m]
 generalize nj U=u at *;refine I 9<|aV B' n aC<|aP 7 (.agg<|NK n) j j<|I 13<|kF 1 g4 (e0 n) ?_;refine I 3<|eA (L:=Nat×ac Int) (λ(k,l)=>k<=u/\l=(e0 n).take k) (ap8 n) (λl=>u-l.1) [0,1] (0,[]) ⟨dw _,j⟩ ?_;rintro⟨k,l⟩ ⟨s,a⟩;have w:(e0 n).length=4:=rfl;have p:l.length=k:=by rw[a,iF];omega
 by_cases aT:k<u
 ·have f:k<(e0 n).length:=by omega
  have g:(e0 n).take (k+1)=l++[(e0 n)[k]]:=by rw[kd f,a]
  cases l with
  |nil=>
   refine I 6<|aV zU n.op aC<|aP 11 (.aa (u:Int)) j (congrArg (ag.aa) c)<|I 1<|dd 12<|I 10<|FD (J:=k) ?_;refine nP (e0 n)[k] (a0 f) ?_;refine I 1<|y4 g4 [(e0 n)[k]] (jt (ai:=g4) [(e0 n)[k]] j) ?_;exact I 7<|cd 14 ((k+1:Nat):Int)<|I 2<|h4 [0,1,3] (k+1,[(e0 n)[k]]) ⟨aT,g.symm⟩
  |cons d b=>
   have v:b.length+1=k:=p;refine I 6<|aV zU n.op aC<|aP 11 (.aa (u:Int)) j (congrArg (ag.aa) c)<|I 1<|dd 12<|I 10<|FD (J:=k) ?_;refine nP (e0 n)[k] (a0 f) ?_;refine I 1<|y5 (ai:=g4) [(e0 n)[k]] (jt (ai:=g4) [(e0 n)[k]] j) ?_;exact I 7<|cd 14 ((k+1:Nat):Int)<|I 2<|bW [0,1,4] (k+1,d::(b++[(e0 n)[k]])) ⟨by show u-(k+1)<u-k;omega,aT,g.symm⟩ (bB (aL:=⟨j,j,congrArg (λk=>some<|ag.aK 4 1 0 k k) av,j,aC⟩))
 ·obtain rfl:k=u:=by omega
  rw[<-q]at a;cases l with
  |nil=>
   exact I 6<|aV zU n.op aC<|aP 11 (.aa (k:Int)) j (congrArg (ag.aa) c)<|I 1<|c2 12<|I 15<|an (az j j<|bJ.nl.trans (.of<|by show ag.cU 1 Int g4 []=ag.cU 1 Int g4 (hM n);rw[<-a]))
  |cons d b=>
   refine I 6<|aV zU n.op aC<|aP 11 (.aa (k:Int)) j (congrArg (ag.aa) c)<|I 1<|c2 12<|I 11<|kn 21 ?_;exact I 4<|an (az j j (.of<|by show ag.cU 1 Int g4 (d::b)=ag.cU 1 Int g4 (hM n);rw[<-a]))
def D':bl:=b3 λ(n:gD)=>([.agg<|kI n],1<=n.op/\n.op<=15,.b<|!qX n)
def aqa:bt 309 D':=by
 refine bR [(384,NL),(308,zT)] Vq.1 ?_;intro(n:gD) ⟨(y:1<=n.op),(z:n.op<=15)⟩ H au;obtain⟨U,E⟩:∃U:Nat,n.op=(U:Int):=⟨n.op.toNat,R⟩;have t:n.op.toNat=U:=R
 obtain⟨_,B⟩:=Hb U R;have d:=ap7 U R R;have w:q2 n.op=(nj U:Int):=by unfold q2;rw[aE ⟨y,z⟩,t]
 have g:qX n=(((e0 n).drop<|tc U).all (λx=>x==0)&&(n.v.isEmpty||decide (n.op=3))):=by unfold qX;rw[t]
 generalize tc U=u at *;refine I 10<|aV zU n.op aC<|aP 8 (.aa (nj U:Int)) j (congrArg (ag.aa) w) ?_;refine e4 3 ?_
 iterate 3 refine fz j ?_
 refine gQ (L:=Unit) (λ_=>True) (λ_=>⟨[.c 172<|kI n],1,[(1,.p 0 0),(3,.aa (u:Int))]⟩) ?_ ?_
 ·refine I 5 ?_;by_cases r:n.op=1
  ·refine v1 11 r ?_;rw[aE<|.inl R]at d;subst d;exact I 11<|dv [0] () aC
  refine v0 11 r<|I 7 ?_;by_cases s:n.op=2
  ·refine v1 15 s ?_;rw[aE<|.inr R]at d;subst d;exact I 7<|dv [0] () aC
  refine v0 15 s ?_;rw[aw R]at d;subst d;exact I 5<|dv [0] () aC
 intro _ _;refine I 3<|aV B' n aC<|aP 18 (.agg<|NK n) j j<|I 8<|kF 1 g4 (e0 n) ?_;refine I 4<|eA (L:=Nat) (λk=>u<=k/\k<=4/\(((e0 n).drop u).take<|k-u).all (λx=>x==0)=true) (λ(k:Nat)=>⟨[.c 172<|kI n,.a 368 false 1 Int g4<|e0 n],2,[(1,.p 0 0),(4,.p 1 0),(5,.aa (k:Int))]⟩) (λk=>4-k) [0,1] u ⟨dt _,B,by rw[Nat.sub_self];rfl⟩ ?_;rintro(k:Nat) ⟨D,F,l⟩;have K:(e0 n).length=4:=rfl;have G:((e0 n).drop u).length=4-u:=by rw[k7];rfl
 refine I 5 ?_;by_cases A:k<4
 ·refine dd 21 ?_;have i:k-u<((e0 n).drop u).length:=by omega
  have C:(e0 n)[k]? =some ((e0 n).drop u)[k-u]:=by
   rw[<-a0 i,oa,show u+(k-u)=k by omega]
  refine I 10<|FD (J:=k) ?_;refine nP ((e0 n).drop u)[k-u] C ?_;refine I 1 ?_;by_cases f:((e0 n).drop u)[k-u]=0
  ·exact v0 27 (hk f)<|I 9<|cd 23 ((k+1:Nat):Int)<|I 2<|h4 [0,1] (k+1) ⟨R,A,by rw[show k+1-u=(k-u)+1 by omega];exact Yw i l f⟩
  ·refine v1 27 f<|I 14<|an (az j j<|.of<|bK ?_);have:((e0 n).drop u).all (λx=>x==0)=false:=by
    rw[List.all_eq_false];exact⟨((e0 n).drop u)[k-u],dx i,by simpa using f⟩
   rw[g,this];rfl
 ·refine c2 21 ?_;have m:((e0 n).drop u).all (λx=>x==0)=true:=by
   rw[iG R]at l;exact l
  refine I 13 ?_;by_cases h:n.op=3
  ·exact v0 30 (hk h)<|I 9<|an (az j j<|.of (bK<|by rw[g,m,ck h];simp))
  ·refine v1 30 h<|e4 34 ?_;cases q:n.v with
   |nil=>
    exact aP 34 (.b false) j j<|I 5<|an (az j j<|.of (bK<|by rw[g,m,q];rfl))
   |cons c v=>
    exact aP 34 (.b true) j j<|I 5<|an (az j j<|.of (bK<|by rw[g,m,q,cq h];rfl))
def aqb:bt 190 zC:=by
 refine bR [] SW.1 ?_;intro(p:ec) _ H au;have b:∀{c:Int},pR p=c->bJ (.aa c) (zC.res p):=λh=>.of (by rw[<-h];rfl);refine I 21 ?_;by_cases r:6<(p.bO.length:Int)
 ·exact v1 10 r<|I 26<|an (az j j<|b<|aE<|.inl r)
 refine v0 10 r<|I 9 ?_;by_cases s:6<(p.ins.length:Int)
 ·exact v1 15 s<|I 21<|an (az j j<|b<|aE<|.inr<|.inl s)
 refine v0 15 s<|I 6 ?_;by_cases g:64<(p.bQ.length:Int)
 ·exact v1 19 g<|I 17<|an (az j j<|b<|aE<|.inr<|.inr<|.inl g)
 refine v0 19 g<|I 10 ?_;by_cases d:4<(p.hr.length:Int)
 ·exact v1 25 d<|I 11<|an (az j j<|b<|aE<|.inr<|.inr<|.inr d)
 refine v0 25 d ?_;have v:¬(6<(p.bO.length:Int)\/6<(p.ins.length:Int)\/64<(p.bQ.length:Int)\/4<(p.hr.length:Int)):=λh=>h.elim r λh=>h.elim s λh=>h.elim g d;have a:=λ{c} h=> @b c<|(aw v).trans h;refine I 13 ?_;by_cases q:(p.bO.length:Int)=0
 ·exact v1 30 q<|I 24<|an (az j j<|a<|aE<|.inl q)
 refine v0 30 q<|I 5 ?_;by_cases f:(p.bQ.length:Int)=0
 ·exact v1 33 f<|I 21<|an (az j j<|a<|aE<|.inr<|.inl f)
 refine v0 33 f<|I 8 ?_;by_cases a2:p.mode<0
 ·exact v1 38 a2<|I 16<|an (az j j<|a<|aE<|.inr<|.inr<|.inl a2)
 refine v0 38 a2<|I 8 ?_;by_cases cD:4<p.mode
 ·exact v1 43 cD<|I 11<|an (az j j<|a<|aE<|.inr<|.inr<|.inr cD)
 refine v0 43 cD ?_;have hk:¬((p.bO.length:Int)=0\/(p.bQ.length:Int)=0\/p.mode<0\/4<p.mode):=λh=>h.elim q λh=>h.elim f λh=>h.elim a2 cD;have l:=λ{c} h=> @a c<|(aw hk).trans h;refine I 12 ?_;by_cases bH:p.head<0
 ·exact v1 47 bH<|I 35<|an (az j j<|l<|aE<|.inl bH)
 refine v0 47 bH<|I 11 ?_;by_cases i:p.tail<p.head
 ·exact v1 53 i<|I 29<|an (az j j<|l<|aE<|.inr<|.inl i)
 refine v0 53 i<|I 10 ?_;by_cases m:(p.bQ.length:Int)<p.tail
 ·exact v1 59 m<|I 23<|an (az j j<|l<|aE<|.inr<|.inr m)
 refine v0 59 m ?_;have w:¬(p.head<0\/p.tail<p.head\/(p.bQ.length:Int)<p.tail):=λh=>h.elim bH λh=>h.elim i m;have t:=λ{c} h=> @l c<|(aw w).trans h;refine I 10 ?_;by_cases o:(p.hr.length:Int)=0
 ·refine v1 65 o<|I 10 ?_;by_cases u:p.head<(p.bQ.length:Int)
  ·exact v1 70 u<|I 13<|an (az j j<|t<|aE ⟨o,R⟩)
  ·exact v0 70 u<|I 14<|an (az j j<|t<|aw λh=>h.2 R)
 ·exact v0 65 o<|I 20<|an (az j j<|t<|aw λh=>o h.1)
def E'{v:Nat}(h:v<10^k)(ax:k<=2000):dW 300 v:=by
 refine je al<|xH h<|cC (jG al ax) ?_;decide +kernel
def F'{s:ac ci}(u:s.length<=2000){x:Rat}(h:dq s=some x):eN 300 x:=by
 obtain⟨P,q,f,_,_,r,t,m,l,o⟩:=CB u;by_cases d:jB (df s).1 P q f
 ·obtain⟨a,b,a2⟩:=d;have g:=E' (l3 a.2.1) R;cases f with
  |false=>
   have e:=l ⟨a,b,a2⟩ j;rw[h]at e;cases e;exact xe (by rw[nf];exact g) (by show(aW _ 1).length<=_;rw[uX];exact hP j) al
  |true=>
   obtain⟨c,i,p⟩:=a2 j;have g8:b6 q≠0:=λh=>i<|sf c h;have e:=o ⟨a,b,a2⟩ j;rw[h]at e;split at e
   ·cases e;exact xe (by rw[nf];exact g) (E' (l3 c.2.1) R) g8
   ·cases e
 ·rw[m d]at h;cases h
def CX:bl:=b3 λ((p,x):ec×n0)=>([jC p,.agg<|G8 x],x.bg.length<=2000/\x.af.length<=2000,.aa<|xA p x)
def aqc:bt 192 CX:=by
 refine bR [(195,sh),(47,Cw),(307,HI),(112,Co)] Vc.1 ?_;intro⟨p,x⟩ ⟨u,t⟩ H au;have s:∀{c:Int},xA p x=c->bJ (.aa c) (CX.res (p,x)):=λh=>.of (by rw[<-h];rfl);refine I 15<|aV xD (x.f,(p.bO.length:Int)) aC ?_;by_cases g:jV x.f p.bO.length
 case neg=>
  exact cg 14 (bK<|cq g)<|I 11<|an (az j j<|s<|aw g)
 refine cg 14 (bK<|ck g) ?_;obtain⟨f,z⟩:∃f:Nat,x.f=(f:Int):=⟨x.f.toNat,by have:=g.1;omega⟩;have B:x.f.toNat=f:=R
 have A:f<p.bO.length:=by have:=g.2;omega
 obtain⟨⟨a,b⟩,v⟩:∃w,p.bO[f]? =some w:=⟨_,a0 A⟩;have m:∀{c:Int},q0 a b x=c->bJ (.aa c) (CX.res (p,x)):=λh=>s (by unfold xA;rw[aE g,B,v];exact h);refine I 10<|aV MF x.bg u ?_;cases i:dq x.bg with
 |none=>
  exact aP 19 (.bq [dB 0,.aa 6]) j (by show oQ x.bg=_;unfold oQ;rw[i])<|I 24<|an (az j j (m<|by unfold q0;rw[i]))
 |some X=>
 refine aP 19 (.bq [dB X,.aa 0]) j (by show oQ x.bg=_;unfold oQ;rw[i])<|I 22<|aV MF x.af t ?_;cases l:dq x.af with
 |none=>
  exact aP 28 (.bq [dB 0,.aa 6]) j (by show oQ x.af=_;unfold oQ;rw[l])<|I 24<|an (az j j (m<|by unfold q0;rw[i,l]))
 |some d=>
 refine aP 28 (.bq [dB d,.aa 0]) j (by show oQ x.af=_;unfold oQ;rw[l]) ?_;have q:=F' u i;have r:=F' t l;have y:q0 a b x=if ku a b X/\ku a b d/\¬d<X then 0 else 7:=by unfold q0;rw[i,l]
 have no:¬(ku a b X/\ku a b d/\¬d<X)->bJ (.aa 7) (CX.res (p,x)):=λh=>m<|y.trans<|aw h;refine I 24<|aP 37 (.aa (f:Int)) j (by rw[z])<|fc (a,b) v j<|I 10<|aV z' (a,b,X) q ?_;by_cases o:ku a b X
 case neg=>
  exact cg 42 (bK<|cq o)<|I 23<|an (az j j<|no λh=>o h.1)
 refine cg 42 (bK<|ck o)<|I 7<|aV z' (a,b,d) r ?_;by_cases cw:ku a b d
 case neg=>
  exact cg 47 (bK<|cq cw)<|I 19<|an (az j j<|no λh=>cw h.2.1)
 refine cg 47 (bK<|ck cw)<|I 9<|aV GR (X,d) ⟨k5 q,k5 r⟩<|I 2 ?_;by_cases dg:d<X
 ·exact v1 54 (w6.2 dg)<|I 11<|an (az j j<|no λh=>h.2.2 dg)
 ·refine v0 54 (λh=>dg<|w6.1 h) ?_;exact I 12<|an (az j j<|m<|y.trans<|aE ⟨o,cw,dg⟩)
def NM:bl:=b3 λ((p,i,n):ec×Nat×gD)=>([jC p,.aa (i:Int)],p.bQ[i]? =some n/\n.v.length<=2000,.aa<|tk p i n)
def aqd:bt 193 NM:=by
 refine bR [(308,zT),(309,D'),(195,sh),(114,t'),(310,C'),(311,u5)] SX.1 ?_;intro⟨p,i,n⟩ ⟨N,J⟩ H au;have m:∀{c:Int},tk p i n=c->bJ (.aa c) (NM.res (p,i,n)):=λh=>.of (by rw[<-h];rfl);refine I 11<|fc n N j<|I 10<|aV zU n.op aC<|I 1 ?_;by_cases o:1<=n.op/\n.op<=15
 case neg=>
  exact v1 16 (show q2 n.op<0 by unfold q2;rw[aw o];decide)<|I 14<|an (az j j<|m<|aE<|.inl o)
 refine v0 16 (show¬q2 n.op<0 by unfold q2;rw[aE o];omega)<|I 4<|aV aqa n o ?_;cases r:qX n with
 |false=>
  exact aP 19 (.b true) j (bK<|by rw[r];rfl)<|I 11<|an (az j j<|m<|aE<|.inr r)
 |true=>
 refine aP 19 (.b false) j (bK<|by rw[r];rfl) ?_;have z:¬(¬(1<=n.op/\n.op<=15)\/qX n=false):=λh=>h.elim (λh=>h o) λh=>Bool.noConfusion<|r.symm.trans h;refine I 14<|aV xD (n.f,(p.bO.length:Int)) aC ?_;by_cases q:jV n.f p.bO.length
 case neg=>
  exact cg 26 (bK<|cq q)<|I 11<|an (az j j<|m<|(aw z).trans<|aE q)
 refine cg 26 (bK<|ck q) ?_;have B:¬¬jV n.f p.bO.length:=λh=>h q;have y:=λ{c} h=> @m c<|(aw z).trans<|(aw B).trans h;have C:=λ{c} h=>((aw z).trans ((aw B).trans h):tk p i n=c);refine e4 29 ?_
 iterate 3 refine fz j ?_
 refine j7 (L:=Unit) (λ_=>tk p i n=if(hM n).all (λk=>u4 p i k)then 0 else 7) (λ_=>⟨[.c 27<|iB p,.c 172<|kI n],2,[(1,.aa (i:Int)),(2,.p 0 0),(4,.aa 0),(5,.p 1 0)]⟩) ?_ ?_
 ·clear m;refine I 3 ?_;by_cases af:n.op=1
  ·refine v1 31 af<|I 12<|aV xD (n.a,(p.ins.length:Int)) aC ?_;by_cases d:jV n.a p.ins.length
   case neg=>
    exact cg 37 (bK<|cq d)<|I 13<|an (az j j<|y<|aE ⟨af,d⟩)
   refine cg 37 (bK<|ck d) ?_;have a2:¬(n.op=1/\¬jV n.a p.ins.length):=λh=>h.2 d;obtain⟨a,G⟩:∃a:Nat,n.a=(a:Int):=⟨n.a.toNat,by have:=d.1;omega⟩;have F:n.a.toNat=a:=R
   have A:a<p.ins.length:=by have:=d.2;omega
   refine I 12<|dD 42 (.aa (a:Int)) j j (by rw[G])<|ks p.ins[a] (a0 A) j<|I 5 ?_;by_cases l:(p.ins[a]).f=n.f
   case neg=>
    exact eE 48 l<|I 11<|an (az j j (y<|(aw a2).trans<|aE ⟨af,by rw[F,a0 A];simpa using l⟩))
   refine dG 48 (hk l)<|I 5<|dv [0,1] () (C<|(aw a2).trans<|(aw ?_).trans<|(aw R).trans<|aw R);rintro⟨_,h⟩;exact h<|by rw[F,a0 A];simp[l]
  ·refine v0 31 af ?_;have D:=λ{c} h=> @C c<|(aw λh=>af h.1).trans<|(aw λh=>af h.1).trans h;have w:=λ{c} h=> @y c<|(aw λh=>af h.1).trans<|(aw λh=>af h.1).trans h;refine I 7 ?_;by_cases g:n.op=2
   ·refine v1 50 g<|I 10 ?_;by_cases d:(i:Int)<p.head
    ·exact v1 54 d<|I 20<|an (az j j<|w<|aE ⟨g,.inl d⟩)
    refine v0 54 d<|I 12<|aV xD (n.a,(p.hr.length:Int)) aC ?_;by_cases l:jV n.a p.hr.length
    case neg=>
     exact cg 61 (bK<|cq l)<|I 14<|an (az j j<|w<|aE ⟨g,.inr l⟩)
    exact cg 61 (bK<|ck l)<|I 8<|dv [0,1] () (D<|(aw λh=>h.2.elim d λh=>h l).trans<|aw R)
   ·refine v0 50 g ?_;have K:=λ{c} h=> @D c<|(aw λh=>g h.1).trans h;have M:=λ{c} h=> @w c<|(aw λh=>g h.1).trans h;refine I 7 ?_;by_cases s:n.op=3
    ·exact v1 65 s<|I 8<|aV apW n.v J<|I 6<|an (az j j<|M<|aE s)
    ·exact v0 65 s<|I 6<|dv [0,1] () (K<|aw s)
 intro _ E;have O:=d' n;refine I 3<|aV ap9 n o<|I 10<|eA (L:=Nat) (λk=>k<=(hM n).length/\((hM n).take k).all (λk=>u4 p i k)=true) (λ(k:Nat)=>⟨[.c 27<|iB p,.c 172<|kI n],2,[(1,.aa (i:Int)),(2,.p 0 0),(4,.aa 0),(6,.cU 1 Int g4<|hM n),(7,.aa (k:Int))]⟩) (λk=>(hM n).length-k) [0,1] 0 ⟨dw _,j⟩ ?_;rintro(k:Nat) ⟨P,u⟩;refine I 7 ?_;by_cases t:k<(hM n).length
 ·refine dd 74<|I 13<|ks (hM n)[k] (a0 t) j<|I 1<|cm ap5 (p,(i:Int),(hM n)[k]) aC ?_;cases g:u4 p i (hM n)[k]with
  |false=>
   refine cg 83 (bK g)<|I 15<|an (az j j<|m<|E.trans<|aw ?_);intro h;rw[il]at h;have:=h _<|dx t;rw[g]at this;cases this
  |true=>
   exact cg 83 (bK g)<|I 10<|cd 76 ((k+1:Nat):Int)<|I 2<|h4 [0,1] (k+1) ⟨t,by rw[kd t,An,u];simp[g]⟩
 ·exact c2 74<|I 14<|an (az j j<|m<|E.trans (aE<|by rw[iG R]at u;exact u))
def aqe{j:Type}{l:ac j}{q:j->Bool}(ax:k<l.length)(h:(l.take k).any q=false)(aL:q l[k]=false):(l.take<|k+1).any q=false:=by
 rw[kd ax,List.any_append,h];simp[aL]
def aqf:bt 194 tl:=by
 refine bR [(195,sh)] Un.1 ?_;intro⟨p,i,s⟩ ⟨A,D,C,E⟩ H au;have t:∀{c:Int},zR p i s=c->bJ (.aa c) (tl.res (p,i,s)):=λh=>.of (by rw[<-h];rfl);refine I 11<|fc s A j<|I 12<|aV xD (s.i,p.head) aC ?_;by_cases l:0<=s.i/\s.i<p.head
 case neg=>
  exact cg 18 (bK<|cq l)<|I 19<|an (az j j<|t<|aE<|.inl l)
 refine cg 18 (bK<|ck l)<|I 11<|aV xD (s.n,p.tail) aC ?_;by_cases m:0<=s.n/\s.n<p.tail
 case neg=>
  exact cg 25 (bK<|cq m)<|I 13<|an (az j j<|t<|aE<|.inr m)
 refine cg 25 (bK<|ck m) ?_;obtain⟨a,w⟩:∃a:Nat,s.i=(a:Int):=⟨s.i.toNat,R⟩;obtain⟨b,z⟩:∃b:Nat,s.n=(b:Int):=⟨s.n.toNat,R⟩;have B:s.i.toNat=a:=R
 have y:s.n.toNat=b:=R
 have u:a<p.bQ.length:=R
 have v:b<p.bQ.length:=R
 have q:∀{c:Int},(if(p.bQ[b]).f≠(p.bQ[a]).f\/p.bQ.any (jE i (p.bQ[a]).f)=true then 143 else 0)=c->bJ (.aa c) (tl.res (p,i,s)):=λh=>t (by
  unfold zR;rw[aw λh=>h.elim (λh=>h l) λh=>h m,B,y,a0 u,a0 v];exact h)
 refine I 14<|aP 31 (.aa (a:Int)) j (by rw[w])<|fc p.bQ[a] (a0 u) j<|I 12<|aP 38 (.aa (b:Int)) j (by rw[z])<|fc p.bQ[b] (a0 v) j<|I 4 ?_;by_cases g:(p.bQ[b]).f≠(p.bQ[a]).f
 ·exact v1 43 g<|I 10<|an (az j j<|q<|aE<|.inl g)
 refine v0 43 g<|I 12<|eA (L:=Nat) (λk=>k<=p.bQ.length/\(p.bQ.take k).any (jE i (p.bQ[a]).f)=false) (λ(k:Nat)=>⟨[.c 27<|iB p],1,[(1,.aa (i:Int)),(2,.p 0 0),(6,.aa (p.bQ[a]).f),(7,.aa (k:Int))]⟩) (λk=>p.bQ.length-k) [0] 0 ⟨dw _,j⟩ ?_;rintro(k:Nat) ⟨F,r⟩;refine I 8 ?_;by_cases o:k<p.bQ.length
 ·refine dd 48<|I 12<|fc p.bQ[k] (a0 o) j ?_;have oy:jE i (p.bQ[a]).f p.bQ[k]=true->bJ (.aa 143) (tl.res (p,i,s)):=λh=>q<|aE<|.inr<|List.any_eq_true.2 ⟨_,dx o,h⟩;have nx:jE i (p.bQ[a]).f p.bQ[k]=false->k+1<=p.bQ.length/\(p.bQ.take<|k+1).any (jE i (p.bQ[a]).f)=false:=λh=>⟨o,aqe o r h⟩;refine I 10 ?_;by_cases d:(p.bQ[k]).op=2
  case neg=>
   exact v0 58 d<|I 21<|cd 50 ((k+1:Nat):Int)<|I 2<|h4 [0] (k+1) (nx<|by unfold jE;rw[cq d];rfl)
  refine v1 58 d<|I 9 ?_;by_cases cw:(p.bQ[k]).a=(i:Int)
  case neg=>
   exact v0 63 cw<|I 16<|cd 50 ((k+1:Nat):Int)<|I 2<|h4 [0] (k+1) (nx<|by unfold jE;rw[ck d,cq cw];rfl)
  refine v1 63 cw<|I 10 ?_;by_cases dg:(p.bQ[k]).f≠(p.bQ[a]).f
  ·exact v1 69 dg<|I 15<|an (az j j (oy<|by unfold jE;rw[ck d,ck cw,ck dg];rfl))
  ·exact v0 69 dg<|I 10<|cd 50 ((k+1:Nat):Int)<|I 2<|h4 [0] (k+1) (nx<|by unfold jE;rw[ck d,ck cw,cq dg];rfl)
 ·refine c2 48 ?_;rw[iG R]at r;exact I 14<|an (az j j<|q<|aw λh=>h.elim g λh=>Bool.noConfusion<|r.symm.trans h)
def HK:bl where
 L:=ec
 args:=λp=>[jC p]
 pre:=xB
 res:=λp=>zS<|ez p
def aqg:bt 111 HK:=by
 refine bR [(190,zC),(191,GL),(192,CX),(193,NM),(194,tl),(195,sh),(196,u3)] Tw.1 ?_;intro(p:ec) ⟨w,y⟩ H au;have s:∀{c:Int×Int×Int},ez p=c->bJ (zS c) (HK.res p):=λh=>.of (by rw[<-h];rfl);refine I 11<|aV aqb p aC<|aP 15 (.aa<|pR p) j j<|I 8 ?_;by_cases l:pR p=0
 case neg=>
  exact v1 17 l<|I 13<|an (az j j<|s<|aw l)
 refine v0 17 (hk l) ?_;have g:∀{c:Int×Int×Int},pV p=c->bJ (zS c) (HK.res p):=λh=>s<|(aE l).trans h;obtain⟨C,D,E,A,u,z,B⟩:=NF l;refine I 12<|eA (L:=Nat) (λa=>a<=p.bO.length/\iP (tm p) (p.bO.drop a) a=iP (tm p) p.bO 0) (λ(a:Nat)=>⟨[.c 27<|iB p],1,[(1,.p 0 0),(6,.aa (a:Int))]⟩) (λa=>p.bO.length-a) [0] 0 ⟨dw _,j⟩ ?_;rintro(a:Nat) ⟨i,b⟩;refine I 8 ?_;by_cases d:a<p.bO.length
 ·refine dd 23<|st ?_;rw[CV d]at b;refine fc p.bO[a] (a0 d) j<|I 1<|aV WZ p.bO[a] aC<|aP 31 (.aa<|tm p a p.bO[a]) j j<|I 7 ?_;by_cases f:tm p a p.bO[a]=0
  ·rw[aE f]at b;exact v0 33 (hk f)<|I 9<|cd 25 ((a+1:Nat):Int)<|I 2<|h4 [0] (a+1) ⟨d,b⟩
  ·rw[aw f]at b;refine v1 33 f<|I 18<|an (az j j<|g (c:=(1,(a:Int),tm p a p.bO[a])) ?_);unfold pV;simp only[<-b]
 refine c2 23 ?_;have o:iP (tm p) p.bO 0=none:=by rw[<-b,mh R];rfl
 clear b d i;refine I 15<|eA (L:=Nat) (λa=>a<=p.ins.length/\iP (tn p) (p.ins.drop a) a=iP (tn p) p.ins 0) (λ(a:Nat)=>⟨[.c 27<|iB p],1,[(1,.p 0 0),(8,.aa (a:Int))]⟩) (λa=>p.ins.length-a) [0] 0 ⟨dw _,j⟩ ?_;rintro(a:Nat) ⟨i,b⟩;refine I 8 ?_;by_cases d:a<p.ins.length
 ·refine dd 40<|st ?_;rw[CV d]at b;refine ks p.ins[a] (a0 d) j<|I 1<|cm aqc (p,p.ins[a]) (w _<|dx d)<|aP 49 (.aa<|tn p a p.ins[a]) j j<|I 7 ?_;by_cases f:tn p a p.ins[a]=0
  ·rw[aE f]at b;exact v0 51 (hk f)<|I 9<|cd 42 ((a+1:Nat):Int)<|I 2<|h4 [0] (a+1) ⟨d,b⟩
  ·rw[aw f]at b;refine v1 51 f<|I 18<|an (az j j<|g (c:=(2,(a:Int),tn p a p.ins[a])) ?_);unfold pV;simp only[o,<-b]
 refine c2 40 ?_;have r:iP (tn p) p.ins 0=none:=by rw[<-b,mh R];rfl
 clear b d i;refine I 15<|eA (L:=Nat) (λa=>a<=p.bQ.length/\iP (tp p) (p.bQ.drop a) a=iP (tp p) p.bQ 0) (λ(a:Nat)=>⟨[.c 27<|iB p],1,[(1,.p 0 0),(10,.aa (a:Int))]⟩) (λa=>p.bQ.length-a) [0] 0 ⟨dw _,j⟩ ?_;rintro(a:Nat) ⟨i,b⟩;refine I 8 ?_;by_cases d:a<p.bQ.length
 ·refine dd 58<|st ?_;rw[CV d]at b;refine aV aqd (p,a,p.bQ[a]) ⟨a0 d,y _<|dx d⟩<|aP 63 (.aa<|tp p a p.bQ[a]) j j<|I 7 ?_;by_cases f:tp p a p.bQ[a]=0
  ·rw[aE f]at b;exact v0 65 (hk f)<|I 9<|cd 60 ((a+1:Nat):Int)<|I 2<|h4 [0] (a+1) ⟨d,b⟩
  ·rw[aw f]at b;refine v1 65 f<|I 18<|an (az j j<|g (c:=(3,(a:Int),tp p a p.bQ[a])) ?_);unfold pV;simp only[o,r,<-b]
 refine c2 58 ?_;have t:iP (tp p) p.bQ 0=none:=by rw[<-b,mh R];rfl
 clear b d i;refine I 15<|eA (L:=Nat) (λa=>a<=p.hr.length/\iP (tq p) (p.hr.drop a) a=iP (tq p) p.hr 0) (λ(a:Nat)=>⟨[.c 27<|iB p],1,[(1,.p 0 0),(12,.aa (a:Int))]⟩) (λa=>p.hr.length-a) [0] 0 ⟨dw _,j⟩ ?_;rintro(a:Nat) ⟨i,b⟩;refine I 8 ?_;by_cases d:a<p.hr.length
 ·refine dd 72<|st ?_;rw[CV d]at b;refine aV aqf (p,a,p.hr[a]) ⟨a0 d,R,u,R⟩<|aP 77 (.aa<|tq p a p.hr[a]) j j<|I 7 ?_;by_cases f:tq p a p.hr[a]=0
  ·rw[aE f]at b;exact v0 79 (hk f)<|I 9<|cd 74 ((a+1:Nat):Int)<|I 2<|h4 [0] (a+1) ⟨d,b⟩
  ·rw[aw f]at b;refine v1 79 f<|I 18<|an (az j j<|g (c:=(4,(a:Int),tq p a p.hr[a])) ?_);unfold pV;simp only[o,r,t,<-b]
 refine c2 72 ?_;have v:iP (tq p) p.hr 0=none:=by rw[<-b,mh R];rfl
 clear b d i;have q:pV p=if¬jV p.out p.bQ.length\/gS p p.out=1 then(5,0,7)else(0,0,0):=by unfold pV;simp only[o,r,t,v]
 refine I 16<|aV xD (p.out,(p.bQ.length:Int)) aC ?_;by_cases m:jV p.out p.bQ.length
 case neg=>
  exact cg 87 (bK<|cq m)<|I 20<|an (az j j<|g (c:=(5,0,7))<|q.trans<|aE<|.inl m)
 refine cg 87 (bK<|ck m)<|I 9<|aV HJ (p,p.out) aC<|aP 93 (.aa<|gS p p.out) j j<|I 2 ?_;by_cases cw:gS p p.out=1
 ·exact v1 94 cw<|I 13<|an (az j j<|g (c:=(5,0,7))<|q.trans<|aE<|.inr cw)
 ·exact v0 94 cw<|I 14<|an (az j j<|g (c:=(0,0,0))<|q.trans<|aw λh=>h.elim (λh=>h m) cw)
def G':bl where
 L:=ec
 args:=λp=>[jC p]
 pre:=xB
 res:=λp=>.aa (ez p).2.2
def aqh:bt 35 G':=by
 refine bR [(111,HK)] UR.1 ?_;intro p hp a au;exact I 9<|aV aqg p hp<|aP 8 (.bq [.aa (ez p).1,.aa (ez p).2.1,.aa (ez p).2.2]) j j<|I 16<|an (az j j<|.of j)
end Go.bA.c3
namespace Go.bA.c3
open Go.bA Sym
set_option maxRecDepth 100000
set_option maxHeartbeats 8000000
