/- What the functions of the program and of the document compute, for every input, and the plain laws of it (part 3); conditions as in the statements. -/
import Derived.Test.YtkhecbikkdcfoaaGreatDoorC2
import Derived.Test.YtkhecbikkdcfoaaGreatDoorS3
import Derived.Test.YtkhecbikkdcfoaaGreatDoorS2
import Derived.Test.YtkhecbikkdcfoaaGreatDoorC1
noncomputable section
set_option linter.all false
namespace Go.bI.ds
open Go.bI
variable{n:Nat}{w:Rat}{k M q A:Nat}{aQ:Rat}{c:Nat->Rat}{x a:Nat}
def X6(n k:Nat)(h:k<=n):(k+1)*bF n (k+1)=(n-k)*bF n k:=by
 cases n with
 |zero=>
  have:k=0:=J
  subst this;rfl
 |succ n=>
  rw[zL];by_cases E:k<=n
  .have Y:=zL n<|n-k;rw[CR (n+1) (n-k+1) k J,CR n (n-k) k J]at Y;rw[<-Y,show n+1-k=n-k+1 by omega]
  .have:k=n+1:=by omega
   subst this;rw[um n (n+1) J];simp
def jy(w:Rat)(n k:Nat):Rat:=w^k/(bF n k:Rat)
theorem MR(w:Rat)(n:Nat):jy w n 0=1:=by
 unfold jy;rw[show bF n 0=1 by cases n<;>rfl];simp
 grind
theorem akG(h:k<n):jy w n (k+1)=jy w n k*w*((k+1:Nat):Rat)/((n-k:Nat):Rat):=by
 have Y:=X6 n k J;have G:((k+1:Nat):Rat)*(bF n (k+1):Rat)=((n-k:Nat):Rat)*(bF n k:Rat):=by exact_mod_cast Y
 have C:=qL<|zN n k J;have N:=qL<|zN n (k+1) J;have f:=qL (show 0<n-k by omega);unfold jy;rw[m8]
 grind
def kJ(aQ w:Rat)(n:Nat)(c:Nat->Rat)(i:Nat):Rat:=hy aQ n c i (i+1)*jy w n i
def qM(aQ w:Rat)(n:Nat)(c:Nat->Rat)(p:Nat):Rat:=bH (kJ aQ w n c) p p
theorem X7(aQ w:Rat)(c:Nat->Rat):qM aQ w 0 c 0=c 0:=by
 unfold qM kJ;rw[XG,pR<|ct _,MR]
 grind
def r0(n:Nat):Nat->Nat
 |0=>1
 |m+1=>r0 n m*bF n m
theorem X8(n:Nat):∀m,m<=n+1->0<r0 n m
 |0,_=>by simp[r0]
 |m+1,h=>pq (X8 n m J)<|zN n m J
theorem X9(n k:Nat):∀m,k<m->bF n k∣r0 n m
 |0,h=>by omega
 |m+1,h=>by
  by_cases aB:k=m
  .subst aB;exact Iz _ _
  .exact Nat.dvd_trans (X9 n k m J)<|AI _ _
theorem Ya(n:Nat):∀m,r0 n m<=2^(n*m)
 |0=>by simp[r0]
 |m+1=>by
  rw[ki,ph,nJ];exact po (Ya n m)<|Hj n m
theorem akH{L:Nat}(ah:∀i,i<=n->Fr M A (c i))(aI:Fr q L aQ)(u:1<=L):∀(d p:Nat),p+d=n->∀j,Fr (M*q^d) (A*L^d*2^(d+j)) (hy aQ n c p j):=by
 have hQ:0<M:=(ah 0<|dg _).1;have aD:0<q:=aI.1;intro d
 induction d with
 |zero=>
  intro p hp j;rw[pR J];have:=mV (B:=A*2^j) (At _<|k6 av)<|ah p J;exact aoX
 |succ d U=>
  intro p hp j;have Q:0<M*q^(d+1):=pq hQ<|k6 aD;have base:Fr (M*q^(d+1)) (A*L^(d+1)*2^(d+1)) (c p):=by
   refine mV ?_ (xO (AI _ _) Q<|ah p J);rw[lX];exact At _ (pq (k6 J)<|k6 av)
  induction j with
  |zero=>rw[zO];exact base
  |succ j l=>
   rw[vS J];have G:=Hn aI<|U (p+1) J<|j+1;rw[show q*(M*q^d)=M*q^(d+1) by grind,show L*(A*L^d*2^(d+(j+1)))=A*L^(d+1)*2^(d+1+j) by grind]at G;have C:=Hm l G;rw[show A*L^(d+1)*2^(d+1+j)+A*L^(d+1)*2^(d+1+j)=A*L^(d+1)*2^(d+1+(j+1)) by grind]at C;exact C
def akI{L:Nat}(ah:∀i,i<=n->Fr M A (c i))(aI:Fr q L aQ)(u:1<=L){p j:Nat}(hp:p<=n)(a3:j<=n+1):Fr (M*q^n) (A*L^n*2^(2*n+1)) (hy aQ n c p j):=by
 have hQ:0<M:=(ah 0<|dg _).1;have aD:0<q:=aI.1;have h:=akH ah aI u (n-p) p J j;refine mV ?_ (xO (Nat.mul_dvd_mul_left _<|Nat.pow_dvd_pow _ J) (pq hQ<|k6 aD) h);exact po (m4 _<|k5 u J)<|k5 av J
def akJ{r W:Nat}(hw:Fr r W w)(Z:1<=W)(aB:k<=n):Fr (r^n*r0 n (n+1)) (W^n) (jy w n k):=by
 have h:=akp (zN n k aB)<|XI hw k;exact mV (k5 Z aB)<|xO (Nat.mul_dvd_mul (Nat.pow_dvd_pow _ aB)<|X9 n k (n+1) J) (pq (k6 hw.1)<|X8 n (n+1)<|ct _) h
theorem MS{M A:Nat}{g:Nat->Rat}{n:Nat}(F:∀i,i<=n->Fr M A (g i)):∀r p,p<=n->Fr M (A*2^r) (bH g p r)
 |0,p,hp=>by simpa[bH]using F p hp
 |r+1,0,hp=>by
  rw[XG];exact mV (At _<|k6 av) (F 0 hp)
 |r+1,p+1,hp=>by
  have aE:=MS F r (p+1) hp;have G:=MS F r p J;have h:=Hm aE G;rw[show A*2^r+A*2^r=A*2^(r+1) by grind]at h;exact h
def Yb{y b:Nat}(aE:x<2^a)(aK:y<=2^b):x*y<2^(a+b):=by
 rw[nJ];exact iR (m4 x aK)<|Ir aE<|k6 av
def Yc(h:x<=2^a):x^n<=2^(a*n):=by
 rw[yb];exact D1 h n
structure iO(z a b:Nat)(M:Nat)(n:Nat)(c:Nat->Rat)(aQ w:Rat)(q r:Nat):Prop where
 aH:z<=8000
 aj:n<=16
 ah:∀i,i<=n->Fr M (2^b) (c i)
 hQ:M<2^a
 fA:Fr q (2^z) aQ
 aD:q<=2^z
 hw:Fr r (2^(z+1)) w
 aw:r<=2^(2*z)
def xP(M q r n:Nat):Nat:=M*q^n*(r^n*r0 n (n+1))
def akK(M q r:Nat):xP M q r 0=M:=by unfold xP;simp[r0,bF]
def pS{b:Nat}(h:a<=b):2^a<=2^b:=k5 av h
section
variable{z a b M n q r:Nat}{c:Nat->Rat}{aQ w:Rat}
variable{p j:Nat}
def iO.MT(h:iO z a b M n c aQ w q r):z*n<=8000*n:=iZ n h.aH
def iO.ey(h:iO z a b M n c aQ w q r):M*q^n<2^(a+8000*n):=r8 (Yb h.hQ<|Yc h.aD)<|pS (by have:=h.MT;omega)
def iO.dX(h:iO z a b M n c aQ w q r):r^n*r0 n (n+1)<=2^(16017*n):=by
 have Y:=po (Yc (n:=n) h.aw)<|Ya n<|n+1;rw[<-Nat.pow_add]at Y;refine cN Y<|pS ?_;have G:n*(n+1)<=n*17:=m4 n aqy;have C:=h.MT;rw[lX];omega
def iO.eW(h:iO z a b M n c aQ w q r):xP M q r n<2^(a+25000*n):=r8 (Yb h.ey h.dX)<|pS J
def iO.de(h:iO z a b M n c aQ w q r)(hp:p<=n)(a3:j<=n+1):Fr (M*q^n) (2^(b+8002*n+1)) (hy aQ n c p j):=by
 have Y:=akI h.ah h.fA (D5) hp a3;rw[<-Nat.pow_mul,<-Nat.pow_add,<-Nat.pow_add]at Y;exact mV (pS (by have:=h.MT;omega)) Y
theorem iO.jy(h:iO z a b M n c aQ w q r){k:Nat}(aB:k<=n):Fr (r^n*r0 n (n+1)) (2^(8001*n)) (jy w n k):=by
 have Y:=akJ h.hw (D5) aB;rw[<-Nat.pow_mul]at Y;exact mV (pS<|iZ n (by have:=h.aH;omega)) Y
theorem iO.kJ(h:iO z a b M n c aQ w q r){k:Nat}(aB:k<=n):Fr (xP M q r n) (2^(b+16003*n+1)) (kJ aQ w n c k):=by
 have Y:=Hn (h.de aB (j:=k+1) J)<|h.jy aB;rw[<-Nat.pow_add]at Y;exact mV (pS J) Y
def iO.bH(h:iO z a b M n c aQ w q r)(hp:p<=n)(aB:k<=n):Fr (xP M q r n) (2^(b+16004*n+1)) (Go.bI.ds.bH (Go.bI.ds.kJ aQ w n c) p k):=by
 have Y:=MS (n:=n) (λi af=>h.kJ af) k p hp;rw[<-Nat.pow_add]at Y;exact mV (pS J) Y
def iO.EO(h:iO z a b M n c aQ w q r)(hp:p<=n):Fr (xP M q r n) (2^(b+16100*n)) (qM aQ w n c p):=by
 by_cases T:n=0
 .subst T;have:p=0:=by omega
  subst this;rw[X7,akK];exact h.ah 0<|ct _
 .exact mV (pS J)<|h.bH hp hp
def iO.Yd(h:iO z a b M n c aQ w q r)(aw:a+b+50000*n<=31000000)(hp:p<=n)(a3:j<=n+1):bg 1000000 (hy aQ n c p j):=zQ (h.de hp a3) h.ey (ct _) aqy
def iO.Ye(h:iO z a b M n c aQ w q r)(aB:k<=n):bg 50000 (Go.bI.ds.jy w n k):=zQ (h.jy aB) (a:=16017*n+1) (iR h.dX<|Iw av J) (ct _) aqy
def iO.akL(h:iO z a b M n c aQ w q r)(aw:a+b+50000*n<=31000000)(aB:k<=n):bg 1000000 (Go.bI.ds.kJ aQ w n c k):=zQ (h.kJ aB) h.eW (ct _) aqy
def iO.akM(h:iO z a b M n c aQ w q r)(aw:a+b+50000*n<=31000000)(hp:p<=n)(aB:k<=n):bg 1000000 (Go.bI.ds.bH (Go.bI.ds.kJ aQ w n c) p k):=zQ (h.bH hp aB) h.eW (ct _) aqy
end
set_option maxRecDepth 100000
set_option maxHeartbeats 4000000
def MU{u:Type}{i:Nat}{f:Nat->u}{y:u}(h:(bW n f)[i]? =some y):i<n/\y=f i:=by
 have af:=(dG.1 h).1;rw[iv]at af;rw[iN f af]at h;exact⟨af,(Option.some.inj h).symm⟩
def MV:fy [.b false,.nl,.nl] (cc 0):=apg
def kW(f:Nat->Rat)(b:Rat)(j:Nat):Rat:=if 0<j then f (j-1)*b else 0
def gv(f:Nat->Rat)(a b:Rat)(i j:Nat):Rat:=if j<i then kW f b j+f j*a else if j=i then kW f b j else 0
def akN:da:=cR λ((n,f,a,b):Nat×(Nat->Rat)×Rat×Rat)=>([.bs 3 Rat cc<|bW n f,bQ a,bQ b],n<=1048576/\(∀i,i<n->bg 60000000 (f i))/\bg 1000 a/\bg 1000 b,.bs 3 Rat cc<|bW (n+1)<|gv f a b n)
def MW:b4 59 akN:=by
 refine cJ [mg,pN] TU.1 ?_;intro⟨n,f,a,b⟩ ⟨(aj:n<=1048576),(D:∀i,i<n->bg _ (f i)),(h:bg 1000 a),(aa:bg 1000 b)⟩ H ax;have l:∀i,i<=n->bg 60001000 (kW f b i):=λi af=>by
  unfold kW;split
  .exact lT (D _ J) aa
  .exact b0<|pO 0 av av
 refine bf 11 ?_;refine a9 11 (.i .i64 (n:Int)) o (by rw[iv]) ?_;refine bf 12 ?_;refine b5 12 ((n+1:Nat):Int) ?_;refine st ?_;refine pG (λ_:Unit=>[.b false,.nl,.nl]) () ?_;refine Li 2 cc (bW (n+1)<|gv f a b 0) ?_ (by rw[iv,nF]) (λi x y _ N=>by
  rw[(MU N).2];have:gv f a b 0 i=0:=by unfold gv kW;split<;>(try split)<;>(try split)<;>first|rfl|omega
  rw[this];exact MV) (aB:=o)
 refine bf 15 ?_;refine a9 15 (.i .i64 (n:Int)) o (by rw[iv]) ?_;refine st ?_;refine dN (L:=Nat) (λi=>i<=n) (λi=>⟨[.c 27<|cc a,.c 27<|cc b,.a 27 false 3 Rat cc<|bW (n+1)<|gv f a b i],3,[(4,.p 0 0),(5,.p 1 0),(7,.aL 2 3 0 (n+1)<|n+1),(14,.bs 3 Rat cc<|bW n f),(15,.i .i64 (n:Int)),(16,.i .i64 (i:Int))]⟩) (λi=>n-i) [0,1,2] 0 (dg _) aq7 cb ?_;rintro(i:Nat) (af:i<=n);refine bf 17 ?_;by_cases aT:i<n
 .have U:gv f a b i i=kW f b i:=by unfold gv;rw[au J,aA o]
  have Q:kW f b i+f i*a=gv f a b (i+1) i:=by unfold gv;rw[aA J]
  have Z:f i*b=gv f a b (i+1) (i+1):=by unfold gv;rw[au J,aA o];unfold kW;rw[aA J,wu]
  have hD:=lT (D i aT) h;have G:((bW (n+1)<|gv f a b i).set i<|gv f a b i i+f i*a)[i+1]? =some (gv f a b i<|i+1):=by rw[uo,iN _ J,au J]
  refine v1 17 (show(i:Int)<(n:Int) by omega) ?_;refine st ?_;refine hh (f i) (iN f aT) ?_;refine st ?_;refine cS mg (f i,a) ⟨b0<|D i aT,b0 h⟩ ?_;refine st ?_;refine mG ?_;refine st ?_;refine ed (gv f a b i i) (iN (n:=n+1) (i:=i) _ J) ?_;refine st ?_;refine cS pN (gv f a b i i,f i*a) ⟨by rw[U];exact b0<|l i af,b0 hD⟩ ?_;refine st ?_;refine cS mg (f i,b) ⟨b0<|D i aT,b0 aa⟩ ?_;refine st ?_;refine mG ?_;refine st ?_;refine hi (a:=bQ<|gv f a b i i+f i*a) (gv f a b i i+f i*a) (iN (n:=n+1) (i:=i) (gv f a b i) J) ?_;refine bf 25 ?_;refine ww 25 ((i+1:Nat):Int) ?_;refine st ?_;refine mG ?_;refine st ?_;refine hi (a:=bQ<|f i*b) (f i*b) (w:=gv f a b i<|i+1) G ?_;refine bf 39 ?_;refine b5 39 ((i+1:Nat):Int) ?_;refine st ?_;have s:((bW (n+1)<|gv f a b i).set i<|gv f a b i i+f i*a).set (i+1) (f i*b)=bW (n+1) (gv f a b<|i+1):=by
   rw[U,Q,Z,uo,uo];refine mh λj u=>?_;by_cases Y:j=i+1
   .subst Y;rw[aA o]
   .rw[au Y];by_cases G:j=i
    .subst G;rw[aA o]
    .rw[au G];unfold gv;by_cases C:j<i
     .rw[aA C,aA J]
     .rw[au C,au G,au J,au Y]
  rw[s];exact bL [0,1,2] (i+1) ⟨by show n-(i+1)<n-i;omega,aT⟩ cb
 .have m:i=n:=by omega
  subst m;refine v0 17 arX ?_;refine bf 40 ?_;refine ju 40 ?_ (aj:=iv _ _);refine st ?_;exact apo
theorem Yf(x:Rat):∀n:Nat,((x.num:Rat))^n=x^n*((x.den:Nat):Rat)^n
 |0=>by simp
 |n+1=>by
  have aE:=Yf x n;have G:=Ho x
  grind
def akO(a:Int):∀n:Nat,((a^n:Int):Rat)=(a:Rat)^n
 |0=>by simp
 |n+1=>by push_cast;rfl
def akP(a:Nat):∀n:Nat,((a^n:Nat):Rat)=(a:Rat)^n
 |0=>by simp
 |n+1=>by push_cast;rfl
theorem Yg(x:Rat)(n:Nat):mkRat (x.num^n) (x.den^n)=x^n:=by
 rw[ye,akO,Yf];have h:(x.den:Rat)^n≠0:=by
  rw[<-akP];exact qL<|k6<|p4 x.den_nz
 grind
theorem Yh(a:Int):∀n:Nat,a^n=bM (decide (a<0)&&decide (n%2=1)) (a.natAbs^n)
 |0=>by simp[bM]
 |n+1=>by
  have h:(decide (a<0)&&decide ((n+1)%2=1))=((decide (a<0)&&decide (n%2=1)) != decide (a<0)):=by grind
  have f:a=bM (decide (a<0)) a.natAbs:=by
   unfold bM;by_cases h:a<0
   .rw[c9 h,aA o];omega
   .rw[dk h,au av];omega
  rw[Int.pow_succ,h,hZ,ML,<-Yh a n,<-f]
theorem CV{a k:Nat}(h:dU k a):∀n,dU (k*n+1) (a^n)
 |0=>by rw[Nat.pow_zero,DW];exact sZ av
 |n+1=>by
  have:=jZ (CV h n) h;exact c1 this<|by rw[Nat.mul_succ];omega
def MX{x:Rat}(h:bg k x):bg (k*n+1) (x^n):=by
 rw[<-Yg];exact n9 (by rw[Int.natAbs_pow];exact CV h.1 n) (CV h.2 n)<|D6<|k6<|p4 x.den_nz
def Ht:b4 56 (cR λ((x,n):Rat×Nat)=>([bQ x,.ae (n:Int)],bg 1000000 x/\n<=64,.br [bQ<|x^n,.ae 0])):=by
 refine cJ [mO,oV,kd,lk] U7.1 ?_;intro⟨x,n⟩ ⟨(O:bg 1000000 x),(aj:n<=64)⟩ H ax;have R:∀i,i<=n->dU 64000001 (x.num.natAbs^i):=λi af=>c1 (CV O.1 i) J;have m:∀i,i<=n->dU 64000001 (x.den^i):=λi af=>c1 (CV O.2 i) J;refine U 12<|ee 11<|U 5<|ee 14<|U 11<|ee 18<|U 7<|bn mO (1:Nat) ap5<|bn mO (1:Nat) ap5<|vH (L:=Nat) (λi=>i<=n) (λi=>⟨[.c 27<|cc x,.c 27 [.b false,.nl,.nl]],2,[(1,.ae (n:Int)),(2,.p 0 0),(4,.p 1 0),(8,dw<|x.num.natAbs^i),(9,dw<|x.den^i),(37,.ae (n:Int)),(38,.ae (i:Int))]⟩) (λi=>n-i) [0,1] 0 (dg _) ?_;rintro(i:Nat) (af:i<=n);refine U 3 ?_;by_cases aT:i<n
 .exact eD 39<|U 12<|cS oV (x.num.natAbs^i,x.num.natAbs) ⟨c1<|R i af,c1 O.1⟩<|U 1<|cS kd x aP<|U 1<|cS oV (x.den^i,x.den) ⟨c1<|m i af,c1 O.2⟩<|U 7<|b5 48 ((i+1:Nat):Int)<|af9 [0,1] (i+1) aT
 .have D:i=n:=by omega
  subst D;have e:∀b,b=(decide (x.num<0)&&decide (i%2=1))->bQ (mkRat (if b=true then -((x.num.natAbs^i:Nat):Int)else((x.num.natAbs^i:Nat):Int))<|x.den^i)=bQ (x^i):=λb aa=>by
   rw[<-Yg,Yh,<-aa];cases b<;>rfl
  refine ee 39<|bf 50 ?_;cases f:decide (x.num<0)with
  |false=>
   exact U 7<|bn lk (false,x.num.natAbs^i,x.den^i) ⟨c1<|R i af,c1<|m i af,D6<|k6<|p4 x.den_nz⟩<|a9 58 (bQ<|x^i) o (e false<|by rw[f];rfl)<|U 5<|fc
  |true=>
   refine U 5<|vx 53 ((i%2:Nat):Int) (U 2 ?_) (h:=o);by_cases ay:i%2=1
   .exact eD 54<|U 3<|bn lk (true,x.num.natAbs^i,x.den^i) ⟨c1<|R i af,c1<|m i af,D6<|k6<|p4 x.den_nz⟩<|a9 58 (bQ<|x^i) o (e true<|by rw[f,c9 ay];rfl)<|U 5<|fc
   .exact ee 54<|U 3<|bn lk (false,x.num.natAbs^i,x.den^i) ⟨c1<|R i af,c1<|m i af,D6<|k6<|p4 x.den_nz⟩<|a9 58 (bQ<|x^i) o (e false<|by rw[f,dk ay];rfl)<|U 5<|fc
set_option maxHeartbeats 8000000
variable{g:Nat->Rat}{p I t i r:Nat}
def Yi{st:Nat}(F:0<st)(u:I/st%(n+1)=0)(aB:k<=n):(I+k*st)/st%(n+1)=k:=by
 rw[Nat.add_mul_div_right _ _ F,Nat.add_mod,u,jn,Nat.mod_mod,p0 J]
def Yj{st:Nat}:p/st%(n+1)<=n:=Nat.le_of_lt_succ<|fo _<|x8 n
def akQ{st:Nat}:p/st%(n+1)*st<=p:=cN (iZ _<|Nat.mod_le _ _)<|Nat.div_mul_le_self _ _
def hH(st n I:Nat)(f g:Nat->Rat)(p:Nat):Rat:=if I+p/st%(n+1)*st=p then g (p/st%(n+1))else f p
def Yk{st:Nat}{f:Nat->Rat}(F:0<st)(u:I/st%(n+1)=0)(aB:k<=n):hH st n I f g (I+k*st)=g k:=by
 unfold hH;rw[Yi F u aB,aA o]
def MY{st:Nat}{f:Nat->Rat}{v:Rat}(F:0<st)(u:I/st%(n+1)=0)(aB:k<=n)(p:Nat):(if p=I+k*st then v else hH st n I f g p)=hH st n I f (λi=>if i=k then v else g i) p:=by
 by_cases h:p=I+k*st
 .rw[aA h,h,Yk F u aB,aA o]
 .rw[au h];unfold hH;split
  .rename_i G;show g _=if _ then v else g _;rw[au];intro C;rw[C]at G;exact h G.symm
  .rfl
def akR{st:Nat}{f:Nat->Rat}(p:Nat):hH st n I f (λk=>f<|I+k*st) p=f p:=by
 unfold hH;split
 .rename_i h;exact congrArg f h
 .rfl
def uq{st:Nat}{f h:Nat->Rat}(F:∀k,k<=n->g k=h k)(p:Nat):hH st n I f g p=hH st n I f h p:=by
 unfold hH;split
 .exact F _ Yj
 .rfl
def qN(st n:Nat)(aQ w:Rat)(f:Nat->Rat)(p:Nat):Rat:=qM aQ w n (λi=>f<|p-p/st%(n+1)*st+i*st)<|p/st%(n+1)
def kv(st n:Nat)(aQ w:Rat)(f:Nat->Rat)(t p:Nat):Rat:=if p-p/st%(n+1)*st<t then qN st n aQ w f p else f p
def Yl{st:Nat}(F:0<st):(p-p/st%(n+1)*st)/st%(n+1)=0:=by
 have Y:p/st%(n+1)<=p/st:=Nat.mod_le _ _;have G:(p-p/st%(n+1)*st)/st=p/st-p/st%(n+1):=by
  rw[hK];exact Nat.sub_mul_div _ _ _
 rw[G];have:=uS (p/st)<|n+1;rw[show p/st-p/st%(n+1)=(n+1)*(p/st/(n+1)) by omega];exact Nat.mul_mod_right _ _
def akS{st:Nat}{f:Nat->Rat}(F:0<st)(aN:t/st%(n+1)≠0)(p:Nat):kv st n aQ w f (t+1) p=kv st n aQ w f t p:=by
 unfold kv;have h:p-p/st%(n+1)*st≠t:=λe=>aN (by rw[<-e];exact Yl F);by_cases Y:p-p/st%(n+1)*st<t
 .rw[aA J,aA Y]
 .rw[au J,au Y]
def akT{st:Nat}{f:Nat->Rat}(F:0<st)(aN:t/st%(n+1)=0)(p:Nat):kv st n aQ w f (t+1) p=hH st n t (kv st n aQ w f t) (qM aQ w n λi=>f<|t+i*st) p:=by
 have hm:=akQ (st:=st) (n:=n) (p:=p);unfold hH;by_cases h:t+p/st%(n+1)*st=p
 .rw[aA h];have e:p-p/st%(n+1)*st=t:=by omega
  unfold kv qN;rw[e,aA J]
 .rw[au h];unfold kv;by_cases Y:p-p/st%(n+1)*st<t
  .rw[aA J,aA Y]
  .rw[au J,au Y]
def akU{st:Nat}{f:Nat->Rat}(F:0<st)(aN:t/st%(n+1)=0)(aB:k<=n):kv st n aQ w f t (t+k*st)=f (t+k*st):=by
 unfold kv;rw[Yi F aN aB,wu,au J]
theorem Hu{st B:Nat}(F:0<st)(aN:t/st%(n+1)=0)(aB:k<=n)(O:t<B*((n+1)*st)):t+k*st<B*((n+1)*st):=by
 obtain⟨A,f⟩:∃A,t/st=(n+1)*A:=Nat.dvd_of_mod_eq_zero aN;have Y:=uS t st;have G:=fo t F;rw[f]at Y;have C:A<B:=by
  apply Nat.lt_of_not_le;intro h;have:=iZ ((n+1)*st) h;rw[show st*((n+1)*A)=A*((n+1)*st) by grind]at Y;omega
 have N:=iZ ((n+1)*st) (show A+1<=B from C);have J:=iZ st aB;rw[show st*((n+1)*A)=A*((n+1)*st) by grind]at Y;rw[fP,te,fP n,te]at N;rw[fP n,te]at Y⊢;omega
def hI(aQ:Rat)(n:Nat)(c:Nat->Rat)(i m p:Nat):Rat:=hy aQ n c p<|min (if m<=p then i+1 else i)<|p+1
def akV(aQ:Rat)(n:Nat)(c:Nat->Rat)(p:Nat)(hp:p<=n):hI aQ n c 0 n p=c p:=by
 unfold hI;split
 .exact pR J _
 .rw[Nat.zero_min];exact zO
theorem akW(af:i<=k)(aB:k<n)(p:Nat):(if p=k then hI aQ n c i (k+1) k+hI aQ n c i (k+1) (k+1)*aQ else hI aQ n c i (k+1) p)=hI aQ n c i k p:=by
 by_cases h:p=k
 .subst h;rw[aA o];unfold hI;rw[au J,aA<|ct _,aA<|ct _,kh J,kh J,kh J,vS aB]
  grind
 .rw[au h];unfold hI;by_cases Y:k<=p
  .rw[aA Y,aA J]
  .rw[au Y,au J]
def akX(af:i<n)(p:Nat)(hp:p<=n):hI aQ n c i i p=hI aQ n c (i+1) n p:=by
 unfold hI;by_cases h:n<=p
 .rw[pR h,pR h]
 .rw[au h];by_cases Y:i<=p
  .rw[aA Y]
  .rw[au Y];congr 1;omega
def akY(aQ:Rat)(n:Nat)(c:Nat->Rat)(p:Nat)(hp:p<=n):hI aQ n c n n p=hy aQ n c p (p+1):=by
 unfold hI;by_cases h:n<=p
 .rw[pR h,pR h]
 .rw[au h,Nat.min_eq_right J]
def lp(aQ w:Rat)(n:Nat)(c:Nat->Rat)(k p:Nat):Rat:=if p<k then kJ aQ w n c p else hy aQ n c p (p+1)
theorem akZ(aQ w:Rat)(n:Nat)(c:Nat->Rat)(p:Nat):lp aQ w n c 1 p=hy aQ n c p (p+1):=by
 unfold lp;split
 .have:p=0:=by omega
  subst this;unfold kJ;rw[MR];grind
 .rfl
def ak0(p:Nat):(if p=k then lp aQ w n c k k*jy w n k else lp aQ w n c k p)=lp aQ w n c (k+1) p:=by
 unfold lp;by_cases h:p=k
 .subst h;rw[aA o,au J,aA J];rfl
 .rw[au h];by_cases Y:p<k
  .rw[aA Y,aA J]
  .rw[au Y,au J]
def hT(g:Nat->Rat)(n r m p:Nat):Rat:=bH g p<|r+p-n+if n-r<=p/\p<m then 1 else 0
def ak1(hp:p<=n):hT g n 0 n p=g p:=by
 unfold hT;rw[au J,show 0+p-n+0=0 by omega];rfl
def ak2(g:Nat->Rat)(p r:Nat):bH g (p+1) (r+1)=bH g (p+1) r+bH g p r:=rfl
def ak3{m:Nat}(aw:r<n)(aE:n-r<=m)(aK:m<=n)(p:Nat):(if p=m then hT g n r m m+hT g n r m (m-1)else hT g n r m p)=hT g n r (m+1) p:=by
 by_cases h:p=m
 .subst h;rw[aA o];obtain⟨q,rfl⟩:∃q,p=q+1:=⟨p-1,J⟩;unfold hT;rw[au (show¬(n-r<=q+1/\q+1<q+1) by omega),aA (show n-r<=q+1/\q+1<q+1+1 by omega),wu,ak2,sa];congr 2;by_cases aD:n-r<=q
  .rw[aA J];omega
  .rw[au J];omega
 .rw[au h];unfold hT;by_cases C:n-r<=p/\p<m
  .rw[aA C,aA J]
  .rw[au C,au J]
def ak4(aw:r<n)(hp:p<=n):hT g n r (n+1) p=hT g n (r+1) (n-(r+1)) p:=by
 unfold hT;rw[au (show¬(n-(r+1)<=p/\p<n-(r+1)) by omega)];congr 1;by_cases h:n-r<=p
 .rw[aA J];omega
 .rw[au J];omega
def ak5(hp:p<=n):hT g n n 0 p=bH g p p:=by
 unfold hT;rw[au J,show n+p-n+0=p by omega]
set_option maxHeartbeats 16000000
def ur(m:Nat):ac ai:=[.fb 3 3 m 0]
def lq(N st n:Nat)(b:ac fD)(j:Nat)(F:Nat->Rat)(o:ac a0):ac a0:=.c 34 [.aL 3 3 0 N N]:: .c 3 [.i .i64 (st:Int)]:: .c 3 [.i .i64 (n:Int)]:: .a 27 false 3 Rat cc (bW N F):: .c 85 [.bs 6 fD e7 b]:: .c 3 [.i .i64 (j:Int)]::o
structure MZ where
 N:Nat
 B:Nat
 st:Nat
 n:Nat
 b:ac fD
 j:Nat
 v:fD
 f:Nat->Rat
 a:Nat
 qp:Nat
 M:Nat
 q:Nat
 r:Nat
 z:Nat
structure M0(l:MZ):Prop where
 N:l.N=l.B*((l.n+1)*l.st)
 dY:l.N<=600
 st:0<l.st
 j:l.b[l.j]? =some l.v
 cx:l.b.length<=1048576
 n:l.n<=16
 f:∀p,p<l.N->Fr l.M (2^l.qp) (l.f p)
 M:l.M<2^l.a
 z:l.z<=8000
 aQ:Fr l.q (2^l.z) l.v.1
 q:l.q<=2^l.z
 w:Fr l.r (2^(l.z+1)) (l.v.2-l.v.1)
 r:l.r<=2^(2*l.z)
 hD:bg 250 l.v.1
 hY:bg 250 l.v.2
 room:l.a+l.qp+50000*l.n<=31000000
variable{j:Nat}{d:Nat->Nat}
def M0.cV{l:MZ}(h:M0 l)(aN:t/l.st%(l.n+1)=0)(dY:t<l.N):iO l.z l.a l.qp l.M l.n (λi=>l.f<|t+i*l.st) l.v.1 (l.v.2-l.v.1) l.q l.r:=
 ⟨h.z,h.n,λi af=>h.f _<|by rw[h.N]at dY ⊢;exact Hu h.st aN af dY,h.M,h.aQ,h.q,h.w,h.r⟩
def ak6:gh where
 L:=MZ
 own:=λl=>lq l.N l.st l.n l.b l.j l.f []
 args:=λl=>[.fn (.func 31) [] [.p 4 0,.p 5 0],.p 0 0,.p 1 0,.p 2 0]
 pre:=M0
 bk:=λl=>lq l.N l.st l.n l.b l.j (qN l.st l.n l.v.1 (l.v.2-l.v.1) l.f) []
 res:=λ_=>.br []
def ak7(N st n:Nat)(b:ac fD)(j:Nat)(F:Nat->Rat)(t k:Nat):ac Nat->cg
 |[]=>⟨lq N st n b j F [],6,[(0,.fn (.func 31) [] [.p 4 0,.p 5 0]),(1,.p 0 0),(2,.p 1 0),(3,.p 2 0),(8,.aL 3 3 0 N N),(9,.i .i64 (N:Int)),(10,.i .i64 (t:Int)),(5,.i .i64 (t:Int)),(6,.nl),(21,.i .i64 ((n+1:Nat):Int)),(22,.i .i64 (k:Int))]⟩
 |v::ab=>⟨lq N st n b j F [.a 95 true 1 Nat ur<|v::ab],7,[(0,.fn (.func 31) [] [.p 4 0,.p 5 0]),(1,.p 0 0),(2,.p 1 0),(3,.p 2 0),(8,.aL 3 3 0 N N),(9,.i .i64 (N:Int)),(10,.i .i64 (t:Int)),(5,.i .i64 (t:Int)),(6,.aL 6 1 0 (ab.length+1)<|ab.length+1),(21,.i .i64 ((n+1:Nat):Int)),(22,.i .i64 (k:Int))]⟩
def Ym:b4 30 ak6:=by
 refine kT [mg,pN,jk,XJ,XL] TQ.1 ?_;intro⟨N,B,l,n,b,j,v,f,a,qp,M,q,r,z⟩ Y H i0 ax hlen;obtain⟨aO,Z,S,a4,aB,aG,rfl⟩:∃aO Z S a4 aB aG,i0=[aO,Z,S,a4,aB,aG]:=by
  match i0,hlen with
  |[aO,Z,S,a4,aB,aG],_=>exact⟨_,_,_,_,_,_,o⟩
 have dY:=Y.N;have bq:=Y.dY;have a':=Y.st;have aZ:=Y.j;have aj:=Y.n;have bF:=Y.cx;simp only at dY bq a' aZ aj bF;have bJ:j<b.length:=(dG.1 aZ).1;have a7:(n+1)*l<=600\/N=0:=by
  rcases AE B with h|h
  .right;rw[dY,h,jC]
  .left;have:=DB ((n+1)*l) h;omega
 obtain⟨w,hw⟩:∃w,w=v.2-v.1:=dq;show bP.ok _ ⟨_,_,⟨lq N l n b j f [],6,[(0,.fn (.func 31) [] [.p 4 0,.p 5 0]),(1,.p 0 0),(2,.p 1 0),(3,.p 2 0)]⟩⟩;have bp:bW N f=bW N (kv l n v.1 w f 0):=mh λp _=>by unfold kv;rw[au J]
 have bx:bW N (kv l n v.1 w f N)=bW N (qN l n v.1 w f):=mh λp hp=>by unfold kv;rw[aA J]
 unfold lq;rw[bp];refine st ?_;refine dN (L:=Nat) (λt=>t<=N) (λt=>⟨lq N l n b j (kv l n v.1 w f t) [],6,[(0,.fn (.func 31) [] [.p 4 0,.p 5 0]),(1,.p 0 0),(2,.p 1 0),(3,.p 2 0),(8,.aL 3 3 0 N N),(9,.i .i64 (N:Int)),(10,.i .i64 (t:Int))]⟩) (λt=>N-t) [0,1,2,3,4,5] 0 (dg _) (by show N-0<bz+1;unfold bz;omega) cb ?_;rintro(t:Nat) (aN:t<=N);refine bf 11 ?_;by_cases aT:t<N
 case neg=>
  have br:t=N:=J
  subst br;refine v0 11 (show¬(t:Int)<(t:Int) by omega) ?_;refine st ?_;refine bh ⟨.inl o,lQ,[0,1,2,3,4,5],o,?_⟩;show Sub 6 [0,1,2,3,4,5] _ ⟨lq t l n b j (qN l n v.1 (v.2-v.1) f) [],6,[]⟩;rw[<-hw];unfold lq;rw[<-bx];exact cb
 have a7:(n+1)*l<=600:=J
 have bN:l<=600:=cN (DB l<|x8 n) a7;refine v1 11 (show(t:Int)<(N:Int) by omega) ?_;refine st ?_;refine aer ?_;refine bf 17 ?_;refine ww 17 ((n+1:Nat):Int) ?_;refine bf 18 ?_;refine aeU 18 ((t/l%(n+1):Nat):Int) ?_ (h:=o);refine bf 19 ?_;by_cases T:t/l%(n+1)=0
 case neg=>
  refine fj 19 (show((t/l%(n+1):Nat):Int)≠0 by omega) ?_;refine bf 39 ?_;refine b5 39 ((t+1:Nat):Int) ?_;have bD:bW N (kv l n v.1 w f t)=bW N (kv l n v.1 w f<|t+1):=mh λp _=>(akS a' T p).symm;unfold lq;rw[bD];refine st ?_;exact arS
 refine dR 19 (hY (show((t/l%(n+1):Nat):Int)=0 by omega)) ?_;refine bf 21 ?_;refine b5 21 ((n+1:Nat):Int) ?_;refine st ?_;refine dN (L:=Nat×ac Nat) (λ(k,al)=>k<=n+1/\al=bW k λk=>t+k*l) (λ(k,al)=>ak7 N l n b j (kv l n v.1 w f t) t k al) (λx=>n+1-x.1) [0,1,2,3,4,5] (0,[]) apl (by show n+1-0<bz+1;unfold bz;omega) cb ?_;rintro⟨k,al⟩ ⟨E,a1⟩;have a0:al.length=k:=by rw[a1,iv]
 by_cases D:k<n+1
 .have ao:t+k*l<N:=by rw[dY];exact Hu a' T J<|by rw[<-dY];exact aT
  have bU:k*l<=t+k*l:=Nat.le_add_left _ _;have a5:=X4 k λk=>t+k*l;rw[<-a1]at a5;rcases al with _|⟨u,C⟩<;>(
   refine bf 23 ?_;refine v1 23 (show(k:Int)<((n+1:Nat):Int) by omega) ?_;refine bf 30 ?_;refine b5 30 ((k*l:Nat):Int) ?_ (h:=by push_cast;rfl) (aE:=by rw[<-Int.natCast_mul];omega) (aK:=by rw[<-Int.natCast_mul];omega);refine bf 31 ?_;refine b5 31 ((t+k*l:Nat):Int) ?_;refine st ?_;refine pF ?_;refine st ?_
   first|refine rL ur [t+k*l] (hg (ak:=ur) [t+k*l] o) ?_|(refine qB [t+k*l] (hg (ak:=ur) [t+k*l] o) ?_ (aj:=az) (aa:=by simp at a0 ⊢;omega);refine a9 34 (.aL 8 1 0 ((C++[t+k*l]).length+1)<|(C++[t+k*l]).length+1) o az ?_)
   refine bf 35 ?_;refine b5 35 ((k+1:Nat):Int) ?_;refine st ?_
   first|exact bL [0,1,2,3,4,5,7] (k+1,[t+k*l]) ⟨by show n+1-(k+1)<n+1-k;omega,D,a5.symm⟩ cb|exact bL [0,1,2,3,4,5,8] (k+1,u::(C++[t+k*l])) ⟨by show n+1-(k+1)<n+1-k;omega,D,a5.symm⟩ cb)
 have D:k=n+1:=J
 subst D;rcases al with _|⟨u,C⟩
 .simp at a0
 have bs:C.length=n:=by simpa using a0
 have ag:∀i,i<=n->(u::C)[i]? =some (t+i*l):=λi af=>by rw[a1];exact iN _ J
 have bI:∀i,i<=n->t+i*l<N:=λi af=>by rw[dY];exact Hu a' T af<|by rw[<-dY];exact aT
 obtain⟨c,ah⟩:∃c,c=λi=>f (t+i*l):=dq;have ad:=Y.cV (t:=t) T aT;simp only at ad;rw[<-ah,<-hw]at ad;have aq:=Y.room;simp only at aq;have hD:=Y.hD;have ay:=Y.hY;simp only at hD ay;have oR:bg 501 w:=by rw[hw];exact s3 ay hD
 refine bf 23 ?_;refine v0 23 (show¬((n+1:Nat):Int)<((n+1:Nat):Int) by omega) ?_;refine st ?_;refine afj Tc.1 cw ?_;intro bM bb bY bk _;obtain⟨a2,Q,aY,pK,aD,aH,aF,rfl⟩:∃a2 Q aY pK aD aH aF,bb=[a2,Q,aY,pK,aD,aH,aF]:=by
  match bb,bk with
  |[a2,Q,aY,pK,aD,aH,aF],_=>exact arZ arZ
 refine st ?_;refine hh v aZ ?_;refine st ?_;refine vv U0.1 cw ?_;intro bT bj b1 bG _;obtain⟨aPq,W,aR,aU,aV,aW,aX,rfl⟩:∃aPq W aR aU aV aW aX,bj=[aPq,W,aR,aU,aV,aW,aX]:=by
  match bj,bG with
  |[aPq,W,aR,aU,aV,aW,aX],_=>exact arZ arZ
 refine bf 13 ?_;refine b5 13 (n:Int) ?_ (h:=by rw[bs];omega);have bA:bW N (kv l n v.1 w f t)=bW N (hH l n t (kv l n v.1 w f t)<|hI v.1 n c 0 n):=mh λp _=>
  (akR (st:=l) (n:=n) (I:=t) (f:=kv l n v.1 w f t) p).symm.trans<|uq (λk E=>by rw[akU a' T E,akV _ _ _ _ E,ah]) p
 obtain⟨F,U⟩:∃F,F=kv l n v.1 w f t:=dq;rw[bA,<-U];have ae:∀(g:Nat->Rat) (k:Nat),k<=n->(bW N<|hH l n t F g)[t+k*l]? =some (g k):=λg k E=>by rw[iN _<|bI k E,Yk a' T E]
 have aI:∀i m p,i<=n->p<=n->bg 1000000 (hI v.1 n c i m p):=λi m p af hp=>ad.Yd aq hp (by split<;>omega);refine st ?_;refine dN (L:=Nat) (λi=>i<=n) (λi=>⟨lq N l n b j (hH l n t F<|hI v.1 n c i n) [.a 95 true 1 Nat ur<|u::C,.c 60<|e7 v],8,[(0,.aL 6 1 0 (C.length+1)<|C.length+1),(3,.p 7 0),(4,.i .i64 (n:Int)),(14,.i .i64 (n:Int)),(15,.i .i64 (i:Int))]⟩) (λi=>n-i) [0,1,2,3,4,5,6,7] 0 (dg _) (iR (show n-0<=600 by omega) apb) cb ?_;rintro(i:Nat) (af:i<=n);refine bf 16 ?_;by_cases ao:i<n
 .refine v1 16 (show(i:Int)<(n:Int) by omega) ?_;refine bf 19 ?_;refine b5 19 ((n:Int)-1) ?_;refine st ?_;refine dN (L:=Nat) (λm=>i<=m/\m<=n) (λm=>⟨lq N l n b j (hH l n t F<|hI v.1 n c i m) [.a 95 true 1 Nat ur<|u::C,.c 60<|e7 v],8,[(0,.aL 6 1 0 (C.length+1)<|C.length+1),(3,.p 7 0),(4,.i .i64 (n:Int)),(14,.i .i64 (n:Int)),(15,.i .i64 (i:Int)),(5,.i .i64 (i:Int)),(6,.i .i64<|(m:Int)-1)]⟩) (λm=>m) [0,1,2,3,4,5,6,7] n ⟨af,ct _⟩ (iR (show n<=600 by omega) apb) cb ?_;rintro(m:Nat) ⟨bR,b2⟩;refine bf 22 ?_;by_cases hm:i<m
  .obtain⟨k,rfl⟩:∃k,m=k+1:=⟨m-1,J⟩;have D:k<n:=by omega
   refine v1 22 (show(i:Int)<=((k+1:Nat):Int)-1 by omega) ?_;refine vx 6 (k:Int) ?_ (h:=J);refine bf 37 ?_;refine ww 37 ((k+1:Nat):Int) ?_;refine st ?_;refine mG ?_ (a3:=J);refine st ?_;refine rM (t+(k+1)*l) (ag (k+1) J) ?_;refine st ?_;refine ed (hI v.1 n c i (k+1)<|k+1) (ae (hI v.1 n c i<|k+1) (k+1) J) ?_;refine st ?_;refine cS mg (hI v.1 n c i (k+1)<|k+1,v.1) ⟨b0<|aI i (k+1) (k+1) af J,b0 hD⟩ ?_;refine st ?_;refine mG ?_ (a3:=J);refine st ?_;refine rM (t+k*l) (ag k J) ?_;refine st ?_;refine ed (hI v.1 n c i (k+1) k) (ae (hI v.1 n c i<|k+1) k J) ?_;refine st ?_;refine cS pN (hI v.1 n c i (k+1) k,hI v.1 n c i (k+1) (k+1)*v.1) ⟨b0<|aI i (k+1) k af J,b0<|lT (aI i (k+1) (k+1) af J) hD⟩ ?_;refine st ?_;refine mG ?_ (a3:=J);refine st ?_;refine rM (t+k*l) (ag k J) ?_;refine st ?_;refine hi (hI v.1 n c i (k+1) k+hI v.1 n c i (k+1) (k+1)*v.1) (ae (hI v.1 n c i<|k+1) k J) ?_;refine bf 24 ?_;refine b5 24 ((k:Int)-1) ?_;have s:(bW N<|hH l n t F<|hI v.1 n c i<|k+1).set (t+k*l) (hI v.1 n c i (k+1) k+hI v.1 n c i (k+1) (k+1)*v.1)=bW N (hH l n t F<|hI v.1 n c i k):=by
    rw[uo];exact mh λp _=>(MY a' T J p).trans<|uq (λx O=>akW J D x) p
   rw[s];refine st ?_;exact bL [0,1,2,3,4,5,6,7] k ⟨nI k,J,J⟩ cb
  .have bo:m=i:=by omega
   subst bo;refine v0 22 (show¬(m:Int)<=(m:Int)-1 by omega) ?_;refine bf 47 ?_;refine b5 47 ((m+1:Nat):Int) ?_;have s:bW N (hH l n t F<|hI v.1 n c m m)=bW N (hH l n t F<|hI v.1 n c (m+1) n):=mh λp _=>uq (λx O=>akX ao x O) p;unfold lq;rw[s];refine st ?_;exact bL [0,1,2,3,4,5,6,7] (m+1) ⟨by show n-(m+1)<n-m;omega,ao⟩ cb
 have ao:i=n:=J
 subst ao;refine v0 16 arX ?_;refine st ?_;refine bn jk (1:Int) apt ?_;refine a9 48 (bQ<|jy w i 0) o (by rw[MR];rfl) ?_;have bB:bW N (hH l i t F<|hI v.1 i c i i)=bW N (hH l i t F<|lp v.1 w i c 1):=mh λp _=>uq (λx O=>by rw[akY _ _ _ _ O,akZ]) p;unfold lq;rw[bB];have bm:∀k p,p<=i->bg 1000000 (lp v.1 w i c k p):=λk p hp=>by unfold lp;split;exact ad.akL aq hp;exact ad.Yd aq hp J
 refine st ?_;refine dN (L:=Nat) (λk=>k<=i) (λk=>⟨lq N l i b j (hH l i t F<|lp v.1 w i c<|k+1) [.a 95 true 1 Nat ur<|u::C,.c 60<|e7 v,.c 27<|cc<|jy w i k],9,[(0,.aL 6 1 0 (C.length+1)<|C.length+1),(3,.p 7 0),(4,.i .i64 (i:Int)),(7,.p 8 0),(8,.i .i64 ((k+1:Nat):Int))]⟩) (λk=>i-k) [0,1,2,3,4,5,6,7,8] 0 (dg _) (iR (show i-0<=600 by omega) apb) cb ?_;rintro(k:Nat) (E:k<=i);refine bf 51 ?_;by_cases ar:k<i
 .have ba:=ad.Ye E;have b':=lT ba oR;have ij:bg 2 ((k+1:Nat):Rat):=by have:=s7 (n:=((k+1:Nat):Int)) J J;rw[mW]at this;exact this
  have bt:bg 2 ((i-k:Nat):Rat):=by have:=s7 (n:=((i-k:Nat):Int)) J J;rw[mW]at this;exact this
  have bw:=lT b' ij;have bH:0<((i-k:Nat):Rat).num:=by
   have:=(MK ((i-k:Nat):Int)).1;rw[mW]at this;have G:(((i-k:Nat):Int):Rat)=((i-k:Nat):Rat):=rfl;rw[G]at this;omega
  refine v1 51 (show((k+1:Nat):Int)<=(i:Int) by omega) ?_;refine st ?_;refine cS XJ v ⟨hD,ay⟩ ?_;refine st ?_;refine cS mg (jy w i k,v.2-v.1) ⟨b0 ba,by rw[<-hw];exact b0 oR⟩ ?_;refine st ?_;refine cS jk ((k+1:Nat):Int) ⟨by show -9223372036854775808<=((k+1:Nat):Int);omega,by show((k+1:Nat):Int)<9223372036854775808;omega⟩ ?_;refine st ?_;refine cS mg (jy w i k*(v.2-v.1),jX ((k+1:Nat):Int)) ⟨by rw[<-hw];exact b0 b',by rw[mW];exact b0 ij⟩ ?_;refine bf 63 ?_;refine ww 63 ((i:Int)-((k+1:Nat):Int)) ?_;refine bf 64 ?_;refine ww 64 ((i-k:Nat):Int) ?_;refine st ?_;refine cS jk ((i-k:Nat):Int) ⟨by show -9223372036854775808<=((i-k:Nat):Int);omega,by show((i-k:Nat):Int)<9223372036854775808;omega⟩ ?_;refine cS XL (jy w i k*(v.2-v.1)*jX ((k+1:Nat):Int),jX ((i-k:Nat):Int)) ⟨by rw[<-hw,mW];exact b0 bw,by rw[mW];exact b0 bt,by rw[mW];exact bH⟩ ?_;refine a9 66 (bQ<|jy w i<|k+1) o (by show bQ (_/_)=_;rw[<-hw,mW,mW,akG ar];rfl) ?_;refine st ?_;refine mG ?_ (a3:=J);refine st ?_;refine rM (t+(k+1)*l) (ag (k+1) J) ?_;refine st ?_;refine ed (lp v.1 w i c (k+1)<|k+1) (ae (lp v.1 w i c<|k+1) (k+1) J) ?_;refine st ?_;refine cS mg (lp v.1 w i c (k+1)<|k+1,jy w i<|k+1) ⟨b0<|bm (k+1) (k+1) J,b0<|ad.Ye J⟩ ?_;refine st ?_;refine mG ?_ (a3:=J);refine st ?_;refine rM (t+(k+1)*l) (ag (k+1) J) ?_;refine st ?_;refine hi (lp v.1 w i c (k+1) (k+1)*jy w i (k+1)) (ae (lp v.1 w i c<|k+1) (k+1) J) ?_;refine bf 53 ?_;refine b5 53 ((k+1+1:Nat):Int) ?_;have s:(bW N<|hH l i t F<|lp v.1 w i c<|k+1).set (t+(k+1)*l) (lp v.1 w i c (k+1) (k+1)*jy w i (k+1))=bW N (hH l i t F<|lp v.1 w i c<|k+1+1):=by
   rw[uo];exact mh λp _=>(MY a' T J p).trans<|uq (λx O=>ak0 x) p
  rw[s];refine st ?_;exact bL [0,1,2,3,4,5,6,7,8] (k+1) ⟨by show i-(k+1)<i-k;omega,ar⟩ cb
 have ar:k=i:=J
 subst ar;refine v0 51 (show¬((k+1:Nat):Int)<=(k:Int) by omega) ?_;obtain⟨g,aJ⟩:∃g,g=kJ v.1 w k c:=dq;have bC:bW N (hH l k t F<|lp v.1 w k c<|k+1)=bW N (hH l k t F<|hT g k 0 k):=mh λp _=>uq (λx O=>by rw[ak1 O,aJ];unfold lp;rw[aA J]) p;unfold lq;rw[bC];have a8:∀r m p,r<k->p<=k->bg 1000000 (hT g k r m p):=λr m p aw hp=>by rw[aJ];exact ad.akM aq hp<|by split<;>omega
 refine st ?_;refine dN (L:=Nat) (λr=>r<=k) (λr=>⟨lq N l k b j (hH l k t F<|hT g k r<|k-r) [.a 95 true 1 Nat ur<|u::C,.c 60<|e7 v,.c 27<|cc<|jy w k k],9,[(0,.aL 6 1 0 (C.length+1)<|C.length+1),(3,.p 7 0),(4,.i .i64 (k:Int)),(9,.i .i64 ((k-r:Nat):Int))]⟩) (λr=>k-r) [0,1,2,3,4,5,6,7,8] 0 (dg _) (iR (show k-0<=600 by omega) apb) cb ?_;rintro(r:Nat) (aw:r<=k);refine bf 82 ?_;by_cases ai:r<k
 .refine v1 82 (show(0:Int)<((k-r:Nat):Int) by omega) ?_;refine st ?_;refine dN (L:=Nat) (λm=>k-r<=m/\m<=k+1) (λm=>⟨lq N l k b j (hH l k t F<|hT g k r m) [.a 95 true 1 Nat ur<|u::C,.c 60<|e7 v,.c 27<|cc<|jy w k k],9,[(0,.aL 6 1 0 (C.length+1)<|C.length+1),(3,.p 7 0),(4,.i .i64 (k:Int)),(9,.i .i64 ((k-r:Nat):Int)),(10,.i .i64 (m:Int))]⟩) (λm=>k+1-m) [0,1,2,3,4,5,6,7,8] (k-r) ⟨ct _,J⟩ (iR (show k+1-(k-r)<=600 by omega) apb) cb ?_;rintro(m:Nat) ⟨bE,bX⟩;refine bf 88 ?_;by_cases X:m<=k
  .refine v1 88 (show(m:Int)<=(k:Int) by omega) ?_;refine st ?_;refine mG ?_ (a3:=J);refine st ?_;refine rM (t+m*l) (ag m X) ?_;refine st ?_;refine ed (hT g k r m m) (ae (hT g k r m) m J) ?_;refine bf 103 ?_;refine ww 103 ((m-1:Nat):Int) ?_;refine st ?_;refine mG ?_ (a3:=J);refine st ?_;refine rM (t+(m-1)*l) (ag (m-1) J) ?_;refine st ?_;refine ed (hT g k r m<|m-1) (ae (hT g k r m) (m-1) J) ?_;refine st ?_;refine cS pN (hT g k r m m,hT g k r m<|m-1) ⟨b0<|a8 r m m ai X,b0<|a8 r m (m-1) ai J⟩ ?_;refine st ?_;refine mG ?_ (a3:=J);refine st ?_;refine rM (t+m*l) (ag m X) ?_;refine st ?_;refine hi (hT g k r m m+hT g k r m (m-1)) (ae (hT g k r m) m J) ?_;refine bf 90 ?_;refine b5 90 ((m+1:Nat):Int) ?_;have s:(bW N<|hH l k t F<|hT g k r m).set (t+m*l) (hT g k r m m+hT g k r m (m-1))=bW N (hH l k t F<|hT g k r<|m+1):=by
    rw[uo];exact mh λp _=>(MY a' T X p).trans<|uq (λx O=>ak3 ai bE X x) p
   rw[s];refine st ?_;exact bL [0,1,2,3,4,5,6,7,8] (m+1) ⟨by show k+1-(m+1)<k+1-m;omega,J,J⟩ cb
  .have X:m=k+1:=by omega
   subst X;refine v0 88 (show¬((k+1:Nat):Int)<=(k:Int) by omega) ?_;refine bf 84 ?_;refine b5 84 ((k-(r+1):Nat):Int) ?_;have s:bW N (hH l k t F<|hT g k r<|k+1)=bW N (hH l k t F<|hT g k (r+1)<|k-(r+1)):=mh λp _=>uq (λx O=>ak4 ai O) p;unfold lq;rw[s];refine st ?_;exact bL [0,1,2,3,4,5,6,7,8] (r+1) ⟨by show k-(r+1)<k-r;omega,ai⟩ cb
 have ai:r=k:=J
 subst ai;refine v0 82 (show¬(0:Int)<((r-r:Nat):Int) by omega) ?_;have s:bW N (hH l r t F<|hT g r r<|r-r)=bW N (kv l r v.1 w f<|t+1):=mh λp _=>by
  rw[akT a' T,<-U,<-ah];exact uq (λx O=>by rw[Ax,ak5 O,aJ];rfl) p
 unfold lq;rw[s];refine st ?_;refine bh ⟨.inl o,_,o,?_⟩;refine st ?_;refine bh ⟨.inl o,_,o,?_⟩;refine bf 39 ?_;refine b5 39 ((t+1:Nat):Int) ?_;refine st ?_;exact arS
def eQ(t:bT)(j:Nat):Nat:=((t.cF[j]?).getD 0).toNat
def eL(l:ac bT)(j:Nat):Nat:=l.foldl (λm t=>max m<|eQ t j) 0
def ak8(l:ac bT)(t:bT)(j:Nat):eL (l++[t]) j=max (eL l j) (eQ t j):=by unfold eL;rw[D4];rfl
theorem Yn{f:bT->Nat}:∀(l:ac bT) (a:Nat),a<=l.foldl (λm t=>max m<|f t) a/\∀t,t∈l->f t<=l.foldl (λm t=>max m<|f t) a
 |[],a=>⟨ct _,λt h=>by cases h⟩
 |x::l,a=>by
  obtain⟨aE,aK⟩:=Yn l<|max a<|f x;refine⟨cN (Nat.le_max_left _ _) aE,λt aN=>?_⟩;rcases fg.1 aN with rfl|aN
  .exact cN (Nat.le_max_right _ _) aE
  .exact aK t aN
theorem Yo{f:bT->Nat}{B:Nat}:∀(l:ac bT) (a:Nat),a<=B->(∀t,t∈l->f t<=B)->l.foldl (λm t=>max m<|f t) a<=B
 |[],a,h,_=>h
 |x::l,a,h,aK=>Yo l (max a<|f x) (Nat.max_le.2 ⟨h,aK x gT⟩) λt aN=>aK t<|e3 _ aN
def M1{l:ac bT}{t:bT}(h:t∈l)(j:Nat):eQ t j<=eL l j:=(Yn (f:=λt=>eQ t j) l 0).2 t h
theorem Yp:∀{l:ac Int} {m:Int},lo m l=true->∀k∈l,0<=k/\k<=m
 |[],_,_,k,h=>by cases h
 |x::l,m,h,k,aB=>by
  rw[XA,Ak]at h;have aE:=jD h.1;rcases fg.1 aB with rfl|aB
  .exact aE
  .have:=Yp h.2 k aB;omega
def zU{t:bT}(h:lo 16 t.cF=true)(a3:j<t.cF.length):t.cF[j]=(eQ t j:Int)/\eQ t j<=16:=by
 have:=Yp h _<|ha a3;unfold eQ;rw[ba a3];show t.cF[j]=((t.cF[j]).toNat:Int)/\(t.cF[j]).toNat<=16;omega
def ak9{t:bT}(h:lo 16 t.cF=true)(j:Nat):eQ t j<=16:=by
 by_cases f:j<t.cF.length
 .exact(zU h f).2
 .unfold eQ;rw[td J];exact dg _
def Hv{l:ac bT}(h:∀t,t∈l->lo 16 t.cF=true)(j:Nat):eL l j<=16:=Yo (f:=λt=>eQ t j) l 0 av λt aN=>ak9 (h t aN) j
theorem Yq{n:Nat}:∀{l:ac bT},rZ n l=0->∀t,t∈l->dO t.bY=0/\lo 16 t.cF=true/\t.cF.length=n
 |[],_,t,h=>by cases h
 |x::l,h,t,aN=>by
  unfold rZ at h;split at h
  .rename_i bS;rcases fg.1 aN with rfl|aN
   .unfold rY at bS;split at bS
    .rename_i he;split at bS
     .rename_i hp;exact⟨he,hp⟩
     .cases bS
    .rename_i he;exact absurd bS he
   .exact Yq h t aN
  .rename_i bS;exact absurd h bS
def xQ{l:ac bT}(h:ku n l=0):l.length<=200/\∀t,t∈l->dO t.bY=0/\lo 16 t.cF=true/\t.cF.length=n:=by
 unfold ku at h;split at h
 .cases h
 .exact⟨J,Yq h⟩
def dd(d:Nat->Nat):Nat->Nat
 |0=>1
 |k+1=>dd d k*(d k+1)
def kg(d:Nat->Nat):Nat->Nat
 |0=>0
 |k+1=>kg d k+d k
theorem M3(d:Nat->Nat):∀k,1+kg d k<=dd d k
 |0=>ct _
 |k+1=>by
  have h:=M3 d k;have:d k<=dd d k*d k:=DB _ J;simp only[dd,kg];rw[ki];omega
def CW(d:Nat->Nat)(k:Nat):0<dd d k:=by have:=M3 d k;omega
theorem M4(d:Nat->Nat)(k:Nat):∀j,dd d k∣dd d (k+j)
 |0=>Nat.dvd_refl _
 |j+1=>Nat.dvd_trans (M4 d k j)<|AI _ _
def M5(d:Nat->Nat)(h:k<=n):dd d k<=dd d n:=by
 obtain⟨j,rfl⟩:∃j,n=k+j:=⟨n-k,J⟩;exact Nat.le_of_dvd (CW d _)<|M4 d k j
theorem Yr(d:Nat->Nat){k:Nat}:∀{n:Nat},k<=n->kg d k<=kg d n
 |0,h=>by have:k=0:=by omega
          subst this;exact ct _
 |n+1,h=>by
  by_cases E:k=n+1
  .subst E;exact ct _
  .have:=Yr d (k:=k) (n:=n) J;simp only[kg];omega
def kx(d p:Nat->Nat):Nat->Nat
 |0=>0
 |k+1=>kx d p k*(d k+1)+p k
theorem M6{d p:Nat->Nat}:∀k,(∀j,j<k->p j<=d j)->kx d p k<dd d k
 |0,_=>by simp[kx,dd]
 |k+1,h=>by
  have aE:=M6 k λj f=>h j J;have G:=h k J;have C:=iZ (d k+1) (show kx d p k+1<=dd d k from aE);rw[fP,te]at C;simp only[kx,dd];omega
def iw(l:ac bT)(d:Nat->Nat)(n:Nat):Nat->Nat->Rat
 |0,_=>0
 |k+1,p=>match l[k]? with
  |some t=>if p=kx d (eQ t) n then iw l d n k p+eI t.bY else iw l d n k p
  |none=>iw l d n k p
def M7{l:ac bT}{t:bT}(h:l[k]? =some t)(p:Nat):iw l d n (k+1) p=if p=kx d (eQ t) n then iw l d n k p+eI t.bY else iw l d n k p:=by
 rw[iw,h]
def o4(b:ac fD)(d:Nat->Nat)(N:Nat)(f:Nat->Rat):Nat->Nat->Rat
 |0=>f
 |j+1=>qN (N/dd d (j+1)) (d j) ((b[j]?).getD (0,0)).1 (((b[j]?).getD (0,0)).2-((b[j]?).getD (0,0)).1)<|o4 b d N f j
def ala(k:Nat):∃z,z<=32*k/\∀n,dU k n->n<2^z:=⟨32*k,ct _,λn h=>by have:=ub h;rwa [show(4294967296:Nat)=2^32 from rfl,<-Nat.pow_mul]at this⟩
def Ys:∃z,z<=8000/\(∀n,dU 250 n->n<2^z)/\∀v:fD,bg 250 v.1->bg 250 v.2->∃q r,Fr q (2^z) v.1/\q<=2^z/\Fr r (2^(z+1)) (v.2-v.1)/\r<=2^(2*z):=by
 obtain⟨z,Y,G⟩:=ala 250;refine⟨z,Y,G,λv a b=>?_⟩;have eV:=mV (tg<|G _ a.1)<|MJ v.1;have Z:=mV (tg<|G _ b.1)<|MJ v.2;have ew:=tg<|G _ a.2;have S:=tg<|G _ b.2;refine⟨v.1.den,v.2.den*v.1.den,eV,ew,?_,?_⟩
 .have hp:0<v.2.den*v.1.den:=pq Z.1 eV.1;have:=akl (xO (AI _ _) hp Z)<|xO (Iz _ _) hp eV;rw[show 2^z+2^z=2^(z+1) by rw[hZ];omega]at this;exact this
 .rw[Nat.two_mul,nJ];exact po S ew
def lr(l:ac bT):Nat->Nat
 |0=>1
 |k+1=>match l[k]? with
  |some t=>lr l k*(eI t.bY).den
  |none=>lr l k
theorem Yt{z:Nat}(aH:∀n,dU 250 n->n<2^z)(l:ac bT)(d:Nat->Nat)(n:Nat):∀k,lr l k<=2^(z*k)/\0<lr l k/\∀p,Fr (lr l k) (k*2^z) (iw l d n k p)
 |0=>⟨by simp[lr],by simp[lr],λp=>by rw[iw,jC];exact akm<|by simp[lr]⟩
 |k+1=>by
  obtain⟨aE,aK,C⟩:=Yt aH l d n k;cases F:l[k]? with
  |none=>
   have U:lr l (k+1)=lr l k:=by rw[lr,F]
   refine⟨by rw[U];exact cN aE<|pS<|m4 z<|kB k,by rw[U];exact aK,λp=>?_⟩;rw[U,iw,F];exact mV (iZ _<|kB k) (C p)
  |some t=>
   have aa:=uj t.bY;have U:lr l (k+1)=lr l k*(eI t.bY).den:=by rw[lr,F]
   have hp:0<lr l k*(eI t.bY).den:=pq aK<|p4 (eI t.bY).den_nz;refine⟨?_,by rw[U];exact hp,λp=>?_⟩
   .rw[U,Nat.mul_succ,nJ];exact po aE<|tg<|aH _ aa.2
   .rw[U,M7 F];have W:=xO (AI _ (eI t.bY).den) hp<|C p;split
    .have O:=xO (Iz _<|lr l k) hp<|mV (tg<|aH _ aa.1)<|MJ<|eI t.bY;have:=Hm W O;rw[show k*2^z+2^z=(k+1)*2^z by rw[Nat.succ_mul]]at this;exact this
    .exact mV (iZ _<|kB k) W
def Yu{z:Nat}(aH:∀n,dU 250 n->n<2^z){l:ac bT}(aI:l.length<=200)(d:Nat->Nat)(n:Nat)(aB:k<=l.length)(p:Nat):Fr (lr l k) (2^(z+8)) (iw l d n k p)/\lr l k<2^(z*200+1):=by
 obtain⟨Y,G,C⟩:=Yt aH l d n k;refine⟨mV ?_ (C p),iR Y<|Iw av (by have:=m4 z (show k<=200 by omega);omega)⟩;rw[nJ,hK];exact m4 _<|by show k<=256;omega
def Yv(a3:j<n):dd d n=dd d j*((d j+1)*(dd d n/dd d (j+1)))/\0<dd d n/dd d (j+1):=by
 have Y:dd d (j+1)∣dd d n:=by
  obtain⟨i,rfl⟩:∃i,n=(j+1)+i:=⟨n-(j+1),J⟩;exact M4 d (j+1) i
 refine⟨?_,DX (M5 d J)<|CW d _⟩;rw[<-Nat.mul_assoc];exact(Nat.mul_div_cancel' Y).symm
theorem M8{z:Nat}(aH:z<=8000)(E:∀v:fD,bg 250 v.1->bg 250 v.2->∃q r,Fr q (2^z) v.1/\q<=2^z/\Fr r (2^(z+1)) (v.2-v.1)/\r<=2^(2*z)){b:ac fD}(aa:∀v,v∈b->bg 250 v.1/\bg 250 v.2){d:Nat->Nat}{n:Nat}(S:∀j,d j<=16){f:Nat->Rat}{tK uu CX:Nat}
 (D:∀p,p<dd d n->Fr CX (2^uu) (f p)) (hQ:CX<2^tK):∀j,j<=n->∃M,M<2^(tK+25000*kg d j)/\∀p,p<dd d n->Fr M (2^(uu+16100*kg d j)) (o4 b d (dd d n) f j p)
 |0,_=>⟨CX,by simpa[kg]using hQ,λp hp=>by simpa[kg,o4]using D p hp⟩
 |j+1,a3=>by
  obtain⟨M,aE,aK⟩:=M8 aH E aa S D hQ j J;obtain⟨U,T⟩:=Yv (d:=d) (n:=n) (j:=j) J;obtain⟨v,Z⟩:∃v,v=(b[j]?).getD (0,0):=dq;have R:bg 250 v.1/\bg 250 v.2:=by
   rw[Z];cases F:b[j]? with
   |none=>exact⟨b0<|pO 0 av av,b0<|pO 0 av av⟩
   |some u=>exact aa u<|fQ F
  obtain⟨q,r,m,h,bj,dj⟩:=E v R.1 R.2;have key:∀p,p<dd d n->iO z (tK+25000*kg d j) (uu+16100*kg d j) M (d j) (λi=>o4 b d (dd d n) f j<|p-p/(dd d n/dd d (j+1))%(d j+1)*(dd d n/dd d (j+1))+i*(dd d n/dd d (j+1))) v.1 (v.2-v.1) q r:=λp hp=>
   ⟨aH,S j,λi af=>aK _ (by
    have l:p-p/(dd d n/dd d (j+1))%(d j+1)*(dd d n/dd d (j+1))<dd d j*((d j+1)*(dd d n/dd d (j+1))):=iR (Nat.sub_le _ _) (by rw[<-U];exact hp);have B:=Hu T (Yl T) af l;rw[<-U]at B;exact B),aE,m,h,bj,dj⟩
  refine⟨xP M q r<|d j,?_,λp hp=>?_⟩
  .have:=(key 0<|CW d n).eW;refine r8 this<|pS ?_;simp only[kg];omega
  .have:=(key p hp).EO (p:=p/(dd d n/dd d (j+1))%(d j+1)) Yj;show Fr _ _ (qN _ _ _ _ _ p);rw[<-Z];refine mV (pS ?_) this;simp only[kg];omega
def vT(l:ac c8):Prop:=l.length<=1048576/\∀s,s∈l->s.1.length<=1048576/\s.2.length<=1048576
def kX(l:ac bT)(x:ac c8):Int:=if g6 x=0 then if ku x.length l=0 then if 600<dd (eL l) x.length then 3 else 0 else ku x.length l else g6 x
def mi(l:ac bT)(x:ac c8):ac Nat:=if kX l x=0 then bW x.length (eL l)else[]
def gI(l:ac bT)(x:ac c8):Nat->Rat:=o4 (iq x) (eL l) (dd (eL l) x.length) (iw l (eL l) x.length l.length) x.length
def uv(l:ac bT)(x:ac c8):ac Rat:=if kX l x=0 then bW (dd (eL l) x.length) (gI l x)else[]
def Yw:da where
 L:=ac bT×ac c8
 args:=λ(l,x)=>[.b8 2 bT ef l,.b8 2 c8 hG x]
 pre:=λ(l,x)=>o1 l/\vT x
 res:=λ(l,x)=>.br [.bs 1 Nat fL<|mi l x,.bs 3 Rat cc<|uv l x,.i .i64<|kX l x]
def alb{z:Nat}{b:ai}{m:Nat}(h:m=n):xt k z m b [.aL k z 0 n n]=[b]:=by
 subst h;show(match Nat.beq k k&&(Nat.beq z z&&(Nat.beq 0 0&&(Nat.beq m m&&Nat.beq m m)))with|true=>b|false=>ai.aL k z 0 m m)::_=_;simp only[kA];rfl
def M9{l:ac bT}{x:ac c8}{e:Int}(h:kX l x=e)(bS:e≠0):bX (.br [.nl,.nl,.i .i64 e]) (Yw.res (l,x)):=bX.trans (b:=.br [.bs 1 Nat fL [],.bs 3 Rat cc [],.i .i64 e]) (.br ⟨bX.nl,bX.nl,.refl _,aP⟩) (.of<|by show _=ai.br [.bs 1 Nat fL<|mi l x,.bs 3 Rat cc<|uv l x,.i .i64<|kX l x];unfold mi uv;rw[h,au bS,au bS])
def Yx(s:c8):bg 250 (fr s).1/\bg 250 (fr s).2:=by
 have z:bg 250 (0:Rat):=b0<|pO 0 av av;unfold fr zJ;split
 .split
  .split
   .exact⟨z,z⟩
   .exact⟨uj _,uj _⟩
  .exact⟨z,z⟩
 .exact⟨z,z⟩
def Na{x:ac c8}:∀v,v∈iq x->bg 250 v.1/\bg 250 v.2:=λv Z=>by
 unfold iq at Z;split at Z
 .obtain⟨s,_,rfl⟩:=db.1 Z;exact Yx s
 .cases Z
def Yy{x:ac c8}(h:g6 x=0):(iq x).length=x.length:=by unfold iq;rw[aA h,hV]
def mj(l:ac bT)(k j i:Nat):Nat:=if i<j then eL (l.take<|k+1) i else eL (l.take k) i
def Hw:b4 6 Yw:=by
 refine cJ [Xw,Hh,s5,pN,Ym] fa.1 ?_;intro⟨l,x⟩ ⟨⟨(bC:l.length<=1048576),(aV:∀t,t∈l->t.bY.length<=1048576/\t.cF.length<=1048576)⟩,⟨(aG:x.length<=1048576),(a4:∀s,s∈x->s.1.length<=1048576/\s.2.length<=1048576)⟩⟩ H ax;have bO:=CP x;refine st ?_;refine bn Xw x ⟨aG,a4⟩ ?_;refine bf 32 ?_;by_cases aa:g6 x=0
 case neg=>
  have e:kX l x=g6 x:=au aa;refine v0 32 aa ?_;refine bf 38 ?_;refine v1 38 aa ?_;refine st ?_;exact bh<|dc o o<|M9 e aa
 refine v1 32 aa ?_;refine st ?_;refine bn Hh (l,x.length) ⟨⟨bC,aV⟩,aG⟩ ?_;refine bf 38 ?_;by_cases aN:ku x.length l=0
 case neg=>
  have e:kX l x=ku x.length l:=(aA aa).trans<|au aN;refine v1 38 aN ?_;refine st ?_;exact bh<|dc o o<|M9 e aN
 refine v0 38 (hY aN) ?_;obtain⟨bE,Q⟩:=xQ aN;obtain⟨n,aj⟩:∃n,n=x.length:=dq;rw[<-aj]at Q aG;have aJ:=Yy aa;rw[<-aj]at aJ;obtain⟨b,ao⟩:∃b,b=iq x:=dq;have aU:∀v,v∈b->bg 250 v.1/\bg 250 v.2:=λv Z=>Na v (by rw[<-ao];exact Z);rw[<-ao]at aJ;have aY:∀{k:Nat} (ae:k<l.length),l[k].cF.length=n/\lo 16 l[k].cF=true/\dO l[k].bY=0:=λae=>⟨(Q _<|ha ae).2.2,(Q _<|ha ae).2.1,(Q _<|ha ae).1⟩;refine bf 41 ?_;refine a9 41 (.i .i64 (n:Int)) o (by rw[aj]) ?_;refine st ?_;refine pG fL 0 ?_;have b':List.replicate n 0=bW n (mj l 0 0):=by rw[akE];exact mh λi _=>by unfold mj eL;rw[au J];rfl
 rw[b'];refine st ?_;refine dN (L:=Nat) (λk=>k<=l.length) (λk=>⟨[.c 34 [.nl],.c 85 [.bs 6 fD e7 b],.a 3 false 1 Nat fL<|bW n<|mj l k 0],3,[(0,.b8 2 bT ef l),(4,.aL 2 1 0 n n),(5,.p 0 0),(7,.p 1 0),(43,.b8 2 bT ef l),(44,.i .i64 (l.length:Int)),(45,.i .i64 (k:Int))]⟩) (λk=>l.length-k) [0,1,2] 0 (dg _) aoT (by rw[ao];exact cb) ?_;rintro(k:Nat) (ae:k<=l.length);refine bf 46 ?_;by_cases aT:k<l.length
 .have bw:l≠[]:=ne_of_lt aT;obtain⟨W,u,al⟩:=aY aT;obtain⟨t,ah⟩:∃t,t=l[k]:=dq;rw[<-ah]at W u al;have bJ:l.take (k+1)=l.take k++[t]:=by rw[ah];exact(List.take_append_getElem aT).symm
  refine v1 46 aoQ ?_;refine fI 43 (.bs 2 bT ef l) o (.iH bw) ?_;refine st ?_;refine hh t (by rw[ah];exact ba aT) ?_;refine bf 51 ?_;refine a9 51 (.i .i64 (n:Int)) o (by rw[W]) ?_;refine st ?_;refine dN (L:=Nat) (λj=>j<=n) (λj=>⟨[.c 34 [.nl],.c 85 [.bs 6 fD e7 b],.a 3 false 1 Nat fL<|bW n<|mj l k j,.c 90<|ef t],4,[(0,.b8 2 bT ef l),(4,.aL 2 1 0 n n),(5,.p 0 0),(7,.p 1 0),(43,.bs 2 bT ef l),(44,.i .i64 (l.length:Int)),(45,.i .i64 (k:Int)),(50,.b8 1 Int h9 t.cF),(51,.i .i64 (n:Int)),(52,.i .i64 (j:Int))]⟩) (λj=>n-j) [0,1,2,3] 0 (dg _) aq7 cb ?_;rintro(j:Nat) (ad:j<=n);refine bf 53 ?_;by_cases m:j<n
  .have a':j<t.cF.length:=by omega
   obtain⟨aD,a5⟩:=zU u a';refine v1 53 (show(j:Int)<(n:Int) by omega) ?_;refine fI 50 (.bs 1 Int h9 t.cF) o (.iH<|ne_of_lt a') ?_;refine st ?_;refine hh t.cF[j] (ba a') ?_;refine st ?_;refine pF ?_;refine st ?_;refine n2 (mj l k j j) (iN (n:=n) (i:=j) (mj l k j) m) ?_;refine bf 64 ?_;refine a9 64 (.i .i64 ((max (mj l k j j) (eQ t j):Nat):Int)) o (by rw[aD];exact congrArg (ai.i .i64)<|akv _ _) ?_;refine st ?_;refine pF ?_;refine st ?_;refine mc (max (mj l k j j)<|eQ t j) ?_ (a3:=by rw[iv];exact m);have ak:(bW n<|mj l k j).set j (max (mj l k j j)<|eQ t j)=bW n (mj l k<|j+1):=by
    rw[uo];refine mh λi af=>?_;by_cases O:i=j
    .subst O;rw[aA o];unfold mj;rw[au J,aA J,bJ,ak8]
    .rw[au O];unfold mj;by_cases Y:i<j
     .rw[aA Y,aA J]
     .rw[au Y,au J]
   rw[ak];refine fI 50 (.b8 1 Int h9 t.cF) rfl .b8 ?_;refine bf 66 ?_;refine b5 66 ((j+1:Nat):Int) ?_;refine st ?_;exact bL [0,1,2,3] (j+1) ⟨by show n-(j+1)<n-j;omega,m⟩ cb
  .have m:j=n:=by omega
   subst m;refine v0 53 arW ?_;refine bf 67 ?_;refine b5 67 ((k+1:Nat):Int) ?_;have ak:bW j (mj l k j)=bW j (mj l (k+1) 0):=mh λi af=>by unfold mj;rw[aA af,au J]
   rw[ak];refine fI 43 (.b8 2 bT ef l) rfl .b8 ?_;refine st ?_;exact bL [0,1,2] (k+1) ⟨by show l.length-(k+1)<l.length-k;omega,aT⟩ cb
 have bG:k=l.length:=J
 subst bG;refine v0 46 aoY ?_;obtain⟨d,S⟩:∃d,d=eL l:=dq;have U:bW n (mj l l.length 0)=bW n d:=mh λi af=>by unfold mj;rw[au J,nG,S]
 have aw:∀j,d j<=16:=λj=>by rw[S];exact Hv (λt aN=>(Q t aN).2.1) j
 rw[U];refine st ?_;refine dN (L:=Nat) (λk=>k<=n/\dd d k<=600) (λk=>⟨[.c 34 [.nl],.c 85 [.bs 6 fD e7 b],.a 3 false 1 Nat fL<|bW n d],3,[(0,.b8 2 bT ef l),(4,.aL 2 1 0 n n),(5,.p 0 0),(7,.p 1 0),(12,.i .i64 (dd d k:Nat)),(68,.aL 2 1 0 n n),(69,.i .i64 (n:Int)),(70,.i .i64 (k:Int))]⟩) (λk=>n-k) [0,1,2] 0 ⟨dg _,by simp[dd]⟩ aq7 cb ?_;rintro(k:Nat) ⟨ae,aq⟩;refine bf 71 ?_;by_cases D:k<n
 .have bM:=aw k;have bp:dd d k*(d k+1)<=600*17:=po aq J;refine v1 71 (show(k:Int)<(n:Int) by omega) ?_;refine st ?_;refine pF ?_;refine st ?_;refine n2 (d k) (iN (n:=n) (i:=k) d D) ?_;refine bf 76 ?_;refine b5 76 ((d k+1:Nat):Int) ?_;refine bf 77 ?_;refine b5 77 ((dd d (k+1):Nat):Int) ?_ (h:=by rw[<-Int.natCast_mul];rfl) (aE:=by rw[<-Int.natCast_mul];omega) (aK:=by rw[<-Int.natCast_mul];omega);refine bf 79 ?_;by_cases B:600<dd d (k+1)
  .have e:kX l x=3:=(aA aa).trans<|(aA aN).trans (aA<|by rw[<-aj,<-S];exact r8 B<|M5 d D);refine v1 79 (show(600:Int)<((dd d (k+1):Nat):Int) by omega) ?_;refine st ?_;exact bh<|dc o o<|M9 e av
  .refine v0 79 (show¬(600:Int)<((dd d (k+1):Nat):Int) by omega) ?_;refine bf 80 ?_;refine b5 80 ((k+1:Nat):Int) ?_;refine st ?_;exact bL [0,1,2] (k+1) ⟨by show n-(k+1)<n-k;omega,D,J⟩ cb
 have D:k=n:=J
 subst D;have dW:kX l x=0:=(aA aa).trans<|(aA aN).trans (au<|by rw[<-aj,<-S];omega);refine v0 71 (show¬(k:Int)<(k:Int) by omega) ?_;obtain⟨N,dY⟩:∃N,N=dd d k:=dq;rw[<-dY]at aq⊢;refine st ?_;refine pG (λ_:Unit=>[.b false,.nl,.nl]) () ?_;refine Li 3 cc (bW N<|iw l d k 0) ?_ (by rw[iv,nF]) (λi x y _ a7=>by rw[(MU a7).2,iw];exact MV) (aB:=o);refine st ?_;have bF:∀{i:Nat} (af:i<l.length),kx d (eQ l[i]) k<N:=λaf=>by rw[dY];exact M6 k λj _=>by rw[S];exact M1 (ha af) j
 obtain⟨z,aR,aH,a1⟩:=Ys;have ar:=λi (af:i<=l.length) p=>Yu aH bE d k af p;have a2:∀i p,i<=l.length->bg 60001 (iw l d k i p):=λi p af=>zQ (ar i af p).1 (ar i af p).2 (ct _) J;refine dN (L:=Nat) (λi=>i<=l.length) (λi=>⟨[.c 34 [.aL 3 3 0 N N],.c 85 [.bs 6 fD e7 b],.a 3 false 1 Nat fL<|bW k d,.a 27 false 3 Rat cc<|bW N<|iw l d k i],4,[(4,.aL 2 1 0 k k),(5,.p 0 0),(7,.p 1 0),(12,.i .i64 (N:Nat)),(83,.b8 2 bT ef l),(84,.i .i64 (l.length:Int)),(85,.i .i64 (i:Int))]⟩) (λi=>l.length-i) [0,1,2,3] 0 (dg _) aoT cb ?_;rintro(i:Nat) (af:i<=l.length);refine bf 86 ?_;by_cases X:i<l.length
 .obtain⟨W,u,al⟩:=aY X;have aI:=bF X;have aZ:=(aV _<|ha X).1;obtain⟨t,ah⟩:∃t,t=l[i]:=dq;rw[<-ah]at W u al aI aZ;have F:l[i]? =some t:=by rw[ah];exact ba X
  have bH:∀j,j<=k->kx d (eQ t) j<=600:=λj ad=>by
   have Y:=M6 (d:=d) (p:=eQ t) j (λa _=>by rw[S];exact M1 (fQ F) a);have G:=M5 d ad;omega
  refine v1 86 (show(i:Int)<(l.length:Int) by omega) ?_;refine fI 83 (.bs 2 bT ef l) o (.iH<|ne_of_lt X) ?_;refine st ?_;refine hh t F ?_;refine bf 91 ?_;refine a9 91 (.i .i64 (k:Int)) o (by rw[W]) ?_;refine st ?_;refine dN (L:=Nat) (λj=>j<=k) (λj=>⟨[.c 34 [.aL 3 3 0 N N],.c 85 [.bs 6 fD e7 b],.a 3 false 1 Nat fL<|bW k d,.a 27 false 3 Rat cc<|bW N<|iw l d k i,.c 90<|ef t],5,[(4,.aL 2 1 0 k k),(5,.p 0 0),(7,.p 1 0),(12,.i .i64 (N:Nat)),(83,.bs 2 bT ef l),(84,.i .i64 (l.length:Int)),(85,.i .i64 (i:Int)),(16,.p 4 0),(17,.i .i64 ((kx d (eQ t) j:Nat):Int)),(90,.b8 1 Int h9 t.cF),(91,.i .i64 (k:Int)),(92,.i .i64 (j:Int))]⟩) (λj=>k-j) [0,1,2,3,4] 0 (dg _) aq8 cb ?_;rintro(j:Nat) (ad:j<=k);refine bf 93 ?_;by_cases m:j<k
  .have a':j<t.cF.length:=by omega
   obtain⟨aD,a5⟩:=zU u a';have C:=aw j;have O:=bH j ad;have bp:kx d (eQ t) j*(d j+1)<=600*17:=po O J;refine v1 93 (show(j:Int)<(k:Int) by omega) ?_;refine fI 90 (.bs 1 Int h9 t.cF) o (.iH<|ne_of_lt a') ?_;refine st ?_;refine hh t.cF[j] (ba a') ?_;refine bf 96 ?_;refine vx 96 ((eQ t j:Nat):Int) ?_ (h:=aD);refine st ?_;refine pF ?_;refine st ?_;refine n2 (d j) (iN (n:=k) (i:=j) d m) ?_;refine bf 102 ?_;refine b5 102 ((d j+1:Nat):Int) ?_;refine bf 103 ?_;refine b5 103 ((kx d (eQ t) j*(d j+1):Nat):Int) ?_ (h:=by rw[<-Int.natCast_mul]) (aE:=by rw[<-Int.natCast_mul];omega) (aK:=by rw[<-Int.natCast_mul];omega);refine bf 105 ?_;refine b5 105 ((kx d (eQ t) (j+1):Nat):Int) ?_ (h:=by rw[<-Int.natCast_add];rfl) (aE:=by rw[<-Int.natCast_add];omega) (aK:=by rw[<-Int.natCast_add];omega);refine fI 90 (.b8 1 Int h9 t.cF) rfl .b8 ?_;refine bf 106 ?_;refine b5 106 ((j+1:Nat):Int) ?_;refine st ?_;exact bL [0,1,2,3,4] (j+1) ⟨by show k-(j+1)<k-j;omega,m⟩ cb
  have m:j=k:=J
  subst m;refine v0 93 arW ?_;refine st ?_;refine bn s5 t.bY aZ ?_;refine a9 110 (.br [bQ<|eI t.bY,.i .i64 0]) o (by show nu t.bY=_;unfold nu;rw[al]) ?_;refine st ?_;refine mG ?_;refine st ?_;refine ed (iw l d j i<|kx d (eQ t) j) (iN (n:=N) (iw l d j i) aI) ?_;refine st ?_;refine cS pN (iw l d j i<|kx d (eQ t) j,eI t.bY) ⟨b0<|a2 i _ af,b0<|uj t.bY⟩ ?_;refine st ?_;refine mG ?_;refine st ?_;refine hi (a:=bQ<|iw l d j i (kx d (eQ t) j)+eI t.bY) (iw l d j i (kx d (eQ t) j)+eI t.bY) (iN (n:=N) (iw l d j i) aI) ?_;refine bf 122 ?_;refine b5 122 ((i+1:Nat):Int) ?_;have ak:(bW N<|iw l d j i).set (kx d (eQ t) j) (iw l d j i (kx d (eQ t) j)+eI t.bY)=bW N (iw l d j<|i+1):=by
   rw[uo];refine mh λp _=>?_;rw[M7 F];by_cases hp:p=kx d (eQ t) j
   .rw[aA hp,aA hp,hp]
   .rw[au hp,au hp]
  rw[ak];refine fI 83 (.b8 2 bT ef l) rfl .b8 ?_;refine st ?_;exact bL [0,1,2,3] (i+1) ⟨by show l.length-(i+1)<l.length-i;omega,X⟩ cb
 have X:i=l.length:=J
 subst X;refine v0 86 aoY ?_;obtain⟨f0,aO⟩:∃f0,f0=iw l d k l.length:=dq;have aX:=M8 (z:=z) aR a1 aU (n:=k) aw (f:=f0) (tK:=z*200+1) (uu:=z+8) (CX:=lr l l.length) (λp _=>by rw[aO];exact(ar _ (ct _) p).1) (ar _ (ct _) 0).2;rw[<-dY]at aX;have bq:=M3 d k;rw[<-dY]at bq;rw[<-aO];have bt:N/dd d 0=N:=yc N;refine st ?_;refine dN (L:=Nat) (λj=>j<=k) (λj=>⟨[.c 34 [.aL 3 3 0 N N],.c 85 [.bs 6 fD e7 b],.a 3 false 1 Nat fL<|bW k d,.a 27 false 3 Rat cc<|bW N<|o4 b d N f0 j,.c 3 [.i .i64 ((N/dd d j:Nat):Int)]],5,[(4,.aL 2 1 0 k k),(5,.p 0 0),(7,.p 1 0),(22,.p 4 0),(124,.aL 2 1 0 k k),(125,.i .i64 (k:Int)),(126,.i .i64 (j:Int))]⟩) (λj=>k-j) [0,1,2,3,4] 0 (dg _) aq8 (by rw[bt];exact cb) ?_;rintro(j:Nat) (ad:j<=k);by_cases E:j<k
 .have C:=aw j;obtain⟨T,aW⟩:=Yv (d:=d) E;rw[<-dY]at T aW;have hle:N/dd d j<=N:=mr _ _;have bb:N/dd d j/(d j+1)=N/dd d (j+1):=ya _ _ _;have ay:j<b.length:=by rw[aJ];exact E
  obtain⟨M,bj,bm⟩:=aX j ad;have R:=aU _<|ha ay;obtain⟨q,r,bx,cW,bA,bD⟩:=a1 b[j] R.1 R.2;have bN:kg d j+d j<=599:=by have:=Yr d (show j+1<=k from E);simp only[kg]at this;omega
  refine bf 127 ?_;refine v1 127 (show(j:Int)<(k:Int) by omega) ?_;refine st ?_;refine pF ?_;refine st ?_;refine n2 (d j) (iN (n:=k) (i:=j) d E) ?_;refine bf 133 ?_;refine b5 133 ((d j+1:Nat):Int) ?_;refine bf 134 ?_;have Z:((N/dd d j:Nat):Int).tdiv ((d j+1:Nat):Int)=((N/dd d (j+1):Nat):Int):=by rw[<-bb];rfl
  have bR:N/dd d (j+1)<=600:=cN (mr _ _) aq;refine b5 134 ((N/dd d (j+1):Nat):Int) ?_ (h:=Z) (aE:=by rw[Z];omega) (aK:=by rw[Z];omega);refine st ?_;refine afm Ym [0,4,6,3,1,5] ⟨N,dd d j,N/dd d (j+1),d j,b,j,b[j],o4 b d N f0 j,z*200+1+25000*kg d j,z+8+16100*kg d j,M,q,r,z⟩ ⟨T,aq,aW,ba ay,by show b.length<=_;omega,C,bm,bj,aR,bx,cW,bA,bD,R.1,R.2,by show z*200+1+25000*kg d j+(z+8+16100*kg d j)+50000*d j<=31000000;omega⟩ ?_ cb (afk (bk:=[.c 34 [.aL 3 3 0 N N],.c 85 [.bs 6 fD e7 b],.a 3 false 1 Nat fL<|bW k d,.a 27 false 3 Rat cc<|bW N<|o4 b d N f0<|j+1,.c 3 [.i .i64 ((N/dd d (j+1):Nat):Int)],.c 3 [.i .i64 (j:Int)],.c 3 [.i .i64 (d j:Int)]]) (λi af aj=>by
   match i,af,aj with
   |0,_,aj=>exact ar4
   |1,_,aj=>exact ar4
   |2,_,_=>rfl
   |3,_,aj=>exact ar4
   |4,_,aj=>exact ar4
   |5,_,aj=>exact ar4
   |6,_,aj=>exact ar4
   |i+7,af,_=>exact absurd af<|by show¬i+7<7;omega) (aK:=by
   have bB:o4 b d N f0 (j+1)=qN (N/dd d (j+1)) (d j) b[j].1 (b[j].2-b[j].1) (o4 b d N f0 j):=by rw[o4,ba ay];rfl
   rw[bB];exact⟨fJ,fJ,fJ,jU,fJ,fJ,aP⟩))
  refine bf 139 ?_;refine b5 139 ((j+1:Nat):Int) ?_;refine st ?_;exact bL [0,1,2,3,4] (j+1) ⟨by show k-(j+1)<k-j;omega,E⟩ cb
 have E:j=k:=J
 subst E;refine Gb 4 ?_ (aj:=iv _ _);refine bf 127 ?_;refine v0 127 arW ?_;refine La 0 3 (dP:=[.bs 3 Rat cc<|bW N<|o4 b d N f0 j]) ?_ (bK:=by exact alb<|iv _ _);refine st ?_;exact bh<|dc o o (.of<|by show _=ai.br [.bs 1 Nat fL<|mi l x,.bs 3 Rat cc<|uv l x,.i .i64<|kX l x];unfold mi uv gI;rw[dW,aA o,aA o,<-aj,<-S,<-ao,<-dY,<-aO])
def s8(a:Rat):Nat->Nat->Rat
 |0=>λ_=>1
 |i+1=>gv (s8 a i) (-a) 1<|i+1
def s9(a b:Rat)(i:Nat):Nat->Nat->Rat
 |0=>s8 a i
 |j+1=>gv (s9 a b i j) b (-1)<|i+j+1
theorem Yz{K:Nat}{f:Nat->Rat}{a b:Rat}(D:∀i,i<n->bg K (f i))(bK:bg 1000 a)(aa:bg 1000 b)(j:Nat):bg (2*K+2001) (gv f a b n j):=by
 have z:bg 2 (0:Rat):=pO 0 av av;have l:j<=n->bg (K+1000+2) (kW f b j):=λaf=>by
  unfold kW;split
  .exact b0 (lT (D _ J) aa) J
  .exact b0 z J
 unfold gv;split
 .rename_i h;have Y:bg (K+1000+(K+1000)+1) (kW f b j+f j*a):=by
   unfold kW;split
   .exact s0 (lT (D _ J) aa)<|lT (D _ h) bK
   .have e:(0:Rat)+f j*a=f j*a:=by grind
    rw[e];exact b0 (lT (D _ h) bK) J
  exact b0 Y J
 .split
  .exact b0 (l J) J
  .exact b0 z J
theorem YA{a:Rat}(bK:bg 1000 (-a)):∀i j,bg (4000*2^i-2001) (s8 a i j)
 |0,j=>b0 (pO 1 av av)
 |i+1,j=>by
  have h:=Yz (n:=i+1) (λj _=>YA bK i j) bK (b0<|pO 1 av av) j (b:=1);have:1<=2^i:=D5;exact b0 h<|by rw[hZ];omega
theorem YB{a b:Rat}(bK:bg 1000 (-a))(aa:bg 1000 b)(i:Nat):∀j k,bg (4000*2^(i+j)-2001) (s9 a b i j k)
 |0,k=>YA bK i k
 |j+1,k=>by
  have h:=Yz (n:=i+j+1) (λk _=>YB bK aa i j k) aa (b0<|pO (-1) av av) k (b:= -1);have:1<=2^(i+j):=D5;exact b0 h<|by rw[show i+(j+1)=(i+j)+1 by omega,hZ];omega
def Hx(x gQ m:Nat)(c:Rat):bT:=⟨gu c,(List.replicate gQ (0:Int)).set x (m:Int)⟩
def nx(x gQ:Nat)(f:Nat->Rat):Nat->ac bT
 |0=>[]
 |m+1=>if(f m).num=0 then nx x gQ f m else nx x gQ f m++[Hx x gQ m<|f m]
def lu(f:Nat->Rat):Nat->Bool
 |0=>true
 |m+1=>if(f m).num=0 then lu f m else lu f m&& !gj (f m)
structure fm where
 c:Rat
 n:Nat
 k:Nat
 a:fD
 x:Nat
 gQ:Nat
def fm.co(l:fm):Rat:=l.c/(l.a.2-l.a.1)^l.n*(bF l.n l.k:Rat)
def fm.f(l:fm):Nat->Rat:=s9 l.a.1 l.a.2 (l.k/2)<|(l.n-l.k)/2
def fm.m(l:fm):Nat:=l.k/2+(l.n-l.k)/2+1
def fm.eE(l:fm):dV:=⟨gu l.co,if l.k%2=1 then(l.x:Int)else -1,nx l.x l.gQ l.f l.m⟩
def fm.ok(l:fm):Bool:= !gj l.co&&lu l.f l.m
structure alc(l:fm):Prop where
 c:bg 4000000 l.c
 n:l.n<=17
 k:l.k<=l.n
 eV:bg 250 l.a.1
 ew:bg 250 l.a.2
 lt:l.a.1<l.a.2
 x:l.x<l.gQ
 gQ:l.gQ<=1048576
def ald{b:Nat}{x y:Rat}(aE:bg a x)(aK:bg b y)(h:0<y.num):bg (a+b) (x/y):=by
 rw[<-Hp h];exact n9 (by rw[wq];exact jZ aE.1 aK.2) (jZ aE.2 aK.1)<|uT x.den_nz J
def ale(h:n<9223372036854775808):bg 2 ((n:Nat):Rat):=by have:=s7 (n:=(n:Int)) J J;rw[mW]at this;exact this
def alf{x:Rat}(h:0<x):0<x.num:=by
 have Y:=IA.2<|Rat.le_of_lt h;have G:x.num≠0:=λe=>by rw[D7.1 e]at h;exact Rat.lt_irrefl h
 omega
def alg:da where
 L:=fm
 args:=λl=>[bQ l.c,.i .i64 (l.n:Int),.i .i64 (l.k:Int),.agg<|e7 l.a,.i .i64 (l.x:Int),.i .i64 (l.gQ:Int)]
 pre:=alc
 res:=λl=>.br [.agg<|fC l.eE,.b l.ok]
 hp:=im
 hm:=im.up
def xR(n:Nat)(f:Nat->Rat):ai:=.bs 3 Rat cc<|bW n f
def alh{z:Nat}{b:ai}{x:ac ci}{y:Int}:xt k z n b [.s x,.i .i64 y,.aL k z 0 n n]=[.s x,.i .i64 y,b]:=by
 show ai.s x::ai.i .i64 y::(match Nat.beq k k&&(Nat.beq z z&&(Nat.beq 0 0&&(Nat.beq n n&&Nat.beq n n)))with|true=>b|false=>ai.aL k z 0 n n)::_=_;simp only[kA];rfl
def ali(co:Rat)(a:fD)(o:Int)(x gQ m:Nat)(f:Nat->Rat)(i:Nat):ac bT->cg
 |[]=>⟨[.c 27<|cc co,.c 60<|e7 a,.c 72 [.s [],.i .i64 0,.nl],.c 72 [.s<|gu co,.i .i64 o,.nl]],4,[(4,.i .i64 (x:Int)),(5,.i .i64 (gQ:Int)),(12,.p 2 0),(17,.p 3 0),(18,.b<|!gj co&&lu f i),(87,xR m f),(88,.i .i64 (m:Int)),(89,.i .i64 (i:Int))]⟩
 |t::aF=>⟨[.c 27<|cc co,.c 60<|e7 a,.c 72 [.s [],.i .i64 0,.nl],.c 72 [.s<|gu co,.i .i64 o,.aL 4 2 0 (aF.length+1)<|aF.length+1],.a 90 true 2 bT ef<|t::aF],5,[(4,.i .i64 (x:Int)),(5,.i .i64 (gQ:Int)),(12,.p 2 0),(17,.p 3 0),(18,.b<|!gj co&&lu f i),(87,xR m f),(88,.i .i64 (m:Int)),(89,.i .i64 (i:Int))]⟩
theorem Nb:b4 21 alg:=by
 refine mM [CS,CT,oW,Ht,MM,jk,mg,zC,CU,GR,MW,kU] TN.1 ?_;intro⟨c,n,k,a,x,gQ⟩ Y H ax C;have ah:=Y.c;have aj:=Y.n;have E:=Y.k;have ae:=Y.eV;have ao:=Y.ew;have aT:=Y.lt;have O:=Y.x;have a2:=Y.gQ;simp only at ah aj E ae ao aT O a2;have oR:=s3 ao ae;have aW:=MX (n:=n) oR;have dR:0<a.2-a.1:=by grind
 have aX:0<((a.2-a.1)^n).num:=alf<|Rat.pow_pos dR;have aR:=ald ah aW aX;have ba:4000000+((250+250+1)*n+1)<=4010000:=J
 refine st ?_;refine cS CT a aP ?_;refine st ?_;refine cS CS a aP ?_;refine st ?_;refine cS oW (a.2,a.1) ⟨b0 ao,b0 ae⟩ ?_;refine st ?_;refine cS Ht (a.2-a.1,n) ⟨b0 oR,by show n<=64;omega⟩ ?_;refine st ?_;refine bn MM (c,(a.2-a.1)^n) ⟨b0 ah,b0 aW J,aX⟩ ?_;obtain⟨gX,S⟩:∃gX,gX=c/(a.2-a.1)^n:=dq;rw[<-S]at aR;have aD:∀i,i<=n->bg 4010002 (gX*(bF n i:Rat)):=λi af=>b0 (lT aR<|ale<|iR (Hj n i)<|iR (pS aj) av) J;refine a9 35 (bQ<|gX*(bF n 0:Rat)) o (by show bQ (c/(a.2-a.1)^n)=_;rw[<-S,show bF n 0=1 by cases n<;>rfl];congr 1;grind) ?_;refine st ?_;refine dN (L:=Nat) (λi=>i<=k) (λi=>⟨[.c 27<|cc<|gX*(bF n i:Rat),.c 60<|e7 a,.c 72 [.s [],.i .i64 0,.nl]],3,[(1,.i .i64 (n:Int)),(2,.i .i64 (k:Int)),(4,.i .i64 (x:Int)),(5,.i .i64 (gQ:Int)),(6,.p 0 0),(9,.p 1 0),(12,.p 2 0),(36,.i .i64 (k:Int)),(37,.i .i64 (i:Int))]⟩) (λi=>k-i) [0,1,2] 0 (dg _) aq8 cb ?_;rintro(i:Nat) (af:i<=k);refine bf 38 ?_;by_cases ar:i<k
 .have aY:=X6 n i J;have F:gX*(bF n i:Rat)*jX ((n-i:Nat):Int)/jX ((i+1:Nat):Int)=gX*(bF n (i+1):Rat):=by
   have b':((i+1:Nat):Rat)*(bF n (i+1):Rat)=((n-i:Nat):Rat)*(bF n i:Rat):=by exact_mod_cast aY
   have bj:=qL (show 0<i+1 by omega);rw[mW,mW];show gX*(bF n i:Rat)*((n-i:Nat):Rat)/((i+1:Nat):Rat)=_
   grind
  have ey:=lT (aD i J)<|s7 (n:=((n-i:Nat):Int)) J J;refine v1 38 (show(i:Int)<(k:Int) by omega) ?_;refine bf 43 ?_;refine ww 43 ((n-i:Nat):Int) ?_;refine st ?_;refine cS jk ((n-i:Nat):Int) ⟨by show -9223372036854775808<=((n-i:Nat):Int);omega,by show((n-i:Nat):Int)<9223372036854775808;omega⟩ ?_;refine st ?_;refine cS mg (gX*(bF n i:Rat),jX ((n-i:Nat):Int)) ⟨b0<|aD i J,b0<|s7 J J⟩ ?_;refine bf 47 ?_;refine ww 47 ((i+1:Nat):Int) ?_;refine st ?_;refine cS jk ((i+1:Nat):Int) ⟨by show -9223372036854775808<=((i+1:Nat):Int);omega,by show((i+1:Nat):Int)<9223372036854775808;omega⟩ ?_;refine cS MM (gX*(bF n i:Rat)*jX ((n-i:Nat):Int),jX ((i+1:Nat):Int)) ⟨b0 ey,b0<|s7 J J,by rw[(MK _).1];omega⟩ ?_;refine a9 49 (bQ<|gX*(bF n (i+1):Rat)) o (congrArg bQ F) ?_;refine bf 50 ?_;refine b5 50 ((i+1:Nat):Int) ?_;refine st ?_;exact bL [0,1,2] (i+1) ⟨by show k-(i+1)<k-i;omega,ar⟩ cb
 have ar:i=k:=J
 subst ar;refine v0 38 arX ?_;obtain⟨co,al⟩:∃co,co=gX*(bF n i:Rat):=dq;have aU:bg 4010002 co:=by rw[al];exact aD i J
 rw[<-al];refine st ?_;refine cS zC co (b0 aU) ?_ (cl:=C);refine st ?_;refine afi CU cc 55 3 [co] [co] ⟨by show 1<=1048576;decide,λy N=>by rw[fX.1 N];exact b0 aU⟩ ?_ (cl:=C);refine a9 56 (.b<|!gj co) o (by show ai.b (!(List.any [co] gj))=_;simp) ?_;refine st ?_;refine jS (L:=Unit) (λ_=>True) (λ_=>⟨[.c 27<|cc co,.c 60<|e7 a,.c 72 [.s [],.i .i64 0,.nl],.c 72 [.s<|gu co,.i .i64 (if i%2=1 then(x:Int)else -1),.nl]],4,[(1,.i .i64 (n:Int)),(2,.i .i64 (i:Int)),(4,.i .i64 (x:Int)),(5,.i .i64 (gQ:Int)),(6,.p 0 0),(9,.p 1 0),(12,.p 2 0),(17,.p 3 0),(18,.b<|!gj co)]⟩) ?_ ?_
 .refine bf 58 ?_;refine vx 58 ((i%2:Nat):Int) ?_ (h:=o);refine bf 59 ?_;by_cases ay:i%2=1
  .refine v1 59 (show((i%2:Nat):Int)=1 by omega) ?_;rw[aA ay];refine st ?_;exact bL [0,1,2,4] () aP cb
  .refine v0 59 (show¬((i%2:Nat):Int)=1 by omega) ?_;rw[au ay];refine st ?_;exact bL [0,1,2,4] () aP cb
 intro _ _;obtain⟨a',aO⟩:∃a':Int,a'=if i%2=1 then(x:Int)else -1:=dq;rw[<-aO];have aV:bg 1000 (-a.1):=b0<|GV ae;have aN:bg 1000 a.2:=b0 ao;have aq:i/2+(n-i)/2<=8:=J
 have aB:∀u v j,u+v<=8->bg 1100000 (s9 a.1 a.2 u v j):=λu v j h=>b0 (YB aV aN u v j) (by have:=pS h;omega);have a1:∀u j,u<=8->bg 1100000 (s8 a.1 u j):=λu j h=>aB u 0 j h;refine st ?_;refine bn jk (1:Int) apt ?_;refine bf 63 ?_;refine kb (z:=3) 4 cc [jX 1] ?_;refine ju 63 ?_;refine a9 63 (xR 1<|s8 a.1 0) o (by show ai.bs 3 Rat cc [jX 1]=ai.bs 3 Rat cc [1];rw[mW];rfl) ?_;refine bf 65 ?_;refine b5 65 ((i/2:Nat):Int) ?_ (h:=o) (aE:=by show _<=((i/2:Nat):Int);omega) (aK:=by show((i/2:Nat):Int)<_;omega);refine st ?_;refine dN (L:=Nat) (λu=>u<=i/2) (λu=>⟨[.c 27<|cc co,.c 60<|e7 a,.c 72 [.s [],.i .i64 0,.nl],.c 72 [.s<|gu co,.i .i64 a',.nl]],4,[(1,.i .i64 (n:Int)),(2,.i .i64 (i:Int)),(4,.i .i64 (x:Int)),(5,.i .i64 (gQ:Int)),(9,.p 1 0),(12,.p 2 0),(17,.p 3 0),(18,.b<|!gj co),(19,xR (u+1)<|s8 a.1 u),(65,.i .i64 ((i/2:Nat):Int)),(66,.i .i64 (u:Int))]⟩) (λu=>i/2-u) [0,1,2,3] 0 (dg _) (by show i/2-0<bz+1;unfold bz;omega) cb ?_;rintro(u:Nat) (bk:u<=i/2);refine bf 67 ?_;by_cases aJ:u<i/2
 .refine v1 67 (show(u:Int)<((i/2:Nat):Int) by omega) ?_;refine st ?_;refine bn CS a aP ?_;refine bn GR a.1 aP ?_;refine st ?_;refine bn jk (1:Int) apt ?_;refine bn MW (u+1,s8 a.1 u,-a.1,jX 1) ⟨by show u+1<=1048576;omega,λj a4=>b0<|a1 u j J,aV,b0<|s7 av av⟩ ?_;refine a9 73 (xR (u+1+1)<|s8 a.1<|u+1) o (by show ai.bs 3 Rat cc (bW _<|gv _ _ (jX 1) _)=_;rw[mW];rfl) ?_;refine bf 74 ?_;refine b5 74 ((u+1:Nat):Int) ?_;refine st ?_;exact bL [0,1,2,3] (u+1) ⟨by show i/2-(u+1)<i/2-u;omega,aJ⟩ cb
 have aJ:u=i/2:=J
 subst aJ;refine v0 67 (show¬((i/2:Nat):Int)<((i/2:Nat):Int) by omega) ?_;obtain⟨u,aw⟩:∃u,u=i/2:=dq;rw[<-aw]at aq⊢;refine bf 77 ?_;refine b5 77 ((n-i:Nat):Int) ?_;refine bf 78 ?_;refine b5 78 (((n-i)/2:Nat):Int) ?_ (h:=o) (aE:=by show _<=(((n-i)/2:Nat):Int);omega) (aK:=by show(((n-i)/2:Nat):Int)<_;omega);obtain⟨w,hw⟩:∃w,w=(n-i)/2:=dq;rw[<-hw]at aq⊢;refine st ?_;refine dN (L:=Nat) (λv=>v<=w) (λv=>⟨[.c 27<|cc co,.c 60<|e7 a,.c 72 [.s [],.i .i64 0,.nl],.c 72 [.s<|gu co,.i .i64 a',.nl]],4,[(4,.i .i64 (x:Int)),(5,.i .i64 (gQ:Int)),(9,.p 1 0),(12,.p 2 0),(17,.p 3 0),(18,.b<|!gj co),(19,xR (u+v+1)<|s9 a.1 a.2 u v),(78,.i .i64 (w:Int)),(79,.i .i64 (v:Int))]⟩) (λv=>w-v) [0,1,2,3] 0 (dg _) (by show w-0<bz+1;unfold bz;omega) cb ?_;rintro(v:Nat) (Z:v<=w);refine bf 80 ?_;by_cases aI:v<w
 .refine v1 80 (show(v:Int)<(w:Int) by omega) ?_;refine st ?_;refine bn CT a aP ?_;refine st ?_;refine bn jk (-1:Int) apt ?_;refine bn MW (u+v+1,s9 a.1 a.2 u v,a.2,jX<|-1) ⟨by show u+v+1<=1048576;omega,λj a4=>b0<|aB u v j J,aN,b0<|s7 av av⟩ ?_;refine a9 85 (xR (u+(v+1)+1)<|s9 a.1 a.2 u<|v+1) o (by show ai.bs 3 Rat cc (bW _<|gv _ _ (jX<|-1) _)=_;rw[mW];rfl) ?_;refine bf 86 ?_;refine b5 86 ((v+1:Nat):Int) ?_;refine st ?_;exact bL [0,1,2,3] (v+1) ⟨by show w-(v+1)<w-v;omega,aI⟩ cb
 have aI:v=w:=J
 subst aI;refine v0 80 (show¬(v:Int)<(v:Int) by omega) ?_;obtain⟨f,D⟩:∃f,f=s9 a.1 a.2 u v:=dq;have J5:∀j,bg 1100000 (f j):=λj=>by rw[D];exact aB u v j aq
 rw[<-D];refine bf 88 ?_;refine a9 88 (.i .i64 ((u+v+1:Nat):Int)) o (by show ai.i .i64 ((bW (u+v+1) f).length:Int)=_;rw[iv]) ?_;refine st ?_;have a7:∀i,(nx x gQ f i).length<=i:=λi=>by
  induction i with
  |zero=>exact ct _
  |succ i bb=>
   unfold nx;split
   .omega
   .rw[k4];simp;omega
 refine jv 18 (b:= !gj co&&lu f 0) (by show _=(_&&true);rw[AJ]) ?_;refine dN (L:=Nat×ac bT) (λ(i,aF)=>i<=u+v+1/\aF=nx x gQ f i) (λ(i,aF)=>ali co a a' x gQ (u+v+1) f i aF) (λl=>u+v+1-l.1) [0,1,2,3] (0,[]) apl (by show u+v+1-0<bz+1;unfold bz;omega) cb ?_;rintro⟨W,aF⟩ ⟨G,Q⟩;have a8:aF.length<=9:=by rw[Q];have:=a7 W;omega
 by_cases X:W<u+v+1
 .by_cases aH:(f W).num=0
  .have U:nx x gQ f (W+1)=aF:=by rw[Q];exact aA aH
   have T:lu f (W+1)=lu f W:=aA aH;rcases aF with _|⟨t,aF⟩<;>(
    refine bf 90 ?_;refine v1 90 (show(W:Int)<((u+v+1:Nat):Int) by omega) ?_;refine st ?_;refine hh (f W) (iN f X) ?_;refine st ?_;refine bn kU (f W) aP ?_;refine bf 96 ?_;refine v0 96 (hY (show(f W).num.sign=0 by rw[aH];rfl)) ?_;rw[<-T];refine bf 118 ?_;refine b5 118 ((W+1:Nat):Int) ?_;refine st ?_
    first|exact bL [0,1,2,3] (W+1,[]) ⟨by show u+v+1-(W+1)<u+v+1-W;omega,X,U.symm⟩ cb|exact bL [0,1,2,3,4] (W+1,t::aF) ⟨by show u+v+1-(W+1)<u+v+1-W;omega,X,U.symm⟩ cb)
  .obtain⟨B,ad⟩:∃B,B=Hx x gQ W (f W):=dq;have U:nx x gQ f (W+1)=aF++[B]:=by rw[Q,ad];exact au aH
   have T:lu f (W+1)=(lu f W&& !gj (f W)):=au aH;have a5:(f W).num.sign≠0:=λh=>aH<|wo.1 h;rcases aF with _|⟨t,aF⟩<;>(
    refine bf 90 ?_;refine v1 90 (show(W:Int)<((u+v+1:Nat):Int) by omega) ?_;refine st ?_;refine hh (f W) (iN f X) ?_;refine st ?_;refine bn kU (f W) aP ?_;refine bf 96 ?_;refine v1 96 a5 ?_;refine st ?_;refine pG h9 0 ?_;refine st ?_;refine pF ?_;refine st ?_;refine mc (W:Int) ?_ (a3:=by rw[nF];exact O);refine ju 22 ?_ (aj:=by rw[qZ,nF]);refine fI 22 (.b8 1 Int h9<|(List.replicate gQ (0:Int)).set x (W:Int)) rfl .b8 ?_;refine st ?_;refine cS zC (f W) (b0<|J5 W) ?_ (cl:=C);refine st ?_
    first|refine Lf ef [B] (hg (ak:=ef) [B] asR) ?_ (aa:=by show(5*1+1792)*41<=1125899906842624;decide)|(refine Lg (ak:=ef) [B] (hg (ak:=ef) [B] asR) ?_ (aj:=az) (aa:=by show(5*(aF.length+1+1)+1792)*41<=1125899906842624;simp at a8;omega);refine a9 110 (.aL 8 2 0 ((aF++[B]).length+1)<|(aF++[B]).length+1) o az ?_)
    refine bf 113 ?_;cases aa:(!gj co&&lu f W)with
    |true=>
     have aG:(!gj (f W))=(!gj co&&lu f (W+1)):=by rw[T,<-Bool.and_assoc,aa,Ix]
     refine bf 115 ?_
     first|refine kb (z:=3) 8 cc [f W] ?_|refine kb (z:=3) 9 cc [f W] ?_
     refine ju 115 ?_;refine st ?_;refine bn CU [f W] ⟨by show 1<=1048576;decide,λy N=>by rw[fX.1 N];exact b0<|J5 W⟩ ?_ (cl:=C);refine a9 116 (.b<|!gj co&&lu f (W+1)) o (by rw[<-aG];show ai.b (!(List.any [f W] gj))=_;simp) ?_;refine bf 118 ?_;refine b5 118 ((W+1:Nat):Int) ?_;refine st ?_
     first|exact bL [0,1,2,3,7] (W+1,[B]) ⟨by show u+v+1-(W+1)<u+v+1-W;omega,X,U.symm⟩ cb|exact bL [0,1,2,3,8] (W+1,t::(aF++[B])) ⟨by show u+v+1-(W+1)<u+v+1-W;omega,X,U.symm⟩ cb
    |false=>
     have aG:false=(!gj co&&lu f (W+1)):=by rw[T,<-Bool.and_assoc,aa,Iy]
     refine bf 117 ?_;refine jv 117 aG ?_;refine bf 118 ?_;refine b5 118 ((W+1:Nat):Int) ?_;refine st ?_
     first|exact bL [0,1,2,3,7] (W+1,[B]) ⟨by show u+v+1-(W+1)<u+v+1-W;omega,X,U.symm⟩ cb|exact bL [0,1,2,3,8] (W+1,t::(aF++[B])) ⟨by show u+v+1-(W+1)<u+v+1-W;omega,X,U.symm⟩ cb)
 .have X:W=u+v+1:=by omega
  subst X;have aZ:fm.eE ⟨c,n,i,a,x,gQ⟩=⟨gu co,a',aF⟩:=by
   unfold fm.eE fm.co fm.f fm.m;simp only;rw[<-S,<-al,<-aO,<-aw,<-hw,<-D,<-Q]
  have a0:fm.ok ⟨c,n,i,a,x,gQ⟩=(!gj co&&lu f (u+v+1)):=by
   unfold fm.ok fm.co fm.f fm.m;simp only;rw[<-S,<-al,<-aw,<-hw,<-D]
  rcases aF with _|⟨t,aF⟩<;>(
   refine bf 90 ?_;refine v0 90 (show¬((u+v+1:Nat):Int)<((u+v+1:Nat):Int) by omega) ?_
   try refine La 3 4 (dP:=[.s<|gu co,.i .i64 a',.bs 2 bT ef<|t::aF]) ?_ (bK:=by exact alh)
   refine st ?_;refine bh<|dc o o<|.trans (.br (bH:=[.agg<|fC ⟨gu co,a',_⟩,.b<|!gj co&&lu f (u+v+1)]) ⟨.agg ⟨.refl _,.refl _,?_,aP⟩,.refl _,aP⟩) (.of<|by show _=ai.br [.agg<|fC<|fm.eE ⟨c,n,i,a,x,gQ⟩,.b<|fm.ok ⟨c,n,i,a,x,gQ⟩];rw[aZ,a0])
   first|exact bX.nl.trans bX.b8|exact bX.b8)
theorem Nc{u:Type}(q:u->Bool):∀(l:ac u) (k:Nat),(gG q l k= -1/\∀y,y∈l->q y=false)\/∃i,∃h:i<l.length,gG q l k=((k+i:Nat):Int)/\q l[i]=true/\∀j,∀a3:j<i,q (l[j]'J)=false
 |[],k=>.inl ⟨o,λy h=>by cases h⟩
 |x::l,k=>by
  cases O:q x with
  |true=>exact .inr ⟨0,az,by unfold gG;rw[aA O];simp,O,λj a3=>absurd a3<|m6 _⟩
  |false=>
   have e:gG q (x::l) k=gG q l (k+1):=by
    show(if q x=true then(k:Int)else gG q l (k+1))=_;rw[au<|by rw[O];decide]
   rcases Nc q l (k+1)with⟨Y,G⟩|⟨i,af,Y,G,C⟩
   .left;refine⟨e.trans Y,λy N=>?_⟩;rcases fg.1 N with rfl|N
    .exact O
    .exact G y N
   .right;refine⟨i+1,by simpa using af,by rw[e,Y];congr 1;omega,by simpa using G,λj a3=>?_⟩;cases j with
    |zero=>exact O
    |succ j=>simpa using C j J
structure o5(d:Nat->Nat)(n v:Nat):Prop where
 lt:v<n
 pos:0<d v
 rest:∀j,j<n->j≠v->d j=0
def Nd{m:Nat}(h:iu m=false):m=0:=by unfold iu at h;have:=of_decide_eq_false h;omega
def YC{m:Nat}(h:iu m=true):0<m:=by unfold iu at h;have:=jD h;omega
def Nf{u:Type}(f:Nat->u)(h:i<(bW n f).length):(bW n f)[i]=f i:=by
 have Y:=iN f (by rw[iv]at h;exact h);rw[qV h]at Y;exact Option.some.inj Y
def YD(d:Nat->Nat)(n:Nat):(lS (bW n d)= -1/\∀v:Nat,¬o5 d n v)\/∃v:Nat,lS (bW n d)=(v:Int)/\o5 d n v:=by
 rcases Nc iu (bW n d) 0 with⟨Y,G⟩|⟨i,af,Y,G,C⟩
 .left;refine⟨?_,λv Z=>?_⟩
  .unfold lS;rw[Y];rfl
  .have:=Nd<|G (d v)<|fQ<|iN d Z.lt;have:=Z.pos;omega
 .rw[iv]at af;rw[Nf]at G;have hp:=YC G;have e:lS (bW n d)=if 0<=gG iu ((bW n d).drop<|i+1) 0 then -1 else(i:Int):=by
   unfold lS;rw[Y,show(((0+i:Nat):Int)).toNat=i by omega];by_cases h:0<=gG iu ((bW n d).drop<|i+1) 0
   .rw[aA h,aA ⟨J,h⟩]
   .rw[au h,au λD=>h D.2];congr 1;omega
  rcases Nc iu ((bW n d).drop<|i+1) 0 with⟨f,B⟩|⟨j,l,f,B,bj⟩
  .right;refine⟨i,by rw[e,f];rfl,af,hp,λj l O=>?_⟩;rcases fW j i with h|h
   .have:=C j h;rw[Nf]at this;exact Nd this
   .refine Nd<|B (d j) ?_;obtain⟨k,rfl⟩:∃k,j=i+1+k:=⟨j-(i+1),J⟩;refine fQ (i:=k) ?_;rw[p3];exact iN d l
  .left;rw[m5,iv]at l;rw[Ig,Nf]at B;have u:=YC B;refine⟨by rw[e,f];rfl,λv Z=>?_⟩;have eV:i=v:=Classical.byContradiction λh=>by have:=Z.rest i af h;omega
   have ew:i+1+j=v:=Classical.byContradiction λh=>by have:=Z.rest (i+1+j) J h;omega
   omega
theorem Ng{d:Nat->Nat}{v:Nat}:∀n,(∀j,j<n->j≠v->d j=0)->dd d n=(if v<n then d v+1 else 1)/\kg d n=if v<n then d v else 0
 |0,_=>e9
 |n+1,h=>by
  obtain⟨aE,aK⟩:=Ng n λj f=>h j J;simp only[dd,kg,aE,aK];rcases p2 v n with g|g|g
  .rw[aA g,aA g,aA (show v<n+1 by omega),aA (show v<n+1 by omega),h n J J];simp
  .subst g;rw[au<|yf v,au<|yf v,aA<|nI v,aA<|nI v];simp
  .rw[au (show¬v<n by omega),au (show¬v<n by omega),au (show¬v<n+1 by omega),au (show¬v<n+1 by omega),h n J J];simp
theorem o5.dd{d:Nat->Nat}{n v:Nat}(h:o5 d n v):dd d n=d v+1/\kg d n=d v:=by
 obtain⟨Y,G⟩:=Ng n h.rest;rw[aA h.lt]at Y G;exact⟨Y,G⟩
def g7(mk:Rat->Nat->fm)(g:Nat->Rat):Nat->ac dV
 |0=>[]
 |k+1=>if(g k).num=0 then g7 mk g k else g7 mk g k++[(mk (g k) k).eE]
def dn(mk:Rat->Nat->fm)(g:Nat->Rat):Nat->Bool
 |0=>true
 |k+1=>if(g k).num=0 then dn mk g k else dn mk g k&&(mk (g k) k).ok
theorem zV(mk:Rat->Nat->fm)(g:Nat->Rat):∀k,(g7 mk g k).length<=k
 |0=>ct _
 |k+1=>by
  have:=zV mk g k;unfold g7;split
  .omega
  .rw[k4];simp;omega
def o6(N:Nat):Nat:=if N%2=0 then N+1 else N
def kY(c:Nat->Rat)(N:Nat):Nat->Rat:=if N%2=0 then gH c N else c
structure zW where
 aQ:Rat
 af:Rat
 low:ac dV
 high:ac dV
 e:Int
def Hy(c:Nat->Rat)(N:Nat)(a:fD)(v gQ:Nat):zW:=
 let M:=o6 N
 let g:=kY c N
 let aQ:=zS<|bW M g
 let af:=zT<|bW M g
 let mk:=λ(d:Rat) (k:Nat)=>(⟨d,M-1,k,a,v,gQ⟩:fm)
 if(!([aQ,af].any gj)&&(dn mk (λk=>g k-aQ) M&&dn mk (λk=>af-g k) M))=true then⟨aQ,af,g7 mk (λk=>g k-aQ) M,g7 mk (λk=>af-g k) M,0⟩else⟨0,0,[],[],3⟩
def r1(l:ac bT)(x:ac c8):zW:=
 if kX l x=0 then
  if lS (mi l x)<0 then⟨0,0,[],[],7⟩
  else match x[(lS<|mi l x).toNat]? with
   |none=>⟨0,0,[],[],7⟩
   |some s=>if(fr s).1=(fr s).2 then⟨0,0,[],[],8⟩else Hy (gI l x) (dd (eL l) x.length) (fr s) (lS<|mi l x).toNat x.length
 else⟨0,0,[],[],kX l x⟩
set_option maxHeartbeats 32000000
variable{v:Nat}
def zX(r:zW):ai:=.br [bQ r.aQ,bQ r.af,.bs 3 dV fC r.low,.bs 3 dV fC r.high,.i .i64 r.e]
def Nh:da where
 L:=ac bT×ac c8
 args:=λ(l,x)=>[.b8 2 bT ef l,.b8 2 c8 hG x]
 pre:=λ(l,x)=>o1 l/\vT x
 res:=λ(l,x)=>zX (r1 l x)
 hp:=im
 hm:=im.up
def Hz{l:ac bT}{x:ac c8}{e:Int}(h:r1 l x=⟨0,0,[],[],e⟩):bX (.br [.agg [.b false,.nl,.nl],.agg [.b false,.nl,.nl],.nl,.nl,.i .i64 e]) (Nh.res (l,x)):=bX.trans (b:=zX ⟨0,0,[],[],e⟩) (.br ⟨le_zero,le_zero,bX.nl,bX.nl,.refl _,aP⟩) (.of<|by show _=zX (r1 l x);rw[h])
def YE{l:ac bT}{x:ac c8}(aa:g6 x=0)(aN:ku x.length l=0)(ay:o5 (eL l) x.length v):∀p,p<dd (eL l) x.length->bg 100000 (gI l x p):=λp hp=>by
 obtain⟨T,Q⟩:=xQ aN;have R:∀j,eL l j<=16:=Hv λt aN=>(Q t aN).2.1;obtain⟨z,m,aH,E⟩:=Ys;have o:=λi (af:i<=l.length) p=>Yu aH T (eL l) x.length af p;obtain⟨M,Y,G⟩:=M8 (z:=z) m E (b:=iq x) Na (n:=x.length) R (f:=iw l (eL l) x.length l.length) (tK:=z*200+1) (uu:=z+8) (CX:=lr l l.length) (λp _=>(o _ (ct _) p).1) (o _ (ct _) 0).2 x.length<|ct _;rw[ay.dd.2]at Y G;have:=R v;exact zQ (G p hp) Y (ct _) J
def YF{N:Nat}(dY:2<=N)(u:N<=17)(ah:∀i,i<N->bg 100000 (c i)):∀k,k<o6 N->bg 300010 (kY c N k):=λk E=>by
 unfold o6 at E;unfold kY;split
 .rename_i h;rw[aA h]at E;unfold gH;split
  .exact b0<|ah 0 J
  .split
   .exact b0<|ah _ J
   .exact b0<|s0 (ah k J)<|lT (MQ (a:=k) (b:=N) J J J)<|s3 (ah (k-1) J)<|ah k J
 .rename_i h;rw[au h]at E;exact b0<|ah k E
def Ni{x y:Rat}:jY x y=0↔x=y:=by
 unfold jY;by_cases h:x<y
 .rw[aA h];exact ar9 ar9
 .rw[au h];by_cases D:x=y
  .rw[aA D];exact⟨λ_=>D,λ_=>o⟩
  .rw[au D];exact⟨λh=>absurd h av,λe=>absurd e D⟩
def of_lt{s:c8}{a:fD}(h:a=fr s)(O:a.1≠a.2):a.1<a.2:=by
 have hle:a.1<=a.2:=by
  rw[h];unfold fr zJ;split
  .split
   .split
    .exact AK
    .rename_i h;exact yg.1 h
   .exact AK
  .exact AK
 exact Rat.lt_iff_le_and_ne.2 ⟨hle,O⟩
def Nj(x:ac c8)(v M:Nat)(g:Nat->Rat)(a:fD)(aQ af:Rat)(ok:Bool)(k:Nat)(o:bV):ac dV->ac dV->cg
 |[],[]=>⟨[.c 27<|cc aQ,.c 27<|cc af,.c 60<|e7 a],3,(1,.bs 2 c8 hG x)::(4,.p 0 0)::(5,.p 1 0)::(6,.nl)::(7,.nl)::(10,.bs 3 Rat cc<|bW M g)::(11,.i .i64 (v:Int))::(12,.p 2 0)::(14,.b ok)::(69,.bs 3 Rat cc<|bW M g)::(70,.i .i64 (M:Int))::(71,.i .i64 (k:Int))::o⟩
 |w::ws,[]=>⟨[.c 27<|cc aQ,.c 27<|cc af,.c 60<|e7 a,.a 72 true 3 dV fC<|w::ws],4,(1,.bs 2 c8 hG x)::(4,.p 0 0)::(5,.p 1 0)::(6,.aL 3 3 0 (ws.length+1)<|ws.length+1)::(7,.nl)::(10,.bs 3 Rat cc<|bW M g)::(11,.i .i64 (v:Int))::(12,.p 2 0)::(14,.b ok)::(69,.bs 3 Rat cc<|bW M g)::(70,.i .i64 (M:Int))::(71,.i .i64 (k:Int))::o⟩
 |[],y::Q=>⟨[.c 27<|cc aQ,.c 27<|cc af,.c 60<|e7 a,.a 72 true 3 dV fC<|y::Q],4,(1,.bs 2 c8 hG x)::(4,.p 0 0)::(5,.p 1 0)::(6,.nl)::(7,.aL 3 3 0 (Q.length+1)<|Q.length+1)::(10,.bs 3 Rat cc<|bW M g)::(11,.i .i64 (v:Int))::(12,.p 2 0)::(14,.b ok)::(69,.bs 3 Rat cc<|bW M g)::(70,.i .i64 (M:Int))::(71,.i .i64 (k:Int))::o⟩
 |w::ws,y::Q=>⟨[.c 27<|cc aQ,.c 27<|cc af,.c 60<|e7 a,.a 72 true 3 dV fC<|w::ws,.a 72 true 3 dV fC<|y::Q],5,(1,.bs 2 c8 hG x)::(4,.p 0 0)::(5,.p 1 0)::(6,.aL 3 3 0 (ws.length+1)<|ws.length+1)::(7,.aL 4 3 0 (Q.length+1)<|Q.length+1)::(10,.bs 3 Rat cc<|bW M g)::(11,.i .i64 (v:Int))::(12,.p 2 0)::(14,.b ok)::(69,.bs 3 Rat cc<|bW M g)::(70,.i .i64 (M:Int))::(71,.i .i64 (k:Int))::o⟩
def CY{m:Nat}(h:n=m):ai.aL j 3 0 n n=ai.aL j 3 0 m m:=h▸rfl
def two{an:e2}{K:ac dC}{l:ac bt}{u:Type}{P:u->Prop}{T:u->cg}{G:Prop}(aE:(∀a,P a->bP.ok an ⟨K,.R l,T a⟩)->G)(aK:∀a,P a->bP.ok an ⟨K,.R l,T a⟩):G:=aE aK
def mU:ac dV->ac dV->ac Nat
 |[],[]=>[0,1,2]
 |_::_,[]=>[0,1,2,3]
 |[],_::_=>[0,1,2,3]
 |_::_,_::_=>[0,1,2,3,4]
def ny(k:Nat):Nat->Nat
 |0=>k
 |_+1=>k+1
def nz(k:Nat):Nat->Nat
 |0=>k
 |1=>k
 |_+2=>k+1
theorem YG:b4 4 Nh:=by
 refine mM [Hw,XX,zK,CS,CT,lR,X5,(17,X2.spec),(18,X3.spec),CU,oW,kU,Nb] dj.1 ?_;intro⟨l,x⟩ ⟨(W:o1 l),(O:vT x)⟩ H ax C;refine st ?_;refine bn Hw (l,x) ⟨W,O⟩ ?_;refine bf 29 ?_;by_cases dW:kX l x=0
 case neg=>
  have e:r1 l x=⟨0,0,[],[],kX l x⟩:=au dW;refine v1 29 dW ?_;refine st ?_;exact bh<|dc o o<|Hz e
 refine v0 29 (hY dW) ?_;have aZ:r1 l x=_:=aA dW;have aa:g6 x=0:=by
  unfold kX at dW;split at dW
  .assumption
  .exact apV
 have aN:ku x.length l=0:=by
  unfold kX at dW;rw[aA aa]at dW;split at dW
  .assumption
  .exact apV
 obtain⟨ar,bx⟩:=xQ aN;have bB:∀j,eL l j<=16:=Hv λt aN=>(bx t aN).2.1;have aq:mi l x=bW x.length (eL l):=aA dW;have a0:uv l x=bW (dd (eL l) x.length) (gI l x):=aA dW;have aU:=O.1;refine st ?_;refine bn XX (mi l x) (by show(mi l x).length<=1048576;rw[aq,iv];exact aU) ?_;rw[aq]at aZ;refine bf 36 ?_;rcases YD (eL l) x.length with⟨Z,_⟩|⟨v,Z,ay⟩
 .have e:r1 l x=⟨0,0,[],[],7⟩:=aZ.trans (aA<|by rw[Z];decide);refine v1 36 (show lS (mi l x)<0 by rw[aq,Z];decide) ?_;refine st ?_;exact bh<|dc o o<|Hz e
 refine v0 36 (show¬lS (mi l x)<0 by rw[aq,Z];omega) ?_;have bb:v<x.length:=ay.lt;have U:=aZ.trans (au<|by rw[Z];omega);rw[Z,tb,ba ay.lt]at U;have U:r1 l x=if(fr x[v]).1=(fr x[v]).2 then⟨0,0,[],[],8⟩else Hy (gI l x) (dd (eL l) x.length) (fr x[v]) v x.length:=U;have bw:x≠[]:=ne_of_lt ay.lt;have bA:=O.2 _<|ha ay.lt;refine a9 34 (.i .i64 (v:Int)) o ass ?_;refine a9 11 (.i .i64 (v:Int)) o ass ?_;refine fI 1 (.bs 2 c8 hG x) o (.iH bw) ?_;refine st ?_;refine hh x[v] (ba ay.lt) ?_;refine st ?_;refine bn zK x[v] bA ?_;obtain⟨a,D⟩:∃a,a=fr x[v]:=dq;obtain⟨aG,aI⟩:=Yx x[v];rw[<-D]at aG aI U;refine st ?_;rw[<-D];refine cS CS a aP ?_;refine st ?_;refine cS CT a aP ?_;refine st ?_;refine cS lR (a.1,a.2) ⟨b0 aG,b0 aI⟩ ?_;refine bf 52 ?_;by_cases aw:a.1=a.2
 .refine a9 52 (.b true) o (cj<|c9<|Ni.2 aw) ?_;refine st ?_;exact bh<|dc o o<|Hz<|U.trans<|aA aw
 refine a9 52 (.b false) o (cj<|dk λh=>aw<|Ni.1 h) ?_;have a':=U.trans<|au aw;have aT:a.1<a.2:=of_lt D aw;obtain⟨N,dY⟩:∃N,N=dd (eL l) x.length:=dq;have bF:N=eL l v+1:=by rw[dY];exact ay.dd.1
 have bH:=ay.pos;have bG:=bB v;obtain⟨c,ah⟩:∃c,c=gI l x:=dq;have aR:=YE aa aN ay;rw[<-ah,<-dY]at aR;rw[<-ah,<-dY]at a';rw[<-ah,<-dY]at a0;refine bf 56 ?_;refine a9 56 (.i .i64 (N:Int)) o (by rw[a0,iv]) ?_;refine bf 57 ?_;refine vx 57 ((N%2:Nat):Int) ?_ (h:=o);obtain⟨M,hQ⟩:∃M,M=o6 N:=dq;obtain⟨g,F⟩:∃g,g=kY c N:=dq;have a6:∀k,k<M->bg 300010 (g k):=λk E=>by rw[F];exact YF J J aR k<|by rw[<-hQ];exact E
 have bE:2<=M/\M<=18:=by rw[hQ];unfold o6;split<;>omega
 have bm:ai.bs 3 Rat cc (uv l x)= .bs 3 Rat cc (bW N c):=by rw[a0]
 refine a9 10 (.bs 3 Rat cc<|bW N c) o bm ?_;refine st ?_;refine jS (L:=Unit) (λ_=>True) (λ_=>⟨[.c 27 [.b false,.nl,.nl],.c 27 [.b false,.nl,.nl],.c 60<|e7 a],3,[(1,.bs 2 c8 hG x),(4,.p 0 0),(5,.p 1 0),(6,.nl),(7,.nl),(10,.bs 3 Rat cc<|bW M g),(11,.i .i64 (v:Int)),(12,.p 2 0)]⟩) ?_ ?_
 .by_cases u:N%2=0
  .have a7:ai.bs 3 Rat cc (bW (N+1)<|gH c N)= .bs 3 Rat cc (bW M g):=by rw[hQ,F];unfold o6 kY;rw[aA u,aA u]
   refine v1 58 (show((N%2:Nat):Int)=0 by omega) ?_;refine st ?_;refine bn X5 (N,c) ⟨by show 1<=N;omega,by show N<=1048576;omega,λi af=>b0<|aR i af⟩ ?_;refine a9 60 (.bs 3 Rat cc<|bW M g) o a7 ?_;refine st ?_;exact bL [0,1,2] () aP cb
  .have a7:ai.bs 3 Rat cc (bW N c)= .bs 3 Rat cc (bW M g):=by rw[hQ,F];unfold o6 kY;rw[au u,au u]
   refine v0 58 (show¬((N%2:Nat):Int)=0 by omega) ?_;refine a9 10 (.bs 3 Rat cc<|bW M g) o a7 ?_;refine st ?_;exact bL [0,1,2] () aP cb
 intro _ _;have aB:∀y,y∈bW M g->bg 300010 y:=λy ad=>by obtain⟨i,af,rfl⟩:=MP ad;exact a6 i af
 have aE:bW M g≠[]:=λe=>by have:=iv M g;rw[e]at this;simp at this;omega
 have bC:=Hr XZ aE;have bD:=Hr X0 aE;refine st ?_;refine bn akC (bW M g) aq3 ?_ (he:=by exact arf);refine st ?_;refine bn akD (bW M g) aq3 ?_ (he:=by exact arf);obtain⟨aQ,fA⟩:∃aQ,aQ=zS (bW M g):=dq;obtain⟨af,a1⟩:∃af,af=zT (bW M g):=dq;have aY:bg 300010 aQ:=by rw[fA];exact aB _ bC
 have aX:bg 300010 af:=by rw[a1];exact aB _ bD
 refine a9 62 (bQ aQ) o (by rw[fA];rfl) ?_;refine a9 64 (bQ af) o (by rw[a1];rfl) ?_;refine bf 67 ?_;refine kb (z:=3) 3 cc [aQ,af] ?_;refine ju 67 ?_;refine st ?_;refine bn CU [aQ,af] ⟨by show 2<=1048576;decide,λy ad=>by rcases fg.1 ad with rfl|ad;exact b0 aY;rw[fX.1 ad];exact b0 aX⟩ ?_ (cl:=C);obtain⟨B,bj⟩:∃B,B= !([aQ,af].any gj):=dq;refine a9 68 (.b B) o (by rw[bj];rfl) ?_;obtain⟨cu,a3⟩:∃cu:Nat->Rat,cu=λk=>g k-aQ:=dq;obtain⟨m,aW⟩:∃m:Nat->Rat,m=λk=>af-g k:=dq;obtain⟨mk,a2⟩:∃mk:Rat->Nat->fm,mk=λd k=>⟨d,M-1,k,a,v,x.length⟩:=dq;have bt:∀k,k<M->bg 4000000 (cu k):=λk E=>by rw[a3];exact b0<|s3 (a6 k E) aY
 have bq:∀k,k<M->bg 4000000 (m k):=λk E=>by rw[aW];exact b0<|s3 aX<|a6 k E
 have b':Hy c N a v x.length=if(B&&(dn mk cu M&&dn mk m M))=true then⟨aQ,af,g7 mk cu M,g7 mk m M,0⟩else⟨0,0,[],[],3⟩:=by
  rw[bj,a3,aW,a2,fA,a1,hQ,F];rfl
 refine bf 70 ?_;refine a9 70 (.i .i64 (M:Int)) o apR ?_;refine st ?_;refine jv 14 (b:=B&&(dn mk cu 0&&dn mk m 0)) (by show _=(_&&true);rw[AJ]) ?_;refine dN (L:=Nat×ac dV×ac dV) (λ(k,Y,W)=>k<=M/\Y=g7 mk cu k/\W=g7 mk m k) (λ(k,Y,W)=>Nj x v M g a aQ af (B&&(dn mk cu k&&dn mk m k)) k [] Y W) (λl=>M-l.1) [0,1,2] (0,[],[]) ⟨dg _,o,o⟩ (by show M-0<bz+1;unfold bz;omega) cb ?_;rintro⟨k,Y,W⟩ ⟨E,s,X⟩;have aO:Y.length<=18:=by rw[s];have:=zV mk cu k;omega
 have ar:W.length<=18:=by rw[X];have:=zV mk m k;omega
 by_cases ae:k<M
 case neg=>
  have bp:M=k:=J
  subst bp;have aJ:∀p q,bX p (.bs 3 dV fC Y)->bX q (.bs 3 dV fC W)->(B&&(dn mk cu M&&dn mk m M))=true->bX (.br [bQ aQ,bQ af,p,q,.i .i64 0]) (Nh.res (l,x)):=λp q hp aD aa=>by
   have h:=a'.trans<|b'.trans<|aA aa;rw[<-s,<-X]at h;exact bX.trans (b:=zX ⟨aQ,af,Y,W,0⟩) (.br ⟨.refl _,.refl _,hp,aD,.refl _,aP⟩) (.of<|by show _=zX (r1 l x);rw[h])
  rcases Y with _|⟨w,G⟩<;>rcases W with _|⟨y,Q⟩<;>(
   refine bf 72 ?_;refine v0 72 (show¬(M:Int)<(M:Int) by omega) ?_;refine bf 121 ?_
   first|(refine ju 6 ?_;refine ju 7 ?_)|refine ju 6 ?_|refine ju 7 ?_|skip
   cases aa:(B&&(dn mk cu M&&dn mk m M))with
   |false=>
    refine st ?_;exact bh (dc o o<|Hz<|a'.trans<|b'.trans (au<|by rw[aa];decide))
   |true=>
    refine st ?_
    first|exact bh (dc o o<|aJ _ _ kK kK aa)|exact bh (dc o o<|aJ _ _ bX.nl kK aa)|exact bh (dc o o<|aJ _ _ kK bX.nl aa)|exact bh<|dc o o<|aJ _ _ bX.nl bX.nl aa)
 clear aO ar
 revert Y W
 refine' two (P:=λl:ac dV×ac dV=>l.1=g7 mk cu k/\l.2=g7 mk m k) (T:=λl:ac dV×ac dV=>Nj x v M g a aQ af (B&&(dn mk cu k&&dn mk m k)) k [(15,.i .i64 (k:Int)),(82,.bs 3 Rat cc [cu k,m k]),(83,.i .i64 2),(84,.i .i64 0)] l.1 l.2) (λkey=> ?alj) ?alk
 case alj=>
  intro Y W s X;have bk:[g k-aQ,af-g k]=[cu k,m k]:=by rw[a3,aW]
  rcases Y with _|⟨w,G⟩<;>rcases W with _|⟨y,Q⟩<;>(
   refine bf 72 ?_;refine v1 72 (show(k:Int)<(M:Int) by omega) ?_;refine st ?_;refine hh (g k) (iN g ae) ?_;refine st ?_;refine cS oW (g k,aQ) ⟨b0<|a6 k ae,b0 aY⟩ ?_;refine st ?_;refine cS oW (af,g k) ⟨b0 aX,b0<|a6 k ae⟩ ?_;refine st ?_;refine aeW ?_
   first|refine kb (z:=3) 4 cc [g k-aQ,af-g k] ?_|refine kb (z:=3) 5 cc [g k-aQ,af-g k] ?_|refine kb (z:=3) 6 cc [g k-aQ,af-g k] ?_
   refine ju 82 ?_;rw[bk]
   first|refine F6 [0,1,2] _ ?_ (key ([],[]) ⟨s,X⟩)|refine F6 [0,1,2,3] _ ?_ (key (_::_,[]) ⟨s,X⟩)|refine F6 [0,1,2,3] _ ?_ (key ([],_::_) ⟨s,X⟩)|refine F6 [0,1,2,3,4] _ ?_ (key (_::_,_::_) ⟨s,X⟩)
   exact cb)
 case alk=>
 rintro⟨Y,W⟩ ⟨(s:Y=g7 mk cu k),(X:W=g7 mk m k)⟩;refine st ?_;refine dN (L:=Nat×ac dV×ac dV) (λ(i,Y,W)=>i<=2/\Y=g7 mk cu (ny k i)/\W=g7 mk m (nz k i)) (λ(i,Y,W)=>Nj x v M g a aQ af (B&&(dn mk cu (ny k i)&&dn mk m (nz k i))) k [(15,.i .i64 (k:Int)),(82,.bs 3 Rat cc [cu k,m k]),(83,.i .i64 2),(84,.i .i64 (i:Int))] Y W) (λl=>2-l.1) (mU Y W) (0,Y,W) ⟨dg _,s,X⟩ (by show 2-0<bz+1;unfold bz;omega) (by rcases Y with _|⟨w,G⟩<;>rcases W with _|⟨y,Q⟩<;>first|exact cb (f:=[0,1,2])|exact cb (f:=[0,1,2,3])|exact cb (f:=[0,1,2,3,4])) ?_;rintro⟨i,Y,W⟩ ⟨(bI:i<=2),(s:Y=g7 mk cu (ny k i)),(X:W=g7 mk m (nz k i))⟩;have aO:Y.length<=18:=by
  have:=zV mk cu<|ny k i;have:ny k i<=k+1:=by unfold ny;split<;>omega
  rw[s];omega
 have ar:W.length<=18:=by
  have:=zV mk m<|nz k i;have:nz k i<=k+1:=by unfold nz;split<;>omega
  rw[X];omega
 obtain rfl|rfl|rfl:i=0\/i=1\/i=2:=by omega
 .have s:Y=g7 mk cu (k):=s;have X:W=g7 mk m k:=X;by_cases aH:(cu k).num=0
  .have U:g7 mk cu (k+1)=Y:=by rw[s];exact aA aH
   have a':dn mk cu (k+1)=dn mk cu k:=aA aH;rcases Y with _|⟨w,G⟩<;>rcases W with _|⟨y,Q⟩<;>(
    refine st ?_;refine hh (j:=0) (cu k) o ?_;refine st ?_;refine bn kU (cu k) aP ?_;refine bf 91 ?_;refine v1 91 (show(cu k).num.sign=0 by rw[aH];rfl) ?_;refine jv 14 (b:=B&&(dn mk cu (ny k 1)&&dn mk m (nz k 1))) (by show(B&&(dn mk cu k&&dn mk m k))=(B&&(dn mk cu (k+1)&&dn mk m k));rw[a']) ?_;refine bf 119 ?_;refine b5 119 ((1:Nat):Int) ?_;refine st ?_
    first|exact bL [0,1,2] (1,[],[]) ⟨by show 2-1<2-0;decide,av,U.symm,X⟩ cb|exact bL [0,1,2,3] (1,w::G,[]) ⟨by show 2-1<2-0;decide,av,U.symm,X⟩ cb|exact bL [0,1,2,3] (1,[],y::Q) ⟨by show 2-1<2-0;decide,av,U.symm,X⟩ cb|exact bL [0,1,2,3,4] (1,w::G,y::Q) ⟨by show 2-1<2-0;decide,av,U.symm,X⟩ cb)
  .obtain⟨S,al⟩:∃S,S=mk (cu k) k:=dq;have U:g7 mk cu (k+1)=Y++[S.eE]:=by rw[s,al];exact au aH
   have a':dn mk cu (k+1)=(dn mk cu k&&S.ok):=by rw[al];exact au aH
   have aV:(⟨cu k,M-1,k,a,v,x.length⟩:fm)=S:=by rw[al,a2]
   have a5:(cu k).num.sign≠0:=λh=>aH<|wo.1 h;rcases Y with _|⟨w,G⟩<;>rcases W with _|⟨y,Q⟩<;>(
    refine st ?_;refine hh (j:=0) (cu k) o ?_;refine st ?_;refine bn kU (cu k) aP ?_;refine bf 91 ?_;refine v0 91 a5 ?_;refine jv 14 (b:=B&&(dn mk cu k&&dn mk m k)) o ?_;refine bf 95 ?_;refine a9 95 (.i .i64 (M:Int)) o apR ?_;refine bf 96 ?_;refine b5 96 ((M-1:Nat):Int) ?_;refine st ?_;refine bn Nb ⟨cu k,M-1,k,a,v,x.length⟩ ⟨bt k ae,by show M-1<=17;omega,by show k<=M-1;omega,b0 aG,b0 aI,aT,bb,aU⟩ ?_ (cl:=C);rw[aV];refine st ?_;cases aa:(B&&(dn mk cu k&&dn mk m k))with
    |true=>
     have ao:S.ok=(B&&(dn mk cu (ny k 1)&&dn mk m (nz k 1))):=by show S.ok=(B&&(dn mk cu (k+1)&&dn mk m k));rw[a'];revert aa;cases B<;>cases dn mk cu k<;>cases dn mk m k<;>cases S.ok<;>simp
     refine bf 110 ?_;refine jv 14 (b:=B&&(dn mk cu (ny k 1)&&dn mk m (nz k 1))) ao ?_;refine st ?_
     first|refine rL fC [S.eE] (hg (ak:=fC) [S.eE] o) ?_ (aa:=by show(5*1+1792)*49<=1125899906842624;decide)|(refine qB (ak:=fC) [S.eE] (hg (ak:=fC) [S.eE] o) ?_ (aj:=az) (aa:=by show(5*(G.length+1+1)+1792)*49<=1125899906842624;simp at aO;omega);refine a9 114 (.aL _ 3 0 ((G++[S.eE]).length+1)<|(G++[S.eE]).length+1) o (CY az) ?_)
     refine bf 119 ?_;refine b5 119 ((1:Nat):Int) ?_;refine st ?_
     first|exact bL [0,1,2,6] (1,([S.eE]),[]) ⟨by show 2-1<2-0;decide,av,U.symm,X⟩ cb|exact bL [0,1,2,7] (1,(w::(G++[S.eE])),[]) ⟨by show 2-1<2-0;decide,av,U.symm,X⟩ cb|exact bL [0,1,2,7,3] (1,([S.eE]),(y::Q)) ⟨by show 2-1<2-0;decide,av,U.symm,X⟩ cb|exact bL [0,1,2,8,4] (1,(w::(G++[S.eE])),(y::Q)) ⟨by show 2-1<2-0;decide,av,U.symm,X⟩ cb
    |false=>
     have ao:false=(B&&(dn mk cu (ny k 1)&&dn mk m (nz k 1))):=by show false=(B&&(dn mk cu (k+1)&&dn mk m k));rw[a'];revert aa;cases B<;>cases dn mk cu k<;>cases dn mk m k<;>cases S.ok<;>simp
     refine bf 110 ?_;refine jv 14 (b:=B&&(dn mk cu (ny k 1)&&dn mk m (nz k 1))) ao ?_;refine st ?_
     first|refine rL fC [S.eE] (hg (ak:=fC) [S.eE] o) ?_ (aa:=by show(5*1+1792)*49<=1125899906842624;decide)|(refine qB (ak:=fC) [S.eE] (hg (ak:=fC) [S.eE] o) ?_ (aj:=az) (aa:=by show(5*(G.length+1+1)+1792)*49<=1125899906842624;simp at aO;omega);refine a9 114 (.aL _ 3 0 ((G++[S.eE]).length+1)<|(G++[S.eE]).length+1) o (CY az) ?_)
     refine bf 119 ?_;refine b5 119 ((1:Nat):Int) ?_;refine st ?_
     first|exact bL [0,1,2,6] (1,([S.eE]),[]) ⟨by show 2-1<2-0;decide,av,U.symm,X⟩ cb|exact bL [0,1,2,7] (1,(w::(G++[S.eE])),[]) ⟨by show 2-1<2-0;decide,av,U.symm,X⟩ cb|exact bL [0,1,2,7,3] (1,([S.eE]),(y::Q)) ⟨by show 2-1<2-0;decide,av,U.symm,X⟩ cb|exact bL [0,1,2,8,4] (1,(w::(G++[S.eE])),(y::Q)) ⟨by show 2-1<2-0;decide,av,U.symm,X⟩ cb
     )
 .have s:Y=g7 mk cu (k+1):=s;have X:W=g7 mk m k:=X;by_cases aH:(m k).num=0
  .have U:g7 mk m (k+1)=W:=by rw[X];exact aA aH
   have a':dn mk m (k+1)=dn mk m k:=aA aH;rcases Y with _|⟨w,G⟩<;>rcases W with _|⟨y,Q⟩<;>(
    refine st ?_;refine hh (j:=1) (m k) o ?_;refine st ?_;refine bn kU (m k) aP ?_;refine bf 91 ?_;refine v1 91 (show(m k).num.sign=0 by rw[aH];rfl) ?_;refine jv 14 (b:=B&&(dn mk cu (ny k 2)&&dn mk m (nz k 2))) (by show(B&&(dn mk cu (k+1)&&dn mk m k))=(B&&(dn mk cu (k+1)&&dn mk m (k+1)));rw[a']) ?_;refine bf 119 ?_;refine b5 119 ((2:Nat):Int) ?_;refine st ?_
    first|exact bL [0,1,2] (2,[],[]) ⟨by show 2-2<2-1;decide,av,s,U.symm⟩ cb|exact bL [0,1,2,3] (2,w::G,[]) ⟨by show 2-2<2-1;decide,av,s,U.symm⟩ cb|exact bL [0,1,2,3] (2,[],y::Q) ⟨by show 2-2<2-1;decide,av,s,U.symm⟩ cb|exact bL [0,1,2,3,4] (2,w::G,y::Q) ⟨by show 2-2<2-1;decide,av,s,U.symm⟩ cb)
  .obtain⟨S,al⟩:∃S,S=mk (m k) k:=dq;have U:g7 mk m (k+1)=W++[S.eE]:=by rw[X,al];exact au aH
   have a':dn mk m (k+1)=(dn mk m k&&S.ok):=by rw[al];exact au aH
   have aV:(⟨m k,M-1,k,a,v,x.length⟩:fm)=S:=by rw[al,a2]
   have a5:(m k).num.sign≠0:=λh=>aH<|wo.1 h;rcases Y with _|⟨w,G⟩<;>rcases W with _|⟨y,Q⟩<;>(
    refine st ?_;refine hh (j:=1) (m k) o ?_;refine st ?_;refine bn kU (m k) aP ?_;refine bf 91 ?_;refine v0 91 a5 ?_;refine jv 14 (b:=B&&(dn mk cu (k+1)&&dn mk m k)) o ?_;refine bf 95 ?_;refine a9 95 (.i .i64 (M:Int)) o apR ?_;refine bf 96 ?_;refine b5 96 ((M-1:Nat):Int) ?_;refine st ?_;refine bn Nb ⟨m k,M-1,k,a,v,x.length⟩ ⟨bq k ae,by show M-1<=17;omega,by show k<=M-1;omega,b0 aG,b0 aI,aT,bb,aU⟩ ?_ (cl:=C);rw[aV];refine st ?_;cases aa:(B&&(dn mk cu (k+1)&&dn mk m k))with
    |true=>
     have ao:S.ok=(B&&(dn mk cu (ny k 2)&&dn mk m (nz k 2))):=by show S.ok=(B&&(dn mk cu (k+1)&&dn mk m (k+1)));rw[a'];revert aa;cases B<;>cases dn mk cu (k+1)<;>cases dn mk m k<;>cases S.ok<;>simp
     refine bf 110 ?_;refine jv 14 (b:=B&&(dn mk cu (ny k 2)&&dn mk m (nz k 2))) ao ?_;refine st ?_
     first|refine rL fC [S.eE] (hg (ak:=fC) [S.eE] o) ?_ (aa:=by show(5*1+1792)*49<=1125899906842624;decide)|(refine qB (ak:=fC) [S.eE] (hg (ak:=fC) [S.eE] o) ?_ (aj:=az) (aa:=by show(5*(Q.length+1+1)+1792)*49<=1125899906842624;simp at ar;omega);refine a9 118 (.aL _ 3 0 ((Q++[S.eE]).length+1)<|(Q++[S.eE]).length+1) o (CY az) ?_)
     refine bf 119 ?_;refine b5 119 ((2:Nat):Int) ?_;refine st ?_
     first|exact bL [0,1,2,6] (2,[],([S.eE])) ⟨by show 2-2<2-1;decide,av,s,U.symm⟩ cb|exact bL [0,1,2,3,7] (2,(w::G),([S.eE])) ⟨by show 2-2<2-1;decide,av,s,U.symm⟩ cb|exact bL [0,1,2,7] (2,[],(y::(Q++[S.eE]))) ⟨by show 2-2<2-1;decide,av,s,U.symm⟩ cb|exact bL [0,1,2,3,8] (2,(w::G),(y::(Q++[S.eE]))) ⟨by show 2-2<2-1;decide,av,s,U.symm⟩ cb
    |false=>
     have ao:false=(B&&(dn mk cu (ny k 2)&&dn mk m (nz k 2))):=by show false=(B&&(dn mk cu (k+1)&&dn mk m (k+1)));rw[a'];revert aa;cases B<;>cases dn mk cu (k+1)<;>cases dn mk m k<;>cases S.ok<;>simp
     refine bf 110 ?_;refine jv 14 (b:=B&&(dn mk cu (ny k 2)&&dn mk m (nz k 2))) ao ?_;refine st ?_
     first|refine rL fC [S.eE] (hg (ak:=fC) [S.eE] o) ?_ (aa:=by show(5*1+1792)*49<=1125899906842624;decide)|(refine qB (ak:=fC) [S.eE] (hg (ak:=fC) [S.eE] o) ?_ (aj:=az) (aa:=by show(5*(Q.length+1+1)+1792)*49<=1125899906842624;simp at ar;omega);refine a9 118 (.aL _ 3 0 ((Q++[S.eE]).length+1)<|(Q++[S.eE]).length+1) o (CY az) ?_)
     refine bf 119 ?_;refine b5 119 ((2:Nat):Int) ?_;refine st ?_
     first|exact bL [0,1,2,6] (2,[],([S.eE])) ⟨by show 2-2<2-1;decide,av,s,U.symm⟩ cb|exact bL [0,1,2,3,7] (2,(w::G),([S.eE])) ⟨by show 2-2<2-1;decide,av,s,U.symm⟩ cb|exact bL [0,1,2,7] (2,[],(y::(Q++[S.eE]))) ⟨by show 2-2<2-1;decide,av,s,U.symm⟩ cb|exact bL [0,1,2,3,8] (2,(w::G),(y::(Q++[S.eE]))) ⟨by show 2-2<2-1;decide,av,s,U.symm⟩ cb
     )
 .have s:Y=g7 mk cu (k+1):=s;have X:W=g7 mk m (k+1):=X;rcases Y with _|⟨w,G⟩<;>rcases W with _|⟨y,Q⟩<;>(
   refine bf 120 ?_;refine jv 14 (b:=B&&(dn mk cu (k+1)&&dn mk m (k+1))) o ?_;refine b5 120 ((k+1:Nat):Int) ?_;refine st ?_
   first|exact bL [0,1,2] (k+1,[],[]) ⟨by show M-(k+1)<M-k;omega,ae,s,X⟩ cb|exact bL [0,1,2,3] (k+1,w::G,[]) ⟨by show M-(k+1)<M-k;omega,ae,s,X⟩ cb|exact bL [0,1,2,3] (k+1,[],y::Q) ⟨by show M-(k+1)<M-k;omega,ae,s,X⟩ cb|exact bL [0,1,2,3,4] (k+1,w::G,y::Q) ⟨by show M-(k+1)<M-k;omega,ae,s,X⟩ cb)
def qO(x:ac fD)(j:Nat):fD:=(x[j]?).getD (0,0)
def iB(l:ac bT)(k:Nat):bT:=(l[k]?).getD ⟨[],[]⟩
def alm{d:Nat->Rat}(h:∀i,i<=n->c i=d i)(i:Nat)(af:i<=n):kJ aQ w n c i=kJ aQ w n d i:=by
 unfold kJ;rw[XF h i (i+1) af]
def YH{d:Nat->Rat}(h:∀i,i<=n->c i=d i)(p:Nat)(hp:p<=n):qM aQ w n c p=qM aQ w n d p:=by
 unfold qM;exact zP (λi af=>alm h i af) p p hp
def aln{st:Nat}{f:Nat->Rat}(p:Nat):qN st 0 aQ w f p=f p:=by
 unfold qN;rw[DR,X7];simp
def alo(h:o5 d n v):dd d (v+1)=dd d n:=by
 have Y:=(Ng (d:=d) (v:=v) (v+1) λj f O=>h.rest j (by have:=h.lt;omega) O).1;rw[aA<|nI v]at Y;rw[Y,h.dd.1]
theorem YI{b:ac fD}{d:Nat->Nat}{f:Nat->Rat}{n v:Nat}(h:o5 d n v):∀k,k<=n->∀p,p<=d v->o4 b d (dd d n) f k p=if v<k then qM (qO b v).1 ((qO b v).2-(qO b v).1) (d v) f p else f p
 |0,_,p,_=>by rw[au<|m6 _];rfl
 |k+1,aB,p,hp=>by
  have U:=YI (b:=b) (f:=f) h k J;show qN (dd d n/dd d (k+1)) (d k) (qO b k).1 ((qO b k).2-(qO b k).1) (o4 b d (dd d n) f k) p=_;by_cases c:k=v
  .subst c;have dY:=h.dd.1;rw[aA<|nI k,alo h,Nat.div_self<|CW d n];unfold qN;rw[yc,p0 (show p<d k+1 by omega)];refine YH (λi af=>?_) p hp;rw[ph,ph,Ax,jn,U i af,au<|yf k]
  .rw[h.rest k J c,aln,U p hp];by_cases E:v<k
   .rw[aA E,aA J]
   .rw[au E,au J]
theorem YJ{d p:Nat->Nat}{n v:Nat}(h:o5 d n v)(hp:∀j,p j<=d j):∀k,k<=n->kx d p k=if v<k then p v else 0
 |0,_=>by rw[au<|m6 _];rfl
 |k+1,aB=>by
  show kx d p k*(d k+1)+p k=_;rw[YJ h hp k J];by_cases c:k=v
  .subst c;rw[au<|yf k,aA<|nI k,jC,jn]
  .have e:=h.rest k J c;have T:=hp k;rw[e]at T;rw[e,show p k=0 by omega];by_cases E:v<k
   .rw[aA E,aA J];omega
   .rw[au E,au J]
theorem YK{l:ac bT}{d:Nat->Nat}{n v:Nat}(h:o5 d n v)(hp:∀k j,eQ (iB l k) j<=d j):∀k,k<=l.length->∀p,iw l d n k p=cK (λi=>j0 (eQ (iB l i) v) (eI (iB l i).bY) p) k
 |0,_,p=>by rw[iw];rfl
 |k+1,aB,p=>by
  have F:l[k]? =some (iB l k):=by unfold iB;rw[qV J];rfl
  rw[M7 F,YJ h (hp k) n<|ct _,aA h.lt,YK h hp k J p];show _=cK (λi=>j0 (eQ (iB l i) v) (eI (iB l i).bY) p) k+j0 (eQ (iB l k) v) (eI (iB l k).bY) p;unfold j0;split
  .rfl
  .rw[pr]
theorem alp(aQ:Rat)(n p j:Nat)(hp:p<=n):hy aQ n (λ_=>0) p j=0:=by
 have h:=MH aQ 0 n 0 (dg _) p j hp;rw[show j0 0 (0:Rat)=λ_=>0 from by funext i;unfold j0;split<;>rfl]at h;rw[h];split
 .grind
 .rfl
theorem YL(aQ:Rat)(n p j:Nat)(hp:p<=n)(F:Nat->Nat->Rat):∀k,hy aQ n (λq=>cK (λi=>F i q) k) p j=cK (λi=>hy aQ n (F i) p j) k
 |0=>alp aQ n p j hp
 |k+1=>by
  show hy aQ n (λq=>cK (λi=>F i q) k+F k q) p j=cK (λi=>hy aQ n (F i) p j) k+hy aQ n (F k) p j;rw[XE,YL aQ n p j hp F k]
theorem YM(f:Nat->Rat)(a:Rat):∀n,cK f n*a=cK (λi=>f i*a) n
 |0=>sf _
 |n+1=>by
  show(cK f n+f n)*a=cK (λi=>f i*a) n+f n*a;rw[Rat.add_mul,YM f a n]
end Go.bI.ds
namespace Go.bI.ds
structure aM where
 a:Nat
 b:Nat
 c:Nat
 d:Nat
 e:Nat
 f:Nat
deriving DecidableEq
def aM.lt(x y:aM):Prop:=x.a<y.a\/x.a=y.a/\(x.b<y.b\/x.b=y.b/\(x.c<y.c\/x.c=y.c/\(x.d<y.d\/x.d=y.d/\(x.e<y.e\/x.e=y.e/\x.f<y.f))))
variable{x y:aM}
instance(x y:aM):Decidable (aM.lt x y):=by unfold aM.lt;infer_instance
theorem aM.qP(x:aM):¬aM.lt x x:=by rw[aM.lt];omega
theorem aM.zY{z:aM}(h:aM.lt x y)(D:aM.lt y z):aM.lt x z:=by unfold aM.lt at *;omega
def aM.Nk(h:¬aM.lt x y)(aj:x≠y):aM.lt y x:=by
 by_cases g:aM.lt y x
 .exact g
 .exfalso;apply aj;cases x;cases y;unfold aM.lt at h g;simp only at h g;simp;omega
abbrev Poly:=ac<|aM×Rat
def Poly.eM(P:Poly):Prop:=P.Pairwise λp q=>aM.lt p.1 q.1
variable{P:Poly}{k:aM}
def bY:Poly->aM->Rat
 |[],_=>0
 |p::P,k=>if p.1=k then p.2 else bY P k
def eA:Poly->aM->Rat->Poly
 |[],k,x=>if x+0=0 then[]else[(k,x+0)]
 |p::P,k,x=>if p.1=k then(if x+p.2=0 then P else(k,x+p.2)::P)else if aM.lt k p.1 then(if x+0=0 then p::P else(k,x+0)::p::P)else p::eA P k x
theorem uw(h:∀p∈P,p.1≠k):bY P k=0:=by
 induction P with
 |nil=>rfl
 |cons p P U=>
  grind [bY]
theorem lv(u:P.eM){x:Rat}(h:(k,x)∈P):bY P k=x:=by
 induction P with
 |nil=>cases h
 |cons p P U=>
  have W:=nE.1 u;rw[bY];obtain rfl|h:=fg.1 h
  .rw[aA o]
  .rw[au λe=>aM.qP k aoM];exact U W.2 h
theorem ml(o:P.eM)(k:aM)(x:Rat)(q:aM×Rat):q∈eA P k x↔(q.1=k/\q.2=x+bY P k/\x+bY P k≠0)\/q∈P/\q.1≠k:=by
 have one:∀s:Rat,q=(k,s)↔q.1=k/\q.2=s:=λs=>⟨λe=>by rw[e];exact e9,λ⟨Y,G⟩=>by cases q;simp only at Y G;rw[Y,G]⟩
 induction P with
 |nil=>
  grind [eA,bY]
 |cons p P U=>
  have W:=nE.1 o;unfold eA bY;by_cases hp:p.1=k
  .grind [aM.qP]
  .rw[au hp];split
   .grind [aM.qP,aM.zY,uw]
   .have O:=U W.2;constructor
    .intro h;rcases fg.1 h with rfl|h
     .exact .inr ⟨gT,hp⟩
     .rcases O.1 h with h|h
      .exact .inl h
      .exact .inr ⟨e3 _ h.1,h.2⟩
    .rintro(h|⟨h,aj⟩)
     .exact e3 _<|O.2<|.inl h
     .rcases fg.1 h with rfl|h
      .exact gT
      .exact e3 _<|O.2<|.inr ⟨h,aj⟩
def mX(o:P.eM)(k:aM)(x:Rat):(eA P k x).eM:=by
 induction P with
 |nil=>rw[eA];split<;>simp[Poly.eM]
 |cons p P U=>
  have W:=nE.1 o;rw[eA];split
  .rename_i hp;split
   .exact W.2
   .exact nE.2 ⟨λq aD=>by have:=W.1 q aD;rw[hp]at this;exact this,W.2⟩
  .rename_i hp;split
   .rename_i aT;split
    .exact o
    .refine nE.2 ⟨λq aD=>?_,o⟩;obtain rfl|aD:=fg.1 aD
     .exact aT
     .exact aM.zY aT<|W.1 q aD
   .rename_i aT;refine nE.2 ⟨λq aD=>?_,U W.2⟩;obtain⟨Y,_⟩|⟨Y,_⟩:=(ml W.2 k x q).1 aD
    .rw[Y];exact aM.Nk aT λe=>hp e.symm
    .exact W.1 q Y
def YN(u:P.eM)(k:aM)(x:Rat)(j:aM):bY (eA P k x) j=if j=k then x+bY P k else bY P j:=by
 by_cases f:∃y,(j,y)∈eA P k x
 .have⟨y,N⟩:=f;rw[lv (mX u k x) N];obtain⟨Y,G,_⟩|⟨Y,G⟩:=(ml u k x _).1 N
  .rw[aA Y];exact G
  .rw[au G];exact(lv u Y).symm
 .have B:∀p∈eA P k x,p.1≠j:=λp hp e=>f ⟨p.2,by rwa [<-e]⟩;rw[uw B];split
  .rename_i h;subst h;by_cases T:x+bY P j=0
   .exact T.symm
   .exact absurd o (B (j,x+bY P j)<|(ml u j x _).2<|.inl ⟨o,o,T⟩)
  .rename_i h;exact(uw λp hp e=>(B p ((ml u k x _).2<|.inr ⟨hp,by rw[e];exact h⟩) e)).symm
def Poly.ij(P:Poly):Prop:=∀p∈P,p.2≠0
def zZ(o:P.eM)(aj:P.ij)(k:aM)(x:Rat):(eA P k x).ij:=λq aD=>by
 obtain⟨_,G,C⟩|⟨Y,_⟩:=(ml o k x q).1 aD
 .rw[G];exact C
 .exact aj q Y
theorem YO:∀{P Q:Poly},P.eM->Q.eM->P.ij->Q.ij->(∀k,bY P k=bY Q k)->P=Q:=by
 have mem:∀{P Q:Poly},P.eM->P.ij->(∀k,bY P k=bY Q k)->∀p∈P,p∈Q:=λ{P Q} f aj h p hp=>by
  have Y:=lv f hp;rw[h]at Y;have key:∀Q:Poly,bY Q p.1=p.2->p∈Q:=by
   intro Q
   induction Q with
   |nil=>intro e;exact absurd e.symm (aj p hp)
   |cons q Q U=>
    grind [bY]
  exact key Q Y
 intro P
 induction P with
 |nil=>
  intro Q _ aD _ aj h;cases Q with
  |nil=>rfl
  |cons q Q=>exact absurd (mem aD aj (λk=>(h k).symm) q gT) az
 |cons p P U=>
  intro Q f C aj l h;cases Q with
  |nil=>exact absurd (mem f aj h p gT) az
  |cons q Q=>
   have eV:=nE.1 f;have ew:=nE.1 C;have e:p=q:=by
    have ey:=mem f aj h p gT;have eW:=mem C l (λk=>(h k).symm) q gT;obtain e|ey:=fg.1 ey
    .exact e
    .obtain e|eW:=fg.1 eW
     .exact e.symm
     .exact absurd (aM.zY (eV.1 q eW)<|ew.1 p ey)<|aM.qP _
   subst e;rw[U eV.2 ew.2 (λr aw=>aj r<|e3 _ aw) (λr aw=>l r<|e3 _ aw) λk=>?_];have E:=h k
   grind [bY,uw,aM.qP]
open Go.bI
set_option maxRecDepth 100000
set_option maxHeartbeats 4000000
def YP(K:ac (Nat×dT)){f:d8}(a7:c7){S:gh}{ag:S.L->Nat}(h:∀l,S.pre l->∀H i0 ax,i0.length=(S.own l).length->ag l<=ax.ag->fz ⟨cf aV (cm cv.ctx<|bE K)<|bz+1,bz+1,f,H,i0,ax,Ch S l a7.res⟩ [] (.c a7.body) (S.own l) ((S.own l).length) (iJ 0<|S.args l))
 (O:aV.get f=some a7:=by kernel_rfl) (aI:∀l,(S.args l).length<=a7.aR:=by exactλ_=>jb o):eb cv.ctx f (S.jT ag):=aek cv.gP hv (bE K) O aI λl hp H i0 ax _=>h l hp H i0 ax
def aM.l(k:aM):ac Int:=[(k.a:Int),(k.b:Int),(k.c:Int),(k.d:Int),(k.e:Int),(k.f:Int)]
def eG(k:aM):bv:=.agg ⟨k.l.map<|Value.int .i64⟩
def mY(k:aM):ai:=.agg [.ae (k.a:Int),.ae (k.b:Int),.ae (k.c:Int),.ae (k.d:Int),.ae (k.e:Int),.ae (k.f:Int)]
def xS(k:aM):vD (mY k) (eG k):=afE .i64 k.l
theorem key_inj{j:aM}(h:eG k=eG j):k=j:=by
 unfold eG aM.l at h;simp at h;obtain⟨Y,G,C,N,J,B⟩:=h;cases k;cases j;simp;simp only at Y G C N J B;omega
def aM.gR(k:aM):Prop:=k.a<4096/\k.b<4096/\k.c<4096/\k.d<4096/\k.e<4096/\k.f<4096
theorem qQ(h:k.gR):(fR.arr .i64 6).ok (eG k)=true:=by
 obtain⟨Y,G,C,N,s,B⟩:=h;have one:∀n:Nat,n<4096->wJ .i64 (n:Int)=true:=λn aj=>by
  unfold wJ;rw[qa,qa];have U:IntKind.i64.min= -9223372036854775808:=av
  have T:IntKind.i64.max=9223372036854775807:=av
  rw[U,T,cQ];exact⟨c9 J,c9 J⟩
 show(Nat.beq (dK<|k.l.map<|Value.int .i64) 6&&(k.l.map<|Value.int .i64).all λx=>gk x (λf m=>j5 .i64 f&&wJ .i64 m) false)=true;rw[cQ,ja];refine⟨o,λx O=>?_⟩;obtain⟨n,aj,rfl⟩:=db.1 O;unfold aM.l at aj;simp at aj;rcases aj with rfl|rfl|rfl|rfl|rfl|rfl<;>(apply one;assumption)
abbrev gL:=aM->be (bv×bv×bv)
def vU(cp:Nat):be (bv×bv×bv)->Rat->ac ai
 |none,x=>[g4 cp<|.b<|decide (x.num<0),g4 cp<|dw x.num.natAbs,g4 cp<|rV x.den]
 |some (u,v,w),x=>[xC (.v u)<|.b<|decide (x.num<0),xC (.v v)<|dw x.num.natAbs,xC (.v w)<|rV x.den]
def fE(cp:Nat)(L:gL)(P:Poly):ac (bv×ai):=P.map λp=>(eG p.1,.agg<|vU cp (L p.1) p.2)
def YQ{cp:Nat}{R:be (bv×bv×bv)}{x:Rat}:bX (.agg<|vU cp R x) (bQ x):=by
 cases R with
 |none=>exact bX.agg ⟨.oR,.oR,.oR,aP⟩
 |some t=>exact bX.agg ⟨.LB,.LB,.LB,aP⟩
section
variable{cp:Nat}{L:gL}{P:Poly}{k:aM}
def alq{x:Rat}(o:P.eM)(h:(k,x)∈P):iV (fE cp L P) (eG k)=some (.agg<|vU cp (L k) x):=by
 induction P with
 |nil=>cases h
 |cons p P U=>
  have W:=nE.1 o;show cond (dE (eG k)<|eG p.1) _ _=_;rcases fg.1 h with rfl|h
  .rw[pt];rfl
  .have:dE (eG k) (eG p.1)=false:=by
    cases aa:dE (eG k) (eG p.1)with
    |false=>rfl
    |true=>
     have e:=key_inj<|j4 _ _ aa;have:=W.1 _ h;rw[<-e]at this;exact absurd this<|aM.qP _
   rw[this];exact U W.2 h
def YR(h:∀p∈P,p.1≠k):iV (fE cp L P) (eG k)=none:=by
 cases e:iV (fE cp L P) (eG k)with
 |none=>rfl
 |some a=>
  obtain⟨p,hp,l⟩:=db.1<|xz e;exact absurd (key_inj<|congrArg Prod.fst l)<|h p hp
def pT(o:P.eM):((fE cp L P).map (·.1)).Nodup:=by
 unfold fE;rw[qW];refine pj.2<|o.imp λ{p q} h e=>?_;have:=key_inj e;rw[this]at h;exact aM.qP _ h
def gL.kZ(L:gL)(k:aM):gL:=λj=>if j=k then none else L j
def HA(o:P.eM)(x:Rat):∀p∈fE cp L P,p.1≠eG k->p∈fE cp (L.kZ k) (eA P k x):=λp hp O=>by
 obtain⟨q,aD,rfl⟩:=db.1 hp;have J:q.1≠k:=λe=>O<|congrArg eG e;refine db.2 ⟨q,(ml o k x q).2<|.inr ⟨aD,J⟩,?_⟩;unfold gL.kZ;rw[au J]
def Nl(o:P.eM)(x:Rat):∀p∈fE cp (L.kZ k) (eA P k x),(p=(eG k,.agg<|vU cp none<|x+bY P k)/\x+bY P k≠0)\/p∈fE cp L P/\p.1≠eG k:=λp hp=>by
 obtain⟨q,aD,rfl⟩:=db.1 hp;rcases(ml o k x q).1 aD with⟨Y,G,C⟩|⟨Y,G⟩
 .refine .inl ⟨?_,C⟩;unfold gL.kZ;rw[aA Y,Y,G]
 .refine .inr ⟨db.2 ⟨q,Y,?_⟩,λe=>G<|key_inj e⟩;unfold gL.kZ;rw[au G]
def CZ{l m:ac (bv×ai)}(aE:(l.map (·.1)).Nodup)(aK:(m.map (·.1)).Nodup)(h:∀a,a∈l.map (·.1)↔a∈m.map (·.1)):l.length=m.length:=by
 have:=((DA aE aK).2 h).length_eq;exact aoX
end
def z0:gh:=kP λ((cp,L,P,k,x):Nat×gL×Poly×aM×Rat)=>([.g<|h8<|fE cp L P],[.mp 0,mY k,bQ x],P.eM/\(∀p∈P,p.1.gR/\bg 268435456 p.2)/\k.gR/\bg 268435456 x,[.g<|h8<|fE cp (L.kZ k)<|eA P k x],.br [])
abbrev y1:z0.L->Nat:=λl=>l.1
variable{p:aM×Rat}{V:Poly}{H:bm}{es:ac f6}{clock:Nat}
def C0:eb cv.ctx 89 (z0.jT y1):=by
 refine YP [(29,Md.jT),kU] T2.1 ?_;rintro⟨cp,L,P,k,x⟩ ⟨s,Y,E,O⟩ H i0 ax Z aj;have J:∀p∈fE cp L P,(fR.arr .i64 6).ok p.1=true:=λp hp=>by
  obtain⟨q,aD,rfl⟩:=db.1 hp;exact qQ (Y q aD).1
 obtain⟨c,r,ah,F,hle,aw,f⟩:∃(c:Rat) (r:ai),bg 268435456 c/\bY P k=c/\bX r (bQ c)/\(match iV (fE cp L P) (eG k)with|some a=>r=a|none=>∀H u,den H r u<|.agg #[.bool false,.slice none 0 0,.slice none 0 0])/\h3 r=true:=by
  by_cases h:∃y,(k,y)∈P
  .obtain⟨y,N⟩:=h;refine⟨y,_,(Y _ N).2,lv s N,YQ,by rw[alq s N],?_⟩;cases L k<;>rfl
  .have B:∀p∈P,p.1≠k:=λp hp e=>h ⟨p.2,by rw[<-e];exact hp⟩;refine⟨0,.agg [.b false,.nl,.nl],aqQ,uw B,le_zero,by rw[YR B];exactλH u=>⟨_,o,_,_,o,o,_,_,o,o,_,_,o,o,o⟩,o⟩
 subst F;refine U 11<|LC r (afD o) (xS k) J aw ?_ (fO:=f) (jx:=qQ E);refine ea 9 r o o o<|Gj Wy (x,bY P k) ⟨O,ah⟩ ?_ (he:=by exact⟨.refl _,hle,aP⟩) (fO:=by show(h3 _&&(h3 r&&true))=true;rw[f];rfl);refine fI 10 (.agg<|(cc<|x+bY P k).map<|g4 ax.ag) o (GU o)<|U 7<|bn kU (x+bY P k) aP (Cr (λh=>?_) λh=>?_) (he:=by exact⟨(bX.agg ⟨.oR,.oR,.oR,aP⟩),aP⟩)
 .have T:=D7.1<|wo.1 h;refine U 4<|afX (fE cp (L.kZ k)<|eA P k x) (by
   have jw:∀p∈fE cp (L.kZ k) (eA P k x),p∈fE cp L P/\p.1≠eG k:=λp hp=>(Nl s x p hp).elim (λh=>absurd T h.2) id;refine⟨pT<|mX s k x,HA s x,jw,?_⟩;have key:∀a,a≠eG k->(a∈(fE cp (L.kZ k)<|eA P k x).map (·.1)↔a∈(fE cp L P).map (·.1)):=λa D=>by
    constructor
    .intro h;obtain⟨p,hp,rfl⟩:=db.1 h;exact db.2 ⟨p,(jw p hp).1,o⟩
    .intro h;obtain⟨p,hp,rfl⟩:=db.1 h;exact db.2 ⟨p,HA s x p hp D,o⟩
   have B:eG k∉(fE cp (L.kZ k)<|eA P k x).map (·.1):=λh=>by
    obtain⟨p,hp,l⟩:=db.1 h;exact(jw p hp).2 l
   cases W:iV (fE cp L P) (eG k)with
   |some a=>
    have:=CZ (m:=(eG k,.nl)::fE cp (L.kZ k) (eA P k x)) (pT s) (uQ.2 ⟨B,pT<|mX s k x⟩) λb=>by
     rw[j2,fg];by_cases e:b=eG k
     .rw[e];exact⟨λ_=>.inl o,λ_=>db.2 ⟨_,xz W,o⟩⟩
     .rw[key b e];exact⟨.inr,λh=>h.elim (λh=>absurd h e) id⟩
    simp at this;show _=(fE cp L P).length-1;omega
   |none=>
    refine CZ (pT<|mX s k x) (pT s) λb=>?_;by_cases e:b=eG k
    .subst e;refine⟨λh=>absurd h B,λh=>?_⟩;obtain⟨p,hp,l⟩:=db.1 h;exact absurd l<|Cn W p hp
    .exact key b e) (xS k) J ?_ (jx:=qQ E)
  exact U 4<|bh ⟨.inr o,lQ,[0],o,iz aP fJ⟩
 .have T:x+bY P k≠0:=λe=>h (by rw[e];rfl);refine U 6<|fI 18 (.agg<|vU cp none<|x+bY P k) o (bX.agg ⟨.LA aj,.LA aj,.LA aj,aP⟩)<|SX (fE cp (L.kZ k)<|eA P k x) (by
   have Q:(eG k,ai.agg<|vU cp none<|x+bY P k)∈fE cp (L.kZ k) (eA P k x):=by
    refine db.2 ⟨(k,x+bY P k),(ml s k x _).2<|.inl ⟨o,o,T⟩,?_⟩;unfold gL.kZ;rw[aA o]
   refine⟨pT<|mX s k x,Q,HA s x,λp hp=>(Nl s x p hp).imp (·.1) id,?_⟩;have key:∀a,a∈(fE cp (L.kZ k)<|eA P k x).map (·.1)↔a=eG k\/a∈(fE cp L P).map (·.1):=λa=>by
    constructor
    .intro h;obtain⟨p,hp,rfl⟩:=db.1 h;rcases Nl s x p hp with⟨e,_⟩|⟨e,_⟩
     .exact .inl arT
     .exact .inr<|db.2 ⟨p,e,o⟩
    .rintro(rfl|h)
     .exact db.2 ⟨_,Q,o⟩
     .obtain⟨p,hp,rfl⟩:=db.1 h;by_cases e:p.1=eG k
      .rw[e];exact db.2 ⟨_,Q,o⟩
      .exact db.2 ⟨p,HA s x p hp e,o⟩
   cases W:iV (fE cp L P) (eG k)with
   |some a=>
    refine CZ (pT<|mX s k x) (pT s) λa=>(key a).trans ⟨?_,.inr⟩;rintro(rfl|h)
    .exact db.2 ⟨_,xz W,o⟩
    .exact h
   |none=>
    have B:=Cn W;have:=CZ (m:=(eG k,.nl)::fE cp L P) (pT<|mX s k x) (uQ.2 ⟨λh=>by
     obtain⟨p,hp,l⟩:=db.1 h;exact B p hp l,pT s⟩) λa=>(key a).trans az
    simpa using this) (xS k) J ?_ (jx:=qQ E)
  exact U 1<|bh ⟨.inl o,lQ,[0],o,iz aP fJ⟩
def fM(P:Poly)(x:Rat)(W:Poly):Poly:=W.foldl (λP p=>eA P p.1<|p.2*x) P
theorem ux{x:Rat}:∀{W P:Poly},P.eM->(fM P x W).eM
 |[],_,h=>h
 |p::W,P,h=>ux (W:=W)<|mX h _ _
theorem z1{x:Rat}:∀{W P:Poly},P.eM->P.ij->(fM P x W).ij
 |[],_,_,h=>h
 |p::W,P,o,h=>z1 (W:=W) (mX o _ _)<|zZ o h _ _
def YS{x:Rat}{W:Poly}:fM P x (W++[p])=eA (fM P x W) p.1 (p.2*x):=by
 rw[fM];rw[D4];rfl
theorem C1{x:Rat}:∀{W P:Poly},P.eM->(W.map (·.1)).Nodup->∀k,bY (fM P x W) k=bY W k*x+bY P k
 |[],P,_,_,k=>by show bY P k=0*x+bY P k;rw[sf,uU]
 |p::W,P,f,aj,k=>by
  rw[j2,uQ]at aj;show bY (fM (eA P p.1<|p.2*x) x W) k=_;rw[C1 (mX f _ _) aj.2,YN f,show bY (p::W) k=if p.1=k then p.2 else bY W k from rfl]
  grind [uw]
theorem YT:∀{W:Poly},(W.map (·.1)).Nodup->∀{k:aM} {y:Rat},(k,y)∈W->bY W k=y
 |[],_,_,_,h=>by cases h
 |p::W,aj,k,y,h=>by
  rw[j2,uQ]at aj;rw[bY];obtain rfl|h:=fg.1 h
  .rw[aA o]
  .rw[au λe=>aj.1 aoM];exact YT aj.2 h
theorem alr{W:Poly}(Z:(W.map (·.1)).Nodup)(U:(V.map (·.1)).Nodup)(h:∀p,p∈W↔p∈V)(k:aM):bY W k=bY V k:=by
 grind [YT,uw]
def Nm(h:P.eM):(P.map (·.1)).Nodup:=pj.2 (h.imp λ{p q} W e=>by rw[e]at W;exact aM.qP _ W)
def als{W:Poly}{x:Rat}(Y:P.eM)(aj:P.ij)(Z:(W.map (·.1)).Nodup)(U:(V.map (·.1)).Nodup)(h:∀p,p∈W↔p∈V):fM P x W=fM P x V:=
 YO (ux Y) (ux Y) (z1 Y aj) (z1 Y aj) λk=>by rw[C1 Y Z,C1 Y U,alr Z U h]
def fe(P:Poly):ac (bv×ai):=P.map λp=>(eG p.1,bQ p.2)
def r2(es:ac f6):gL:=λk=>match iy (eG k) es with
 |some m=>match m.val with
  |.agg ⟨[u,v,w]⟩=>some (u,v,w)
  |_=>none
 |none=>none
def vV{f:Poly}(h:hE H es clock (fe f)){m:f6}(hm:m∈es):∃p∈f,∃u v w,m.key=eG p.1/\m.val= .agg ⟨[u,v,w]⟩/\r2 es p.1=some (u,v,w)/\den H (bQ p.2) [] m.val:=by
 have⟨a,D,S⟩:=h.jw m hm;have⟨p,hp,l⟩:=db.1 D;have E:=congrArg Prod.fst l;have Z:bQ p.2=a:=congrArg Prod.snd l;rw[<-Z]at S;have N:=S;have⟨ws,e,u,C,U,_,v,s,T,_,w,X,o,_,B⟩:=N;subst B o T U;refine⟨p,hp,u,v,w,E.symm,e,?_,S⟩;rw[r2,Fp h.keys hm E.symm];simp only;rw[e]
theorem vW{f:Poly}(h:hE H es clock (fe f))(hp:p∈f):∃m∈es,m.key=eG p.1:=h.to _<|db.2 ast
def gL.pU(L:gL)(W:Poly):gL:=λk=>if k∈W.map (·.1)then none else L k
def alu(L:gL):L.pU []=L:=funext λk=>by rw[gL.pU];rw[au az]
theorem alv(L:gL)(W:Poly)(p:aM×Rat):(L.pU W).kZ p.1=L.pU (W++[p]):=funext λk=>by
 unfold gL.kZ gL.pU;rw[oq];by_cases h:k=p.1
 .rw[aA h,aA<|by rw[h];simp]
 .rw[au h];by_cases G:k∈W.map (·.1)
  .rw[aA G,aA<|p5 _ G]
  .rw[au G,au aoM]
theorem alw(L:gL){W:Poly}(h:∀p,p∈W↔p∈V):L.pU W=L.pU V:=funext λk=>by
 grind [gL.pU]
theorem alx{cp:Nat}{L:gL}{f:Poly}(D:f.eM){u:ac aM}(hp:p∈f)(aB:p.1∉u):xA (fE cp L<|f.filter λq=>decide (q.1∈u)) (eG p.1) (.agg<|vU cp (L p.1) p.2) (fE cp L<|f.filter λq=>decide (q.1∈u++[p.1])):=by
 have T:∀K:ac aM,Poly.eM (f.filter λq=>decide (q.1∈K)):=λK=>D.sublist DJ;have B:∀(K:ac aM) q,q∈(f.filter λq=>decide (q.1∈K))↔q∈f/\q.1∈K:=λK q=>by rw[sc,decide_eq_true_eq]
 have R:∀q∈f,q.1=p.1->q=p:=λq aD e=>by
  have Y:=lv D aD;rw[e,(lv D hp)]at Y;cases q;cases p;simp only at e Y;rw[e,Y]
 refine⟨pT<|T _,db.2 ⟨p,(B _ _).2 ⟨hp,az⟩,o⟩,λr aw _=>?_,λr aw=>?_,?_⟩
 .obtain⟨q,aD,rfl⟩:=db.1 aw;obtain⟨Y,G⟩:=(B _ _).1 aD;exact db.2 ⟨q,(B _ _).2 ⟨Y,p5 _ G⟩,o⟩
 .obtain⟨q,aD,rfl⟩:=db.1 aw;obtain⟨Y,G⟩:=(B _ _).1 aD;rcases ie.1 G with G|G
  .exact .inr ⟨db.2 ⟨q,(B _ _).2 ⟨Y,G⟩,o⟩,λe=>aB<|by rwa [<-key_inj e]⟩
  .rw[fX]at G;simpa[R q Y G]using .inl o
 .rw[YR λq aD e=>aB aoM];have:=CZ (m:=(eG p.1,.nl)::fE cp L (f.filter λq=>decide (q.1∈u))) (pT<|T _) (uQ.2 ⟨λh=>by
   obtain⟨r,aw,l⟩:=db.1 h;obtain⟨q,aD,rfl⟩:=db.1 aw;exact aB<|by rw[<-key_inj l];exact((B _ _).1 aD).2,pT<|T _⟩) λa=>by
   rw[j2,fg];constructor
   .intro h;obtain⟨r,aw,rfl⟩:=db.1 h;obtain⟨q,aD,rfl⟩:=db.1 aw;obtain⟨Y,G⟩:=(B _ _).1 aD;rcases ie.1 G with G|G
    .exact .inr<|db.2 ⟨_,db.2 ⟨q,(B _ _).2 ⟨Y,G⟩,o⟩,o⟩
    .rw[fX]at G;exact .inl<|congrArg eG G
   .rintro(rfl|h)
    .exact db.2 ⟨_,db.2 ⟨p,(B _ _).2 ⟨hp,az⟩,o⟩,o⟩
    .obtain⟨r,aw,rfl⟩:=db.1 h;obtain⟨q,aD,rfl⟩:=db.1 aw;obtain⟨Y,G⟩:=(B _ _).1 aD;exact db.2 ⟨_,db.2 ⟨q,(B _ _).2 ⟨Y,p5 _ G⟩,o⟩,o⟩
  exact aoX
def r3(L:gL)(p:aM×Rat):fK:=match L p.1 with
 |none=>.num (eG p.1) (decide (p.2.num<0)) (b9 4294967296 p.2.num.natAbs) (if p.2.den=1 then[]else b9 4294967296 p.2.den)
 |some (u,v,w)=>.lit (eG p.1)<|.agg ⟨[u,v,w]⟩
theorem Nn{cp:Nat}{L:gL}:∀P:Poly,qF (fE cp L P) ((P.map<|r3 L).map λe=>(e.key,e.km cp))
 |[]=>trivial
 |p::P=>by
  refine⟨?_,?_,Nn P⟩
  .show eG p.1=(r3 L p).key;rw[r3];cases L p.1<;>rfl
  .show bX (.agg<|vU cp (L p.1) p.2) ((r3 L p).km cp);rw[r3];cases L p.1 with
   |none=>exact GS
   |some t=>
    intro H u v ⟨ab,e,v1,m,U,W,v2,l,h4,F,h,X,f,R,B⟩;have W:=W.1;have F:=F.1;have R:=R.1;subst B f h4 U W F R;exact e
theorem No{H:bm}{L:gL}:∀{P:Poly},P.ij->(∀p∈P,∀u v w,L p.1=some (u,v,w)->den H (bQ p.2) [] (.agg ⟨[u,v,w]⟩))->nq H (P.map<|r3 L) (fe P)
 |[],_,_=>trivial
 |p::P,aj,h=>by
  refine⟨?_,⟨decide (p.2.num<0),b9 4294967296 p.2.num.natAbs,if p.2.den=1 then[]else b9 4294967296 p.2.den,o,λe=>?_,?_⟩,No (λq aD=>aj q<|e3 _ aD) λq aD=>h q<|e3 _ aD⟩
  .show(r3 L p).key=eG p.1;rw[r3];cases L p.1<;>rfl
  .have:=(qG av).1 e;exact aj p gT<|D7.1<|Int.natAbs_eq_zero.1 this
  .rw[r3];cases f:L p.1 with
   |none=>exact sA
   |some t=>exact h p gT t.1 t.2.1 t.2.2 f
def YU(K:ac (Nat×dT)){f:d8}(a7:c7){S:da}(ms:S.L->ac (bv×ai))(jx:∀l,S.pre l->∀p∈ms l,∃cn:fR,cn.ok p.1=true)
 (h:∀l,S.pre l->∀H ax ab,S.hp H->Fit H [] ax [] 0->cT H (S.args l) [] ab->∃(bJ:ac ai) (cH:ac fK),cT H bJ [] ab/\nq H cH (ms l)/\jg ⟨cf aV (cm cv.ctx<|bE K)<|bz+1,bz+1,f,H,[],ax,Lw cH ax.ag a7.res⟩ a7.body ⟨[],0,iJ 0 bJ⟩)
 (O:aV.get f=some a7:=by kernel_rfl) (aI:∀l,(S.args l).length<=a7.aR:=by exactλ_=>jb o) (E:∀l,S.res l= .g (fU<|ms l):=by exactλ_=>o):b4 f S:=afT cv.gP hv (bE K) O ms E aI jx h
structure Np(f:Poly)(W P:Poly):Prop where
 all:∀p∈P,p.1.gR∧bg 200000001 p.2∧(p.1∉W.map (·.1)->p∈f)
variable{g:Poly}{seen:ac Nat}
def aly{f W:Poly}{x:Rat}(D:f.eM)(u:∀p∈f,p.1.gR/\bg 100000000 p.2)(o:∀p∈g,p.1.gR/\bg 50000000 p.2)(O:bg 50000000 x)(h:Np f W (fM f x W))(hp:p∈g)(aj:p.1∉W.map (·.1)):Np f (W++[p]) (fM f x<|W++[p]):=by
 rw[YS];refine⟨λq aD=>?_⟩;rcases(ml (ux D) p.1 (p.2*x) q).1 aD with⟨Y,G,C⟩|⟨Y,G⟩
 .have hm:=lT (o p hp).2 O;have ah:bg 100000000 (bY (fM f x W) p.1):=by
   by_cases E:∃y,(p.1,y)∈fM f x W
   .obtain⟨y,N⟩:=E;rw[lv (ux D) N];exact(u _<|(h.all _ N).2.2 aj).2
   .rw[uw λr aw e=>E ⟨r.2,by rw[<-e];exact aw⟩];exact aqQ aqQ
  refine⟨by rw[Y];exact(o p hp).1,by rw[G];exact b0<|s0 hm ah,λE=>absurd ?_ E⟩;rw[Y];simp
 .obtain⟨eV,ew,s⟩:=h.all q Y;exact⟨eV,ew,λE=>s λe=>E<|by rw[oq];exact p5 _ e⟩
def left(es:ac f6)(seen:ac Nat):Nat:=(es.filter λm=>decide (m.born∉seen)).length
def xT{m:f6}(hm:m∈es)(h:m.born∉seen):left es (seen++[m.born])<left es seen:=by
 unfold left;have key:∀l:ac f6,(l.filter λf=>decide (f.born∉seen++[m.born])).length<=(l.filter λm=>decide (m.born∉seen)).length/\(m∈l->(l.filter λf=>decide (f.born∉seen++[m.born])).length<(l.filter λm=>decide (m.born∉seen)).length):=by
  intro l
  induction l with
  |nil=>exact⟨ct _,λh=>by cases h⟩
  |cons x l U=>
   rw[wb,wb];by_cases Y:x.born∈seen
   .have G:x.born∈seen++[m.born]:=p5 _ Y;simp only[Y,G,not_true,decide_false,r9,if_false];refine⟨U.1,λO=>?_⟩;rcases fg.1 O with rfl|O
    .exact absurd Y h
    .exact U.2 O
   .by_cases G:x.born=m.born
    .have C:x.born∈seen++[m.born]:=by rw[G];simp
     simp only[Y,C,not_true,not_false_eq_true,decide_false,decide_true,r9,if_false,if_true,iQ];exact asE asE
    .have C:x.born∉seen++[m.born]:=by simp only[ie,fX,not_or];exact⟨Y,G⟩
     simp only[Y,C,not_false_eq_true,decide_true,if_true,iQ];refine⟨by have:=U.1;omega,λO=>?_⟩;rcases fg.1 O with rfl|O
     .exact absurd o G
     .have:=U.2 O;omega
 exact(key es).2 hm
def z2(es:ac f6)(seen:ac Nat):left es seen<=es.length:=List.length_filter_le _ _
def alz{x:Rat}:∀{f:Poly},(∀p∈f,p.1.gR)->(∀p∈g,p.1.gR)->f.eM->∀q∈fM f x g,q.1.gR:=by
 induction g with
 |nil=>exactλh _ _=>h
 |cons p g U=>
  intro f Y G D;refine U (f:=eA f p.1<|p.2*x) (λq aD=>?_) (λq aD=>G q<|e3 _ aD)<|mX D _ _;rcases(ml D p.1 (p.2*x) q).1 aD with⟨h,_⟩|⟨h,_⟩
  .rw[h];exact G p gT
  .exact Y q h
def alA(aj:bY P p.1≠0)(h:bY P p.1=p.2):p∈P:=by
 induction P with
 |nil=>exact absurd o aj
 |cons q P U=>
  unfold bY at h aj;split at h
  .rename_i e;have:p=q:=by cases p;cases q;simp only at e h;rw[e,h]
   rw[this];exact gT
  .rename_i e;rw[au e]at aj;exact e3 _<|U aj h
def xU(k:aM):den H (mY k) [] (eG k):=⟨_,o,_,_,o,o,_,_,o,o,_,_,o,o,_,_,o,o,_,_,o,o,_,_,o,o,o⟩
def xV{ms:ac (bv×ai)}(h:hE H es clock ms){m O:f6}(hm:m∈es)(u:O∈es){o:ac aM}(aB:m.key=eG k)(af:O.born∈seen↔∃k∈o,O.key=eG k):O.born∈seen++[m.born]↔∃j∈o++[k],O.key=eG j:=by
 constructor
 .intro f;rcases ie.1 f with f|f
  .obtain⟨j,Y,G⟩:=af.1 f;exact⟨j,p5 _ Y,G⟩
  .rw[fX]at f;rw[JI h.jM u hm f];exact⟨k,az,aB⟩
 .rintro⟨j,Y,G⟩;rcases ie.1 Y with Y|Y
  .exact p5 _<|af.2 ⟨j,Y,G⟩
  .rw[fX]at Y;rw[Y]at G;rw[uniq h.keys u hm<|G.trans aB.symm];simp
def HB:b4 94 (cR λ((f,g,x):Poly×Poly×Rat)=>([.g<|fU<|fe f,.g<|fU<|fe g,bQ x],f.eM/\g.eM/\f.ij/\(∀p∈f,p.1.gR/\bg 100000000 p.2)/\(∀p∈g,p.1.gR/\bg 50000000 p.2)/\bg 50000000 x/\f.length<=1000000/\g.length<=1000000,.g<|fU<|fe<|fM f x g)):=by
 refine YU [mg,(89,z0.jT y1)] UG.1 (λ(f,g,x)=>fe<|fM f x g) ?_ ?_
 .rintro⟨f,g,x⟩ ⟨(D:f.eM),(F:g.eM),(ar:f.ij),T,aj,_⟩ p hp;obtain⟨q,aD,rfl⟩:=db.1 hp;exact arq arq
 rintro⟨f,g,x⟩ ⟨(D:f.eM),(F:g.eM),(ar:f.ij),T,aj,(O:bg _ x),(bb:f.length<=_),(bk:g.length<=_)⟩ H ax bm _ bj a2;obtain⟨v1,a7,rfl,ay,bl,a6,rfl,aA,bc,av,rfl,aB,aF⟩:=a2;have aF:av=[]:=aF;subst aF;obtain⟨dX,a',aJ,rfl,aO,R⟩:=ay;obtain⟨e5,ao,aI,rfl,aS,ae⟩:=aA;have aZ:=Nm F;refine⟨[.v<|.map<|some dX,.v<|.map<|some e5,bQ x],(fM f x g).map<|r3<|(r2 a').pU g,⟨_,_,o,o,_,_,o,o,_,_,o,aB,o⟩,?_,?_⟩
 .refine No (z1 D ar) λp hp u v w aq=>?_;unfold gL.pU at aq;split at aq
  .cases aq
  .rename_i E;have aw:=lv (ux D) (k:=p.1) (x:=p.2) hp;rw[C1 D aZ,uw (P:=g) λq aD e=>E<|db.2 ⟨q,aD,e⟩,sf,uU]at aw;have aV:p∈f:=alA (by rw[aw];exact z1 D ar p hp) aw;obtain⟨m,hm,al⟩:=vW R aV;obtain⟨q,aD,a9,a8,b',Y,G,C,N⟩:=vV R hm;have:=key_inj<|al.symm.trans Y;have ba:q.2=p.2:=by rw[<-lv D (k:=q.1) (x:=q.2) aD,<-this];exact lv D aV
   rw[<-this,aq]at C;cases C;rw[<-ba,<-G];exact N
 have J:∀{cp:Nat} {L:gL} {P:Poly},(∀p∈P,p.1.gR)->∀p∈fE cp L P,(fR.arr .i64 6).ok p.1=true:=λa4 p hp=>by
  obtain⟨q,aD,rfl⟩:=db.1 hp;exact qQ<|a4 q aD
 show jg _ (.seq _<|.seq _<|.seq (.seq _<|.block _<|.loop _)<|.seq (.seq _<|.block _<|.loop _) _) _;refine ik<|gO ?_;refine U 4<|bh ?_;refine ik<|gO ?_;refine U 1<|Cq ?_;refine U 2<|bh ?_;refine zg (L:=Unit) (λ_=>True) (λ_=>⟨[.c 27<|cc x,.g<|h8<|fE ax.ag (r2 a') f],2,[(1,.v<|.map<|some e5),(5,.p 0 0),(7,.mp 1)]⟩) ?_ ?_
 .refine ik<|gO ?_;refine U 2<|xD aO ?_;refine U 1<|bh ?_;refine vA ?_;refine xy (L:=ac Nat×ac aM) (λ(seen,X)=>(∀s∈seen,s<aJ)/\∀m∈a',m.born∈seen↔∃k∈X,m.key=eG k)
   (λ(seen,X)=>⟨[.c 27<|cc x,.g<|h8<|fE ax.ag (r2 a')<|f.filter λq=>decide (q.1∈X),.g<|mJ dX aJ seen],3,[(1,.v<|.map<|some e5),(5,.p 0 0),(7,.mp 1),(14,.p 2 0)]⟩)
   (λl=>left a' l.1) [0,1,2] ([],[]) ⟨apZ,λm _=>aoU⟩ ?_ (cr (aE:=⟨fJ,⟨_,o,?_⟩,fJ,aP⟩)) ?_
  .show left a' []<bz+1;have Y:=z2 a' [];have G:=R.len;exact api
  .show a0.g _=a0.g _;rw[List.filter_eq_nil_iff.2 λq _=>az];rfl
  rintro⟨seen,X⟩ ⟨B,ah⟩;refine ik<|vB (k:=2) (r:=dX) (clock:=aJ) (seen:=seen) (es:=a') o o aO B (λm hm Q=>?_) λaR=>?_
  .refine U 2<|bh ?_;refine gO ?_;refine U 7 ?_;obtain⟨p,hp,u,v,w,Y,G,C,N⟩:=vV R hm;refine xE (mY p.1) (.agg [xC (.v u)<|.b<|decide (p.2.num<0),xC (.v v)<|dw p.2.num.natAbs,xC (.v w)<|rV p.2.den]) aO hm R.jM (R.born m hm) (λZ _=>?_) (λZ hle=>?_) ?_
   .exact apJ
   .rw[G];rw[G]at N;exact by
       have h:=iU hle _ aoN N;obtain⟨bn,e,a9,a7,ad,ay,a8,a6,ai,aA,b',av,a3,aB,aK⟩:=h;have aK:av=[]:=aK;subst aK a3 ai ad;cases e;exact arN arN
   refine U 12 ?_;have E:p.1∉X:=λe=>Q<|(ah m hm).2 ⟨p.1,e,Y⟩;have aT:=alx (cp:=ax.ag) (L:=r2 a') D hp E;rw[C]at aT;refine SX (fE ax.ag (r2 a')<|f.filter λq=>decide (q.1∈X++[p.1])) aT (xS p.1) (J λq aD=>(T q (sc.1 aD).1).1) ?_ (jx:=qQ (T p hp).1);refine U 2<|bh ⟨[0,1,2],(seen++[m.born],X++[p.1]),⟨xT hm Q,λs ab=>?_,λaH ak=>?_⟩,R3 ⟨o,o,o,o,aP⟩ fJ fJ fJ⟩
   .rcases ie.1 ab with ab|ab
    .exact B s ab
    .rw[fX]at ab;rw[ab];exact R.born m hm
   .exact xV R hm ak Y<|ah aH ak
  .have e:(f.filter λq=>decide (q.1∈X))=f:=Ar.2 λq aD=>by
    obtain⟨m,hm,al⟩:=vW R aD;obtain⟨k,E,aN⟩:=(ah m hm).1<|aR m hm;rw[key_inj<|al.symm.trans aN];exact c9 E
   refine U 2<|bh ?_;refine gO ?_;refine U 4<|bh ?_;show kN 0 _ _ _;refine⟨[0,1],(),aP,?_⟩;exact RX ⟨o,o,o,aP⟩ fJ ⟨_,o,by show a0.g _=a0.g _;rw[e]⟩
 rintro⟨⟩ _;refine zg (L:=Unit) (λ_=>True) (λ_=>⟨[.g<|h8<|fE ax.ag ((r2 a').pU g)<|fM f x g],1,[(7,.mp 0)]⟩) ?_ ?_
 .refine ik<|gO ?_;refine U 2<|xD aS ?_;refine U 1<|bh ?_;refine vA ?_;refine xy (L:=ac Nat×Poly) (λ(seen,W)=>(∀s∈seen,s<aI)/\(∀m∈ao,m.born∈seen↔∃k∈W.map (·.1),m.key=eG k)/\(∀p∈W,p∈g)/\(W.map (·.1)).Nodup/\Np f W (fM f x W))
   (λ(seen,W)=>⟨[.c 27<|cc x,.g<|h8<|fE ax.ag ((r2 a').pU W)<|fM f x W,.g<|mJ e5 aI seen],3,[(5,.p 0 0),(7,.mp 1),(24,.p 2 0)]⟩)
   (λl=>left ao l.1) [0,1,2] ([],[]) ⟨apZ,(λm _=>aoU),(λp h=>by cases h),pk,⟨λp hp=>⟨(T p hp).1,b0 (T p hp).2,λ_=>hp⟩⟩⟩ ?_ (cr (aE:=⟨fJ,⟨_,o,?_⟩,fJ,aP⟩)) ?_
  .show left ao []<bz+1;have Y:=z2 ao [];have G:=ae.len;exact api
  .show a0.g _=a0.g _;rw[alu];rfl
  rintro⟨seen,W⟩ ⟨B,ah,aL,aX,S⟩;refine ik<|vB (k:=2) (r:=e5) (clock:=aI) (seen:=seen) (es:=ao) o o aS B (λm hm Q=>?_) λaR=>?_
  .refine U 2<|bh ?_;refine gO ?_;refine U 7 ?_;obtain⟨p,hp,u,v,w,Y,G,C,N⟩:=vV ae hm;refine xE (mY p.1) (bQ p.2) aS hm ae.jM (ae.born m hm) (λZ _=>?_) (λZ hle=>?_) ?_
   .exact apJ
   .exact atk
   refine U 11 ?_;have E:p.1∉W.map (·.1):=λe=>Q<|(ah m hm).2 ⟨p.1,e,Y⟩;refine cS mg (p.2,x) ⟨b0 (aj p hp).2,b0 O⟩<|U 2<|zk C0 1 (ax.ag,(r2 a').pU W,fM f x W,p.1,p.2*x) ⟨ux D,λq aD=>⟨(S.all q aD).1,b0 (S.all q aD).2.1⟩,(aj p hp).1,b0<|lT (aj p hp).2 O⟩ (ct _) ?_;refine U 2 ?_;have a1:=aly D T aj O S hp E;refine bh ⟨[0,1,2],(seen++[m.born],W++[p]),⟨xT hm Q,λs ab=>?_,λaH ak=>?_,λq aD=>?_,?_,a1⟩,R3 ⟨o,o,o,aP⟩ fJ ⟨_,o,by show a0.g _=a0.g _;rw[alv,YS]⟩ fJ⟩
   .rcases ie.1 ab with ab|ab
    .exact B s ab
    .rw[fX]at ab;rw[ab];exact ae.born m hm
   .rw[oq];exact xV ae hm ak Y<|ah aH ak
   .rcases ie.1 aD with aD|aD
    .exact aL q aD
    .rw[fX]at aD;rw[aD];exact hp
   .rw[oq];exact AA.2 ⟨aX,az,λa aW b aa e=>by simp at aa;rw[e,aa]at aW;exact E aW⟩
  .have aY:∀p,p∈W↔p∈g:=λp=>⟨aL p,λhp=>by
    obtain⟨m,hm,al⟩:=vW ae hp;obtain⟨k,E,aN⟩:=(ah m hm).1<|aR m hm;obtain⟨q,aD,a5⟩:=db.1 E;have ad:q.1=p.1:=a5.trans<|key_inj<|aN.symm.trans al;have ai:q.2=p.2:=by
     have Y:=lv F (k:=q.1) (x:=q.2)<|aL q aD;rw[ad,lv F (k:=p.1) (x:=p.2) hp]at Y;exact Y.symm
    have:q=p:=by cases q;cases p;simp only at ad ai;rw[ad,ai]
    rw[<-this];exact aD⟩
   have ad:=alw (r2 a') aY;have ai:=als (x:=x) D ar aX aZ aY;refine U 2<|bh ?_;refine gO ?_;refine U 4<|bh ?_;show kN 0 _ _ _;refine⟨[1],(),aP,?_⟩;exact aq2 aq2
 rintro⟨⟩ _;refine gO ?_;exact U 7<|bh ⟨.inr o,0,o,_,_,o,Nn _,.refl _⟩
def aM.add(k j:aM):aM:=⟨k.a+j.a,k.b+j.b,k.c+j.c,k.d+j.d,k.e+j.e,k.f+j.f⟩
def alB{o j:aM}(h:k.add j=o.add j):k=o:=by
 cases k;cases o;unfold aM.add at h;simp at h⊢;omega
abbrev nA:=ac<|(aM×Rat)×(aM×Rat)
variable{w:(aM×Rat)×(aM×Rat)}
def eS(W:nA):Poly:=W.foldl (λP w=>eA P (w.1.1.add w.2.1)<|w.1.2*w.2.2) []
def uy{W:nA}:eS (W++[w])=eA (eS W) (w.1.1.add w.2.1) (w.1.2*w.2.2):=by
 rw[eS];rw[D4];rfl
def vX{u:Type}{p:ac u->Prop}(bS:p [])(aE:∀l a,p l->p (l++[a]))(l:ac u):p l:=by
 have:∀r:ac u,p r.reverse:=λr=>by
  induction r with
  |nil=>exact bS
  |cons a r U=>rw[List.reverse_cons];exact aE _ _ U
 have:=this l.reverse
 rwa [List.reverse_reverse]at this
def r4(W:nA):(eS W).eM:=vX (p:=λW=>(eS W).eM) List.Pairwise.nil (λW w h=>by rw[uy];exact mX h _ _) W
def C2(W:nA):(eS W).ij:=vX (p:=λW=>(eS W).ij) ao7 (λW w h=>by rw[uy];exact zZ (r4 W) h _ _) W
def j1:ac Rat->Rat
 |[]=>0
 |x::l=>x+j1 l
theorem C3:∀l m:ac Rat,j1 (l++m)=j1 l+j1 m
 |[],m=>by show j1 m=0+j1 m;rw[uU]
 |x::l,m=>by show x+j1 (l++m)=x+j1 l+j1 m;rw[C3 l m,D8]
def alC{l m:ac Rat}(h:l.Perm m):j1 l=j1 m:=by
 induction h with
 |nil=>rfl
 |cons x _ U=>show x+_=x+_;rw[U]
 |swap x y l=>show y+(x+j1 l)=x+(y+j1 l);rw[<-Rat.add_assoc,DZ y x,D8]
 |trans _ _ u B=>exact u.trans B
def alD(w:(aM×Rat)×(aM×Rat)):Rat:=w.1.2*w.2.2
def at_(s:aM)(W:nA):ac Rat:=(W.filter λw=>decide (w.1.1.add w.2.1=s)).map alD
theorem Nq(W:nA):∀s,bY (eS W) s=j1 (at_ s W):=vX (p:=λW=>∀s,bY (eS W) s=j1 (at_ s W)) (λs=>o) (λW w U s=>by
 rw[uy,YN<|r4 W];rw[at_,List.filter_append,oq,C3];have l:=U s;rw[at_]at l;by_cases h:s=w.1.1.add w.2.1
 .rw[aA h,<-h,l];have:[w].filter (λw=>decide (w.1.1.add w.2.1=s))=[w]:=by simp[h]
  rw[this];show _=_+(w.1.2*w.2.2+0);rw[pr,DZ]
 .rw[au h,l];have:[w].filter (λw=>decide (w.1.1.add w.2.1=s))=[]:=by grind
  rw[this];show _=_+0;rw[pr]) W
def k0(f g:Poly):nA:=f.flatMap λp=>g.map λq=>(p,q)
def uz{f:Poly}:w∈k0 f g↔w.1∈f/\w.2∈g:=by
 rw[k0];simp only[tc,db];constructor
 .rintro⟨p,hp,q,aD,rfl⟩;exact⟨hp,aD⟩
 .rintro⟨Y,G⟩;exact⟨w.1,Y,w.2,G,o⟩
def HC{f:Poly}(h:f.eM):f.Nodup:=h.imp λ{p q} W e=>by rw[e]at W;exact aM.qP _ W
def YV{f:Poly}(D:f.Nodup)(F:g.Nodup):(k0 f g).Nodup:=by
 induction f with
 |nil=>exact pk
 |cons p f U=>
  rw[uQ]at D;refine AA.2 ⟨pj.2<|F.imp λ{a b} h e=>h<|congrArg Prod.snd e,U D.2,λa l b aa e=>?_⟩;obtain⟨q,_,rfl⟩:=db.1 l;rw[<-e]at aa;exact D.1 (uz.1 aa).1
def alE{W V:nA}(Z:W.Nodup)(U:V.Nodup)(h:∀w,w∈W↔w∈V):eS W=eS V:=
 YO (r4 W) (r4 V) (C2 W) (C2 V) λk=>by
  rw[Nq,Nq];exact alC<|(((DA Z U).2 h).filter _).map _
theorem Nr{u:Type}[DecidableEq u]:∀{l m:ac u},l.Nodup->(∀x∈l,x∈m)->l.length<=m.length
 |[],_,_,_=>dg _
 |x::l,m,aj,h=>by
  rw[uQ]at aj;have O:=h x gT;have:=Nr (m:=m.erase x) aj.2 λy N=>by
   exact(List.mem_erase_of_ne λe=>aj.1<|by rw[<-e];exact N).2<|h y<|e3 _ N
  rw[List.length_erase_of_mem O]at this;have hp:=List.length_pos_of_mem O;simp;omega
theorem YW{m:Nat}:∀{l:ac Rat},(∀x∈l,bg m x)->bg (l.length*(m+1)+2) (j1 l)
 |[],_=>b0 asN az
 |x::l,h=>by
  refine b0 (s0 (h x gT)<|YW λy N=>h y<|e3 _ N) ?_;rw[iQ,fP];omega
def YX{W:nA}{f:Poly}{a b:Nat}(D:f.eM)(Z:W.Nodup)(h:∀w∈W,w.1∈f/\w.2∈g)(E:∀p∈f,bg a p.2)(o:∀p∈g,bg b p.2):∀p∈eS W,bg (g.length*(a+b+1)+2) p.2:=λp hp=>by
 rw[<-lv (r4 W) hp,Nq];refine b0 (YW (m:=a+b) λx O=>?_) ?_
 .obtain⟨w,hw,rfl⟩:=db.1 O;have⟨Y,G⟩:=h w (sc.1 hw).1;exact lT (E _ Y)<|o _ G
 .exact DU (iZ _ (by
   rw[at_,hV];have:=Nr (l:=(W.filter λw=>decide (w.1.1.add w.2.1=p.1)).map (·.2)) (by
    refine pj.2<|(Z.sublist DJ).imp_of_mem λ{a b} B aa F e=>F ?_;have⟨X,R⟩:=sc.1 B;have⟨u,s⟩:=sc.1 aa;have G:=jD s;rw[<-e]at G;have C:=alB<|(jD R).trans G.symm;have Q:=lv D (h a X).1;rw[C]at Q;have N:=Q.symm.trans<|lv D (h b u).1;exact Prod.ext (Prod.ext C N) e) λx O=>by
     obtain⟨w,hw,rfl⟩:=db.1 O;exact(h w (sc.1 hw).1).2
   rw[hV]at this;exact this)) 2
def aM.iP(k:aM):Prop:=k.a<2048/\k.b<2048/\k.c<2048/\k.d<2048/\k.e<2048/\k.f<2048
def Ns{j:aM}(h:k.iP)(D:j.iP):(k.add j).gR:=by unfold aM.iP at h D;unfold aM.gR aM.add;simp only;omega
def xW(h:k.iP):k.gR:=by rw[aM.iP]at h;rw[aM.gR];omega
def YY:∀W:nA,(∀w∈W,(w.1.1.add w.2.1).gR)->∀p∈eS W,p.1.gR:=λW=>vX (p:=λW=>(∀w∈W,(w.1.1.add w.2.1).gR)->∀p∈eS W,p.1.gR) (λ_ p hp=>by cases hp) (λW w U h p hp=>by
 rw[uy]at hp;obtain⟨Y,_⟩|⟨Y,_⟩:=(ml (r4 W) _ _ p).1 hp
 .rw[Y];exact h w az
 .exact U (λw hw=>h w<|p5 _ hw) p Y) W
end Go.bI.ds
namespace Go.bI.ds
open Go.bI Go.bI.Sym
set_option maxRecDepth 100000
set_option maxHeartbeats 4000000
section
variable{an:e2}{K:ac dC}{own:ac a0}{aC:Nat}{e:bV}
def Nt{n z a5 R j:Nat}{bE:f5}{x i:ce}{d:Tmp}{aF:ac Tmp}{back:Nat}{l:ac (bt×cz)}{bl:ac a0}{Q:bV}{a4 S:Nat}(E:bP.ok an ⟨K,.d l bl ((d,.p a5<|R+j*z)::Q) a4 S,⟨own,aC,(d,.p a5<|R+j*z)::e⟩⟩)
 (O:bb (eF aF Q) x=some (.p a5 R):=by rfl) (af:bb (eF aF Q) i=some (.i bE (j:Int)):=by rfl) (a3:j<n:=by decide) (aa:back<a4:=by decide):bP.ok an ⟨K,.d ((⟨some d,.sj n z x i,none⟩,.read back aF)::l) bl Q a4 S,⟨own,aC,e⟩⟩:=
 mF (d:=some d) (s:=⟨own,aC,e⟩) aa (λH u st I D _ _=>by
  obtain⟨b,Y,G⟩:=D.aq O;have C:I.aq i= .int bE (j:Int):=D.aq af;refine⟨_,aq1,λf _ _=>?_⟩;show tm n z x i an.call I f=_;unfold tm;rw[G,lL,Sym.et,C,nk,qu,h7 J,nX];rfl) E
end
def alF(k:aM):gL.kZ (λ_=>none) k=λ_=>none:=funext λj=>by unfold gL.kZ;split<;>rfl
def alG{a b:Nat}(bK:a<4096)(aa:b<4096):ai.ae (IntKind.i64.wrap<|(a:Int)+(b:Int))=ai.ae ((a+b:Nat):Int):=by
 rw[j9 J J];rfl
def alH(k j:aM)(i:Nat):ac ai:=[.ae ((if 0<i then k.a+j.a else k.a:Nat):Int),.ae ((if 1<i then k.b+j.b else k.b:Nat):Int),.ae ((if 2<i then k.c+j.c else k.c:Nat):Int),
 .ae ((if 3<i then k.d+j.d else k.d:Nat):Int),.ae ((if 4<i then k.e+j.e else k.e:Nat):Int),.ae ((if 5<i then k.f+j.f else k.f:Nat):Int)]
def HD:b4 92 (cR λ((f,g,a,b):Poly×Poly×Nat×Nat)=>([.g<|fU<|fe f,.g<|fU<|fe g],f.eM/\g.eM/\(∀p∈f,p.1.iP/\bg a p.2)/\(∀p∈g,p.1.iP/\bg b p.2)/\a+b<=200000000/\g.length*(a+b+1)+2<=268435456/\f.length<=1000000/\g.length<=1000000,.g<|fU<|fe<|eS<|k0 f g)):=by
 refine YU [mg,(89,z0.jT y1)] To.1 (λ(f,g,_,_)=>fe<|eS<|k0 f g) ?_ ?_
 .rintro⟨f,g,a,b⟩ ⟨(D:f.eM),(F:g.eM),T,ad,_⟩ p hp;obtain⟨q,aD,rfl⟩:=db.1 hp;exact aqT aqT
 rintro⟨f,g,a,b⟩ ⟨(D:f.eM),(F:g.eM),T,ad,(bq:a+b<=_),(a6:List.length g*(a+b+1)+2<=_),(bm:f.length<=_),(bt:g.length<=_)⟩ H ax bw _ bp a5;obtain⟨v1,bs,rfl,a9,bk,bc,rfl,b',aH⟩:=a5;have aH:bc=[]:=aH;subst aH;obtain⟨dX,ar,Q,rfl,aK,R⟩:=a9;obtain⟨e5,ay,aB,rfl,aO,aj⟩:=b';have a4:=HC D;have bl:=HC F;refine⟨[.v<|.map<|some dX,.v<|.map<|some e5],(eS<|k0 f g).map<|r3 λ_=>none,⟨_,_,o,o,_,_,o,o,o⟩,?_,?_⟩
 .exact No (C2 _) λp hp u v w ba=>by cases ba
 show jg _ (.seq _<|.seq _<|.seq (.seq _<|.block _<|.loop _) _) _;refine ik<|gO ?_;refine U 3<|bh ?_;refine ik<|gO ?_;refine U 1<|Cq ?_;refine U 2<|bh ?_;refine zg (L:=Unit) (λ_=>True) (λ_=>⟨[.g<|h8<|fE ax.ag (λ_=>none)<|eS<|k0 f g],1,[(5,.mp 0)]⟩) ?_ ?_
 .refine ik<|gO ?_;refine U 2<|xD aK ?_;refine U 1<|bh ?_;refine vA ?_;refine xy (L:=ac Nat×ac aM×nA) (λ(seen,X,W)=>(∀s∈seen,s<Q)/\(∀m∈ar,m.born∈seen↔∃k∈X,m.key=eG k)/\W.Nodup/\(∀w∈W,w.1∈f/\w.2∈g)/\∀w,w.1∈f->w.2∈g->(w∈W↔w.1.1∈X))
   (λ(seen,X,W)=>⟨[.g<|h8<|fE ax.ag (λ_=>none)<|eS W,.g<|mJ dX Q seen],2,[(1,.v<|.map<|some e5),(5,.mp 0),(14,.p 1 0)]⟩)
   (λl=>left ar l.1) [0,1] ([],[],[]) ⟨apZ,(λm _=>aoU),pk,(λw h=>by cases h),λw _ _=>⟨ao6,λh=>by cases h⟩⟩ ?_ cr ?_
  .show left ar []<bz+1;have Y:=z2 ar [];have G:=R.len;exact api
  rintro⟨seen,X,W⟩ ⟨B,aR,a1,aW,aX⟩;refine ik<|vB (k:=1) (r:=dX) (clock:=Q) (seen:=seen) (es:=ar) o o aK B (λm hm aY=>?_) λaN=>?_
  .refine U 2<|bh ?_;refine ik<|gO ?_;refine U 2<|bh ?_;refine vA ?_;refine ik<|gO ?_;refine U 1 ?_;obtain⟨p,hp,u,v,w,Y,G,C,N⟩:=vV R hm;refine xE (mY p.1) (bQ p.2) aK hm R.jM (R.born m hm) (λZ _=>?_) (λZ hle=>?_) ?_
   .exact apJ
   .exact atk
   have E:p.1∉X:=λe=>aY<|(aR m hm).2 ⟨p.1,e,Y⟩;refine U 7<|bh ?_;refine ik<|gO ?_;refine U 2<|xD aO ?_;refine U 1<|bh ?_;refine vA ?_;refine xy (L:=ac Nat×ac aM×nA) (λ(ah,al,V)=>(∀s∈ah,s<aB)/\(∀m∈ay,m.born∈ah↔∃k∈al,m.key=eG k)/\V.Nodup/\(∀w∈V,w.1∈f/\w.2∈g)/\∀w,w.1∈f->w.2∈g->(w∈V↔w.1.1∈X\/w.1=p/\w.2.1∈al))
    (λ(ah,al,V)=>⟨[.g<|h8<|fE ax.ag (λ_=>none)<|eS V,.g<|mJ dX Q<|seen++[m.born],.c 168 [.ae (p.1.a:Int),.ae (p.1.b:Int),.ae (p.1.c:Int),.ae (p.1.d:Int),.ae (p.1.e:Int),.ae (p.1.f:Int)],.c 27<|cc p.2,.g<|mJ e5 aB ah],5,[(1,.v<|.map<|some e5),(5,.mp 0),(14,.p 1 0),(6,.p 2 0),(7,.p 3 0),(21,.p 4 0)]⟩)
    (λl=>left ay l.1) [0,1,2,3,4] ([],[],W) ⟨apZ,(λm _=>aoU),a1,aW,λw eV ew=>(aX w eV ew).trans ⟨.inl,λh=>h.elim id λh=>by cases h.2⟩⟩ ?_
    cr ?_
   .show left ay []<bz+1;have Y:=z2 ay [];have G:=aj.len;exact api
   rintro⟨ah,al,V⟩ ⟨aS,aF,aE,ao,aI⟩;refine ik<|vB (k:=4) (r:=e5) (clock:=aB) (seen:=ah) (es:=ay) o o aO aS (λeW ak aV=>?_) λaN=>?_
   .refine U 2<|bh ?_;refine gO ?_;refine U 7 ?_;obtain⟨q,aD,br,bk,bn,aJ,bo,bj,dj⟩:=vV aj ak;refine xE (mY q.1) (bQ q.2) aO ak aj.jM (aj.born eW ak) (λZ _=>?_) (λZ hle=>?_) ?_
    .rw[aJ];exact xU q.1
    .exact iU hle _ aoN dj
    have bb:q.1∉al:=λe=>aV<|(aF eW ak).2 ⟨q.1,e,aJ⟩;have a3:=xW (T p hp).1;have a7:=xW (ad q aD).1;refine U 22 ?_;refine dN (L:=Nat) (λi=>i<=6) (λ(i:Nat)=>⟨[.g<|h8<|fE ax.ag (λ_=>none)<|eS V,.g<|mJ dX Q<|seen++[m.born],.c 168 [.ae (p.1.a:Int),.ae (p.1.b:Int),.ae (p.1.c:Int),.ae (p.1.d:Int),.ae (p.1.e:Int),.ae (p.1.f:Int)],.c 27<|cc p.2,.g<|mJ e5 aB<|ah++[eW.born],
     .c 168 [.ae (q.1.a:Int),.ae (q.1.b:Int),.ae (q.1.c:Int),.ae (q.1.d:Int),.ae (q.1.e:Int),.ae (q.1.f:Int)],.c 27<|cc q.2,.c 168<|alH p.1 q.1 i],8,
     [(1,.v<|.map<|some e5),(5,.mp 0),(14,.p 1 0),(6,.p 2 0),(7,.p 3 0),(21,.p 4 0),(8,.p 5 0),(9,.p 6 0),(10,.p 7 0),(28,.ae (i:Nat))]⟩)
     (λi=>6-i) [0,1,2,3,4,5,6,7] 0 J (by show 6-0<bz+1;unfold bz;omega)
     cr ?_
    rintro(i:Nat) af;rcases(show i=0\/i=1\/i=2\/i=3\/i=4\/i=5\/i=6 by omega)with rfl|rfl|rfl|rfl|rfl|rfl|rfl
    rotate_left 6
    .refine U 15<|cS mg (p.2,q.2) ⟨b0 (T p hp).2 J,b0 (ad q aD).2 J⟩<|U 2 ?_;have a8:(p,q)∉V:=λe=>((aI (p,q) hp aD).1 e).elim E λh=>bb h.2;refine zk C0 0 (ax.ag,λ_=>none,eS V,p.1.add q.1,p.2*q.2) ⟨r4 V,λr aw=>⟨YY V (λw hw=>Ns (T _ (ao w hw).1).1 (ad _ (ao w hw).2).1) r aw,b0 (YX D aE ao (λp hp=>(T p hp).2) (λp hp=>(ad p hp).2) r aw) a6⟩,Ns (T p hp).1 (ad q aD).1,b0 (lT (T p hp).2 (ad q aD).2) J⟩ (ct _) ?_;refine U 2 ?_;refine bh ⟨[0,1,2,3,4],(ah++[eW.born],al++[q.1],V++[(p,q)]),⟨xT ak aV,λs a'=>?_,λO aq=>xV aj ak aq aJ<|aF O aq,?_,λw hw=>?_,λw eV ew=>?_⟩,
      ⟨av,o,⟨⟨_,o,by show a0.g _=a0.g _;rw[alF,uy]⟩,fJ,fJ,fJ,fJ,aP⟩,⟨o,o,o,o,o,o,aP⟩,o⟩⟩
     .rcases ie.1 a' with a'|a'
      .exact aS s a'
      .rw[fX]at a';rw[a'];exact aj.born eW ak
     .exact AA.2 ⟨aE,az,λa aZ b aa e=>by
       rw[fX]at aa;rw[e,aa]at aZ;exact a8 aZ⟩
     .rcases ie.1 hw with hw|hw
      .exact ao w hw
      .rw[fX]at hw;rw[hw];exact⟨hp,aD⟩
     .rw[ie,fX,aI w eV ew,ie,fX];constructor
      .rintro((h|h)|h)
       .exact .inl h
       .exact .inr ⟨h.1,.inl h.2⟩
       .rw[h];exact .inr ⟨o,.inr o⟩
      .rintro(h|⟨h,aA|aA⟩)
       .exact .inl<|.inl h
       .exact .inl<|.inr ⟨h,aA⟩
       .refine .inr<|Prod.ext h<|Prod.ext aA ?_;have ai:=lv F (k:=w.2.1) (x:=w.2.2) ew;rw[aA,lv F (k:=q.1) (x:=q.2) aD]at ai;exact ai.symm
    all_goals
     refine U 19<|Nt ?_;refine U 2<|Nt ?_;refine U 2<|ea 37 (.ae ((_+_:Nat):Int)) o o (alG (by simp;unfold aM.gR at a3;omega)<|by unfold aM.gR at a7;omega)<|Nt ?_;refine U 8<|bL [0,1,2,3,4,5,6,7] _ ?_ ⟨av,o,?_,⟨o,o,o,o,o,o,o,o,o,o,aP⟩,o⟩
     .exact asD asD
     exact⟨fJ,fJ,fJ,fJ,fJ,fJ,fJ,fJ,aP⟩
   .refine U 2<|bh ?_;refine gO ?_;refine U 4<|bh ?_;show kN 0 _ _ _;refine⟨[0,1],(seen++[m.born],X++[p.1],V),⟨xT hm aY,λs a'=>?_,λO aq=>xV R hm aq Y<|aR O aq,aE,ao,λw eV ew=>(aI w eV ew).trans ?_⟩,?_⟩
    .rcases ie.1 a' with a'|a'
     .exact B s a'
     .rw[fX]at a';rw[a'];exact R.born m hm
    .rw[ie,fX];constructor
     .exactλh=>h.imp id λh=>by rw[h.1]
     .refineλh=>h.imp id λh=>⟨?_,?_⟩
      .have ai:=lv D (k:=w.1.1) (x:=w.1.2) eV;rw[h,lv D (k:=p.1) (x:=p.2) hp]at ai;exact Prod.ext h ai.symm
      .obtain⟨a2,aT,aL⟩:=vW aj ew;obtain⟨k,E,S⟩:=(aF a2 aT).1<|aN a2 aT;rw[key_inj<|aL.symm.trans S];exact E
    .exact RX ⟨o,o,o,aP⟩ fJ fJ
  .have ai:eS W=eS (k0 f g):=alE a1 (YV a4 bl) λw=>by
    rw[uz];refine⟨aW w,λh=>(aX w h.1 h.2).2 ?_⟩;obtain⟨m,hm,aL⟩:=vW R h.1;obtain⟨k,E,S⟩:=(aR m hm).1<|aN m hm;rw[key_inj<|aL.symm.trans S];exact E
   refine U 2<|bh ?_;refine ik<|gO ?_;refine U 2<|bh ?_;show kN 0 _ _ _;refine⟨[0],(),aP,?_⟩;exact iz ⟨o,aP⟩ ⟨_,o,by show a0.g _=a0.g _;rw[ai]⟩
 rintro⟨⟩ _;refine gO ?_;exact U 7<|bh ⟨.inr o,0,o,_,_,o,Nn _,.refl _⟩
end Go.bI.ds
namespace Go.bI.ds
open Go.bI
set_option maxRecDepth 100000
set_option maxHeartbeats 4000000
instance:Coe PP dT:=⟨λS=>S.spec.K⟩
def z3(K:ac (Nat×dT)){f:d8}(a7:c7){S:PP}(h:∀l,S.pre l->∀H ax,S.hp H->bP.ok ⟨cf aV (cm cv.ctx<|bE K)<|bz+1,bz+1,f,H,[],ax,Lb S l a7.res⟩ ⟨[],.c a7.body,⟨[],0,iJ 0<|S.args l⟩⟩)
 (O:aV.get f=some a7:=by kernel_rfl) (aI:∀l,(S.args l).length<=a7.aR:=by exactλ_=>jb o):l9 cv.ctx f S.spec:=by
  refine ado cv.gP hv (bE K) O (λl E st ⟨_,_,_,d⟩=>by rw[gr d];exact aI l.1) ?_;rintro⟨l,H⟩ E st ⟨hp,F,U,d⟩;apply(h l hp H st F H [] st (en E) apk U<|cY.zero d).mono;rintro x I al ⟨Z,u,s,B,m,D,O⟩;obtain⟨O,r,a,Y,G,ay,hle⟩|⟨v,rfl,ay⟩:=O
  .obtain⟨v,C,N⟩:=rK m D Y;exact .inl ⟨O,v,N,a,Z,ay,m.less,B.less,hle _ _ _<|tF _ G C _⟩
  .exact .inr ⟨v,o,Gf D.pl,Z,ay,m.less,B.less⟩
def eT(c:Int):bv:=.iface 152<|.agg #[.int .i64 c]
def alI(b:Bool)(c:Int):sV:=if b=true then .ret (.br [])else .aY (eT c)
def z4:PP where
 L:=Bool×Int
 args:=λ(b,c)=>[.b b,.ae c]
 pre:=λ_=>True
 out:=λ(b,c)=>alI b c
def jz:l9 cv.ctx 87 z4.spec:=by
 apply z3 [] UD.1;rintro⟨b,c⟩ _ H ax _;cases b with
 |true=>
  exact U 8<|bh (vy o o o asz)
 |false=>
  refine U 10<|aeZ (.agg #[.int .i64 c]) ?_;exact aeX<|bh<|kQ o
def alJ(c:Int):sV:=if c=0 then .ret (.br [])else .aY (eT c)
def Nu:PP where
 L:=Int
 args:=λc=>[.ae c]
 pre:=λ_=>True
 out:=alJ
def HE:l9 cv.ctx 36 Nu.spec:=by
 apply z3 [(87,z4)] Uu.1;intro(c:Int) _ H ax _;by_cases h:c=0
 .exact U 4<|v1 3 h<|mH jz (true,c) aP (.br []) o<|U 1<|bh (vy o o (aA h) asz)
 .exact U 4<|v0 3 h<|lh jz (false,c) aP (eT c) o<|bh (kQ<|au h)
