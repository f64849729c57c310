/- What the functions of the program and of the document compute, for every input, and the plain laws of it (part 5); conditions as in the statements. -/
import Derived.Test.YtdinjknpilkilaaGreatDoorC4
import Derived.Test.YtdinjknpilkilaaGreatDoorC3
noncomputable section
set_option linter.all false
namespace Go.ah.aW
open Go.ah
set_option maxRecDepth 100000
set_option maxHeartbeats 16000000
def qg(a:Rat):Nat->Nat->Rat
 |0=>fun _=>1
 |i+1=>fw (qg a i) (-a) 1 (i+1)
def pv(a b:Rat)(i:Nat):Nat->Nat->Rat
 |0=>qg a i
 |j+1=>fw (pv a b i j) b (-1) (i+j+1)
def Zf{K n:Nat}{f:Nat->Rat}{a b:Rat}(U:∀i,i<n->ba K (f i))(ha:ba 1000 a)(hb:ba 1000 b)(j:Nat):ba (2*K+2001) (fw f a b n j):=by
 have z:ba 2 (0:Rat):=lF 0 (by decide) (by decide);have zi:j<=n->ba (K+1000+2) (k7 f b j):=fun aa=>by
  unfold k7;split
  ·exact b2 (j0 (U _ (by omega)) hb) (by omega)
  ·exact b2 z (by omega)
 unfold fw;split
 ·rename_i h;have h1:ba (K+1000+(K+1000)+1) (k7 f b j+f j*a):=by
   unfold k7;split
   ·exact IV (j0 (U _ (by omega)) hb) (j0 (U _ h) ha)
   ·have e:(0:Rat)+f j*a=f j*a:=by grind
    rw[e];exact b2 (j0 (U _ h) ha) (by omega)
  exact b2 h1 (by omega)
 ·split
  ·exact b2 (zi (by omega)) (by omega)
  ·exact b2 z (by omega)
theorem Zg{a:Rat}(ha:ba 1000 (-a)):∀i j,ba (4000*2^i-2001) (qg a i j)
 |0,j=>b2 (lF 1 (by decide) (by decide))
 |i+1,j=>by
  have h:=Zf (n:=i+1) (fun j _=>Zg ha i j) ha (b2 (lF 1 (by decide) (by decide))) j (b:=1);have:1<=2^i:=zei;exact b2 h (by rw[zak];omega)
theorem IX{a b:Rat}(ha:ba 1000 (-a))(hb:ba 1000 b)(i:Nat):∀j k,ba (4000*2^(i+j)-2001) (pv a b i j k)
 |0,k=>Zg ha i k
 |j+1,k=>by
  have h:=Zf (n:=i+j+1) (fun k _=>IX ha hb i j k) hb (b2 (lF (-1) (by decide) (by decide))) k (b:= -1);have:1<=2^(i+j):=zei;exact b2 h (by rw[show i+(j+1)=(i+j)+1 by omega,zak];omega)
def FN(x ht m:Nat)(c:Rat):b5:=⟨ff c,(List.replicate ht (0:Int)).set x (m:Int)⟩
def lJ(x ht:Nat)(f:Nat->Rat):Nat->ac b5
 |0=>[]
 |m+1=>if(f m).num=0 then lJ x ht f m else lJ x ht f m++[FN x ht m (f m)]
def gr(f:Nat->Rat):Nat->Bool
 |0=>true
 |m+1=>if(f m).num=0 then gr f m else gr f m&& !fN (f m)
structure fQ where
 c:Rat
 n:Nat
 k:Nat
 a:c2
 x:Nat
 ht:Nat
def fQ.co(l:fQ):Rat:=l.c/(l.a.2-l.a.1)^l.n*(b7 l.n l.k:Rat)
def fQ.f(l:fQ):Nat->Rat:=pv l.a.1 l.a.2 (l.k/2) ((l.n-l.k)/2)
def fQ.m(l:fQ):Nat:=l.k/2+(l.n-l.k)/2+1
def fQ.dx(l:fQ):eG:=⟨ff l.co,if l.k%2=1 then(l.x:Int)else -1,lJ l.x l.ht l.f l.m⟩
def fQ.ok(l:fQ):Bool:= !fN l.co&&gr l.f l.m
structure ad8(l:fQ):Prop where
 c:ba 4000000 l.c
 n:l.n<=17
 k:l.k<=l.n
 gU:ba 250 l.a.1
 hM:ba 250 l.a.2
 lt:l.a.1<l.a.2
 x:l.x<l.ht
 ht:l.ht<=1048576
variable{x:Rat}{n:Nat}
def OK{a b:Nat}{y:Rat}(h1:ba a x)(h2:ba b y)(h:0<y.num):ba (a+b) (x/y):=by
 rw[<-Fi h];exact vh (by rw[zcA];exact m2 h1.1 h2.2) (m2 h1.2 h2.1) (zbZ x.den_nz (by omega))
def IW(h:n<9223372036854775808):ba 2 ((n:Nat):Rat):=by have:=ti (n:=(n:Int)) (by omega) (by omega);rw[mE]at this;exact this
def apj(n:Nat):((n:Nat):Rat).num=(n:Int):=by
 have:=(KM (n:Int)).1;rw[mE]at this;exact this
def aaw(h:0<x):0<x.num:=by
 have h1:=Rat.num_nonneg.2 (Rat.le_of_lt h);have h2:x.num≠0:=fun e=>by rw[Rat.num_eq_zero.1 e]at h;exact zeV h
 omega
def acy:bN where
 L:=fQ
 args:=fun l=>[c8 l.c,.i .i64 (l.n:Int),.i .i64 (l.k:Int),.agg (e9 l.a),.i .i64 (l.x:Int),.i .i64 (l.ht:Int)]
 pre:=ad8
 res:=fun l=>.bM [.agg (ez l.dx),.b l.ok]
 hp:=iQ
 hm:=iQ.up
def zu(n:Nat)(f:Nat->Rat):ae:=.aZ 3 Rat cA (aY n f)
def MD{k z:Nat}{b:ae}{x:ac bv}{y:Int}:wg k z n b [.s x,.i .i64 y,.aN k z 0 n n]=[.s x,.i .i64 y,b]:=by
 show ae.s x::ae.i .i64 y::(match Nat.beq k k&&(Nat.beq z z&&(Nat.beq 0 0&&(Nat.beq n n&&Nat.beq n n)))with|true=>b|false=>ae.aN k z 0 n n)::_=_;simp only[zaN];rfl
def as9(co:Rat)(a:c2)(g0:Int)(x ht m:Nat)(f:Nat->Rat)(i:Nat):ac b5->cr
 |[]=>⟨[.c 27 (cA co),.c 73 (e9 a),.c 85 [.s [],.i .i64 0,.nl],.c 85 [.s (ff co),.i .i64 g0,.nl]],4,[(4,.i .i64 (x:Int)),(5,.i .i64 (ht:Int)),(12,.p 2 0),(17,.p 3 0),(18,.b (!fN co&&gr f i)),(87,zu m f),(88,.i .i64 (m:Int)),(89,.i .i64 (i:Int))]⟩
 |t::ts=>⟨[.c 27 (cA co),.c 73 (e9 a),.c 85 [.s [],.i .i64 0,.nl],.c 85 [.s (ff co),.i .i64 g0,.aN 4 2 0 (ts.length+1) (ts.length+1)],.a 122 true 2 b5 c5 (t::ts)],5,[(4,.i .i64 (x:Int)),(5,.i .i64 (ht:Int)),(12,.p 2 0),(17,.p 3 0),(18,.b (!fN co&&gr f i)),(87,zu m f),(88,.i .i64 (m:Int)),(89,.i .i64 (i:Int))]⟩
def acz:bw a4.ctx 26 acy.spec:=by
 refine pK [(19,Oc.spec),(20,Oa.spec),(16,Fu.spec),(75,aay.spec),(76,GW.spec),(63,Ij.spec),(71,Fq.spec),(37,Qx.spec),(24,QF.spec),(65,OM.spec),(77,YE.spec),(25,FB.spec)] VN.1 ?_;intro⟨c,n,k,a,x,ht⟩ eZ H aK gz;have hc:=eZ.c;have hn:=eZ.n;have hk:=eZ.k;have pR:=eZ.gU;have pS:=eZ.hM;have aE:=eZ.lt;have J:=eZ.x;have gA:=eZ.ht;simp only at hc hn hk pR pS aE J gA;have q4:=q3 pS pR;have BG:=EI (n:=n) q4;have ij:0<a.2-a.1:=by grind
 have Cy:0<((a.2-a.1)^n).num:=aaw (Rat.pow_pos ij);have zn:=OK hc BG Cy;have avZ:4000000+((250+250+1)*n+1)<=4010000:=by omega
 refine I ?_;refine bC Ob a trivial (I ?_);refine bC Od a trivial (I ?_);refine bC Fv (a.2,a.1) ⟨b2 pS,b2 pR⟩ (I ?_);refine bC ap6 (a.2-a.1,n) ⟨b2 q4,by show n<=64;omega⟩ (I ?_);refine aX abk (c,(a.2-a.1)^n) ⟨b2 hc,b2 BG (by omega),Cy⟩ ?_;obtain⟨lf,gX⟩:∃lf,lf=c/(a.2-a.1)^n:=⟨_,rfl⟩;rw[<-gX]at zn;have OU:∀i,i<=n->ba 4010002 (lf*(b7 n i:Rat)):=fun i aa=>b2 (j0 zn (IW (zaz (xT n i) (zaz (mC hn) (by decide))))) (by omega);refine ax 35 (c8 (lf*(b7 n 0:Rat))) rfl (by show c8 (c/(a.2-a.1)^n)=_;rw[<-gX,show b7 n 0=1 by cases n<;>rfl];congr 1;grind) (I ?_);refine cw (L:=Nat) (fun i=>i<=k) (fun i=>⟨[.c 27 (cA (lf*(b7 n i:Rat))),.c 73 (e9 a),.c 85 [.s [],.i .i64 0,.nl]],3,[(1,.i .i64 (n:Int)),(2,.i .i64 (k:Int)),(4,.i .i64 (x:Int)),(5,.i .i64 (ht:Int)),(6,.p 0 0),(9,.p 1 0),(12,.p 2 0),(36,.i .i64 (k:Int)),(37,.i .i64 (i:Int))]⟩) (fun i=>k-i) [0,1,2] 0 (zac _) (by show k-0<bc+1;unfold bc;omega) bo ?_;rintro(i:Nat) (aa:i<=k);refine ag 38 ?_;by_cases DQ:i<k
 ·have ab:=SO n i (by omega);have dz:lf*(b7 n i:Rat)*kO ((n-i:Nat):Int)/kO ((i+1:Nat):Int)=lf*(b7 n (i+1):Rat):=by
   have aD:((i+1:Nat):Rat)*(b7 n (i+1):Rat)=((n-i:Nat):Rat)*(b7 n i:Rat):=by exact_mod_cast ab
   have bg:=ss (show 0<i+1 by omega);rw[mE,mE];show lf*(b7 n i:Rat)*((n-i:Nat):Rat)/((i+1:Nat):Rat)=_
   grind
  have jb:=j0 (OU i (by omega)) (ti (n:=((n-i:Nat):Int)) (by omega) (by omega));refine v1 38 (show(i:Int)<(k:Int) by omega) (ag 43 ?_);refine ww 43 ((n-i:Nat):Int) ?_;refine I ?_;refine bC s9 ((n-i:Nat):Int) ⟨by show -9223372036854775808<=((n-i:Nat):Int);omega,by show((n-i:Nat):Int)<9223372036854775808;omega⟩ (I ?_);refine bC xm (lf*(b7 n i:Rat),kO ((n-i:Nat):Int)) ⟨b2 (OU i (by omega)),b2 (ti (by omega) (by omega))⟩ (ag 47 ?_);refine ww 47 ((i+1:Nat):Int) ?_;refine I ?_;refine bC s9 ((i+1:Nat):Int) ⟨by show -9223372036854775808<=((i+1:Nat):Int);omega,by show((i+1:Nat):Int)<9223372036854775808;omega⟩ ?_;refine bC abk (lf*(b7 n i:Rat)*kO ((n-i:Nat):Int),kO ((i+1:Nat):Int)) ⟨b2 jb,b2 (ti (by omega) (by omega)),by rw[(KM _).1];omega⟩ ?_;refine ax 49 (c8 (lf*(b7 n (i+1):Rat))) rfl (congrArg c8 dz) (ag 50 ?_);refine b3 50 ((i+1:Nat):Int) (I ?_);exact aU [0,1,2] (i+1) ⟨by show k-(i+1)<k-i;omega,DQ⟩ bo
 have DQ:i=k:=by omega
 subst DQ;refine v0 38 (show¬(i:Int)<(i:Int) by omega) ?_;obtain⟨co,rV⟩:∃co,co=lf*(b7 n i:Rat):=⟨_,rfl⟩;have BE:ba 4010002 co:=by rw[rV];exact OU i (by omega)
 rw[<-rV];refine I ?_;refine bC Qy co (b2 BE) (I ?_) (hh:=gz);refine Tl QG cA 55 3 [co] [co] ⟨by show 1<=1048576;decide,fun y ay=>by rw[zcD.1 ay];exact b2 BE⟩ ?_ (hh:=gz);refine ax 56 (.b (!fN co)) rfl (by show ae.b (!(List.any [co] fN))=_;simp) (I ?_);refine ih (L:=Unit) (fun _=>True) (fun _=>⟨[.c 27 (cA co),.c 73 (e9 a),.c 85 [.s [],.i .i64 0,.nl],.c 85 [.s (ff co),.i .i64 (if i%2=1 then(x:Int)else -1),.nl]],4,[(1,.i .i64 (n:Int)),(2,.i .i64 (i:Int)),(4,.i .i64 (x:Int)),(5,.i .i64 (ht:Int)),(6,.p 0 0),(9,.p 1 0),(12,.p 2 0),(17,.p 3 0),(18,.b (!fN co))]⟩) ?_ ?_
 ·refine ag 58 ?_;refine tF 58 ((i%2:Nat):Int) ?_ (h:=rfl);refine ag 59 ?_;by_cases ak:i%2=1
  ·refine v1 59 (show((i%2:Nat):Int)=1 by omega) ?_;rw[zab ak];refine I ?_;exact aU [0,1,2,4] () trivial bo
  ·refine v0 59 (show¬((i%2:Nat):Int)=1 by omega) ?_;rw[zaa ak];refine I ?_;exact aU [0,1,2,4] () trivial bo
 intro _ _;obtain⟨g0,wE⟩:∃g0:Int,g0=if i%2=1 then(x:Int)else -1:=⟨_,rfl⟩;rw[<-wE];have EL:ba 1000 (-a.1):=b2 (EH pR);have zk:ba 1000 a.2:=b2 pS;have A8:i/2+(n-i)/2<=8:=by omega
 have wU:∀u v j,u+v<=8->ba 1100000 (pv a.1 a.2 u v j):=fun u v j h=>b2 (IX EL zk u v j) (by have:=mC h;omega);have OT:∀u j,u<=8->ba 1100000 (qg a.1 u j):=fun u j h=>wU u 0 j h;refine I ?_;refine aX s9 (1:Int) ⟨by decide,by decide⟩ (ag 63 ?_);refine m7 (z:=3) 4 cA [kO 1] ?_;refine gq 63 ?_;refine ax 63 (zu 1 (qg a.1 0)) rfl (by show ae.aZ 3 Rat cA [kO 1]=ae.aZ 3 Rat cA [1];rw[mE];rfl) (ag 65 ?_);refine b3 65 ((i/2:Nat):Int) ?_ (h:=rfl) (h1:=by show _<=((i/2:Nat):Int);omega) (h2:=by show((i/2:Nat):Int)<_;omega);refine I ?_;refine cw (L:=Nat) (fun u=>u<=i/2) (fun u=>⟨[.c 27 (cA co),.c 73 (e9 a),.c 85 [.s [],.i .i64 0,.nl],.c 85 [.s (ff co),.i .i64 g0,.nl]],4,[(1,.i .i64 (n:Int)),(2,.i .i64 (i:Int)),(4,.i .i64 (x:Int)),(5,.i .i64 (ht:Int)),(9,.p 1 0),(12,.p 2 0),(17,.p 3 0),(18,.b (!fN co)),(19,zu (u+1) (qg a.1 u)),(65,.i .i64 ((i/2:Nat):Int)),(66,.i .i64 (u:Int))]⟩) (fun u=>i/2-u) [0,1,2,3] 0 (zac _) (by show i/2-0<bc+1;unfold bc;omega) bo ?_;rintro(u:Nat) (hu:u<=i/2);refine ag 67 ?_;by_cases km:u<i/2
 ·refine v1 67 (show(u:Int)<((i/2:Nat):Int) by omega) (I ?_);refine aX Od a trivial ?_;refine aX Zj a.1 trivial (I ?_);refine aX s9 (1:Int) ⟨by decide,by decide⟩ ?_;refine aX YF (u+1,qg a.1 u,-a.1,kO 1) ⟨by show u+1<=1048576;omega,fun j hj=>b2 (OT u j (by omega)),EL,b2 (ti (by decide) (by decide))⟩ ?_;refine ax 73 (zu (u+1+1) (qg a.1 (u+1))) rfl (by show ae.aZ 3 Rat cA (aY _ (fw _ _ (kO 1) _))=_;rw[mE];rfl) (ag 74 ?_);refine b3 74 ((u+1:Nat):Int) (I ?_);exact aU [0,1,2,3] (u+1) ⟨by show i/2-(u+1)<i/2-u;omega,km⟩ bo
 have km:u=i/2:=by omega
 subst km;refine v0 67 (show¬((i/2:Nat):Int)<((i/2:Nat):Int) by omega) ?_;obtain⟨u,yU⟩:∃u,u=i/2:=⟨_,rfl⟩;rw[<-yU]at A8⊢;refine ag 77 ?_;refine b3 77 ((n-i:Nat):Int) (ag 78 ?_);refine b3 78 (((n-i)/2:Nat):Int) ?_ (h:=rfl) (h1:=by show _<=(((n-i)/2:Nat):Int);omega) (h2:=by show(((n-i)/2:Nat):Int)<_;omega);obtain⟨w,hw⟩:∃w,w=(n-i)/2:=⟨_,rfl⟩;rw[<-hw]at A8⊢;refine I ?_;refine cw (L:=Nat) (fun v=>v<=w) (fun v=>⟨[.c 27 (cA co),.c 73 (e9 a),.c 85 [.s [],.i .i64 0,.nl],.c 85 [.s (ff co),.i .i64 g0,.nl]],4,[(4,.i .i64 (x:Int)),(5,.i .i64 (ht:Int)),(9,.p 1 0),(12,.p 2 0),(17,.p 3 0),(18,.b (!fN co)),(19,zu (u+v+1) (pv a.1 a.2 u v)),(78,.i .i64 (w:Int)),(79,.i .i64 (v:Int))]⟩) (fun v=>w-v) [0,1,2,3] 0 (zac _) (by show w-0<bc+1;unfold bc;omega) bo ?_;rintro(v:Nat) (aB:v<=w);refine ag 80 ?_;by_cases iz:v<w
 ·refine v1 80 (show(v:Int)<(w:Int) by omega) (I ?_);refine aX Ob a trivial (I ?_);refine aX s9 (-1:Int) ⟨by decide,by decide⟩ ?_;refine aX YF (u+v+1,pv a.1 a.2 u v,a.2,kO (-1)) ⟨by show u+v+1<=1048576;omega,fun j hj=>b2 (wU u v j (by omega)),zk,b2 (ti (by decide) (by decide))⟩ ?_;refine ax 85 (zu (u+(v+1)+1) (pv a.1 a.2 u (v+1))) rfl (by show ae.aZ 3 Rat cA (aY _ (fw _ _ (kO (-1)) _))=_;rw[mE];rfl) (ag 86 ?_);refine b3 86 ((v+1:Nat):Int) (I ?_);exact aU [0,1,2,3] (v+1) ⟨by show w-(v+1)<w-v;omega,iz⟩ bo
 have iz:v=w:=by omega
 subst iz;refine v0 80 (show¬(v:Int)<(v:Int) by omega) ?_;obtain⟨f,U⟩:∃f,f=pv a.1 a.2 u v:=⟨_,rfl⟩;have OP:∀j,ba 1100000 (f j):=fun j=>by rw[U];exact wU u v j A8
 rw[<-U];refine ag 88 ?_;refine ax 88 (.i .i64 ((u+v+1:Nat):Int)) rfl (by show ae.i .i64 ((aY (u+v+1) f).length:Int)=_;rw[eu]) (I ?_);have pY:∀i,(lJ x ht f i).length<=i:=fun i=>by
  induction i with
  |zero=>exact zae _
  |succ i a1=>
   unfold lJ;split
   ·omega
   ·rw[zaE];simp;omega
 refine ev 18 (b:= !fN co&&gr f 0) (by show _=(_&&true);rw[zeY]) ?_;refine cw (L:=Nat×ac b5) (fun(i,ts)=>i<=u+v+1∧ts=lJ x ht f i) (fun(i,ts)=>as9 co a g0 x ht (u+v+1) f i ts) (fun l=>u+v+1-l.1) [0,1,2,3] (0,[]) ⟨zac _,rfl⟩ (by show u+v+1-0<bc+1;unfold bc;omega) bo ?_;rintro⟨c4,ts⟩ ⟨eC,ic⟩;have l1:ts.length<=9:=by rw[ic];have:=pY c4;omega
 by_cases kY:c4<u+v+1
 ·by_cases av:(f c4).num=0
  ·have aq:lJ x ht f (c4+1)=ts:=by rw[ic];exact zab av
   have e2:gr f (c4+1)=gr f c4:=zab av;rcases ts with _|⟨t,ts⟩<;>(
    refine ag 90 ?_;refine v1 90 (show(c4:Int)<((u+v+1:Nat):Int) by omega) (I ?_);refine db (f c4) (di f kY) ?_;refine I ?_;refine aX vC (f c4) trivial (ag 96 ?_);refine v0 96 (fc (show(f c4).num.sign=0 by rw[av];rfl)) ?_;rw[<-e2];refine ag 118 ?_;refine b3 118 ((c4+1:Nat):Int) (I ?_)
    first|exact aU [0,1,2,3] (c4+1,[]) ⟨by show u+v+1-(c4+1)<u+v+1-c4;omega,kY,aq.symm⟩ bo|exact aU [0,1,2,3,4] (c4+1,t::ts) ⟨by show u+v+1-(c4+1)<u+v+1-c4;omega,kY,aq.symm⟩ bo)
  ·obtain⟨cL,ib⟩:∃cL,cL=FN x ht c4 (f c4):=⟨_,rfl⟩;have aq:lJ x ht f (c4+1)=ts++[cL]:=by rw[ic,ib];exact zaa av
   have e2:gr f (c4+1)=(gr f c4&& !fN (f c4)):=zaa av;have mY:(f c4).num.sign≠0:=fun h=>av (zbS.1 h);rcases ts with _|⟨t,ts⟩<;>(
    refine ag 90 ?_;refine v1 90 (show(c4:Int)<((u+v+1:Nat):Int) by omega) (I ?_);refine db (f c4) (di f kY) ?_;refine I ?_;refine aX vC (f c4) trivial (ag 96 ?_);refine v1 96 mY (I ?_);refine lj gv 0 ?_;refine I ?_;refine hU ?_;refine I ?_;refine iC (c4:Int) ?_ (hj:=by rw[zav];exact J);refine gq 22 ?_ (hn:=by rw[zbj,zav]);refine dS 22 (.bb 1 Int gv ((List.replicate ht (0:Int)).set x (c4:Int))) rfl .bb ?_;refine I ?_;refine bC Qy (f c4) (b2 (OP c4)) (I ?_) (hh:=gz)
    first|refine L9 c5 [cL] (eR (R:=c5) [cL] (by first|(rw[ib];done)|(rw[ib];rfl))) ?_ (hb:=by show(5*1+1792)*41<=1125899906842624;decide)|(refine L8 (R:=c5) [cL] (eR (R:=c5) [cL] (by first|(rw[ib];done)|(rw[ib];rfl))) ?_ (hn:=by simp) (hb:=by show(5*(ts.length+1+1)+1792)*41<=1125899906842624;simp at l1;omega);refine ax 110 (.aN 8 2 0 ((ts++[cL]).length+1) ((ts++[cL]).length+1)) rfl (by simp) ?_)
    refine ag 113 ?_;cases hb:(!fN co&&gr f c4)with
    |true=>
     have bS:(!fN (f c4))=(!fN co&&gr f (c4+1)):=by rw[e2,<-zbK,hb,zbx]
     refine ag 115 ?_
     first|refine m7 (z:=3) 8 cA [f c4] ?_|refine m7 (z:=3) 9 cA [f c4] ?_
     refine gq 115 ?_;refine I ?_;refine aX QG [f c4] ⟨by show 1<=1048576;decide,fun y ay=>by rw[zcD.1 ay];exact b2 (OP c4)⟩ ?_ (hh:=gz);refine ax 116 (.b (!fN co&&gr f (c4+1))) rfl (by rw[<-bS];show ae.b (!(List.any [f c4] fN))=_;simp) (ag 118 ?_);refine b3 118 ((c4+1:Nat):Int) (I ?_)
     first|exact aU [0,1,2,3,7] (c4+1,[cL]) ⟨by show u+v+1-(c4+1)<u+v+1-c4;omega,kY,aq.symm⟩ bo|exact aU [0,1,2,3,8] (c4+1,t::(ts++[cL])) ⟨by show u+v+1-(c4+1)<u+v+1-c4;omega,kY,aq.symm⟩ bo
    |false=>
     have bS:false=(!fN co&&gr f (c4+1)):=by rw[e2,<-zbK,hb,zcp]
     refine ag 117 ?_;refine ev 117 bS (ag 118 ?_);refine b3 118 ((c4+1:Nat):Int) (I ?_)
     first|exact aU [0,1,2,3,7] (c4+1,[cL]) ⟨by show u+v+1-(c4+1)<u+v+1-c4;omega,kY,aq.symm⟩ bo|exact aU [0,1,2,3,8] (c4+1,t::(ts++[cL])) ⟨by show u+v+1-(c4+1)<u+v+1-c4;omega,kY,aq.symm⟩ bo)
 ·have kY:c4=u+v+1:=by omega
  subst kY;have ahe:fQ.dx ⟨c,n,i,a,x,ht⟩=⟨ff co,g0,ts⟩:=by
   unfold fQ.dx fQ.co fQ.f fQ.m;simp only;rw[<-gX,<-rV,<-wE,<-yU,<-hw,<-U,<-ic]
  have ahf:fQ.ok ⟨c,n,i,a,x,ht⟩=(!fN co&&gr f (u+v+1)):=by
   unfold fQ.ok fQ.co fQ.f fQ.m;simp only;rw[<-gX,<-rV,<-yU,<-hw,<-U]
  rcases ts with _|⟨t,ts⟩<;>(
   refine ag 90 ?_;refine v0 90 (show¬((u+v+1:Nat):Int)<((u+v+1:Nat):Int) by omega) ?_
   try refine rh 3 4 (cs':=[.s (ff co),.i .i64 g0,.aZ 2 b5 c5 (t::ts)]) ?_ (ha:=by exact MD)
   refine I ?_;refine aM rfl (.trans (.bM (bs:=[.agg (ez ⟨ff co,g0,_⟩),.b (!fN co&&gr f (u+v+1))]) ⟨.agg ⟨.refl _,.refl _,?_,trivial⟩,.refl _,trivial⟩) (.of (by show _=ae.bM [.agg (ez (fQ.dx ⟨c,n,i,a,x,ht⟩)),.b (fQ.ok ⟨c,n,i,a,x,ht⟩)];rw[ahe,ahf])))
   first|exact bV.nl.trans bV.bb|exact bV.bb)
set_option maxHeartbeats 8000000
def E7:bN where
 L:=Rat×Rat
 args:=fun(x,y)=>[ca x,ca y]
 pre:=fun(x,y)=>dP 67108864 x∧dP 67108864 y∧0<y.num
 res:=fun(x,y)=>.bM [ca (x/y),.i .i64 0]
def PZ:bw a4.ctx 159 E7.spec:=by
 refine bZ [(89,B0.spec),(90,zB.spec),(148,xa.spec)] UZ.1 ?_;intro⟨x,y⟩ ⟨(J:dP _ x),(ay:dP _ y),(hp:0<y.num)⟩ H aK;have j6:=Ch x.num;have nL:y.num.sign=1:=zcz hp;have adP:y.num≠0:=by omega
 refine ag 8 ?_;refine v0 8 (show¬y.num.sign=0 by omega) (ag 18 ?_);refine dO 18 (dn y.den) rfl rfl (by rw[zaa adP];rfl) ?_;refine bC sn (x.num.natAbs,y.den) ⟨dW J.1,dW ay.2⟩ (I ?_);refine bC sm x trivial (I ?_);refine bC sn (x.den,y.num.natAbs) ⟨dW J.2,dW ay.1⟩ (ag 14 ?_);refine ax 14 (.i .i64 x.num.sign) rfl (by rw[nL,Int.mul_one];exact cS rfl (by omega) (by omega)) (I ?_);refine bC xb (x.num.sign,x.num.natAbs*y.den,x.den*y.num.natAbs) ⟨j6.1,j6.2,dW (tw J.1 ay.2),dW (tw J.2 ay.1),zbZ x.den_nz (by omega)⟩ ?_;have e:mkRat (x.num.sign*((x.num.natAbs*y.den:Nat):Int)) (x.den*y.num.natAbs)=x/y:=by
  rw[zaK,<-zbR,zdu];exact Fi hp
 refine ax 25 (ca (x/y)) rfl (congrArg ca e) (I ?_);exact aM rfl (.refl _)
def BY:bN where
 L:=Rat×Rat
 args:=fun(x,y)=>[ca x,ca y]
 pre:=fun(x,y)=>dP 67108864 x∧dP 67108864 y∧0<y.num
 res:=fun(x,y)=>ca (x/y)
def aaS:bw a4.ctx 154 BY.spec:=by
 refine bZ [(159,E7.spec)] UT.1 ?_;intro⟨x,y⟩ ⟨(h1:dP _ x),(h2:dP _ y),(ab:0<y.num)⟩ H aK;refine I ?_;refine aX PZ (x,y) ⟨h1,h2,ab⟩ (I ?_);exact aM rfl (.refl _)
def aaT:bw a4.ctx 96 BY.spec:=by
 refine bZ [(159,E7.spec)] WQ.1 ?_;intro⟨x,y⟩ ⟨(h1:dP _ x),(h2:dP _ y),(ab:0<y.num)⟩ H aK;refine I ?_;refine aX PZ (x,y) ⟨h1,h2,ab⟩ (I ?_);exact aM rfl (.refl _)
def sD(n:Int):mkRat n 1=(n:Rat):=mE n
def I5(h:n<9223372036854775808):dP 4 ((n:Nat):Rat):=da (IW h)
def IU(h:0<n):0<((n:Nat):Rat).num:=by rw[apj];omega
def abd:bN where
 L:=Nat×Nat
 args:=fun(a,b)=>[.i .i64 (a:Int),.i .i64 (b:Int)]
 pre:=fun(a,b)=>a<9223372036854775808∧b<9223372036854775808∧0<b
 res:=fun(a,b)=>ca ((a:Rat)/(b:Rat))
def E8:ca (mkRat (n:Int) 1)=ca ((n:Nat):Rat):=by rw[sD];rfl
def P6:bw a4.ctx 91 abd.spec:=by
 refine bZ [(92,w9.spec),(159,E7.spec)] WK.1 ?_;intro⟨a,b⟩ ⟨(h1:a<_),(h2:b<_),(ab:0<b)⟩ H aK;refine I ?_;refine aX oT (a:Int) ⟨by show _<=(a:Int);omega,by show(a:Int)<_;omega⟩ (I ?_);refine aX oT (b:Int) ⟨by show _<=(b:Int);omega,by show(b:Int)<_;omega⟩ ?_;refine ax 9 (ca ((a:Nat):Rat)) rfl E8 ?_;refine ax 11 (ca ((b:Nat):Rat)) rfl E8 ?_;refine aX PZ ((a:Rat),(b:Rat)) ⟨cC (I5 h1),cC (I5 h2),IU ab⟩ (I ?_);exact aM rfl (.refl _)
def Fb:bN where
 L:=Rat×Nat
 args:=fun(x,n)=>[ca x,.i .i64 (n:Int)]
 pre:=fun(x,n)=>ba 500000 x∧n<=32
 res:=fun(x,n)=>ca (x^n)
def aoT{i:Nat}(h:ba 500000 x)(hn:n<=32)(aa:i<=n):ba 16000001 (x^i):=b2 (EI h) (by omega)
def abb:bw a4.ctx 94 Fb.spec:=by
 refine bZ [(92,w9.spec),(82,tx.spec),(159,E7.spec)] WN.1 ?_;intro⟨x,n⟩ ⟨(J:ba 500000 x),(hn:n<=32)⟩ H aK;refine I ?_;refine aX oT (1:Int) ⟨by decide,by decide⟩ ?_;refine ax 7 (ca (x^0)) rfl (by show ca (mkRat 1 1)=_;rw[Rat.pow_zero];rfl) (I ?_);refine cw (L:=Nat) (fun i=>i<=n) (fun i=>⟨[.c 34 (cN x),.c 34 [.i .i64 0,.nl,.nl],.c 34 (cN (x^i))],3,[(1,.i .i64 (n:Int)),(2,.p 0 0),(4,.p 1 0),(5,.p 2 0),(6,.i .i64 (i:Int))]⟩) (fun i=>n-i) [0,1,2] 0 (zac _) (by show n-0<bc+1;unfold bc;omega) bo ?_;rintro(i:Nat) (aa:i<=n);refine ag 10 ?_;by_cases aE:i<n
 ·refine v1 10 (show(i:Int)<(n:Int) by omega) (I ?_);refine aX oU (x^i,x) ⟨cC (da (aoT J hn aa)),cC (da J)⟩ ?_;refine ax 21 (ca (x^(i+1))) rfl (by show ca _=_;rw[zcq]) (ag 18 ?_);refine b3 18 ((i+1:Nat):Int) (I ?_);exact aU [0,1,2] (i+1) ⟨by show n-(i+1)<n-i;omega,aE⟩ bo
 have gA:i=n:=by omega
 subst gA;refine v0 10 (show¬(i:Int)<(i:Int) by omega) (ag 14 ?_);refine b3 14 (-(i:Int)) (ag 15 ?_);refine v0 15 (show¬(i:Int)< -(i:Int) by omega) (ag 23 ?_);refine v0 23 (show¬(i:Int)<0 by omega) (I ?_);exact aM rfl (.refl _)
def aa8:bN where
 L:=ac bv
 args:=fun s=>[.s s]
 pre:=fun s=>s.length<=1048576
 res:=fun s=>ca (eE s)
def aqD:bw a4.ctx 81 aa8.spec:=by
 refine bZ [(86,B1.spec)] Wz.1 ?_;intro(s:ac bv) (af:s.length<=1048576) H aK;refine I ?_;refine aX JL s af (I ?_);exact aM rfl (.refl _)
def abn:bN where
 L:=c2
 args:=fun v=>[.agg (gQ v)]
 pre:=fun v=>dP 67108864 v.1∧dP 67108864 v.2
 res:=fun v=>ca (v.2-v.1)
def aqL:bw a4.ctx 151 abn.spec:=by
 refine bZ [(34,Ff.spec)] UQ.1 ?_;intro⟨x,y⟩ ⟨(h1:dP _ x),(h2:dP _ y)⟩ H aK;refine I ?_;refine aX xc (y,x) ⟨h2,h1⟩ (I ?_);exact aM rfl (.refl _)
def aba:bw a4.ctx 150 Fb.spec:=by
 refine bZ [(94,Fb.spec)] UP.1 ?_;intro⟨x,n⟩ h H aK;refine I ?_;refine aX abb (x,n) h (I ?_);exact aM rfl (.refl _)
def Fg:bN where
 L:=Nat×Nat
 args:=fun(n,k)=>[.i .i64 (n:Int),.i .i64 (k:Int)]
 pre:=fun(n,k)=>k<=n∧n<=64
 res:=fun(n,k)=>ca (b7 n k:Rat)
def SQ(n:Nat):b7 n 0=1:=by cases n<;>rfl
def vg{k:Nat}(h:n<=64):ba 4 (b7 n k:Rat):=by
 have h1:=zag (xT n k) (zaI (by decide) h);exact qG (ME (b7 n k)) (a:=1) (b:=64) (by decide) h1 (by decide)
def Qa:bw a4.ctx 149 Fg.spec:=by
 refine bZ [(92,w9.spec),(82,tx.spec),(154,BY.spec)] UO.1 ?_;intro⟨n,k⟩ ⟨(hk:k<=n),(hn:n<=64)⟩ H aK;have OL:∀a b,a<=64->dP 100 (b7 a b:Rat):=fun a b h=>cC (da (vg h));refine I ?_;refine aX oT (1:Int) ⟨by decide,by decide⟩ ?_;refine ax 7 (ca ((b7 (n-k+0) 0:Nat):Rat)) rfl (by rw[SQ];exact E8 (n:=1)) (I ?_);refine cw (L:=Nat) (fun i=>i<=k) (fun i=>⟨[.c 34 [.i .i64 0,.nl,.nl],.c 34 (cN (b7 (n-k+i) i:Rat))],2,[(0,.i .i64 (n:Int)),(1,.i .i64 (k:Int)),(4,.p 0 0),(5,.p 1 0),(6,.i .i64 ((i+1:Nat):Int))]⟩) (fun i=>k-i) [0,1] 0 (zac _) (by show k-0<bc+1;unfold bc;omega) bo ?_;rintro(i:Nat) (aa:i<=k);refine ag 10 ?_;by_cases aE:i<k
 ·refine v1 10 (show((i+1:Nat):Int)<=(k:Int) by omega) (ag 18 ?_);refine dO 18 (.i .i64 ((n-k+i+1:Nat):Int)) rfl rfl (by rw[show IntKind.i64.wrap ((n:Int)-(k:Int))=((n-k:Nat):Int)from by rw[hG (by omega) (by omega)];omega];exact cS (by omega) (by omega) (by omega)) ?_;refine bC oT ((n-k+i+1:Nat):Int) ⟨by show _<=((n-k+i+1:Nat):Int);omega,by show((n-k+i+1:Nat):Int)<_;omega⟩ (I ?_);have oJ:∀m:Nat,m<9223372036854775808->dP 100 (mkRat (m:Int) 1):=fun m h=>by rw[sD];exact cC (I5 h)
  have EK:dP 201 ((b7 (n-k+i) i:Rat)*mkRat ((n-k+i+1:Nat):Int) 1):=by
   rw[sD];exact cC (da (j0 (vg (by omega)) (IW (n:=n-k+i+1) (by omega))))
  refine bC oU ((b7 (n-k+i) i:Rat),mkRat ((n-k+i+1:Nat):Int) 1) ⟨cC (OL _ _ (by omega)),cC (oJ _ (by omega))⟩ (I ?_);refine bC oT ((i+1:Nat):Int) ⟨by show _<=((i+1:Nat):Int);omega,by show((i+1:Nat):Int)<_;omega⟩ (I ?_);refine bC aaS ((b7 (n-k+i) i:Rat)*mkRat ((n-k+i+1:Nat):Int) 1,mkRat ((i+1:Nat):Int) 1) ⟨cC EK,cC (oJ _ (by omega)),by rw[sD];exact IU (n:=i+1) (by omega)⟩ ?_;have e:((b7 (n-k+i) i:Rat)*mkRat ((n-k+i+1:Nat):Int) 1)/mkRat ((i+1:Nat):Int) 1=(b7 (n-k+(i+1)) (i+1):Rat):=by
   rw[sD,sD,show n-k+(i+1)=n-k+i+1 by omega,SP];rfl
  refine ax 23 (ca (b7 (n-k+(i+1)) (i+1):Rat)) rfl (congrArg ca e) (ag 12 ?_);refine b3 12 ((i+1+1:Nat):Int) (I ?_);exact aU [0,1] (i+1) ⟨by show k-(i+1)<k-i;omega,aE⟩ bo
 have gA:i=k:=by omega
 subst gA;refine v0 10 (show¬((i+1:Nat):Int)<=(i:Int) by omega) (I ?_);exact aM rfl (.of (by show _=ca (b7 n i:Rat);rw[show ca ((b7 n i:Nat):Rat)=ca ((b7 (n-i+i) i:Nat):Rat)from by rw[show n-i+i=n by omega]];rfl))
def aqH:bw a4.ctx 97 Fg.spec:=by
 refine bZ [(92,w9.spec),(82,tx.spec),(96,BY.spec)] WR.1 ?_;intro⟨n,k⟩ ⟨(hk:k<=n),(hn:n<=64)⟩ H aK;have OL:∀a b,a<=64->dP 100 (b7 a b:Rat):=fun a b h=>cC (da (vg h));refine I ?_;refine aX oT (1:Int) ⟨by decide,by decide⟩ ?_;refine ax 7 (ca ((b7 (n-k+0) 0:Nat):Rat)) rfl (by rw[SQ];exact E8 (n:=1)) (I ?_);refine cw (L:=Nat) (fun i=>i<=k) (fun i=>⟨[.c 34 [.i .i64 0,.nl,.nl],.c 34 (cN (b7 (n-k+i) i:Rat))],2,[(0,.i .i64 (n:Int)),(1,.i .i64 (k:Int)),(4,.p 0 0),(5,.p 1 0),(6,.i .i64 ((i+1:Nat):Int))]⟩) (fun i=>k-i) [0,1] 0 (zac _) (by show k-0<bc+1;unfold bc;omega) bo ?_;rintro(i:Nat) (aa:i<=k);refine ag 10 ?_;by_cases aE:i<k
 ·refine v1 10 (show((i+1:Nat):Int)<=(k:Int) by omega) (ag 18 ?_);refine dO 18 (.i .i64 ((n-k+i+1:Nat):Int)) rfl rfl (by rw[show IntKind.i64.wrap ((n:Int)-(k:Int))=((n-k:Nat):Int)from by rw[hG (by omega) (by omega)];omega];exact cS (by omega) (by omega) (by omega)) ?_;refine bC oT ((n-k+i+1:Nat):Int) ⟨by show _<=((n-k+i+1:Nat):Int);omega,by show((n-k+i+1:Nat):Int)<_;omega⟩ (I ?_);have oJ:∀m:Nat,m<9223372036854775808->dP 100 (mkRat (m:Int) 1):=fun m h=>by rw[sD];exact cC (I5 h)
  have EK:dP 201 ((b7 (n-k+i) i:Rat)*mkRat ((n-k+i+1:Nat):Int) 1):=by
   rw[sD];exact cC (da (j0 (vg (by omega)) (IW (n:=n-k+i+1) (by omega))))
  refine bC oU ((b7 (n-k+i) i:Rat),mkRat ((n-k+i+1:Nat):Int) 1) ⟨cC (OL _ _ (by omega)),cC (oJ _ (by omega))⟩ (I ?_);refine bC oT ((i+1:Nat):Int) ⟨by show _<=((i+1:Nat):Int);omega,by show((i+1:Nat):Int)<_;omega⟩ (I ?_);refine bC aaT ((b7 (n-k+i) i:Rat)*mkRat ((n-k+i+1:Nat):Int) 1,mkRat ((i+1:Nat):Int) 1) ⟨cC EK,cC (oJ _ (by omega)),by rw[sD];exact IU (n:=i+1) (by omega)⟩ ?_;have e:((b7 (n-k+i) i:Rat)*mkRat ((n-k+i+1:Nat):Int) 1)/mkRat ((i+1:Nat):Int) 1=(b7 (n-k+(i+1)) (i+1):Rat):=by
   rw[sD,sD,show n-k+(i+1)=n-k+i+1 by omega,SP];rfl
  refine ax 23 (ca (b7 (n-k+(i+1)) (i+1):Rat)) rfl (congrArg ca e) (ag 12 ?_);refine b3 12 ((i+1+1:Nat):Int) (I ?_);exact aU [0,1] (i+1) ⟨by show k-(i+1)<k-i;omega,aE⟩ bo
 have gA:i=k:=by omega
 subst gA;refine v0 10 (show¬((i+1:Nat):Int)<=(i:Int) by omega) (I ?_);exact aM rfl (.of (by show _=ca (b7 n i:Rat);rw[show ca ((b7 n i:Nat):Rat)=ca ((b7 (n-i+i) i:Nat):Rat)from by rw[show n-i+i=n by omega]];rfl))
theorem Oe{α:Type}(q:α->Bool):∀(l:ac α) (k:Nat),(gM q l k= -1∧∀y,y∈l->q y=false)∨∃i,∃h:i<l.length,gM q l k=((k+i:Nat):Int)∧q l[i]=true∧∀j,∀hj:j<i,q (l[j]'(by omega))=false
 |[],k=>.inl ⟨rfl,fun y h=>by cases h⟩
 |x::l,k=>by
  cases J:q x with
  |true=>exact .inr ⟨0,by simp,by unfold gM;rw[zab J];simp,J,fun j hj=>absurd hj (zbd _)⟩
  |false=>
   have e:gM q (x::l) k=gM q l (k+1):=by
    show(if q x=true then(k:Int)else gM q l (k+1))=_;rw[zaa (by rw[J];decide)]
   rcases Oe q l (k+1)with⟨h1,h2⟩|⟨i,aa,h1,h2,ab⟩
   ·left;refine⟨e.trans h1,fun y ay=> ?_⟩;rcases zap.1 ay with rfl|ay
    ·exact J
    ·exact h2 y ay
   ·right;refine⟨i+1,by simpa using aa,by rw[e,h1];congr 1;omega,by simpa using h2,fun j hj=> ?_⟩;cases j with
    |zero=>exact J
    |succ j=>simpa using ab j (by omega)
structure pD(d:Nat->Nat)(n v:Nat):Prop where
 lt:v<n
 pos:0<d v
 rest:∀j,j<n->j≠v->d j=0
variable{m:Nat}
def PE(h:iN m=false):m=0:=by unfold iN at h;have:=of_decide_eq_false h;omega
def aau(h:iN m=true):0<m:=by unfold iN at h;have:=zbB h;omega
def QW{α:Type}{i:Nat}(f:Nat->α)(h:i<(aY n f).length):(aY n f)[i]=f i:=by
 have h1:=di f (by rw[eu]at h;exact h);rw[zcd h]at h1;exact Option.some.inj h1
def KJ(d:Nat->Nat)(n:Nat):(lN (aY n d)= -1∧∀v:Nat,¬pD d n v)∨∃v:Nat,lN (aY n d)=(v:Int)∧pD d n v:=by
 rcases Oe iN (aY n d) 0 with⟨h1,h2⟩|⟨i,aa,h1,h2,ab⟩
 ·left;refine⟨?_,fun v aB=> ?_⟩
  ·unfold lN;rw[h1];rfl
  ·have:=PE (h2 (d v) (zau (di d aB.lt)));have:=aB.pos;omega
 ·rw[eu]at aa;rw[QW]at h2;have hp:=aau h2;have e:lN (aY n d)=if 0<=gM iN ((aY n d).drop (i+1)) 0 then -1 else(i:Int):=by
   unfold lN;rw[h1,show(((0+i:Nat):Int)).toNat=i by omega];by_cases h:0<=gM iN ((aY n d).drop (i+1)) 0
   ·rw[zab h,zab ⟨by omega,h⟩]
   ·rw[zaa h,zaa (fun aC=>h aC.2)];congr 1;omega
  rcases Oe iN ((aY n d).drop (i+1)) 0 with⟨aH,aI⟩|⟨j,hj,aH,aI,bj⟩
  ·right;refine⟨i,by rw[e,aH];rfl,aa,hp,fun j hj cb=> ?_⟩;rcases zao j i with h|h
   ·have:=ab j h;rw[QW]at this;exact PE this
   ·refine PE (aI (d j) ?_);obtain⟨k,rfl⟩:∃k,j=i+1+k:=⟨j-(i+1),by omega⟩;refine zau (i:=k) ?_;rw[zaR];exact di d hj
  ·left;rw[zaF,eu]at hj;rw[zdE,QW]at aI;have pk:=aau aI;refine⟨by rw[e,aH];rfl,fun v aB=> ?_⟩;have gU:i=v:=Classical.byContradiction fun h=>by have:=aB.rest i aa h;omega
   have hM:i+1+j=v:=Classical.byContradiction fun h=>by have:=aB.rest (i+1+j) (by omega) h;omega
   omega
theorem PB{d:Nat->Nat}{v:Nat}:∀n,(∀j,j<n->j≠v->d j=0)->ck d n=(if v<n then d v+1 else 1)∧en d n=if v<n then d v else 0
 |0,_=>⟨rfl,rfl⟩
 |n+1,h=>by
  obtain⟨h1,h2⟩:=PB n (fun j hj=>h j (by omega));simp only[ck,en,h1,h2];rcases zbo v n with g|g|g
  ·rw[zab g,zab g,zab (show v<n+1 by omega),zab (show v<n+1 by omega),h n (by omega) (by omega)];simp
  ·subst g;rw[zaa (zaU v),zaa (zaU v),zab (zbp v),zab (zbp v)];simp
  ·rw[zaa (show¬v<n by omega),zaa (show¬v<n by omega),zaa (show¬v<n+1 by omega),zaa (show¬v<n+1 by omega),h n (by omega) (by omega)];simp
theorem pD.ck{d:Nat->Nat}{n v:Nat}(h:pD d n v):ck d n=d v+1∧en d n=d v:=by
 obtain⟨h1,h2⟩:=PB n h.rest;rw[zab h.lt]at h1 h2;exact⟨h1,h2⟩
def fE(mk:Rat->Nat->fQ)(g:Nat->Rat):Nat->ac eG
 |0=>[]
 |k+1=>if(g k).num=0 then fE mk g k else fE mk g k++[(mk (g k) k).dx]
def cE(mk:Rat->Nat->fQ)(g:Nat->Rat):Nat->Bool
 |0=>true
 |k+1=>if(g k).num=0 then cE mk g k else cE mk g k&&(mk (g k) k).ok
theorem zP(mk:Rat->Nat->fQ)(g:Nat->Rat):∀k,(fE mk g k).length<=k
 |0=>zae _
 |k+1=>by
  have:=zP mk g k;unfold fE;split
  ·omega
  ·rw[zaE];simp;omega
def iw(N:Nat):Nat:=if N%2=0 then N+1 else N
def nj(c:Nat->Rat)(N:Nat):Nat->Rat:=if N%2=0 then dT c N else c
structure CC where
 lo:Rat
 aa:Rat
 low:ac eG
 high:ac eG
 e:Int
def xX(c:Nat->Rat)(N:Nat)(a:c2)(v ht:Nat):CC:=
 let M:=iw N
 let g:=nj c N
 let lo:=EF (aY M g)
 let aa:=EG (aY M g)
 let mk:=fun(d:Rat) (k:Nat)=>(⟨d,M-1,k,a,v,ht⟩:fQ)
 if(!([lo,aa].any fN)&&(cE mk (fun k=>g k-lo) M&&cE mk (fun k=>aa-g k) M))=true then⟨lo,aa,fE mk (fun k=>g k-lo) M,fE mk (fun k=>aa-g k) M,0⟩else⟨0,0,[],[],3⟩
def kc(l:ac b5)(x:ac cI):CC:=
 if hW l x=0 then
  if lN (kA l x)<0 then⟨0,0,[],[],7⟩
  else match x[(lN (kA l x)).toNat]? with
   |none=>⟨0,0,[],[],7⟩
   |some s=>if(ej s).1=(ej s).2 then⟨0,0,[],[],8⟩else xX (qw l x) (ck (cM l) x.length) (ej s) (lN (kA l x)).toNat x.length
 else⟨0,0,[],[],hW l x⟩
def AK(v:c2):Nat:=v.1.den*(v.2-v.1).den
def TD(v:c2):0<AK v:=zaM (zaG v.1.den_nz) (zaG (v.2-v.1).den_nz)
def nJ(v:c2)(p j:Nat):Rat:=if p<j then 0 else(b7 p j:Rat)*(v.1^(p-j)*(v.2-v.1)^j)
structure tN(z:Nat)(v:c2):Prop where
 a:Fr v.1.den (2^z) v.1
 w:Fr (v.2-v.1).den (2^z) (v.2-v.1)
 d:AK v<=2^(2*z)
variable{z:Nat}
def Il:∃z,z<=16032∧(∀n,dE 501 n->n<2^z)∧∀v:c2,ba 250 v.1->ba 250 v.2->tN z v:=by
 obtain⟨z,h1,h2⟩:=Yw 501;refine⟨z,h1,h2,fun v a b=> ?_⟩;have w:ba 501 (v.2-v.1):=q3 b a;have a:ba 501 v.1:=b2 a;refine⟨jV (zaL (h2 _ a.1)) (AW _),jV (zaL (h2 _ w.1)) (AW _),?_⟩;rw[Nat.two_mul,zal];exact zaS (zaL (h2 _ a.2)) (zaL (h2 _ w.2))
def ab8{v:c2}{p j d:Nat}(h:tN z v)(hp:p<=d):Fr (AK v^d) (2^((z+1)*d)) (nJ v p j):=by
 have Ea:=zat (n:=d) (TD v);unfold nJ;split
 ·exact jV (zac _) (Hj Ea)
 ·rename_i hj;have aD:=uy (ME (b7 p j)) (uy (Hi h.a (p-j)) (Hi h.w j));rw[zaw]at aD;refine sU ?_ Ea (jV ?_ aD)
  ·unfold AK;rw[Nat.mul_pow];exact Nat.mul_dvd_mul (zeh _ (by omega)) (zeh _ (by omega))
  ·rw[<-zal,show p-j+j=p by omega,<-zbk];refine zag (zaD _ (xT p j)) ?_;rw[<-zal];refine mC ?_;have:=zaQ z hp;rw[zah,zaw];omega
def mz(b:Nat->c2)(a:Rat)(p g:Nat->Nat):Nat->Rat
 |0=>a
 |j+1=>mz b a p g j*nJ (b j) (p j) (g j)
def sP(b:Nat->c2)(d:Nat->Nat):Nat->Nat
 |0=>1
 |k+1=>sP b d k*AK (b k)^d k
theorem Ml(b:Nat->c2)(d:Nat->Nat):∀k,0<sP b d k
 |0=>Nat.one_pos
 |k+1=>zaM (Ml b d k) (zat (TD _))
theorem Mk{b:Nat->c2}{d:Nat->Nat}{z n:Nat}(h:∀j,j<n->tN z (b j)):∀k,k<=n->sP b d k<=2^(2*z*en d k)
 |0,_=>by simp[sP,en]
 |k+1,hk=>by
  have h1:=Mk (d:=d) h k (by omega);have h2:AK (b k)^d k<=2^(2*z*d k):=by rw[zbk];exact zco (h k (by omega)).d _
  simp only[sP,en];rw[zaq,zal];exact zaS h1 h2
theorem PH{b:Nat->c2}{d p g:Nat->Nat}{z n M A:Nat}{a:Rat}(h:∀j,j<n->tN z (b j))(ha:Fr M A a)(hp:∀j,j<n->p j<=d j):∀k,k<=n->Fr (M*sP b d k) (A*2^((z+1)*en d k)) (mz b a p g k)
 |0,_=>by simp[sP,en,mz];exact ha
 |k+1,hk=>by
  have h1:=PH (g:=g) h ha hp k (by omega);have h2:=ab8 (j:=g k) (h k (by omega)) (hp k (by omega));have ab:=uy h1 h2;simp only[sP,en,mz];rw[zaq,zal,<-zan,<-zan];exact ab
theorem QV{M A:Nat}{f:Nat->Rat}(e3:0<M):∀n,(∀i,i<n->Fr M A (f i))->Fr M (n*A) (kL f n)
 |0,_=>by rw[zaA];exact Hj e3
 |n+1,h=>by
  rw[zah,zaw];exact Dw (QV e3 n (fun i aa=>h i (by omega))) (h n (by omega))
def jn(l:ac b5)(k:Nat):b5:=(l[k]?).getD ⟨[],[]⟩
def x7(l:ac b5):Nat->Nat
 |0=>1
 |k+1=>x7 l k*(eE (jn l k).dN).den
theorem Mj(l:ac b5):∀k,0<x7 l k
 |0=>Nat.one_pos
 |k+1=>zaM (Mj l k) (zaG (eE _).den_nz)
theorem TB(l:ac b5)(i:Nat):∀k,i<k->(eE (jn l i).dN).den∣x7 l k
 |0,h=>by omega
 |k+1,h=>by
  by_cases hk:i=k
  ·subst hk;exact zeg _ _
  ·exact zdw (TB l i k (by omega)) (zcZ _ _)
def KF(av:∀n,dE 501 n->n<2^z)(s:ac bv):Fr (eE s).den (2^z) (eE s)∧(eE s).den<=2^z:=by
 have h:ba 501 (eE s):=b2 (wO s);exact⟨jV (zaL (av _ h.1)) (AW _),zaL (av _ h.2)⟩
theorem TC{z:Nat}(av:∀n,dE 501 n->n<2^z)(l:ac b5):∀k,x7 l k<=2^(z*k)
 |0=>by simp[x7]
 |k+1=>by
  rw[zaq,zbc,zal];exact zaS (TC av l k) (KF av _).2
def tC(l:ac b5)(b:Nat->c2)(g:Nat->Nat)(n k:Nat):Rat:=mz b (eE (jn l k).dN) (eN (jn l k)) g n
def tt(l:ac b5)(b:Nat->c2)(g:Nat->Nat)(n:Nat):Nat->Rat:=kL (tC l b g n)
def je(d i j:Nat->Nat):Nat->Rat
 |0=>1
 |k+1=>je d i j k*(if i k<j k then 0 else(b7 (i k) (j k):Rat)/(b7 (d k) (j k):Rat))
def w2(d:Nat->Nat):Nat->Nat
 |0=>1
 |k+1=>w2 d k*qf (d k) (d k+1)
theorem aam(d:Nat->Nat):∀k,0<w2 d k
 |0=>Nat.one_pos
 |k+1=>zaM (aam d k) (Jw _ _ (zae _))
theorem Px{d:Nat->Nat}(h:∀j,d j<=16):∀k,w2 d k<=2^(17*en d k)
 |0=>by simp[w2,en]
 |k+1=>by
  simp only[w2,en];rw[zaq,zal];refine zaS (Px h k) (zag (Py _ _) (mC ?_));have:=zaQ (d k) (show d k+1<=17 from by have:=h k;omega);omega
theorem Rj{d i j:Nat->Nat}{n:Nat}(aa:∀k,k<n->i k<=d k):∀k,k<=n->Fr (w2 d k) (2^en d k) (je d i j k)
 |0,_=>by simp[w2,en,je];exact Um
 |k+1,hk=>by
  have h1:=Rj (j:=j) aa k (by omega);have ao:=aa k (by omega);have h2:Fr (qf (d k) (d k+1)) (2^d k) (if i k<j k then 0 else(b7 (i k) (j k):Rat)/(b7 (d k) (j k):Rat)):=by
   have hp:=Jw (d k) (d k+1) (zae _);split
   ·exact jV (zac _) (Hj hp)
   ·rename_i hj;have ab:=Uk (xS (d k) (j k) (by omega)) (ME (b7 (i k) (j k)));rw[zaw]at ab;exact sU (LW (d k) (j k) _ (by omega)) hp (jV (zag (xT _ _) (mC ao)) ab)
  have ab:=uy h1 h2;simp only[w2,en,je];rw[zal];exact ab
def xk(pl:Nat->Rat)(d i:Nat->Nat)(uk:Nat->Nat->Nat)(n:Nat):Nat->Rat:=kL (fun t=>pl t*je d i (uk t) n)
structure rv(l:ac b5)(b:Nat->c2)(d:Nat->Nat)(n:Nat):Prop where
 hl:l.length<=200
 hb:∀j,j<n->ba 250 (b j).1∧ba 250 (b j).2
 ao:∀j,d j<=16
 hp:∀k j,eN (jn l k) j<=d j
 af:en d n<=599
def Lw{s:Nat}(av:z<=16032)(af:s<=599):z*s<=9603168:=zaS av af
section
variable{l:ac b5}{b:Nat->c2}{d:Nat->Nat}{n:Nat}(h:rv l b d n)
include h
variable{k:Nat}{i:Nat->Nat}
def rv.mz(g:Nat->Nat)(k:Nat){j:Nat}(hj:j<=n):ba 1100000 (Go.ah.aW.mz b (eE (jn l k).dN) (eN (jn l k)) g j):=by
 obtain⟨z,av,p5,hD⟩:=Il;have hb:∀j,j<n->tN z (b j):=fun j hj=>hD _ (h.hb j hj).1 (h.hb j hj).2;have h1:=PH (g:=g) hb (KF p5 (jn l k).dN).1 (fun j _=>h.hp k j) j hj;have af:en d j<=599:=zag (Kk d hj) h.af;have hm:=Lw av af;refine qG h1 (a:=z+2*z*en d j+1) (b:=z+(z+1)*en d j) ?_ ?_ ?_
 ·rw[zak,zal];have h2:=zaS (KF p5 (jn l k).dN).2 (Mk (d:=d) hb j hj);have ab:0<2^z*2^(2*z*en d j):=zaM (zat (by decide)) (zat (by decide));omega
 ·rw[zal];exact zae _
 ·rw[zah,zan 2 z];omega
def rv.aar(g:Nat->Nat)(p5:∀n,dE 501 n->n<2^z)(hb:∀j,j<n->tN z (b j))(hk:k<=l.length):Fr (x7 l l.length*sP b d n) (2^(8+(z+(z+1)*en d n))) (tt l b g n k):=by
 have hp:=zaM (Mj l l.length) (Ml b d n);have hl:=h.hl;have h1:=QV (f:=tC l b g n) (A:=2^(z+(z+1)*en d n)) hp k (fun i aa=>by
  have h1:=PH (g:=g) hb (KF p5 (jn l i).dN).1 (fun j _=>h.hp i j) n (zae _);rw[<-zal]at h1;exact sU (Nat.mul_dvd_mul_right (TB l i _ (by omega)) _) hp h1)
 refine jV ?_ h1;rw[zal 2 8];exact zaD _ (by omega)
def rv.den(av:z<=16032)(p5:∀n,dE 501 n->n<2^z)(hb:∀j,j<n->tN z (b j)):x7 l l.length*sP b d n<2^(z*200+2*z*en d n+1):=by
 have h2:=zaS (zag (TC p5 l l.length) (mC (zaQ z h.hl))) (Mk (d:=d) hb n (zae _));have ab:0<2^(z*200)*2^(2*z*en d n):=zaM (zat (by decide)) (zat (by decide));rw[zak,zal];omega
def rv.pl(g:Nat->Nat)(hk:k<=l.length):ba 1100000 (tt l b g n k):=by
 obtain⟨z,av,p5,hD⟩:=Il;have hb:∀j,j<n->tN z (b j):=fun j hj=>hD _ (h.hb j hj).1 (h.hb j hj).2;have hm:=Lw av h.af;refine qG (h.aar g p5 hb hk) (h.den av p5 hb) (zae _) ?_;have:=h.af;rw[zah,zan 2 z];omega
def rv.wt{j:Nat->Nat}(aa:∀k,k<n->i k<=d k)(hk:k<=n):ba 1000 (je d i j k):=by
 have af:en d k<=599:=zag (Kk d hk) h.af;have h1:=Px h.ao k;exact qG (Rj aa k hk) (a:=17*en d k+1) (by rw[zak];have:=zat (n:=17*en d k) (show 0<2 by decide);omega) (zae _) (by omega)
def rv.ara{uk:Nat->Nat->Nat}(aa:∀k,k<n->i k<=d k){t:Nat}(aF:t<=600):ba 1100000 (xk (fun m=>tt l b (uk m) n l.length) d i uk n t):=by
 obtain⟨z,av,p5,hD⟩:=Il;have hb:∀j,j<n->tN z (b j):=fun j hj=>hD _ (h.hb j hj).1 (h.hb j hj).2;have hm:=Lw av h.af;have af:=h.af;have hp:=zaM (zaM (Mj l l.length) (Ml b d n)) (aam d n);have h1:=QV (f:=fun m=>tt l b (uk m) n l.length*je d i (uk m) n) (A:=2^(8+(z+(z+1)*en d n))*2^en d n) hp t (fun m _=>uy (h.aar (uk m) p5 hb (zae _)) (Rj aa n (zae _)));refine qG h1 (a:=z*200+2*z*en d n+1+17*en d n) (b:=10+(8+(z+(z+1)*en d n)+en d n)) ?_ ?_ ?_
 ·exact Ow (h.den av p5 hb) (Px h.ao n)
 ·rw[zal 2 10,zal 2 _ (en d n)];exact zaD _ (by omega)
 ·rw[zah,zan 2 z];omega
end
def y6:bV (.agg [.i .i64 0,.nl,.nl]) (ca 0):=.agg ⟨.refl _,bV.nl.trans (.of (by show dc []=dc (aT _ 0);rw[fL])),bV.nl,trivial⟩
def abi:bN where
 L:=c2×Nat×Nat
 args:=fun(v,p,j)=>[.agg (gQ v),.i .i64 (p:Int),.i .i64 (j:Int)]
 pre:=fun(v,p,_)=>ba 250 v.1∧ba 250 v.2∧p<=16
 res:=fun(v,p,j)=>ca (nJ v p j)
def aqI:bw a4.ctx 83 abi.spec:=by
 refine bZ [(149,Fg.spec),(150,Fb.spec),(151,abn.spec),(82,tx.spec)] WB.1 ?_;intro⟨⟨lo,aa⟩,p,j⟩ ⟨(h1:ba 250 lo),(h2:ba 250 aa),(ab:p<=16)⟩ H aK;have hw:ba 501 (aa-lo):=q3 h2 h1;refine ag 9 ?_;by_cases hj:p<j
 ·refine v1 9 (show(p:Int)<(j:Int) by omega) (I ?_);exact aM rfl (y6.trans (.of (by show ca 0=ca (nJ (lo,aa) p j);unfold nJ;rw[zab hj])))
 refine v0 9 (show¬(p:Int)<(j:Int) by omega) (I ?_);refine bC Qa (p,j) ⟨by show j<=p;omega,by show p<=64;omega⟩ (ag 18 ?_);refine dO 18 (.i .i64 ((p-j:Nat):Int)) rfl rfl (cS (by omega)) ?_;refine bC aba (lo,p-j) ⟨b2 h1,by show p-j<=32;omega⟩ (I ?_);refine bC aqL (lo,aa) ⟨cC (da h1),cC (da h2)⟩ (I ?_);refine bC aba (aa-lo,j) ⟨b2 hw,by show j<=32;omega⟩ ?_;have hH:ba 4001 (lo^(p-j)):=b2 (EI h1) (by omega);have fc:ba 8017 ((aa-lo)^j):=b2 (EI hw) (by omega);refine I ?_;refine bC oU (lo^(p-j),(aa-lo)^j) ⟨cC (da hH),cC (da fc)⟩ (I ?_);refine bC oU ((b7 p j:Rat),lo^(p-j)*(aa-lo)^j) ⟨cC (da (vg (by omega))),cC (da (j0 hH fc))⟩ (I ?_);exact aM rfl (.of (by show _=ca (nJ (lo,aa) p j);unfold nJ;rw[zaa hj];rfl))
def xo(d:Nat->Nat)(n m:Nat):Nat->Nat
 |0=>m
 |k+1=>xo d n m k/(d (n-1-k)+1)
def dI(d:Nat->Nat)(n m i:Nat):Nat:=xo d n m (n-1-i)%(d i+1)
def agw(d:Nat->Nat)(n m i:Nat):dI d n m i<=d i:=zey (zaj _ (zcO _))
theorem abU(d:Nat->Nat)(n m:Nat):∀k,xo d n m k<=m
 |0=>zae _
 |k+1=>zag (zaH _ _) (abU d n m k)
def aaR:bN where
 L:=(Nat->Nat)×Nat×Nat
 args:=fun(d,n,m)=>[.aZ 1 Nat fo (aY n d),.i .i64 (m:Int)]
 pre:=fun(d,n,m)=>n<=1048576∧m<=1048576∧∀j,d j<=16
 res:=fun(d,n,m)=>.aZ 1 Nat fo (aY n (dI d n m))
def vW(d:Nat->Nat)(n m k:Nat)(i:Nat):Nat:=if n-k<=i then dI d n m i else 0
def LV:bw a4.ctx 80 aaR.spec:=by
 refine bZ [] Wy.1 ?_;intro⟨d,n,m⟩ ⟨(hn:n<=1048576),(hm:m<=1048576),(ao:∀j,d j<=16)⟩ H aK;refine ag 8 ?_;refine ax 8 (.i .i64 (n:Int)) rfl (by rw[eu]) (I ?_);refine lj fo 0 ?_;have a7:List.replicate n 0=aY n (vW d n m 0):=by rw[QX];exact h5 fun i aa=>by unfold vW;rw[zaa (by omega)]
 rw[a7];refine ag 11 ?_;refine ax 11 (.i .i64 (n:Int)) rfl (by rw[eu]) (ag 12 ?_);refine b3 12 ((n:Int)-1-(0:Nat)) (I ?_);refine cw (L:=Nat) (fun k=>k<=n) (fun k=>⟨[.a 3 false 1 Nat fo (aY n (vW d n m k))],1,[(0,.aZ 1 Nat fo (aY n d)),(1,.i .i64 ((xo d n m k:Nat):Int)),(5,.aN 0 1 0 n n),(6,.i .i64 ((n:Int)-1-(k:Nat)))]⟩) (fun k=>n-k) [0] 0 (zac _) (by show n-0<bc+1;unfold bc;omega) bo ?_;rintro(k:Nat) (hk:k<=n);refine ag 14 ?_;by_cases aE:k<n
 ·have aL:=abU d n m k;have gA:n-1-k<n:=by omega
  have HB:=ao (n-1-k);refine v1 14 (show(0:Int)<=(n:Int)-1-(k:Nat) by omega) ?_;refine ax 6 (.i .i64 ((n-1-k:Nat):Int)) rfl (fv (by omega)) (I ?_);refine db (d (n-1-k)) (di d gA) ?_;refine ag 24 ?_;refine b3 24 ((d (n-1-k)+1:Nat):Int) ?_;refine abA ?_;refine I ?_;refine hU ?_;refine I ?_;refine iC (xo d n m k%(d (n-1-k)+1)) ?_ (hj:=by rw[eu];exact gA);have aq:(aY n (vW d n m k)).set (n-1-k) (xo d n m k%(d (n-1-k)+1))=aY n (vW d n m (k+1)):=by
   rw[py];refine h5 fun i aa=> ?_;unfold vW;by_cases ju:i=n-1-k
   ·subst ju;rw[zab rfl,zab (by omega)];unfold dI;rw[show n-1-(n-1-k)=k by omega]
   ·rw[zaa ju];by_cases h1:n-k<=i
    ·rw[zab h1,zab (by omega)]
    ·rw[zaa h1,zaa (by omega)]
  rw[aq];refine I ?_;refine db (d (n-1-k)) (di d gA) ?_;refine ag 32 ?_;refine b3 32 ((d (n-1-k)+1:Nat):Int) ?_;refine aq4 ?_;refine ag 16 ?_;refine ax 16 (.i .i64 ((n:Int)-1-(k+1:Nat))) rfl (cS (by omega)) (I ?_);exact aU [0] (k+1) ⟨by show n-(k+1)<n-k;omega,aE⟩ bo
 have jw:k=n:=by omega
 subst jw;refine v0 14 (show¬(0:Int)<=(k:Int)-1-(k:Nat) by omega) ?_;have e2:aY k (vW d k m k)=aY k (dI d k m):=h5 fun i aa=>by unfold vW;rw[zab (by omega)]
 rw[e2];refine gq 5 ?_ (hn:=by rw[eu]);refine I ?_;exact aM rfl (.refl _)
theorem adN{d i j:Nat->Nat}{k:Nat}(h:i k<j k):∀n,k<n->je d i j n=0
 |0,hk=>by omega
 |n+1,hk=>by
  show je d i j n*(if i n<j n then 0 else _)=0;by_cases jw:k=n
  ·subst jw;rw[zab h,Rat.mul_zero]
  ·rw[adN h n (by omega),zek]
def abo:bN where
 L:=(Nat->Nat)×(Nat->Nat)×(Nat->Nat)×Nat
 args:=fun(d,i,j,n)=>[.aZ 1 Nat fo (aY n d),.aZ 1 Nat fo (aY n i),.aZ 1 Nat fo (aY n j)]
 pre:=fun(d,i,j,n)=>n<=1048576∧(∀k,d k<=16)∧(∀k,k<n->i k<=d k)∧(∀k,k<n->j k<=d k)∧en d n<=599
 res:=fun(d,i,j,n)=>ca (je d i j n)
def aqM:bw a4.ctx 85 abo.spec:=by
 refine bZ [(149,Fg.spec),(154,BY.spec),(82,tx.spec),(92,w9.spec)] WD.1 ?_;intro⟨d,i,j,n⟩ ⟨(hn:n<=1048576),(ao:∀k,d k<=16),(aa:∀k,k<n->i k<=d k),(hj:∀k,k<n->j k<=d k),(af:en d n<=599)⟩ H aK;have ei:rv [] (fun _=>(0,0)) d n:=⟨zac _,fun j _=>⟨b2 (lF 0 (by decide) (by decide)),b2 (lF 0 (by decide) (by decide))⟩,ao,fun k j=>zac _,af⟩;have q4:∀k,k<=n->dP 2000 (je d i j k):=fun k hk=>da (ei.wt aa hk);refine I ?_;refine aX oT (1:Int) ⟨by decide,by decide⟩ ?_;refine ax 9 (ca (je d i j 0)) rfl (E8 (n:=1)) (I ?_);refine cw (L:=Nat) (fun k=>k<=n) (fun k=>⟨[.c 34 [.i .i64 0,.nl,.nl],.c 34 (cN (je d i j k))],2,[(0,.aZ 1 Nat fo (aY n d)),(1,.aZ 1 Nat fo (aY n i)),(2,.aZ 1 Nat fo (aY n j)),(6,.p 0 0),(7,.p 1 0),(8,.i .i64 (k:Int))]⟩) (fun k=>n-k) [0,1] 0 (zac _) (by show n-0<bc+1;unfold bc;omega) bo ?_;rintro(k:Nat) (hk:k<=n);refine ag 12 ?_;refine ax 12 (.i .i64 (n:Int)) rfl (by rw[eu]) (ag 13 ?_);by_cases aE:k<n
 ·have i1:=aa k aE;have Io:=hj k aE;have d1:=ao k;refine v1 13 (show(k:Int)<(n:Int) by omega) (I ?_);refine dp (j k) (di j aE) ?_;refine I ?_;refine dp (i k) (di i aE) ?_;refine ag 24 ?_;by_cases ju:i k<j k
  ·refine v1 24 (show(i k:Int)<(j k:Int) by omega) (I ?_);exact aM rfl (y6.trans (.of (by show ca 0=ca (je d i j n);rw[adN ju n aE])))
  refine v0 24 (show¬(i k:Int)<(j k:Int) by omega) (I ?_);refine dp (i k) (di i aE) ?_;refine I ?_;refine dp (j k) (di j aE) ?_;refine I ?_;refine bC Qa (i k,j k) ⟨by show j k<=i k;omega,by show i k<=64;omega⟩ (I ?_);refine dp (d k) (di d aE) ?_;refine I ?_;refine dp (j k) (di j aE) ?_;refine I ?_;refine bC Qa (d k,j k) ⟨by show j k<=d k;omega,by show d k<=64;omega⟩ (I ?_);have hH:ba 4 (b7 (i k) (j k):Rat):=vg (by omega);have fc:ba 4 (b7 (d k) (j k):Rat):=vg (by omega);have hZ:0<((b7 (d k) (j k):Nat):Rat).num:=IU (xS _ _ (by omega));refine bC aaS ((b7 (i k) (j k):Rat),(b7 (d k) (j k):Rat)) ⟨cC (da hH),cC (da fc),hZ⟩ (I ?_);refine bC oU (je d i j k,(b7 (i k) (j k):Rat)/(b7 (d k) (j k):Rat)) ⟨cC (q4 k hk),cC (da (OK hH fc hZ))⟩ ?_;have aq:je d i j k*((b7 (i k) (j k):Rat)/(b7 (d k) (j k):Rat))=je d i j (k+1):=by
   show _=je d i j k*(if i k<j k then 0 else(b7 (i k) (j k):Rat)/(b7 (d k) (j k):Rat));rw[zaa ju]
  refine ax 46 (ca (je d i j (k+1))) rfl (congrArg ca aq) (ag 15 ?_);refine b3 15 ((k+1:Nat):Int) (I ?_);exact aU [0,1] (k+1) ⟨by show n-(k+1)<n-k;omega,aE⟩ bo
 have jw:k=n:=by omega
 subst jw;refine v0 13 (show¬(k:Int)<(k:Int) by omega) (I ?_);exact aM rfl (.refl _)
set_option maxHeartbeats 32000000
variable{c:Nat->Rat}{l:ac b5}{v:Nat}{lo w:Rat}{e:Int}{d:Nat->Nat}
def AE(r:CC):ae:=.bM [c8 r.lo,c8 r.aa,.aZ 3 eG ez r.low,.aZ 3 eG ez r.high,.i .i64 r.e]
def GH:bN where
 L:=ac b5×ac cI
 args:=fun(l,x)=>[.bb 2 b5 c5 l,.bb 2 cI gh x]
 pre:=fun(l,x)=>qo l∧rB x
 res:=fun(l,x)=>AE (kc l x)
 hp:=iQ
 hm:=iQ.up
def GI{x:ac cI}(h:kc l x=⟨0,0,[],[],e⟩):bV (.bM [.agg [.b false,.nl,.nl],.agg [.b false,.nl,.nl],.nl,.nl,.i .i64 e]) (GH.res (l,x)):=bV.trans (b:=AE ⟨0,0,[],[],e⟩) (.bM ⟨le_zero,le_zero,bV.nl,bV.nl,.refl _,trivial⟩) (.of (by show _=AE (kc l x);rw[h]))
def LS{x:ac cI}(hb:fJ x=0)(aF:lK x.length l=0)(ak:pD (cM l) x.length v):∀p,p<ck (cM l) x.length->ba 100000 (qw l x p):=fun p hp=>by
 obtain⟨kE,ic⟩:=FO aF;have np:∀j,cM l j<=16:=Da (fun t aF=>(ic t aF).2.1);obtain⟨z,H7,av,hD⟩:=X9;have yu:=fun i (aa:i<=l.length) p=>SM av kE (cM l) x.length aa p;obtain⟨M,h1,h2⟩:=L7 (z:=z) H7 hD (b:=iq x) Gn (n:=x.length) np (f:=iu l (cM l) x.length l.length) (a0:=z*200+1) (b0:=z+8) (CE:=lU l l.length) (fun p _=>(yu _ (zae _) p).1) (yu _ (zae _) 0).2 x.length (zae _);rw[ak.ck.2]at h1 h2;have:=np v;exact qG (h2 p hp) h1 (zae _) (by omega)
def My{N:Nat}(fq:2<=N)(ym:N<=17)(hc:∀i,i<N->ba 100000 (c i)):∀k,k<iw N->ba 300010 (nj c N k):=fun k hk=>by
 unfold iw at hk;unfold nj;split
 ·rename_i h;rw[zab h]at hk;unfold dT;split
  ·exact b2 (hc 0 (by omega))
  ·split
   ·exact b2 (hc _ (by omega))
   ·exact b2 (IV (hc k (by omega)) (j0 (IY (a:=k) (b:=N) (by omega) (by omega) (by omega)) (q3 (hc (k-1) (by omega)) (hc k (by omega)))))
 ·rename_i h;rw[zaa h]at hk;exact b2 (hc k hk)
def Gz{y:Rat}:iR x y=0↔x=y:=by
 unfold iR;by_cases h:x<y
 ·rw[zab h];exact⟨fun h=>absurd h (by decide),fun e=>absurd (e▸h) zeV⟩
 ·rw[zaa h];by_cases aC:x=y
  ·rw[zab aC];exact⟨fun _=>aC,fun _=>rfl⟩
  ·rw[zaa aC];exact⟨fun h=>absurd h (by decide),fun e=>absurd e aC⟩
def of_lt{s:cI}{a:c2}(h:a=ej s)(cb:a.1≠a.2):a.1<a.2:=by
 have hle:a.1<=a.2:=by
  rw[h];unfold ej Br;split
  ·split
   ·split
    ·exact zed
    ·rename_i h;exact zcB.1 h
   ·exact zed
  ·exact zed
 exact Rat.lt_iff_le_and_ne.2 ⟨hle,cb⟩
def Pu(x:ac cI)(v M:Nat)(g:Nat->Rat)(a:c2)(lo aa:Rat)(ok:Bool)(k:Nat)(more:bJ):ac eG->ac eG->cr
 |[],[]=>⟨[.c 27 (cA lo),.c 27 (cA aa),.c 73 (e9 a)],3,(1,.aZ 2 cI gh x)::(4,.p 0 0)::(5,.p 1 0)::(6,.nl)::(7,.nl)::(10,.aZ 3 Rat cA (aY M g))::(11,.i .i64 (v:Int))::(12,.p 2 0)::(14,.b ok)::(69,.aZ 3 Rat cA (aY M g))::(70,.i .i64 (M:Int))::(71,.i .i64 (k:Int))::more⟩
 |w::ws,[]=>⟨[.c 27 (cA lo),.c 27 (cA aa),.c 73 (e9 a),.a 85 true 3 eG ez (w::ws)],4,(1,.aZ 2 cI gh x)::(4,.p 0 0)::(5,.p 1 0)::(6,.aN 3 3 0 (ws.length+1) (ws.length+1))::(7,.nl)::(10,.aZ 3 Rat cA (aY M g))::(11,.i .i64 (v:Int))::(12,.p 2 0)::(14,.b ok)::(69,.aZ 3 Rat cA (aY M g))::(70,.i .i64 (M:Int))::(71,.i .i64 (k:Int))::more⟩
 |[],y::al=>⟨[.c 27 (cA lo),.c 27 (cA aa),.c 73 (e9 a),.a 85 true 3 eG ez (y::al)],4,(1,.aZ 2 cI gh x)::(4,.p 0 0)::(5,.p 1 0)::(6,.nl)::(7,.aN 3 3 0 (al.length+1) (al.length+1))::(10,.aZ 3 Rat cA (aY M g))::(11,.i .i64 (v:Int))::(12,.p 2 0)::(14,.b ok)::(69,.aZ 3 Rat cA (aY M g))::(70,.i .i64 (M:Int))::(71,.i .i64 (k:Int))::more⟩
 |w::ws,y::al=>⟨[.c 27 (cA lo),.c 27 (cA aa),.c 73 (e9 a),.a 85 true 3 eG ez (w::ws),.a 85 true 3 eG ez (y::al)],5,(1,.aZ 2 cI gh x)::(4,.p 0 0)::(5,.p 1 0)::(6,.aN 3 3 0 (ws.length+1) (ws.length+1))::(7,.aN 4 3 0 (al.length+1) (al.length+1))::(10,.aZ 3 Rat cA (aY M g))::(11,.i .i64 (v:Int))::(12,.p 2 0)::(14,.b ok)::(69,.aZ 3 Rat cA (aY M g))::(70,.i .i64 (M:Int))::(71,.i .i64 (k:Int))::more⟩
def sw{j:Nat}(h:n=m):ae.aN j 3 0 n n=ae.aN j 3 0 m m:=h▸rfl
def two{aw:fI}{K:ac eS}{l:ac bA}{α:Type}{P:α->Prop}{T:α->cr}{G:Prop}(h1:(∀a,P a->aS.ok aw ⟨K,.o l,T a⟩)->G)(h2:∀a,P a->aS.ok aw ⟨K,.o l,T a⟩):G:=h1 h2
def nk:ac eG->ac eG->ac Nat
 |[],[]=>[0,1,2]
 |_::_,[]=>[0,1,2,3]
 |[],_::_=>[0,1,2,3]
 |_::_,_::_=>[0,1,2,3,4]
def n4(k:Nat):Nat->Nat
 |0=>k
 |_+1=>k+1
def n3(k:Nat):Nat->Nat
 |0=>k
 |1=>k
 |_+2=>k+1
def afR:bw a4.ctx 5 GH.spec:=by
 refine pK [(11,L5.spec),(17,adB.spec),(18,Pb.spec),(19,Oc.spec),(20,Oa.spec),(13,Fo.spec),(21,abD.spec),(22,Y7.spec),(23,Zc.spec),(24,QF.spec),(16,Fu.spec),(25,FB.spec),(26,acy.spec)] cT.1 ?_;intro⟨l,x⟩ ⟨(hl:qo l),(J:rB x)⟩ H aK gz;refine I ?_;refine aX afm (l,x) ⟨hl,J⟩ (ag 29 ?_);by_cases dF:hW l x=0
 case neg=>
  have e:kc l x=⟨0,0,[],[],hW l x⟩:=zaa dF;refine v1 29 dF (I ?_);exact aM rfl (GI e)
 refine v0 29 (fc dF) ?_;have a7:kc l x=_:=zab dF;have hb:fJ x=0:=by
  unfold hW at dF;split at dF
  ·assumption
  ·rename_i h;exact absurd dF h
 have aF:lK x.length l=0:=by
  unfold hW at dF;rw[zab hb]at dF;split at dF
  ·assumption
  ·rename_i h;exact absurd dF h
 obtain⟨kE,ic⟩:=FO aF;have np:∀j,cM l j<=16:=Da (fun t aF=>(ic t aF).2.1);have gd:kA l x=aY x.length (cM l):=zab dF;have gy:xR l x=aY (ck (cM l) x.length) (qw l x):=zab dF;have yW:=J.1;refine I ?_;refine aX aui (kA l x) (by show(kA l x).length<=1048576;rw[gd,eu];exact yW) ?_;rw[gd]at a7;refine ag 36 ?_;rcases KJ (cM l) x.length with⟨aB,_⟩|⟨v,aB,ak⟩
 ·have e:kc l x=⟨0,0,[],[],7⟩:=a7.trans (zab (by rw[aB];decide));refine v1 36 (show lN (kA l x)<0 by rw[gd,aB];decide) (I ?_);exact aM rfl (GI e)
 refine v0 36 (show¬lN (kA l x)<0 by rw[gd,aB];omega) ?_;have iz:v<x.length:=ak.lt;have aq:=a7.trans (zaa (by rw[aB];omega));rw[aB,zcj,bE ak.lt]at aq;have aq:kc l x=if(ej x[v]).1=(ej x[v]).2 then⟨0,0,[],[],8⟩else xX (qw l x) (ck (cM l) x.length) (ej x[v]) v x.length:=aq;have p1:x≠[]:=ne_of_lt ak.lt;have p2:=J.2 _ (zas ak.lt);refine ax 34 (.i .i64 (v:Int)) rfl (by show ae.i .i64 (lN (kA l x))=_;rw[gd,aB]) ?_;refine ax 11 (.i .i64 (v:Int)) rfl (by show ae.i .i64 (lN (kA l x))=_;rw[gd,aB]) ?_;refine dS 1 (.aZ 2 cI gh x) rfl (.ga p1) ?_;refine I ?_;refine db x[v] (bE ak.lt) ?_;refine I ?_;refine aX Jc x[v] p2 ?_;obtain⟨a,ha⟩:∃a,a=ej x[v]:=⟨_,rfl⟩;obtain⟨ve,vf⟩:=O6 x[v];rw[<-ha]at ve vf aq;refine I ?_;rw[<-ha];refine bC Od a trivial (I ?_);refine bC Ob a trivial (I ?_);refine bC Kc (a.1,a.2) ⟨b2 ve,b2 vf⟩ (ag 52 ?_);by_cases rU:a.1=a.2
 ·refine ax 52 (.b true) rfl (jU (zad (Gz.2 rU))) (I ?_);exact aM rfl (GI (aq.trans (zab rU)))
 refine ax 52 (.b false) rfl (jU (zai (fun h=>rU (Gz.1 h)))) ?_;have e2:=aq.trans (zaa rU);have aE:a.1<a.2:=of_lt ha rU;obtain⟨N,fq⟩:∃N,N=ck (cM l) x.length:=⟨_,rfl⟩;have AX:N=cM l v+1:=by rw[fq];exact ak.ck.1
 have Nc:=ak.pos;have aly:=np v;obtain⟨c,hc⟩:∃c,c=qw l x:=⟨_,rfl⟩;have vi:=LS hb aF ak;rw[<-hc,<-fq]at vi;rw[<-hc,<-fq]at e2;rw[<-hc,<-fq]at gy;refine ag 56 ?_;refine ax 56 (.i .i64 (N:Int)) rfl (by rw[gy,eu]) (ag 57 ?_);refine tF 57 ((N%2:Nat):Int) ?_ (h:=rfl);obtain⟨M,e3⟩:∃M,M=iw N:=⟨_,rfl⟩;obtain⟨g,aO⟩:∃g,g=nj c N:=⟨_,rfl⟩;have az:∀k,k<M->ba 300010 (g k):=fun k hk=>by rw[aO];exact My (by omega) (by omega) vi k (by rw[<-e3];exact hk)
 have Ht:2<=M∧M<=18:=by rw[e3];unfold iw;split<;>omega
 have DI:ae.aZ 3 Rat cA (xR l x)= .aZ 3 Rat cA (aY N c):=by rw[gy]
 refine ax 10 (.aZ 3 Rat cA (aY N c)) rfl DI (I ?_);refine ih (L:=Unit) (fun _=>True) (fun _=>⟨[.c 27 [.b false,.nl,.nl],.c 27 [.b false,.nl,.nl],.c 73 (e9 a)],3,[(1,.aZ 2 cI gh x),(4,.p 0 0),(5,.p 1 0),(6,.nl),(7,.nl),(10,.aZ 3 Rat cA (aY M g)),(11,.i .i64 (v:Int)),(12,.p 2 0)]⟩) ?_ ?_
 ·by_cases ym:N%2=0
  ·have pa:ae.aZ 3 Rat cA (aY (N+1) (dT c N))= .aZ 3 Rat cA (aY M g):=by rw[e3,aO];unfold iw nj;rw[zab ym,zab ym]
   refine v1 58 (show((N%2:Nat):Int)=0 by omega) (I ?_);refine aX arc (N,c) ⟨by show 1<=N;omega,by show N<=1048576;omega,fun i aa=>b2 (vi i aa)⟩ ?_;refine ax 60 (.aZ 3 Rat cA (aY M g)) rfl pa (I ?_);exact aU [0,1,2] () trivial bo
  ·have pa:ae.aZ 3 Rat cA (aY N c)= .aZ 3 Rat cA (aY M g):=by rw[e3,aO];unfold iw nj;rw[zaa ym,zaa ym]
   refine v0 58 (show¬((N%2:Nat):Int)=0 by omega) ?_;refine ax 10 (.aZ 3 Rat cA (aY M g)) rfl pa (I ?_);exact aU [0,1,2] () trivial bo
 intro _ _;have HI:∀y,y∈aY M g->ba 300010 y:=fun y ay=>by obtain⟨i,aa,rfl⟩:=acT ay;exact az i aa
 have yz:aY M g≠[]:=fun e=>by have:=eu M g;rw[e]at this;simp at this;omega
 have HQ:=IM Y6 yz;have yK:=IM Zb yz;refine I ?_;refine aX aoN (aY M g) ⟨yz,by show(aY M g).length<=1048576;rw[eu];omega,fun y ay=>b2 (HI y ay)⟩ (I ?_) (he:=by exact⟨.refl _,Ey,trivial⟩);refine aX aoR (aY M g) ⟨yz,by show(aY M g).length<=1048576;rw[eu];omega,fun y ay=>b2 (HI y ay)⟩ ?_ (he:=by exact⟨.refl _,Ey,trivial⟩);obtain⟨lo,fG⟩:∃lo,lo=EF (aY M g):=⟨_,rfl⟩;obtain⟨aa,g6⟩:∃aa,aa=EG (aY M g):=⟨_,rfl⟩;have wT:ba 300010 lo:=by rw[fG];exact HI _ HQ
 have wP:ba 300010 aa:=by rw[g6];exact HI _ yK
 refine ax 62 (c8 lo) rfl (by rw[fG];rfl) ?_;refine ax 64 (c8 aa) rfl (by rw[g6];rfl) (ag 67 ?_);refine m7 (z:=3) 3 cA [lo,aa] ?_;refine gq 67 ?_;refine I ?_;refine aX QG [lo,aa] ⟨by show 2<=1048576;decide,fun y ay=>by rcases zap.1 ay with rfl|ay;exact b2 wT;rw[zcD.1 ay];exact b2 wP⟩ ?_ (hh:=gz);obtain⟨b0,kW⟩:∃b0,b0= !([lo,aa].any fN):=⟨_,rfl⟩;refine ax 68 (.b b0) rfl (by rw[kW];rfl) ?_;obtain⟨cR,pV⟩:∃cR:Nat->Rat,cR=fun k=>g k-lo:=⟨_,rfl⟩;obtain⟨cV,yy⟩:∃cV:Nat->Rat,cV=fun k=>aa-g k:=⟨_,rfl⟩;obtain⟨mk,mU⟩:∃mk:Rat->Nat->fQ,mk=fun d k=>⟨d,M-1,k,a,v,x.length⟩:=⟨_,rfl⟩;have OR:∀k,k<M->ba 4000000 (cR k):=fun k hk=>by rw[pV];exact b2 (q3 (az k hk) wT)
 have OQ:∀k,k<M->ba 4000000 (cV k):=fun k hk=>by rw[yy];exact b2 (q3 wP (az k hk))
 have DK:xX c N a v x.length=if(b0&&(cE mk cR M&&cE mk cV M))=true then⟨lo,aa,fE mk cR M,fE mk cV M,0⟩else⟨0,0,[],[],3⟩:=by
  rw[kW,pV,yy,mU,fG,g6,e3,aO];rfl
 refine ag 70 ?_;refine ax 70 (.i .i64 (M:Int)) rfl (by show ae.i .i64 ((aY M g).length:Int)=_;rw[eu]) (I ?_);refine ev 14 (b:=b0&&(cE mk cR 0&&cE mk cV 0)) (by show _=(_&&true);rw[zeY]) ?_;refine cw (L:=Nat×ac eG×ac eG) (fun(k,hX,hl)=>k<=M∧hX=fE mk cR k∧hl=fE mk cV k) (fun(k,hX,hl)=>Pu x v M g a lo aa (b0&&(cE mk cR k&&cE mk cV k)) k [] hX hl) (fun l=>M-l.1) [0,1,2] (0,[],[]) ⟨zac _,rfl,rfl⟩ (by show M-0<bc+1;unfold bc;omega) bo ?_;rintro⟨k,hX,hl⟩ ⟨hk,gf,gW⟩;have kZ:hX.length<=18:=by rw[gf];have:=zP mk cR k;omega
 have kE:hl.length<=18:=by rw[gW];have:=zP mk cV k;omega
 by_cases iK:k<M
 case neg=>
  have ala:M=k:=by omega
  subst ala;have ix:∀p q,bV p (.aZ 3 eG ez hX)->bV q (.aZ 3 eG ez hl)->(b0&&(cE mk cR M&&cE mk cV M))=true->bV (.bM [c8 lo,c8 aa,p,q,.i .i64 0]) (GH.res (l,x)):=fun p q hp hq hb=>by
   have h:=e2.trans (DK.trans (zab hb));rw[<-gf,<-gW]at h;exact bV.trans (b:=AE ⟨lo,aa,hX,hl,0⟩) (.bM ⟨.refl _,.refl _,hp,hq,.refl _,trivial⟩) (.of (by show _=AE (kc l x);rw[h]))
  rcases hX with _|⟨w,ws⟩<;>rcases hl with _|⟨y,al⟩<;>(
   refine ag 72 ?_;refine v0 72 (show¬(M:Int)<(M:Int) by omega) (ag 121 ?_)
   first|(refine gq 6 ?_;refine gq 7 ?_)|refine gq 6 ?_|refine gq 7 ?_|skip
   cases hb:(b0&&(cE mk cR M&&cE mk cV M))with
   |false=>
    refine I ?_;exact aM rfl (GI (e2.trans (DK.trans (zaa (by rw[hb];decide)))))
   |true=>
    refine I ?_
    first|exact aM rfl (ix _ _ (.refl _) (.refl _) hb)|exact aM rfl (ix _ _ bV.nl (.refl _) hb)|exact aM rfl (ix _ _ (.refl _) bV.nl hb)|exact aM rfl (ix _ _ bV.nl bV.nl hb))
 clear kZ kE
 revert hX hl
 refine' two (P:=fun l:ac eG×ac eG=>l.1=fE mk cR k∧l.2=fE mk cV k) (T:=fun l:ac eG×ac eG=>Pu x v M g a lo aa (b0&&(cE mk cR k&&cE mk cV k)) k [(15,.i .i64 (k:Int)),(82,.aZ 3 Rat cA [cR k,cV k]),(83,.i .i64 2),(84,.i .i64 0)] l.1 l.2) (fun key=> ?MN) ?ML
 case MN=>
  intro hX hl gf gW;have NY:[g k-lo,aa-g k]=[cR k,cV k]:=by rw[pV,yy]
  rcases hX with _|⟨w,ws⟩<;>rcases hl with _|⟨y,al⟩<;>(
   refine ag 72 ?_;refine v1 72 (show(k:Int)<(M:Int) by omega) (I ?_);refine db (g k) (di g iK) ?_;refine I ?_;refine bC Fv (g k,lo) ⟨b2 (az k iK),b2 wT⟩ (I ?_);refine bC Fv (aa,g k) ⟨b2 wP,b2 (az k iK)⟩ (I ?_);refine aqV ?_
   first|refine m7 (z:=3) 4 cA [g k-lo,aa-g k] ?_|refine m7 (z:=3) 5 cA [g k-lo,aa-g k] ?_|refine m7 (z:=3) 6 cA [g k-lo,aa-g k] ?_
   refine gq 82 ?_;rw[NY]
   first|refine ri [0,1,2] _ ?_ (key ([],[]) ⟨gf,gW⟩)|refine ri [0,1,2,3] _ ?_ (key (_::_,[]) ⟨gf,gW⟩)|refine ri [0,1,2,3] _ ?_ (key ([],_::_) ⟨gf,gW⟩)|refine ri [0,1,2,3,4] _ ?_ (key (_::_,_::_) ⟨gf,gW⟩)
   exact bo)
 case ML=>
 rintro⟨hX,hl⟩ ⟨(gf:hX=fE mk cR k),(gW:hl=fE mk cV k)⟩;refine I ?_;refine cw (L:=Nat×ac eG×ac eG) (fun(i,hX,hl)=>i<=2∧hX=fE mk cR (n4 k i)∧hl=fE mk cV (n3 k i)) (fun(i,hX,hl)=>Pu x v M g a lo aa (b0&&(cE mk cR (n4 k i)&&cE mk cV (n3 k i))) k [(15,.i .i64 (k:Int)),(82,.aZ 3 Rat cA [cR k,cV k]),(83,.i .i64 2),(84,.i .i64 (i:Int))] hX hl) (fun l=>2-l.1) (nk hX hl) (0,hX,hl) ⟨zac _,gf,gW⟩ (by show 2-0<bc+1;unfold bc;omega) (by rcases hX with _|⟨w,ws⟩<;>rcases hl with _|⟨y,al⟩<;>first|exact bo (f:=[0,1,2])|exact bo (f:=[0,1,2,3])|exact bo (f:=[0,1,2,3,4])) ?_;rintro⟨i,hX,hl⟩ ⟨(A7:i<=2),(gf:hX=fE mk cR (n4 k i)),(gW:hl=fE mk cV (n3 k i))⟩;have kZ:hX.length<=18:=by
  have:=zP mk cR (n4 k i);have:n4 k i<=k+1:=by unfold n4;split<;>omega
  rw[gf];omega
 have kE:hl.length<=18:=by
  have:=zP mk cV (n3 k i);have:n3 k i<=k+1:=by unfold n3;split<;>omega
  rw[gW];omega
 obtain rfl|rfl|rfl:i=0∨i=1∨i=2:=by omega
 ·have gf:hX=fE mk cR (k):=gf;have gW:hl=fE mk cV k:=gW;by_cases av:(cR k).num=0
  ·have aq:fE mk cR (k+1)=hX:=by rw[gf];exact zab av
   have e2:cE mk cR (k+1)=cE mk cR k:=zab av;rcases hX with _|⟨w,ws⟩<;>rcases hl with _|⟨y,al⟩<;>(
    refine I ?_;refine db (j:=0) (cR k) rfl ?_;refine I ?_;refine aX vC (cR k) trivial (ag 91 ?_);refine v1 91 (show(cR k).num.sign=0 by rw[av];rfl) ?_;refine ev 14 (b:=b0&&(cE mk cR (n4 k 1)&&cE mk cV (n3 k 1))) (by show(b0&&(cE mk cR k&&cE mk cV k))=(b0&&(cE mk cR (k+1)&&cE mk cV k));rw[e2]) (ag 119 ?_);refine b3 119 ((1:Nat):Int) (I ?_)
    first|exact aU [0,1,2] (1,[],[]) ⟨by show 2-1<2-0;decide,by decide,aq.symm,gW⟩ bo|exact aU [0,1,2,3] (1,w::ws,[]) ⟨by show 2-1<2-0;decide,by decide,aq.symm,gW⟩ bo|exact aU [0,1,2,3] (1,[],y::al) ⟨by show 2-1<2-0;decide,by decide,aq.symm,gW⟩ bo|exact aU [0,1,2,3,4] (1,w::ws,y::al) ⟨by show 2-1<2-0;decide,by decide,aq.symm,gW⟩ bo)
  ·obtain⟨S,bX⟩:∃S,S=mk (cR k) k:=⟨_,rfl⟩;have aq:fE mk cR (k+1)=hX++[S.dx]:=by rw[gf,bX];exact zaa av
   have e2:cE mk cR (k+1)=(cE mk cR k&&S.ok):=by rw[bX];exact zaa av
   have MU:(⟨cR k,M-1,k,a,v,x.length⟩:fQ)=S:=by rw[bX,mU]
   have mY:(cR k).num.sign≠0:=fun h=>av (zbS.1 h);rcases hX with _|⟨w,ws⟩<;>rcases hl with _|⟨y,al⟩<;>(
    refine I ?_;refine db (j:=0) (cR k) rfl ?_;refine I ?_;refine aX vC (cR k) trivial (ag 91 ?_);refine v0 91 mY ?_;refine ev 14 (b:=b0&&(cE mk cR k&&cE mk cV k)) rfl (ag 95 ?_);refine ax 95 (.i .i64 (M:Int)) rfl (by show ae.i .i64 ((aY M g).length:Int)=_;rw[eu]) (ag 96 ?_);refine b3 96 ((M-1:Nat):Int) (I ?_);refine aX acz ⟨cR k,M-1,k,a,v,x.length⟩ ⟨OR k iK,by show M-1<=17;omega,by show k<=M-1;omega,b2 ve,b2 vf,aE,iz,yW⟩ ?_ (hh:=gz);rw[MU];refine I ?_;cases hb:(b0&&(cE mk cR k&&cE mk cV k))with
    |true=>
     have bS:S.ok=(b0&&(cE mk cR (n4 k 1)&&cE mk cV (n3 k 1))):=by show S.ok=(b0&&(cE mk cR (k+1)&&cE mk cV k));rw[e2];revert hb;cases b0<;>cases cE mk cR k<;>cases cE mk cV k<;>cases S.ok<;>simp
     refine ag 110 ?_;refine ev 14 (b:=b0&&(cE mk cR (n4 k 1)&&cE mk cV (n3 k 1))) bS (I ?_)
     first|refine l8 ez [S.dx] (eR (R:=ez) [S.dx] rfl) ?_ (hb:=by show(5*1+1792)*49<=1125899906842624;decide)|(refine lI (R:=ez) [S.dx] (eR (R:=ez) [S.dx] rfl) ?_ (hn:=by simp) (hb:=by show(5*(ws.length+1+1)+1792)*49<=1125899906842624;simp at kZ;omega);refine ax 114 (.aN _ 3 0 ((ws++[S.dx]).length+1) ((ws++[S.dx]).length+1)) rfl (sw (by simp)) ?_)
     refine ag 119 ?_;refine b3 119 ((1:Nat):Int) (I ?_)
     first|exact aU [0,1,2,6] (1,([S.dx]),[]) ⟨by show 2-1<2-0;decide,by decide,aq.symm,gW⟩ bo|exact aU [0,1,2,7] (1,(w::(ws++[S.dx])),[]) ⟨by show 2-1<2-0;decide,by decide,aq.symm,gW⟩ bo|exact aU [0,1,2,7,3] (1,([S.dx]),(y::al)) ⟨by show 2-1<2-0;decide,by decide,aq.symm,gW⟩ bo|exact aU [0,1,2,8,4] (1,(w::(ws++[S.dx])),(y::al)) ⟨by show 2-1<2-0;decide,by decide,aq.symm,gW⟩ bo
    |false=>
     have bS:false=(b0&&(cE mk cR (n4 k 1)&&cE mk cV (n3 k 1))):=by show false=(b0&&(cE mk cR (k+1)&&cE mk cV k));rw[e2];revert hb;cases b0<;>cases cE mk cR k<;>cases cE mk cV k<;>cases S.ok<;>simp
     refine ag 110 ?_;refine ev 14 (b:=b0&&(cE mk cR (n4 k 1)&&cE mk cV (n3 k 1))) bS (I ?_)
     first|refine l8 ez [S.dx] (eR (R:=ez) [S.dx] rfl) ?_ (hb:=by show(5*1+1792)*49<=1125899906842624;decide)|(refine lI (R:=ez) [S.dx] (eR (R:=ez) [S.dx] rfl) ?_ (hn:=by simp) (hb:=by show(5*(ws.length+1+1)+1792)*49<=1125899906842624;simp at kZ;omega);refine ax 114 (.aN _ 3 0 ((ws++[S.dx]).length+1) ((ws++[S.dx]).length+1)) rfl (sw (by simp)) ?_)
     refine ag 119 ?_;refine b3 119 ((1:Nat):Int) (I ?_)
     first|exact aU [0,1,2,6] (1,([S.dx]),[]) ⟨by show 2-1<2-0;decide,by decide,aq.symm,gW⟩ bo|exact aU [0,1,2,7] (1,(w::(ws++[S.dx])),[]) ⟨by show 2-1<2-0;decide,by decide,aq.symm,gW⟩ bo|exact aU [0,1,2,7,3] (1,([S.dx]),(y::al)) ⟨by show 2-1<2-0;decide,by decide,aq.symm,gW⟩ bo|exact aU [0,1,2,8,4] (1,(w::(ws++[S.dx])),(y::al)) ⟨by show 2-1<2-0;decide,by decide,aq.symm,gW⟩ bo
     )
 ·have gf:hX=fE mk cR (k+1):=gf;have gW:hl=fE mk cV k:=gW;by_cases av:(cV k).num=0
  ·have aq:fE mk cV (k+1)=hl:=by rw[gW];exact zab av
   have e2:cE mk cV (k+1)=cE mk cV k:=zab av;rcases hX with _|⟨w,ws⟩<;>rcases hl with _|⟨y,al⟩<;>(
    refine I ?_;refine db (j:=1) (cV k) rfl ?_;refine I ?_;refine aX vC (cV k) trivial (ag 91 ?_);refine v1 91 (show(cV k).num.sign=0 by rw[av];rfl) ?_;refine ev 14 (b:=b0&&(cE mk cR (n4 k 2)&&cE mk cV (n3 k 2))) (by show(b0&&(cE mk cR (k+1)&&cE mk cV k))=(b0&&(cE mk cR (k+1)&&cE mk cV (k+1)));rw[e2]) (ag 119 ?_);refine b3 119 ((2:Nat):Int) (I ?_)
    first|exact aU [0,1,2] (2,[],[]) ⟨by show 2-2<2-1;decide,by decide,gf,aq.symm⟩ bo|exact aU [0,1,2,3] (2,w::ws,[]) ⟨by show 2-2<2-1;decide,by decide,gf,aq.symm⟩ bo|exact aU [0,1,2,3] (2,[],y::al) ⟨by show 2-2<2-1;decide,by decide,gf,aq.symm⟩ bo|exact aU [0,1,2,3,4] (2,w::ws,y::al) ⟨by show 2-2<2-1;decide,by decide,gf,aq.symm⟩ bo)
  ·obtain⟨S,bX⟩:∃S,S=mk (cV k) k:=⟨_,rfl⟩;have aq:fE mk cV (k+1)=hl++[S.dx]:=by rw[gW,bX];exact zaa av
   have e2:cE mk cV (k+1)=(cE mk cV k&&S.ok):=by rw[bX];exact zaa av
   have MU:(⟨cV k,M-1,k,a,v,x.length⟩:fQ)=S:=by rw[bX,mU]
   have mY:(cV k).num.sign≠0:=fun h=>av (zbS.1 h);rcases hX with _|⟨w,ws⟩<;>rcases hl with _|⟨y,al⟩<;>(
    refine I ?_;refine db (j:=1) (cV k) rfl ?_;refine I ?_;refine aX vC (cV k) trivial (ag 91 ?_);refine v0 91 mY ?_;refine ev 14 (b:=b0&&(cE mk cR (k+1)&&cE mk cV k)) rfl (ag 95 ?_);refine ax 95 (.i .i64 (M:Int)) rfl (by show ae.i .i64 ((aY M g).length:Int)=_;rw[eu]) (ag 96 ?_);refine b3 96 ((M-1:Nat):Int) (I ?_);refine aX acz ⟨cV k,M-1,k,a,v,x.length⟩ ⟨OQ k iK,by show M-1<=17;omega,by show k<=M-1;omega,b2 ve,b2 vf,aE,iz,yW⟩ ?_ (hh:=gz);rw[MU];refine I ?_;cases hb:(b0&&(cE mk cR (k+1)&&cE mk cV k))with
    |true=>
     have bS:S.ok=(b0&&(cE mk cR (n4 k 2)&&cE mk cV (n3 k 2))):=by show S.ok=(b0&&(cE mk cR (k+1)&&cE mk cV (k+1)));rw[e2];revert hb;cases b0<;>cases cE mk cR (k+1)<;>cases cE mk cV k<;>cases S.ok<;>simp
     refine ag 110 ?_;refine ev 14 (b:=b0&&(cE mk cR (n4 k 2)&&cE mk cV (n3 k 2))) bS (I ?_)
     first|refine l8 ez [S.dx] (eR (R:=ez) [S.dx] rfl) ?_ (hb:=by show(5*1+1792)*49<=1125899906842624;decide)|(refine lI (R:=ez) [S.dx] (eR (R:=ez) [S.dx] rfl) ?_ (hn:=by simp) (hb:=by show(5*(al.length+1+1)+1792)*49<=1125899906842624;simp at kE;omega);refine ax 118 (.aN _ 3 0 ((al++[S.dx]).length+1) ((al++[S.dx]).length+1)) rfl (sw (by simp)) ?_)
     refine ag 119 ?_;refine b3 119 ((2:Nat):Int) (I ?_)
     first|exact aU [0,1,2,6] (2,[],([S.dx])) ⟨by show 2-2<2-1;decide,by decide,gf,aq.symm⟩ bo|exact aU [0,1,2,3,7] (2,(w::ws),([S.dx])) ⟨by show 2-2<2-1;decide,by decide,gf,aq.symm⟩ bo|exact aU [0,1,2,7] (2,[],(y::(al++[S.dx]))) ⟨by show 2-2<2-1;decide,by decide,gf,aq.symm⟩ bo|exact aU [0,1,2,3,8] (2,(w::ws),(y::(al++[S.dx]))) ⟨by show 2-2<2-1;decide,by decide,gf,aq.symm⟩ bo
    |false=>
     have bS:false=(b0&&(cE mk cR (n4 k 2)&&cE mk cV (n3 k 2))):=by show false=(b0&&(cE mk cR (k+1)&&cE mk cV (k+1)));rw[e2];revert hb;cases b0<;>cases cE mk cR (k+1)<;>cases cE mk cV k<;>cases S.ok<;>simp
     refine ag 110 ?_;refine ev 14 (b:=b0&&(cE mk cR (n4 k 2)&&cE mk cV (n3 k 2))) bS (I ?_)
     first|refine l8 ez [S.dx] (eR (R:=ez) [S.dx] rfl) ?_ (hb:=by show(5*1+1792)*49<=1125899906842624;decide)|(refine lI (R:=ez) [S.dx] (eR (R:=ez) [S.dx] rfl) ?_ (hn:=by simp) (hb:=by show(5*(al.length+1+1)+1792)*49<=1125899906842624;simp at kE;omega);refine ax 118 (.aN _ 3 0 ((al++[S.dx]).length+1) ((al++[S.dx]).length+1)) rfl (sw (by simp)) ?_)
     refine ag 119 ?_;refine b3 119 ((2:Nat):Int) (I ?_)
     first|exact aU [0,1,2,6] (2,[],([S.dx])) ⟨by show 2-2<2-1;decide,by decide,gf,aq.symm⟩ bo|exact aU [0,1,2,3,7] (2,(w::ws),([S.dx])) ⟨by show 2-2<2-1;decide,by decide,gf,aq.symm⟩ bo|exact aU [0,1,2,7] (2,[],(y::(al++[S.dx]))) ⟨by show 2-2<2-1;decide,by decide,gf,aq.symm⟩ bo|exact aU [0,1,2,3,8] (2,(w::ws),(y::(al++[S.dx]))) ⟨by show 2-2<2-1;decide,by decide,gf,aq.symm⟩ bo
     )
 ·have gf:hX=fE mk cR (k+1):=gf;have gW:hl=fE mk cV (k+1):=gW;rcases hX with _|⟨w,ws⟩<;>rcases hl with _|⟨y,al⟩<;>(
   refine ag 120 ?_;refine ev 14 (b:=b0&&(cE mk cR (k+1)&&cE mk cV (k+1))) rfl ?_;refine b3 120 ((k+1:Nat):Int) (I ?_)
   first|exact aU [0,1,2] (k+1,[],[]) ⟨by show M-(k+1)<M-k;omega,iK,gf,gW⟩ bo|exact aU [0,1,2,3] (k+1,w::ws,[]) ⟨by show M-(k+1)<M-k;omega,iK,gf,gW⟩ bo|exact aU [0,1,2,3] (k+1,[],y::al) ⟨by show M-(k+1)<M-k;omega,iK,gf,gW⟩ bo|exact aU [0,1,2,3,4] (k+1,w::ws,y::al) ⟨by show M-(k+1)<M-k;omega,iK,gf,gW⟩ bo)
def g3(x:ac c2)(j:Nat):c2:=(x[j]?).getD (0,0)
def PD(l:ac b5)(x:ac cI)(m:Nat):Rat:=tt l (g3 (iq x)) (dI (cM l) x.length m) x.length l.length
def zJ(l:ac b5)(x:ac cI)(m:Nat):Rat:=xk (PD l x) (cM l) (dI (cM l) x.length m) (dI (cM l) x.length) x.length (ck (cM l) x.length)
def zC(l:ac b5)(x:ac cI):ac Rat:=if hW l x=0 then aY (ck (cM l) x.length) (zJ l x)else[]
def JH:bN where
 L:=ac b5×ac cI
 args:=fun(l,x)=>[.bb 2 b5 c5 l,.bb 2 cI gh x]
 pre:=fun(l,x)=>qo l∧rB x
 res:=fun(l,x)=>.bM [.aZ 1 Nat fo (kA l x),.aZ 3 Rat cN (zC l x),.i .i64 (hW l x)]
def PU{x:ac cI}(h:hW l x=e)(h0:e≠0):bV (.bM [.nl,.nl,.i .i64 e]) (JH.res (l,x)):=bV.trans (b:=.bM [.aZ 1 Nat fo [],.aZ 3 Rat cN [],.i .i64 e]) (.bM ⟨bV.nl,bV.nl,.refl _,trivial⟩) (.of (by show _=ae.bM [.aZ 1 Nat fo (kA l x),.aZ 3 Rat cN (zC l x),.i .i64 (hW l x)];unfold kA zC;rw[h,zaa h0,zaa h0]))
def P7:ik [.i .i64 0,.nl,.nl] (cN 0):=⟨.refl _,bV.nl.trans (.of (by show dc []=dc (aT _ 0);rw[fL])),bV.nl,trivial⟩
def lT(l:ac b5)(j k i:Nat):Nat:=if i<j then cM l i else if i=j then cM (l.take k) i else 0
def kJ(l:ac b5)(b:ac c2)(d:Nat->Nat)(n m k i:Nat):Rat:=if i<m then tt l (g3 b) (dI d n i) n l.length else if i=m then tt l (g3 b) (dI d n m) n k else 0
def lg(pl:Nat->Rat)(d:Nat->Nat)(n N m t i:Nat):Rat:=if i<m then xk pl d (dI d n i) (dI d n) n N else if i=m then xk pl d (dI d n m) (dI d n) n t else 0
def agy(a b:Nat):min (a:Int) (b:Int)=((min a b:Nat):Int):=by omega
def aqm:bw a4.ctx 27 JH.spec:=by
 refine bZ [(78,PT.spec),(79,zR.spec),(80,aaR.spec),(81,aa8.spec),(83,abi.spec),(85,abo.spec),(82,tx.spec),(84,Fc.spec)] VP.1 ?_;intro⟨l,x⟩ ⟨⟨(hl:l.length<=1048576),(af:∀t,t∈l->t.dN.length<=1048576∧t.cp.length<=1048576)⟩,⟨(J:x.length<=1048576),(r2:∀s,s∈x->s.1.length<=1048576∧s.2.length<=1048576)⟩⟩ H aK;have ars:=As x;refine I ?_;refine aX aqk x ⟨J,r2⟩ (ag 29 ?_);by_cases hb:fJ x=0
 case neg=>
  have e:hW l x=fJ x:=zaa hb;refine v0 29 hb (ag 35 ?_);refine v1 35 hb (I ?_);exact aM rfl (PU e hb)
 refine v1 29 hb (I ?_);refine aX aqJ (l,x.length) ⟨⟨hl,af⟩,J⟩ (ag 35 ?_);by_cases aF:lK x.length l=0
 case neg=>
  have e:hW l x=lK x.length l:=(zab hb).trans (zaa aF);refine v1 35 aF (I ?_);exact aM rfl (PU e aF)
 refine v0 35 (fc aF) ?_;obtain⟨kE,ic⟩:=FO aF;obtain⟨n,hn⟩:∃n,n=x.length:=⟨_,rfl⟩;rw[<-hn]at ic J;have mn:=LD hb;rw[<-hn]at mn;obtain⟨b,uE⟩:∃b,b=iq x:=⟨_,rfl⟩;have DH:∀v,v∈b->ba 250 v.1∧ba 250 v.2:=fun v aB=>Gn v (by rw[<-uE];exact aB);rw[<-uE]at mn;have hQ:∀{k:Nat} (hk:k<l.length),l[k].cp.length=n∧l6 16 l[k].cp=true∧ed l[k].dN=0:=fun hk=>⟨(ic _ (zas hk)).2.2,(ic _ (zas hk)).2.1,(ic _ (zas hk)).1⟩;have np:∀j,cM l j<=16:=Da (fun t aF=>(ic t aF).2.1);refine ag 38 ?_;refine ax 38 (.i .i64 (n:Int)) rfl (by rw[hn]) (I ?_);refine lj fo 0 ?_;have a7:List.replicate n 0=aY n (lT l 0 0):=by rw[QX];exact h5 fun i _=>by unfold lT cM;rw[zaa (by omega)];split<;>rfl
 rw[a7];refine ax 7 (.aZ 6 c2 gQ b) rfl (by rw[uE]) (I ?_);refine cw (L:=Nat) (fun j=>j<=n) (fun j=>⟨[.a 3 false 1 Nat fo (aY n (lT l j 0))],1,[(0,.bb 2 b5 c5 l),(1,.bb 2 cI gh x),(7,.aZ 6 c2 gQ b),(9,.aN 0 1 0 n n),(10,.i .i64 ((min (ck (cM l) j) 601:Nat):Int)),(11,.i .i64 (j:Int))]⟩) (fun j=>n-j) [0] 0 (zac _) (by show n-0<bc+1;unfold bc;omega) bo ?_;rintro(j:Nat) (hj:j<=n);refine ag 42 ?_;refine ax 42 (.i .i64 (n:Int)) rfl (by rw[hn]) (ag 43 ?_);by_cases kk:j<n
 ·refine v1 43 (show(j:Int)<(n:Int) by omega) (I ?_);refine cw (L:=Nat) (fun k=>k<=l.length) (fun k=>⟨[.a 3 false 1 Nat fo (aY n (lT l j k))],1,[(0,.bb 2 b5 c5 l),(1,.bb 2 cI gh x),(7,.aZ 6 c2 gQ b),(9,.aN 0 1 0 n n),(10,.i .i64 ((min (ck (cM l) j) 601:Nat):Int)),(11,.i .i64 (j:Int)),(12,.i .i64 (k:Int))]⟩) (fun k=>l.length-k) [0] 0 (zac _) (by show l.length-0<bc+1;unfold bc;omega) bo ?_;rintro(k:Nat) (hk:k<=l.length);refine ag 49 ?_;by_cases jv:k<l.length
  ·obtain⟨mV,pk,wD⟩:=hQ jv;obtain⟨t,pn⟩:∃t,t=l[k]:=⟨_,rfl⟩;rw[<-pn]at mV pk wD;have r1:l.take (k+1)=l.take k++[t]:=by rw[pn];exact(zdy jv).symm
   have oA:j<t.cp.length:=by omega
   obtain⟨x9,Dk⟩:=E5 pk oA;refine v1 49 (show(k:Int)<(l.length:Int) by omega) ?_;refine dS 0 (.aZ 2 b5 c5 l) rfl (.ga (ne_of_lt jv)) ?_;refine I ?_;refine gl ?_;refine I ?_;refine pM (lT l j k j) (di (n:=n) (i:=j) (lT l j k) kk) ?_;refine I ?_;refine dp t (by rw[pn];exact bE jv) ?_;refine I ?_;refine Tm 62 (.aZ 1 Int gv t.cp) rfl rfl (.ga (ne_of_lt oA)) ?_;refine I ?_;refine dp t.cp[j] (bE oA) ?_;refine I ?_;refine dO 66 (.i .i64 ((max (lT l j k j) (eN t j):Nat):Int)) rfl rfl (by rw[x9];exact congrArg (ae.i .i64) (Tv _ _)) ?_;refine gl ?_;refine I ?_;refine oq (max (lT l j k j) (eN t j)) ?_ (hj:=by rw[eu];exact kk);have ew:(aY n (lT l j k)).set j (max (lT l j k j) (eN t j))=aY n (lT l j (k+1)):=by
    rw[py];refine h5 fun i aa=> ?_;unfold lT;by_cases ju:i=j
    ·subst ju;rw[zab rfl,zaa (zaU i),zab rfl,zaa (zaU i),zab rfl,r1,Tu]
    ·rw[zaa ju,zaa ju,zaa ju]
   rw[ew];refine dS 0 (.bb 2 b5 c5 l) rfl .bb ?_;refine ag 51 ?_;refine b3 51 ((k+1:Nat):Int) (I ?_);exact aU [0] (k+1) ⟨by show l.length-(k+1)<l.length-k;omega,jv⟩ bo
  have jv:k=l.length:=by omega
  subst jv;refine v0 49 (show¬(l.length:Int)<(l.length:Int) by omega) ?_;have ia:=np j;have alU:lT l j l.length j=cM l j:=by unfold lT;rw[zaa (zaU j),zab rfl,zaX]
  have ew:aY n (lT l j l.length)=aY n (lT l (j+1) 0):=h5 fun i aa=>by
   unfold lT;by_cases h1:i<j
   ·rw[zab h1,zab (by omega)]
   ·rw[zaa h1];by_cases h2:i=j
    ·subst h2;rw[zab rfl,zab (by omega),zaX]
    ·rw[zaa h2,zaa (by omega)];split<;>rfl
  have pa:min (ck (cM l) j) 601*(cM l j+1)<=601*17:=zaS (by omega) (by omega);have hm:min (min (ck (cM l) j) 601*(cM l j+1)) 601=min (ck (cM l) (j+1)) 601:=by
   show _=min (ck (cM l) j*(cM l j+1)) 601;by_cases h:ck (cM l) j<=601
   ·rw[zaC h]
   ·have h1:601*1<=601*(cM l j+1):=zaQ _ (by omega);have h2:ck (cM l) j*1<=ck (cM l) j*(cM l j+1):=zaQ _ (by omega);rw[zdh (show 601<=ck (cM l) j by omega),zdh (by omega),zdh (by omega)]
  refine I ?_;refine hU ?_;refine I ?_;refine sq (cM l j) (by rw[<-alU];exact di (n:=n) (i:=j) (lT l j l.length) kk) ?_;refine ag 73 ?_;refine b3 73 ((cM l j+1:Nat):Int) (ag 74 ?_);refine b3 74 ((min (ck (cM l) j) 601*(cM l j+1):Nat):Int) ?_ (h:=by rw[<-zaK]) (h1:=by rw[<-zaK];omega) (h2:=by rw[<-zaK];omega);refine ag 75 ?_;refine ax 75 (.i .i64 ((min (ck (cM l) (j+1)) 601:Nat):Int)) rfl (by rw[<-hm];exact congrArg (ae.i .i64) (agy _ _)) ?_;rw[ew];refine ag 45 ?_;refine b3 45 ((j+1:Nat):Int) (I ?_);exact aU [0] (j+1) ⟨by show n-(j+1)<n-j;omega,kk⟩ bo
 have kk:n=j:=by omega
 subst kk;refine v0 43 (show¬(n:Int)<(n:Int) by omega) ?_;have aq:aY n (lT l n 0)=aY n (cM l):=h5 fun i aa=>by unfold lT;rw[zab aa]
 rw[aq];refine gq 9 ?_ (hn:=by rw[eu]);refine ag 77 ?_;by_cases ys:600<ck (cM l) n
 ·have dF:hW l x=3:=(zab hb).trans ((zab aF).trans (zab (by rw[<-hn];exact ys)));refine v1 77 (show(600:Int)<((min (ck (cM l) n) 601:Nat):Int) by omega) (I ?_);exact aM rfl (PU dF (by decide))
 refine v0 77 (show¬(600:Int)<((min (ck (cM l) n) 601:Nat):Int) by omega) ?_;have dF:hW l x=0:=(zab hb).trans ((zab aF).trans (zaa (by rw[<-hn];exact ys)));have ix:bV (.bM [.aZ 1 Nat fo (aY n (cM l)),.aZ 3 Rat cN (aY (ck (cM l) n) (zJ l x)),.i .i64 0]) (JH.res (l,x)):=.of (by
  show _=ae.bM [.aZ 1 Nat fo (kA l x),.aZ 3 Rat cN (zC l x),.i .i64 (hW l x)];unfold kA zC;rw[dF,zab rfl,zab rfl,<-hn])
 obtain⟨d,ao⟩:∃d,d=cM l:=⟨_,rfl⟩;have ei:rv l (g3 b) d n:=⟨kE,fun j hj=>by
  unfold g3;rw[bE (show j<b.length by omega)];exact DH _ (zas _),fun j=>by rw[ao];exact np j,fun k j=>by
  unfold jn;by_cases hk:k<l.length
  ·rw[bE hk,ao];exact GR (zas hk) j
  ·rw[zbi (by omega)];exact zac _,by
  have:=FA d n;rw[<-ao]at ys;omega⟩
 obtain⟨pl,D9⟩:∃pl:Nat->Rat,pl=fun m=>tt l (g3 b) (dI d n m) n l.length:=⟨_,rfl⟩;have hq:zJ l x=fun m=>xk pl d (dI d n m) (dI d n) n (ck d n):=by
  funext m;unfold zJ PD;rw[<-hn,<-uE,<-ao,D9]
 rw[hq]at ix;rw[<-ao]at ys ix⊢;rw[<-ao]at np;obtain⟨N,fq⟩:∃N,N=ck d n:=⟨_,rfl⟩;rw[<-fq]at ys ix⊢;have Xb:N<=600:=by omega
 refine ax 10 (.i .i64 (N:Int)) rfl (fv (by omega)) (I ?_);refine lj (fun _:Unit=>[.i .i64 0,.nl,.nl]) () ?_;refine Fm 1 cN (aY N (kJ l b d n 0 0)) ?_ (by rw[eu,zav]) (fun i x y _ ay=>by rw[(FI ay).2,show kJ l b d n 0 0 i=0 from by unfold kJ;rw[zaa (by omega)];split<;>rfl];exact P7) (hk:=rfl);refine I ?_;have wU:∀m k i,k<=l.length->dP 2200000 (kJ l b d n m k i):=fun m k i hk=>by
  unfold kJ;split
  ·exact da (ei.pl _ (zae _))
  ·split
   ·exact da (ei.pl _ hk)
   ·exact cC (da (lF 0 (by decide) (by decide)))
 refine cw (L:=Nat) (fun m=>m<=N) (fun m=>⟨[.a 34 false 3 Rat cN (aY N (kJ l b d n m 0))],1,[(0,.bb 2 b5 c5 l),(7,.aZ 6 c2 gQ b),(9,.aZ 1 Nat fo (aY n d)),(10,.i .i64 (N:Int)),(13,.aN 0 3 0 N N),(14,.i .i64 (m:Int))]⟩) (fun m=>N-m) [1] 0 (zac _) (by show N-0<bc+1;unfold bc;omega) bo ?_;rintro(m:Nat) (hm:m<=N);refine ag 82 ?_;by_cases rX:m<N
 ·refine v1 82 (show(m:Int)<(N:Int) by omega) (I ?_);refine aX LV (d,n,m) ⟨J,by show m<=1048576;omega,np⟩ (I ?_);refine cw (L:=Nat) (fun k=>k<=l.length) (fun k=>⟨[.a 34 false 3 Rat cN (aY N (kJ l b d n m k))],1,[(0,.bb 2 b5 c5 l),(7,.aZ 6 c2 gQ b),(9,.aZ 1 Nat fo (aY n d)),(10,.i .i64 (N:Int)),(13,.aN 0 3 0 N N),(14,.i .i64 (m:Int)),(15,.aZ 1 Nat fo (aY n (dI d n m))),(16,.i .i64 (k:Int))]⟩) (fun k=>l.length-k) [0] 0 (zac _) (by show l.length-0<bc+1;unfold bc;omega) bo ?_;rintro(k:Nat) (hk:k<=l.length);refine ag 91 ?_;by_cases jv:k<l.length
  ·obtain⟨mV,pk,wD⟩:=hQ jv;have ox:=(af _ (zas jv)).1;obtain⟨t,pn⟩:∃t,t=l[k]:=⟨_,rfl⟩;rw[<-pn]at mV pk wD ox;have aO:l[k]? =some t:=by rw[pn];exact bE jv
   have qT:jn l k=t:=by unfold jn;rw[aO];rfl
   refine v1 91 (show(k:Int)<(l.length:Int) by omega) ?_;refine dS 0 (.aZ 2 b5 c5 l) rfl (.ga (ne_of_lt jv)) ?_;refine I ?_;refine db t aO ?_;refine I ?_;refine aX aqD t.dN ox (I ?_);refine cw (L:=Nat) (fun j=>j<=n) (fun j=>⟨[.a 34 false 3 Rat cN (aY N (kJ l b d n m k)),.c 34 (cN (mz (g3 b) (eE t.dN) (eN t) (dI d n m) j))],2,[(0,.aZ 2 b5 c5 l),(7,.aZ 6 c2 gQ b),(9,.aZ 1 Nat fo (aY n d)),(10,.i .i64 (N:Int)),(13,.aN 0 3 0 N N),(14,.i .i64 (m:Int)),(15,.aZ 1 Nat fo (aY n (dI d n m))),(16,.i .i64 (k:Int)),(17,.p 1 0),(18,.i .i64 (j:Int))]⟩) (fun j=>n-j) [0,1] 0 (zac _) (by show n-0<bc+1;unfold bc;omega) bo ?_;rintro(j:Nat) (hj:j<=n);refine ag 102 ?_;refine ax 102 (.i .i64 (n:Int)) rfl (by rw[mn]) (ag 103 ?_);by_cases kk:j<n
   ·have oA:j<t.cp.length:=by omega
    have wv:j<b.length:=by omega
    obtain⟨x9,Dk⟩:=E5 pk oA;have jt:=DH _ (zas wv);refine v1 103 (show(j:Int)<(n:Int) by omega) (I ?_);refine dp b[j] (bE wv) ?_;refine I ?_;refine dp t aO ?_;refine I ?_;refine Tm 115 (.aZ 1 Int gv t.cp) rfl rfl (.ga (ne_of_lt oA)) ?_;refine I ?_;refine dp t.cp[j] (bE oA) ?_;refine I ?_;refine dp (dI d n m j) (di _ kk) ?_;refine I ?_;refine dO 118 (.i .i64 ((eN t j:Nat):Int)) rfl rfl (by rw[x9]) ?_;refine bC aqI (b[j],eN t j,dI d n m j) ⟨jt.1,jt.2,Dk⟩ ?_;have I6:dP 200000 (nJ b[j] (eN t j) (dI d n m j)):=by
     obtain⟨z,av,p5,hD⟩:=Il;have h1:=hD b[j] jt.1 jt.2;refine cC (da (qG (k:=33000) (ab8 (j:=dI d n m j) h1 Dk) (a:=2*z*16+1) (b:=(z+1)*16) ?_ (zae _) (by omega)));rw[show 2^(2*z*16+1)=2*(2^(2*z))^16 from by rw[zal,Nat.pow_one,zbk 2 (2*z) 16,zam]];have h2:=zco h1.d 16;have ab:=zat (n:=16) (zat (n:=2*z) (show 0<2 by decide));omega
    have apb:dP 2200000 (mz (g3 b) (eE t.dN) (eN t) (dI d n m) j):=by
     have:=ei.mz (dI d n m) k (j:=j) hj;rw[qT]at this;exact da this
    refine I ?_;refine bC oU (mz (g3 b) (eE t.dN) (eN t) (dI d n m) j,nJ b[j] (eN t j) (dI d n m j)) ⟨cC apb,cC I6⟩ ?_;have e2:mz (g3 b) (eE t.dN) (eN t) (dI d n m) j*nJ b[j] (eN t j) (dI d n m j)=mz (g3 b) (eE t.dN) (eN t) (dI d n m) (j+1):=by
     show _=mz (g3 b) (eE t.dN) (eN t) (dI d n m) j*nJ (g3 b j) (eN t j) (dI d n m j);rw[show g3 b j=b[j]from by unfold g3;rw[bE wv];rfl]
    refine ax 124 (ca (mz (g3 b) (eE t.dN) (eN t) (dI d n m) (j+1))) rfl (congrArg ca e2) (ag 105 ?_);refine b3 105 ((j+1:Nat):Int) (I ?_);exact aU [0,1] (j+1) ⟨by show n-(j+1)<n-j;omega,kk⟩ bo
   have kk:n=j:=by omega
   subst kk;refine v0 103 (show¬(n:Int)<(n:Int) by omega) (I ?_);refine gl ?_;refine I ?_;refine rJ (kJ l b d n m k m) (di (n:=N) (i:=m) (kJ l b d n m k) rX) ?_;refine I ?_;have ahy:mz (g3 b) (eE t.dN) (eN t) (dI d n m) n=tC l (g3 b) (dI d n m) n k:=by unfold tC;rw[qT]
   have api:dP 2200000 (tC l (g3 b) (dI d n m) n k):=da (ei.mz (dI d n m) k (zae _));rw[ahy];refine bC zH (kJ l b d n m k m,tC l (g3 b) (dI d n m) n k) ⟨cC (wU m k m hk),cC api⟩ (I ?_);refine gl ?_;refine I ?_;refine sK (a:=ca (kJ l b d n m k m+tC l (g3 b) (dI d n m) n k)) (kJ l b d n m k m+tC l (g3 b) (dI d n m) n k) (di (n:=N) (i:=m) (kJ l b d n m k) rX) ?_;refine ag 93 ?_;refine b3 93 ((k+1:Nat):Int) ?_;have ew:(aY N (kJ l b d n m k)).set m (kJ l b d n m k m+tC l (g3 b) (dI d n m) n k)=aY N (kJ l b d n m (k+1)):=by
    rw[py];refine h5 fun i aa=> ?_;unfold kJ;by_cases s3:i=m
    ·subst s3;rw[zab rfl,zaa (zaU i),zab rfl,zaa (zaU i),zab rfl];rfl
    ·rw[zaa s3,zaa s3,zaa s3]
   rw[ew];refine dS 0 (.bb 2 b5 c5 l) rfl .bb ?_;refine I ?_;exact aU [0] (k+1) ⟨by show l.length-(k+1)<l.length-k;omega,jv⟩ bo
  have jv:k=l.length:=by omega
  subst jv;refine v0 91 (show¬(l.length:Int)<(l.length:Int) by omega) ?_;have ew:aY N (kJ l b d n m l.length)=aY N (kJ l b d n (m+1) 0):=h5 fun i aa=>by
   unfold kJ;by_cases h1:i<m
   ·rw[zab h1,zab (by omega)]
   ·rw[zaa h1];by_cases h2:i=m
    ·subst h2;rw[zab rfl,zab (by omega)]
    ·rw[zaa h2,zaa (by omega)];split<;>rfl
  rw[ew];refine ag 84 ?_;refine b3 84 ((m+1:Nat):Int) (I ?_);exact aU [0] (m+1) ⟨by show N-(m+1)<N-m;omega,rX⟩ bo
 have rX:N=m:=by omega
 subst rX;refine v0 82 (show¬(N:Int)<(N:Int) by omega) ?_;have e2:aY N (kJ l b d n N 0)=aY N pl:=h5 fun i aa=>by unfold kJ;rw[zab aa,D9]
 rw[e2];refine gq 13 ?_ (hn:=by rw[eu]);have apa:∀t,dP 2200000 (pl t):=fun t=>by rw[D9];exact da (ei.pl _ (zae _))
 have EJ:∀m j,j<n->dI d n m j<=d j:=fun m j _=>agw d n m j;have Zv:∀m t,t<=N->dP 2200000 (xk pl d (dI d n m) (dI d n) n t):=fun m t aF=>by rw[D9];exact da (ei.ara (EJ m) (by omega))
 have apg:∀m t i,t<=N->dP 2200000 (lg pl d n N m t i):=fun m t i aF=>by
  unfold lg;split
  ·exact Zv _ _ (zae _)
  ·split
   ·exact Zv _ _ aF
   ·exact cC (da (lF 0 (by decide) (by decide)))
 refine I ?_;refine lj (fun _:Unit=>[.i .i64 0,.nl,.nl]) () ?_;refine Fm 1 cN (aY N (lg pl d n N 0 0)) ?_ (by rw[eu,zav]) (fun i x y _ ay=>by rw[(FI ay).2,show lg pl d n N 0 0 i=0 from by unfold lg;rw[zaa (by omega)];split<;>rfl];exact P7) (hk:=rfl);refine I ?_;refine cw (L:=Nat) (fun m=>m<=N) (fun m=>⟨[.a 34 false 3 Rat cN (aY N (lg pl d n N m 0))],1,[(9,.aZ 1 Nat fo (aY n d)),(10,.i .i64 (N:Int)),(13,.aZ 3 Rat cN (aY N pl)),(19,.aN 0 3 0 N N),(20,.i .i64 (m:Int))]⟩) (fun m=>N-m) [1] 0 (zac _) (by show N-0<bc+1;unfold bc;omega) bo ?_;rintro(m:Nat) (hm:m<=N);refine ag 138 ?_;by_cases rX:m<N
 ·refine v1 138 (show(m:Int)<(N:Int) by omega) (I ?_);refine aX LV (d,n,m) ⟨J,by show m<=1048576;omega,np⟩ (I ?_);refine cw (L:=Nat) (fun t=>t<=N) (fun t=>⟨[.a 34 false 3 Rat cN (aY N (lg pl d n N m t))],1,[(9,.aZ 1 Nat fo (aY n d)),(10,.i .i64 (N:Int)),(13,.aZ 3 Rat cN (aY N pl)),(19,.aN 0 3 0 N N),(20,.i .i64 (m:Int)),(21,.aZ 1 Nat fo (aY n (dI d n m))),(22,.i .i64 (t:Int))]⟩) (fun t=>N-t) [0] 0 (zac _) (by show N-0<bc+1;unfold bc;omega) bo ?_;rintro(t:Nat) (NP:t<=N);refine ag 146 ?_;by_cases l1:t<N
  ·refine v1 146 (show(t:Int)<(N:Int) by omega) (I ?_);refine bC LV (d,n,t) ⟨J,by show t<=1048576;omega,np⟩ (I ?_);refine bC aqM (d,dI d n m,dI d n t,n) ⟨J,np,EJ m,EJ t,ei.af⟩ (I ?_);refine dp (pl t) (di pl l1) ?_;refine I ?_;have q4:dP 2000 (je d (dI d n m) (dI d n t) n):=da (ei.wt (EJ m) (zae _));refine bC oU (pl t,je d (dI d n m) (dI d n t) n) ⟨cC (apa t),cC q4⟩ (I ?_);refine gl ?_;refine I ?_;refine rJ (lg pl d n N m t m) (di (n:=N) (i:=m) (lg pl d n N m t) rX) ?_;refine I ?_;have apc:dP 4000000 (pl t*je d (dI d n m) (dI d n t) n):=by
    rw[D9];exact cC (da (j0 (ei.pl _ (zae _)) (ei.wt (EJ m) (zae _))))
   refine bC zH (lg pl d n N m t m,pl t*je d (dI d n m) (dI d n t) n) ⟨cC (apg m t m NP),cC apc⟩ (I ?_);refine gl ?_;refine I ?_;refine sK (a:=ca (lg pl d n N m t m+pl t*je d (dI d n m) (dI d n t) n)) (lg pl d n N m t m+pl t*je d (dI d n m) (dI d n t) n) (di (n:=N) (i:=m) (lg pl d n N m t) rX) ?_;refine ag 148 ?_;refine b3 148 ((t+1:Nat):Int) ?_;have ew:(aY N (lg pl d n N m t)).set m (lg pl d n N m t m+pl t*je d (dI d n m) (dI d n t) n)=aY N (lg pl d n N m (t+1)):=by
    rw[py];refine h5 fun i aa=> ?_;unfold lg;by_cases s3:i=m
    ·subst s3;rw[zab rfl,zaa (zaU i),zab rfl,zaa (zaU i),zab rfl];rfl
    ·rw[zaa s3,zaa s3,zaa s3]
   rw[ew];refine I ?_;exact aU [0] (t+1) ⟨by show N-(t+1)<N-t;omega,l1⟩ bo
  have l1:N=t:=by omega
  subst l1;refine v0 146 (show¬(N:Int)<(N:Int) by omega) ?_;have ew:aY N (lg pl d n N m N)=aY N (lg pl d n N (m+1) 0):=h5 fun i aa=>by
   unfold lg;by_cases h1:i<m
   ·rw[zab h1,zab (by omega)]
   ·rw[zaa h1];by_cases h2:i=m
    ·subst h2;rw[zab rfl,zab (by omega)]
    ·rw[zaa h2,zaa (by omega)];split<;>rfl
  rw[ew];refine ag 140 ?_;refine b3 140 ((m+1:Nat):Int) (I ?_);exact aU [0] (m+1) ⟨by show N-(m+1)<N-m;omega,rX⟩ bo
 have rX:N=m:=by omega
 subst rX;refine v0 138 (show¬(N:Int)<(N:Int) by omega) ?_;have bS:aY N (lg pl d n N N 0)=aY N (fun m=>xk pl d (dI d n m) (dI d n) n N):=h5 fun i aa=>by unfold lg;rw[zab aa]
 rw[bS];refine gq 19 ?_ (hn:=by rw[eu]);refine I ?_;exact aM rfl ix
theorem abV{d:Nat->Nat}{n v m:Nat}(h:pD d n v):∀k,k+v+1<=n->xo d n m k=m
 |0,_=>rfl
 |k+1,hk=>by
  show xo d n m k/(d (n-1-k)+1)=m;rw[abV h k (by omega),h.rest (n-1-k) (by omega) (by omega),zbJ]
def Tw(h:pD d n v)(hm:m<=d v):∀j,j<n->dI d n m j=if j=v then m else 0:=fun j hj=>by
 unfold dI;by_cases Nl:j=v
 ·subst Nl;have:=h.lt;rw[zab rfl,abV h _ (by omega)];exact zbU (by omega)
 ·rw[zaa Nl,h.rest j hj Nl,zcT]
def acg(v:c2):nJ v 0 0=1:=by
 unfold nJ;rw[zaa (zaU 0),Rat.pow_zero,Rat.pow_zero,Rat.one_mul,zdz];rfl
theorem aaC{b:Nat->c2}{a:Rat}{p g:Nat->Nat}{n v:Nat}(h:∀j,j<n->j≠v->p j=0∧g j=0):∀k,k<=n->mz b a p g k=if v<k then a*nJ (b v) (p v) (g v)else a
 |0,_=>by rw[zaa (zbd _)];rfl
 |k+1,hk=>by
  show mz b a p g k*nJ (b k) (p k) (g k)=_;rw[aaC h k (by omega)];rcases zbo v k with c|c|c
  ·obtain⟨h1,h2⟩:=h k (by omega) (by omega);rw[zab c,zab (by omega),h1,h2,acg,zdz]
  ·subst c;rw[zaa (zaU v),zab (by omega)]
  ·obtain⟨h1,h2⟩:=h k (by omega) (by omega);rw[zaa (by omega),zaa (by omega),h1,h2,acg,zdz]
theorem adM{d i j:Nat->Nat}{n v:Nat}(h:∀k,k<n->k≠v->d k=0∧i k=0∧j k=0):∀k,k<=n->je d i j k=if v<k then(if i v<j v then 0 else(b7 (i v) (j v):Rat)/(b7 (d v) (j v):Rat))else 1
 |0,_=>by rw[zaa (zbd _)];rfl
 |k+1,hk=>by
  show je d i j k*(if i k<j k then 0 else(b7 (i k) (j k):Rat)/(b7 (d k) (j k):Rat))=_;rw[adM h k (by omega)];have one:∀k,k<n->k≠v->(if i k<j k then(0:Rat)else(b7 (i k) (j k):Rat)/(b7 (d k) (j k):Rat))=1:=fun k h1 h2=>by
   obtain⟨aq,e2,bS⟩:=h k h1 h2;rw[aq,e2,bS,zaa (zaU 0)];show(1:Rat)/1=1
   grind
  rcases zbo v k with c|c|c
  ·rw[zab c,zab (show v<k+1 by omega),one k (by omega) (by omega),zdz]
  ·subst c;rw[zaa (zaU v),zab (show v<v+1 by omega),Rat.one_mul]
  ·rw[zaa (show¬v<k by omega),zaa (show¬v<k+1 by omega),one k (by omega) (by omega),zdz]
def akv{d:Nat->Rat}(h:∀i,i<=n->c i=d i)(i:Nat)(aa:i<=n):mj lo w n c i=mj lo w n d i:=by
 unfold mj;rw[adq h i (i+1) aa]
def af7{d:Nat->Rat}(h:∀i,i<=n->c i=d i)(p:Nat)(hp:p<=n):sJ lo w n c p=sJ lo w n d p:=by
 unfold sJ;exact Au (fun i aa=>akv h i aa) p p hp
def agW{st:Nat}{f:Nat->Rat}(p:Nat):qE st 0 lo w f p=f p:=by
 unfold qE;rw[zcT,Ti];simp
def apZ(h:pD d n v):ck d (v+1)=ck d n:=by
 have h1:=(PB (d:=d) (v:=v) (v+1) (fun j hj cb=>h.rest j (by have:=h.lt;omega) cb)).1;rw[zab (zbp v)]at h1;rw[h1,h.ck.1]
theorem Th{b:ac c2}{d:Nat->Nat}{f:Nat->Rat}{n v:Nat}(h:pD d n v):∀k,k<=n->∀p,p<=d v->o4 b d (ck d n) f k p=if v<k then sJ (g3 b v).1 ((g3 b v).2-(g3 b v).1) (d v) f p else f p
 |0,_,p,_=>by rw[zaa (zbd _)];rfl
 |k+1,hk,p,hp=>by
  have a1:=Th (b:=b) (f:=f) h k (by omega);show qE (ck d n/ck d (k+1)) (d k) (g3 b k).1 ((g3 b k).2-(g3 b k).1) (o4 b d (ck d n) f k) p=_;by_cases c:k=v
  ·subst c;have fq:=h.ck.1;rw[zab (zbp k),apZ h,Nat.div_self (Jx d n)];unfold qE;rw[zbJ,zbU (show p<d k+1 by omega)];refine af7 (fun i aa=> ?_) p hp;rw[zbc,zbc,zcL,zaP,a1 i aa,zaa (zaU k)]
  ·rw[h.rest k (by omega) c,agW,a1 p hp];by_cases e1:v<k
   ·rw[zab e1,zab (by omega)]
   ·rw[zaa e1,zaa (by omega)]
theorem Yd{d p:Nat->Nat}{n v:Nat}(h:pD d n v)(hp:∀j,p j<=d j):∀k,k<=n->k5 d p k=if v<k then p v else 0
 |0,_=>by rw[zaa (zbd _)];rfl
 |k+1,hk=>by
  show k5 d p k*(d k+1)+p k=_;rw[Yd h hp k (by omega)];by_cases c:k=v
  ·subst c;rw[zaa (zaU k),zab (zbp k),zaA,zaP]
  ·have e:=h.rest k (by omega) c;have e2:=hp k;rw[e]at e2;rw[e,show p k=0 by omega];by_cases e1:v<k
   ·rw[zab e1,zab (by omega)];omega
   ·rw[zaa e1,zaa (by omega)]
theorem SL{l:ac b5}{d:Nat->Nat}{n v:Nat}(h:pD d n v)(hp:∀k j,eN (jn l k) j<=d j):∀k,k<=l.length->∀p,iu l d n k p=kL (fun i=>my (eN (jn l i) v) (eE (jn l i).dN) p) k
 |0,_,p=>by rw[iu];rfl
 |k+1,hk,p=>by
  have aO:l[k]? =some (jn l k):=by unfold jn;rw[zcd (by omega)];rfl
  rw[LQ aO,Yd h (hp k) n (zae _),zab h.lt,SL h hp k (by omega) p];show _=kL (fun i=>my (eN (jn l i) v) (eE (jn l i).dN) p) k+my (eN (jn l k) v) (eE (jn l k).dN) p;unfold my;split
  ·rfl
  ·rw[Rat.add_zero]
def at5(lo:Rat)(n p j:Nat)(hp:p<=n):hV lo n (fun _=>0) p j=0:=by
 have h:=Q6 lo 0 n 0 (zac _) p j hp;rw[show my 0 (0:Rat)=fun _=>0 from by funext i;unfold my;split<;>rfl]at h;rw[h];split
 ·grind
 ·rfl
theorem adr(lo:Rat)(n p j:Nat)(hp:p<=n)(F:Nat->Nat->Rat):∀k,hV lo n (fun q=>kL (fun i=>F i q) k) p j=kL (fun i=>hV lo n (F i) p j) k
 |0=>at5 lo n p j hp
 |k+1=>by
  show hV lo n (fun q=>kL (fun i=>F i q) k+F k q) p j=kL (fun i=>hV lo n (F i) p j) k+hV lo n (F k) p j;rw[adp,adr lo n p j hp F k]
theorem acS(f:Nat->Rat)(a:Rat):∀n,kL f n*a=kL (fun i=>f i*a) n
 |0=>zek _
 |n+1=>by
  show(kL f n+f n)*a=kL (fun i=>f i*a) n+f n*a;rw[Rat.add_mul,acS f a n]
def arb{x:ac cI}(ei:rv l (g3 (iq x)) (cM l) x.length)(h:pD (cM l) x.length v):∀m,m<ck (cM l) x.length->zJ l x m=qw l x m:=fun m hm=>by
 obtain⟨n,hn⟩:∃n,n=x.length:=⟨_,rfl⟩;obtain⟨d,ao⟩:∃d,d=cM l:=⟨_,rfl⟩;unfold zJ qw xk PD;rw[<-hn,<-ao]at ei h hm⊢;have fq:ck d n=d v+1:=h.ck.1;have k1:m<=d v:=by omega
 rw[Th h n (zae _) m k1,zab h.lt];unfold sJ;rw[aeT _ (d v) m k1,<-fq];refine QU _ (fun t aF=> ?_);have ib:t<=d v:=by omega
 have HC:=Tw h k1;have HD:=Tw h ib;show tt l (g3 (iq x)) (dI d n t) n l.length*je d (dI d n m) (dI d n t) n=_;rw[adM (v:=v) (fun k hk cb=>⟨h.rest k hk cb,by rw[HC k hk,zaa cb],by rw[HD k hk,zaa cb]⟩) n (zae _),zab h.lt,HC v h.lt,HD v h.lt,zab rfl,zab rfl];by_cases qT:m<t
 ·rw[zab qT,zaa (by omega),Rat.mul_zero]
 rw[zaa qT,zab (by omega)];obtain⟨lo,fG⟩:∃lo,lo=(g3 (iq x) v).1:=⟨_,rfl⟩;obtain⟨w,hw⟩:∃w,w=(g3 (iq x) v).2-(g3 (iq x) v).1:=⟨_,rfl⟩;have aq:tt l (g3 (iq x)) (dI d n t) n l.length=kL (fun i=>hV lo (d v) (my (eN (jn l i) v) (eE (jn l i).dN)) t (t+1)) l.length*w^t:=by
  rw[acS];refine QU _ (fun i aa=> ?_);unfold tC;rw[aaC (v:=v) (fun j hj cb=>⟨by have:=ei.hp i j;rw[h.rest j hj cb]at this;omega,by rw[HD j hj,zaa cb]⟩) n (zae _),zab h.lt,HD v h.lt,zab rfl,at2 lo _ (d v) _ (ei.hp i v) t ib];unfold nJ;rw[<-hw,<-fG];by_cases c:eN (jn l i) v<t
  ·rw[zab c,zaa (by omega),Rat.mul_zero,zek]
  ·rw[zaa c,zab (by omega)]
   grind
 rw[aq];unfold mj;rw[<-hw,<-fG];have e2:(iu l d n l.length)=fun p=>kL (fun i=>my (eN (jn l i) v) (eE (jn l i).dN) p) l.length:=by
  funext p;exact SL h ei.hp _ (zae _) p
 rw[e2,adr lo (d v) t (t+1) ib];unfold j4
 grind
def aaU:bN where
 L:=Rat
 args:=fun x=>[ca x]
 pre:=fun x=>ba 33554432 x
 res:=fun x=>.i .i64 (Db x:Nat)
def aqr:bw a4.ctx 99 aaU.spec:=by
 refine bZ [(101,Qc.spec),(90,zB.spec)] WT.1 ?_;intro(x:Rat) (J:ba _ x) H aK;have gE:=AI J.1;have iB:=AI J.2;have q:=da J;refine I ?_;refine bC JR x.num.natAbs (dW q.1) (I ?_);refine bC sm x trivial (I ?_);refine bC JR x.den (dW q.2) (I ?_);exact aM rfl (.of (by show ae.i .i64 _=ae.i .i64 _;unfold Db;congr 1;omega))
def P2:bN where
 L:=Rat
 args:=fun x=>[ca x]
 pre:=fun x=>ba 33554432 x
 res:=fun x=>.b (fN x)
def zF:bw a4.ctx 36 P2.spec:=by
 refine bZ [(99,aaU.spec)] V2.1 ?_;intro(x:Rat) (J:ba _ x) H aK;refine I ?_;refine aX aqr x J (I ?_);exact aM rfl (.refl _)
def qX(d:Nat->Nat):Nat->Nat
 |0=>0
 |k+1=>if 0<d k then k else qX d k
def lS(d:Nat->Nat):Nat->Nat
 |0=>0
 |k+1=>if 0<d k then lS d k+1 else lS d k
theorem L2(d:Nat->Nat):∀k,lS d k<=k
 |0=>zae _
 |k+1=>by have:=L2 d k;unfold lS;split<;>omega
theorem S4{d:Nat->Nat}:∀{k:Nat},lS d k=0->∀j,j<k->d j=0
 |0,_,j,h=>by omega
 |k+1,h,j,hj=>by
  unfold lS at h;split at h
  ·omega
  ·by_cases c:j=k
   ·subst c;omega
   ·exact S4 h j (by omega)
theorem S5{d:Nat->Nat}:∀{k:Nat},lS d k=1->pD d k (qX d k)
 |0,h=>by cases h
 |k+1,h=>by
  unfold lS at h;unfold qX;by_cases c:0<d k
  ·rw[zab c]at h⊢;refine⟨zbp k,c,fun j hj cb=>S4 (k:=k) (by omega) j (by omega)⟩
  ·rw[zaa c]at h⊢;have i:=S5 h;exact⟨by have:=i.lt;omega,i.pos,fun j hj cb=>if e:j=k then by subst e;omega else i.rest j (by omega) cb⟩
theorem Pg{d:Nat->Nat}{v:Nat}:∀{k:Nat},(∀j,j<k->j≠v->d j=0)->0<d v->lS d k=(if v<k then 1 else 0)∧(v<k->qX d k=v)
 |0,_,_=>⟨by rw[zaa (zbd _)];rfl,fun h=>by omega⟩
 |k+1,h,hp=>by
  obtain⟨i1,i2⟩:=Pg (k:=k) (fun j hj=>h j (by omega)) hp;unfold lS qX;by_cases c:k=v
  ·subst c;rw[zab hp,zab hp,i1,zaa (zaU k),zab (zbp k)];exact⟨rfl,fun _=>rfl⟩
  ·have e:=h k (zbp k) c;rw[zaa (show¬0<d k by omega),zaa (show¬0<d k by omega),i1];by_cases e1:v<k
   ·rw[zab e1,zab (by omega)];exact⟨rfl,fun _=>i2 e1⟩
   ·rw[zaa e1,zaa (by omega)];exact⟨rfl,fun h=>by omega⟩
def abl:bN where
 L:=(Nat->Nat)×Nat
 args:=fun(d,n)=>[.aZ 1 Nat fo (aY n d)]
 pre:=fun(_,n)=>n<=1048576
 res:=fun(d,n)=>.bM [.i .i64 (qX d n:Nat),.b (decide ((lS d n:Int)=1))]
def abm:bw a4.ctx 28 abl.spec:=by
 refine bZ [] VS.1 ?_;intro⟨d,n⟩ (hn:n<=1048576) H aK;refine I ?_;refine cw (L:=Nat) (fun k=>k<=n) (fun k=>⟨[],0,[(0,.aZ 1 Nat fo (aY n d)),(4,.i .i64 (qX d k:Nat)),(5,.i .i64 (lS d k:Nat)),(6,.i .i64 (k:Int))]⟩) (fun k=>n-k) [] 0 (zac _) (by show n-0<bc+1;unfold bc;omega) bo ?_;rintro(k:Nat) (hk:k<=n);refine ag 9 ?_;refine ax 9 (.i .i64 (n:Int)) rfl (by rw[eu]) (ag 10 ?_);by_cases aE:k<n
 ·have hc:=L2 d k;refine v1 10 (show(k:Int)<(n:Int) by omega) (I ?_);refine db (d k) (di d aE) ?_;refine ag 17 ?_;by_cases h0:0<d k
  ·have aq:qX d (k+1)=k:=zab h0;have e2:lS d (k+1)=lS d k+1:=zab h0;refine v1 17 (show(0:Int)<(d k:Int) by omega) (ag 20 ?_);refine b3 20 ((lS d (k+1):Nat):Int) ?_ (h:=by rw[e2];rfl);refine ag 12 ?_;refine b3 12 ((k+1:Nat):Int) ?_;refine ax 4 (.i .i64 (qX d (k+1):Nat)) rfl (by rw[aq]) (I ?_);exact aU [] (k+1) ⟨by show n-(k+1)<n-k;omega,aE⟩ bo
  ·have aq:qX d (k+1)=qX d k:=zaa h0;have e2:lS d (k+1)=lS d k:=zaa h0;refine v0 17 (show¬(0:Int)<(d k:Int) by omega) ?_;rw[<-aq,<-e2];refine ag 12 ?_;refine b3 12 ((k+1:Nat):Int) (I ?_);exact aU [] (k+1) ⟨by show n-(k+1)<n-k;omega,aE⟩ bo
 have jw:n=k:=by omega
 subst jw;refine v0 10 (show¬(n:Int)<(n:Int) by omega) (I ?_);exact aM rfl (.refl _)
def aa1:bN where
 L:=Nat×(Nat->Rat)×Rat×Rat
 args:=fun(n,f,a,b)=>[.aZ 3 Rat cN (aY n f),.aZ 3 Rat cN [a,b]]
 pre:=fun(n,f,a,b)=>n<=1048576∧(∀i,i<n->ba 10000000 (f i))∧ba 1000 a∧ba 1000 b
 res:=fun(n,f,a,b)=>.aZ 3 Rat cN (aY (n+1) (fw f a b n))
def aoy(f:Nat->Rat)(a b:Rat)(i:Nat):fw f a b 0 i=0:=by
 unfold fw k7;rw[zaa (zbd _)];by_cases h:i=0
 ·rw[zab h,zaa (by omega)]
 ·rw[zaa h]
def qj(f:Nat->Rat)(a b:Rat)(i:Nat):Nat->Nat->Rat
 |0=>fw f a b i
 |1=>fun k=>if k=i then k7 f b i+f i*a else fw f a b i k
 |_+2=>fw f a b (i+1)
def aa2:bw a4.ctx 161 aa1.spec:=by
 refine bZ [(82,tx.spec),(84,Fc.spec)] U2.1 ?_;intro⟨n,f,a,b⟩ ⟨(hn:n<=1048576),(U:∀i,i<n->ba _ (f i)),(ha:ba 1000 a),(hb:ba 1000 b)⟩ H aK;refine ag 9 ?_;refine ax 9 (.i .i64 (n:Int)) rfl (by rw[eu]) (ag 11 ?_);refine ax 11 (.i .i64 ((2:Nat):Int)) rfl rfl (ag 12 ?_);refine b3 12 ((n+2:Nat):Int) (ag 13 ?_);refine b3 13 ((n+1:Nat):Int) (I ?_);refine lj (fun _:Unit=>[.i .i64 0,.nl,.nl]) () ?_;refine Fm 0 cN (aY (n+1) (fw f a b 0)) ?_ (by rw[eu,zav]) (fun i x y _ ay=>by rw[(FI ay).2,aoy];exact P7) (hk:=rfl);refine I ?_;have se:ba 2 (0:Rat):=lF 0 (by decide) (by decide);have zi:∀i,i<=n->ba 10001000 (k7 f b i):=fun i aa=>by
  unfold k7;split
  ·exact j0 (U _ (by omega)) hb
  ·exact b2 se
 have avY:∀i k,i<=n->ba 20002001 (fw f a b i k):=fun i k aa=>by
  unfold fw;split
  ·exact IV (zi k (by omega)) (j0 (U k (by omega)) ha)
  ·split
   ·exact b2 (zi k (by omega))
   ·exact b2 se
 refine cw (L:=Nat) (fun i=>i<=n) (fun i=>⟨[.a 34 false 3 Rat cN (aY (n+1) (fw f a b i))],1,[(0,.aZ 3 Rat cN (aY n f)),(1,.aZ 3 Rat cN [a,b]),(5,.aN 0 3 0 (n+1) (n+1)),(6,.i .i64 (i:Int))]⟩) (fun i=>n-i) [0] 0 (zac _) (by show n-0<bc+1;unfold bc;omega) bo ?_;rintro(i:Nat) (aa:i<=n);refine ag 17 ?_;refine ax 17 (.i .i64 (n:Int)) rfl (by rw[eu]) (ag 18 ?_);by_cases aE:i<n
 ·refine v1 18 (show(i:Int)<(n:Int) by omega) (I ?_);refine cw (L:=Nat) (fun j=>j<=2) (fun j=>⟨[.a 34 false 3 Rat cN (aY (n+1) (qj f a b i j))],1,[(0,.aZ 3 Rat cN (aY n f)),(1,.aZ 3 Rat cN [a,b]),(5,.aN 0 3 0 (n+1) (n+1)),(6,.i .i64 (i:Int)),(7,.i .i64 (j:Int))]⟩) (fun j=>2-j) [0] 0 (zac _) (by show 2-0<bc+1;unfold bc;omega) bo ?_;rintro(j:Nat) (hj:j<=2);obtain rfl|rfl|rfl:j=0∨j=1∨j=2:=by omega
  ·have aq:qj f a b i 0 i=k7 f b i:=by show fw f a b i i=_;unfold fw;rw[zaa (zaU i),zab rfl]
   refine I ?_;refine dp (f i) (di f aE) ?_;refine I ?_;refine dp (j:=0) a rfl ?_;refine I ?_;refine bC oU (f i,a) ⟨cC (da (U i aE)),cC (da ha)⟩ (ag 34 ?_);refine dO 34 (.i .i64 ((i:Nat):Int)) rfl rfl (cS (by omega)) ?_;refine gl ?_;refine I ?_;refine rJ (qj f a b i 0 i) (di (n:=n+1) (i:=i) (qj f a b i 0) (by omega)) ?_;rw[aq];refine I ?_;refine bC zH (k7 f b i,f i*a) ⟨cC (da (zi i aa)),cC (da (j0 (U i aE) ha))⟩ (ag 30 ?_);refine dO 30 (.i .i64 ((i:Nat):Int)) rfl rfl (cS (by omega)) ?_;refine gl ?_;refine I ?_;refine sK (a:=ca (k7 f b i+f i*a)) (k7 f b i+f i*a) (di (n:=n+1) (i:=i) (qj f a b i 0) (by omega)) ?_;have ew:(aY (n+1) (qj f a b i 0)).set i (k7 f b i+f i*a)=aY (n+1) (qj f a b i 1):=by
    rw[py];rfl
   rw[ew];refine ag 26 ?_;refine b3 26 ((1:Nat):Int) (I ?_);exact aU [0] 1 ⟨by show 2-1<2-0;decide,by decide⟩ bo
  ·have aq:qj f a b i 1 (i+1)=0:=by
    show(if i+1=i then _ else fw f a b i (i+1))=0;rw[zaa (by omega)];unfold fw;rw[zaa (by omega),zaa (by omega)]
   refine I ?_;refine dp (f i) (di f aE) ?_;refine I ?_;refine dp (j:=1) b rfl ?_;refine I ?_;refine bC oU (f i,b) ⟨cC (da (U i aE)),cC (da hb)⟩ (ag 34 ?_);refine dO 34 (.i .i64 ((i+1:Nat):Int)) rfl rfl (cS (by omega)) ?_;refine gl ?_;refine I ?_;refine rJ (qj f a b i 1 (i+1)) (di (n:=n+1) (i:=i+1) (qj f a b i 1) (by omega)) ?_;rw[aq];refine I ?_;refine bC zH (0,f i*b) ⟨cC (da se),cC (da (j0 (U i aE) hb))⟩ (ag 30 ?_);refine dO 30 (.i .i64 ((i+1:Nat):Int)) rfl rfl (cS (by omega)) ?_;refine gl ?_;refine I ?_;refine sK (a:=ca (0+f i*b)) (0+f i*b) (di (n:=n+1) (i:=i+1) (qj f a b i 1) (by omega)) ?_;have ew:(aY (n+1) (qj f a b i 1)).set (i+1) (0+f i*b)=aY (n+1) (qj f a b i 2):=by
    rw[py];refine h5 fun k hk=> ?_;show(if k=i+1 then 0+f i*b else if k=i then k7 f b i+f i*a else fw f a b i k)=fw f a b (i+1) k;unfold fw;by_cases h1:k=i+1
    ·subst h1;rw[zab rfl,zaa (zaU _),zab rfl];show _=(if 0<i+1 then f i*b else 0);rw[zab (by omega),Rat.zero_add]
    ·rw[zaa h1];by_cases h2:k=i
     ·subst h2;rw[zab rfl,zab (by omega)]
     ·rw[zaa h2,zaa h2,zaa h1];by_cases ab:k<i
      ·rw[zab ab,zab (by omega)]
      ·rw[zaa ab,zaa (by omega)]
   rw[ew];refine ag 26 ?_;refine b3 26 ((2:Nat):Int) (I ?_);exact aU [0] 2 ⟨by show 2-2<2-1;decide,by decide⟩ bo
  ·refine ag 20 ?_;refine b3 20 ((i+1:Nat):Int) (I ?_);exact aU [0] (i+1) ⟨by show n-(i+1)<n-i;omega,aE⟩ bo
 have gA:n=i:=by omega
 subst gA;refine v0 18 (show¬(n:Int)<(n:Int) by omega) ?_;refine gq 5 ?_ (hn:=by rw[eu]);refine I ?_;exact aM rfl (.refl _)
def aaV:bN where
 L:=Nat×(Nat->Rat)
 args:=fun(N,c)=>[.aZ 3 Rat cN (aY N c)]
 pre:=fun(N,c)=>1<=N∧N<=1048576∧∀i,i<N->ba 10000000 (c i)
 res:=fun(N,c)=>.aZ 3 Rat cN (aY (iw N) (nj c N))
def ahG(N:Nat)(c:Nat->Rat)(i:Nat):ac Rat->cr
 |[]=>⟨[],0,[(0,.aZ 3 Rat cN (aY N c)),(3,.i .i64 (N:Int)),(4,.nl),(5,.i .i64 (i:Int))]⟩
 |v::vs=>⟨[.a 34 true 3 Rat cN (v::vs)],1,[(0,.aZ 3 Rat cN (aY N c)),(3,.i .i64 (N:Int)),(4,.aN 0 3 0 (vs.length+1) (vs.length+1)),(5,.i .i64 (i:Int))]⟩
def arD{N:Nat}:0+(1-((0:Nat):Rat)/(N:Rat))*c 0=dT c N 0:=by
 unfold dT;rw[zab rfl];have:((0:Nat):Rat)/(N:Rat)=0:=by rw[Rat.div_def];exact zek _
 rw[this]
 grind
def arE{N:Nat}(h:1<=N):((N:Nat):Rat)/(N:Rat)*c (N-1)=dT c N N:=by
 unfold dT;rw[zaa (by omega),zab rfl];have:=ss (show 0<N by omega)
 grind
def arF{N i:Nat}(h0:i≠0)(h:i≠N):(i:Rat)/(N:Rat)*c (i-1)+(1-(i:Rat)/(N:Rat))*c i=dT c N i:=by
 unfold dT;rw[zaa h0,zaa h]
 grind
def aqs:bw a4.ctx 31 aaV.spec:=by
 refine bZ [(91,abd.spec),(82,tx.spec),(92,w9.spec),(34,Ff.spec),(84,Fc.spec)] VX.1 ?_;intro⟨N,c⟩ ⟨(AX:1<=N),(fq:N<=1048576),(hc:∀i,i<N->ba _ (c i))⟩ H aK;refine ag 9 ?_;refine ax 9 (.i .i64 (N:Int)) rfl (by rw[eu]) (ag 11 ?_);refine tF 11 ((N%2:Nat):Int) ?_ (h:=rfl);refine ag 12 ?_;by_cases avC:N%2=1
 ·refine v1 12 (show((N%2:Nat):Int)=1 by omega) (I ?_);exact aM rfl (.of (by show _=ae.aZ 3 Rat cN (aY (iw N) (nj c N));unfold iw nj;rw[zaa (by omega),zaa (by omega)]))
 have iH:N%2=0:=by omega
 refine v0 12 (show¬((N%2:Nat):Int)=1 by omega) (I ?_);refine cw (L:=Nat×ac Rat) (fun(i,vs)=>i<=N+1∧vs=aY i (dT c N)) (fun(i,vs)=>ahG N c i vs) (fun l=>N+1-l.1) [] (0,[]) ⟨zac _,rfl⟩ (by show N+1-0<bc+1;unfold bc;omega) bo ?_;rintro⟨i,vs⟩ ⟨aa,jM⟩;have iz:vs.length=i:=by rw[jM,eu]
 by_cases aE:i<=N
 case neg=>
  have Nh:i=N+1:=by omega
  subst Nh;rcases vs with _|⟨v,vs⟩
  ·simp at iz
  refine ag 16 ?_;refine v0 16 (show¬((N+1:Nat):Int)<=(N:Int) by omega) ?_;refine gq 4 ?_;rw[jM];refine I ?_;exact aM rfl (.of (by show _=ae.aZ 3 Rat cN (aY (iw N) (nj c N));unfold iw nj;rw[zab iH,zab iH]))
 have lA:=Cl i (dT c N);rw[<-jM]at lA;have e4:ba 4 ((i:Rat)/(N:Rat)):=b2 (IY (by omega) (by omega) (by omega));have hH:ba 10 (1-(i:Rat)/(N:Rat)):=b2 (q3 (b2 (l:=2) (lF 1 (by decide) (by decide))) e4);by_cases h0:i=0
 ·rcases vs with _|⟨v,vs⟩<;>(
   refine ag 16 ?_;refine v1 16 (show(i:Int)<=(N:Int) by omega) (ag 19 ?_);refine dS 19 (ca 0) rfl y6 ?_;refine I ?_;refine aX P6 (i,N) ⟨by show i<_;omega,by show N<_;omega,AX⟩ (ag 24 ?_);refine v0 24 (show¬(0:Int)<(i:Int) by omega) (ag 34 ?_);refine v1 34 (show(i:Int)<(N:Int) by omega) (I ?_);refine bC oT (1:Int) ⟨by decide,by decide⟩ (I ?_);refine bC xc (mkRat 1 1,(i:Rat)/(N:Rat)) ⟨cC Zt,cC (da e4)⟩ (I ?_);refine dp (c i) (di (n:=N) (i:=i) c (by omega)) ?_;refine I ?_;refine bC oU (1-(i:Rat)/(N:Rat),c i) ⟨cC (da hH),cC (da (hc _ (by omega)))⟩ (I ?_);refine bC zH (0,(1-(i:Rat)/(N:Rat))*c i) ⟨cC (da (lF 0 (by decide) (by decide))),cC (da (j0 hH (hc i (by omega))))⟩ ?_;refine ax 44 (ca (dT c N i)) rfl (congrArg ca (by rw[h0];exact arD)) (I ?_)
   first|refine l8 cN [dT c N i] (eR (R:=cN) [dT c N i] rfl) ?_|(refine lI [dT c N i] (eR (R:=cN) [dT c N i] rfl) ?_ (hn:=by simp) (hb:=by show(5*(vs.length+1+1)+1792)*57<=1125899906842624;simp at iz;omega);refine ax 48 (.aN _ 3 0 ((vs++[dT c N i]).length+1) ((vs++[dT c N i]).length+1)) rfl (sw (by simp)) ?_)
   refine ag 18 ?_;refine b3 18 ((i+1:Nat):Int) (I ?_)
   first|exact aU [3] (i+1,[dT c N i]) ⟨by show N+1-(i+1)<N+1-i;omega,by omega,lA.symm⟩ bo|exact aU [4] (i+1,v::(vs++[dT c N i])) ⟨by show N+1-(i+1)<N+1-i;omega,by omega,lA.symm⟩ bo)
 by_cases h1:i=N
 ·rcases vs with _|⟨v,vs⟩<;>(
   refine ag 16 ?_;refine v1 16 (show(i:Int)<=(N:Int) by omega) (ag 19 ?_);refine dS 19 (ca 0) rfl y6 ?_;refine I ?_;refine aX P6 (i,N) ⟨by show i<_;omega,by show N<_;omega,AX⟩ (ag 24 ?_);refine v1 24 (show(0:Int)<(i:Int) by omega) (ag 28 ?_);refine dO 28 (.i .i64 ((i-1:Nat):Int)) rfl rfl (cS (by omega)) ?_;refine dp (c (i-1)) (di (n:=N) (i:=i-1) c (by omega)) ?_;refine I ?_;refine bC oU ((i:Rat)/(N:Rat),c (i-1)) ⟨cC (da e4),cC (da (hc _ (by omega)))⟩ ?_;refine ax 31 (ca (dT c N i)) rfl (congrArg ca (by rw[h1];exact arE AX)) (ag 34 ?_);refine v0 34 (show¬(i:Int)<(N:Int) by omega) (I ?_)
   first|refine l8 cN [dT c N i] (eR (R:=cN) [dT c N i] rfl) ?_|(refine lI [dT c N i] (eR (R:=cN) [dT c N i] rfl) ?_ (hn:=by simp) (hb:=by show(5*(vs.length+1+1)+1792)*57<=1125899906842624;simp at iz;omega);refine ax 48 (.aN _ 3 0 ((vs++[dT c N i]).length+1) ((vs++[dT c N i]).length+1)) rfl (sw (by simp)) ?_)
   refine ag 18 ?_;refine b3 18 ((i+1:Nat):Int) (I ?_)
   first|exact aU [3] (i+1,[dT c N i]) ⟨by show N+1-(i+1)<N+1-i;omega,by omega,lA.symm⟩ bo|exact aU [4] (i+1,v::(vs++[dT c N i])) ⟨by show N+1-(i+1)<N+1-i;omega,by omega,lA.symm⟩ bo)
 ·rcases vs with _|⟨v,vs⟩<;>(
   refine ag 16 ?_;refine v1 16 (show(i:Int)<=(N:Int) by omega) (ag 19 ?_);refine dS 19 (ca 0) rfl y6 ?_;refine I ?_;refine aX P6 (i,N) ⟨by show i<_;omega,by show N<_;omega,AX⟩ (ag 24 ?_);refine v1 24 (show(0:Int)<(i:Int) by omega) (ag 28 ?_);refine dO 28 (.i .i64 ((i-1:Nat):Int)) rfl rfl (cS (by omega)) ?_;refine dp (c (i-1)) (di (n:=N) (i:=i-1) c (by omega)) ?_;refine I ?_;refine bC oU ((i:Rat)/(N:Rat),c (i-1)) ⟨cC (da e4),cC (da (hc _ (by omega)))⟩ (ag 34 ?_);refine v1 34 (show(i:Int)<(N:Int) by omega) (I ?_);refine bC oT (1:Int) ⟨by decide,by decide⟩ (I ?_);refine bC xc (mkRat 1 1,(i:Rat)/(N:Rat)) ⟨cC Zt,cC (da e4)⟩ (I ?_);refine dp (c i) (di (n:=N) (i:=i) c (by omega)) ?_;refine I ?_;refine bC oU (1-(i:Rat)/(N:Rat),c i) ⟨cC (da hH),cC (da (hc _ (by omega)))⟩ (I ?_);refine bC zH ((i:Rat)/(N:Rat)*c (i-1),(1-(i:Rat)/(N:Rat))*c i) ⟨cC (da (j0 e4 (hc _ (by omega)))),cC (da (j0 hH (hc i (by omega))))⟩ ?_;refine ax 44 (ca (dT c N i)) rfl (congrArg ca (arF h0 h1)) (I ?_)
   first|refine l8 cN [dT c N i] (eR (R:=cN) [dT c N i] rfl) ?_|(refine lI [dT c N i] (eR (R:=cN) [dT c N i] rfl) ?_ (hn:=by simp) (hb:=by show(5*(vs.length+1+1)+1792)*57<=1125899906842624;simp at iz;omega);refine ax 48 (.aN _ 3 0 ((vs++[dT c N i]).length+1) ((vs++[dT c N i]).length+1)) rfl (sw (by simp)) ?_)
   refine ag 18 ?_;refine b3 18 ((i+1:Nat):Int) (I ?_)
   first|exact aU [3] (i+1,[dT c N i]) ⟨by show N+1-(i+1)<N+1-i;omega,by omega,lA.symm⟩ bo|exact aU [4] (i+1,v::(vs++[dT c N i])) ⟨by show N+1-(i+1)<N+1-i;omega,by omega,lA.symm⟩ bo)
def lb(n:Nat)(f:Nat->Rat):ae:=.aZ 3 Rat cN (aY n f)
def abc:bN where
 L:=Rat×Rat×Nat×Nat
 args:=fun(a,b,i,j)=>[ca a,ca b,.i .i64 (i:Int),.i .i64 (j:Int)]
 pre:=fun(a,b,i,j)=>ba 250 a∧ba 250 b∧i+j<=8
 res:=fun(a,b,i,j)=>lb (i+j+1) (pv a b i j)
def JM:bw a4.ctx 98 abc.spec:=by
 refine bZ [(92,w9.spec),(93,P3.spec),(161,aa1.spec)] WS.1 ?_;intro⟨a,b,i,j⟩ ⟨(ha:ba 250 a),(hb:ba 250 b),(ju:i+j<=8)⟩ H aK;have EL:ba 1000 (-a):=b2 (EH ha);have zk:ba 1000 b:=b2 hb;have wU:∀u v j,u+v<=8->ba 1100000 (pv a b u v j):=fun u v j h=>b2 (IX EL zk u v j) (by have:=mC h;omega);have OT:∀u j,u<=8->ba 1100000 (qg a u j):=fun u j h=>wU u 0 j h;have hH:ba 1000 (mkRat 1 1):=b2 (lF 1 (by decide) (by decide));have EK:ba 1000 (mkRat (-1) 1):=b2 (lF (-1) (by decide) (by decide));refine I ?_;refine aX oT (1:Int) ⟨by decide,by decide⟩ (ag 13 ?_);refine m7 (z:=3) 2 cN [mkRat 1 1] ?_;refine gq 13 ?_;refine ax 13 (lb (0+1) (qg a 0)) rfl (by show ae.aZ 3 Rat cN [mkRat 1 1]=ae.aZ 3 Rat cN [1];rfl) (I ?_);refine cw (L:=Nat) (fun u=>u<=i) (fun u=>⟨[.c 34 (cN a),.c 34 (cN b)],2,[(2,.i .i64 (i:Int)),(3,.i .i64 (j:Int)),(4,.p 0 0),(5,.p 1 0),(9,lb (u+1) (qg a u)),(10,.i .i64 (u:Int))]⟩) (fun u=>i-u) [0,1] 0 (zac _) (by show i-0<bc+1;unfold bc;omega) bo ?_;rintro(u:Nat) (hu:u<=i);refine ag 16 ?_;by_cases km:u<i
 ·refine v1 16 (show(u:Int)<(i:Int) by omega) (I ?_);refine aX aa7 a trivial (I ?_);refine aX oT (1:Int) ⟨by decide,by decide⟩ (ag 23 ?_);refine m7 (z:=3) 2 cN [-a,mkRat 1 1] ?_;refine gq 23 ?_;refine aX aa2 (u+1,qg a u,-a,mkRat 1 1) ⟨by show u+1<=1048576;omega,fun j hj=>b2 (OT u j (by omega)),EL,hH⟩ ?_;refine ax 24 (lb (u+1+1) (qg a (u+1))) rfl rfl (ag 18 ?_);refine b3 18 ((u+1:Nat):Int) (I ?_);exact aU [0,1] (u+1) ⟨by show i-(u+1)<i-u;omega,km⟩ bo
 have km:i=u:=by omega
 subst km;refine v0 16 (show¬(i:Int)<(i:Int) by omega) (I ?_);refine cw (L:=Nat) (fun v=>v<=j) (fun v=>⟨[.c 34 (cN a),.c 34 (cN b)],2,[(3,.i .i64 (j:Int)),(4,.p 0 0),(5,.p 1 0),(9,lb (i+v+1) (pv a b i v)),(11,.i .i64 (v:Int))]⟩) (fun v=>j-v) [0,1] 0 (zac _) (by show j-0<bc+1;unfold bc;omega) bo ?_;rintro(v:Nat) (aB:v<=j);refine ag 27 ?_;by_cases iz:v<j
 ·refine v1 27 (show(v:Int)<(j:Int) by omega) (I ?_);refine bC oT (-1:Int) ⟨by decide,by decide⟩ (I ?_);refine Tl aa2 cN 33 2 [b,mkRat (-1) 1] (i+v+1,pv a b i v,b,mkRat (-1) 1) ⟨by show i+v+1<=1048576;omega,fun k hk=>b2 (wU i v k (by omega)),zk,EK⟩ ?_;refine ax 34 (lb (i+(v+1)+1) (pv a b i (v+1))) rfl rfl (ag 29 ?_);refine b3 29 ((v+1:Nat):Int) (I ?_);exact aU [0,1] (v+1) ⟨by show j-(v+1)<j-v;omega,iz⟩ bo
 have iz:j=v:=by omega
 subst iz;refine v0 27 (show¬(j:Int)<(j:Int) by omega) (I ?_);exact aM rfl (.refl _)
structure vN where
 m:Nat
 f:Nat->Rat
 a:c2
 x:Nat
 dQ:Nat
def vN.mk'(l:vN)(d:Rat)(k:Nat):fQ:=⟨d,l.m-1,k,l.a,l.x,l.dQ⟩
structure ad2(l:vN):Prop where
 jb:1<=l.m
 m:l.m<=18
 f:∀k,k<l.m->ba 4000000 (l.f k)
 gU:ba 250 l.a.1
 hM:ba 250 l.a.2
 lt:l.a.1<l.a.2
 x:l.x<l.dQ
 dQ:l.dQ<=1048576
def Qb:bN where
 L:=vN
 args:=fun l=>[lb l.m l.f,.agg (gQ l.a),.i .i64 (l.x:Int),.i .i64 (l.dQ:Int)]
 pre:=ad2
 res:=fun l=>.bM [.aZ 3 eG ez (fE l.mk' l.f l.m),.b (cE l.mk' l.f l.m)]
def as8(m:Nat)(f:Nat->Rat)(a:c2)(x dQ:Nat)(W:Rat)(ok:Bool)(k:Nat):ac eG->cr
 |[]=>⟨[.c 94 (gQ a),.c 34 (cN W)],2,[(0,lb m f),(2,.i .i64 (x:Int)),(3,.i .i64 (dQ:Int)),(5,.p 0 0),(10,.i .i64 ((m-1:Nat):Int)),(11,.p 1 0),(12,.nl),(13,.b ok),(14,.i .i64 (k:Int))]⟩
 |w::ws=>⟨[.c 94 (gQ a),.c 34 (cN W),.a 85 true 3 eG ez (w::ws)],3,[(0,lb m f),(2,.i .i64 (x:Int)),(3,.i .i64 (dQ:Int)),(5,.p 0 0),(10,.i .i64 ((m-1:Nat):Int)),(11,.p 1 0),(12,.aN 2 3 0 (ws.length+1) (ws.length+1)),(13,.b ok),(14,.i .i64 (k:Int))]⟩
def as7(m:Nat)(f:Nat->Rat)(a:c2)(x dQ:Nat)(W:Rat)(ok:Bool)(k:Nat)(co:ac bv)(g0:Int)(g:ae):ac eG->cr
 |[]=>⟨[.c 94 (gQ a),.c 34 (cN W),.c 85 [.s co,.i .i64 g0,.nl]],3,[(0,lb m f),(2,.i .i64 (x:Int)),(3,.i .i64 (dQ:Int)),(5,.p 0 0),(10,.i .i64 ((m-1:Nat):Int)),(11,.p 1 0),(12,.nl),(13,.b ok),(14,.i .i64 (k:Int)),(16,.p 2 0),(79,g)]⟩
 |w::ws=>⟨[.c 94 (gQ a),.c 34 (cN W),.a 85 true 3 eG ez (w::ws),.c 85 [.s co,.i .i64 g0,.nl]],4,[(0,lb m f),(2,.i .i64 (x:Int)),(3,.i .i64 (dQ:Int)),(5,.p 0 0),(10,.i .i64 ((m-1:Nat):Int)),(11,.p 1 0),(12,.aN 2 3 0 (ws.length+1) (ws.length+1)),(13,.b ok),(14,.i .i64 (k:Int)),(16,.p 3 0),(79,g)]⟩
def acx(m:Nat)(f:Nat->Rat)(a:c2)(x dQ:Nat)(W:Rat)(ok:Bool)(k:Nat)(co:ac bv)(g0:Int)(g:ae)(j:Nat):ac eG->ac b5->cr
 |[],[]=>⟨[.c 94 (gQ a),.c 34 (cN W),.c 85 [.s co,.i .i64 g0,.nl]],3,[(0,lb m f),(2,.i .i64 (x:Int)),(3,.i .i64 (dQ:Int)),(5,.p 0 0),(10,.i .i64 ((m-1:Nat):Int)),(11,.p 1 0),(12,.nl),(13,.b ok),(14,.i .i64 (k:Int)),(16,.p 2 0),(19,g),(20,.i .i64 (j:Int))]⟩
 |[],t::ts=>⟨[.c 94 (gQ a),.c 34 (cN W),.c 85 [.s co,.i .i64 g0,.aN 3 2 0 (ts.length+1) (ts.length+1)],.a 122 true 2 b5 c5 (t::ts)],4,[(0,lb m f),(2,.i .i64 (x:Int)),(3,.i .i64 (dQ:Int)),(5,.p 0 0),(10,.i .i64 ((m-1:Nat):Int)),(11,.p 1 0),(12,.nl),(13,.b ok),(14,.i .i64 (k:Int)),(16,.p 2 0),(19,g),(20,.i .i64 (j:Int))]⟩
 |w::ws,[]=>⟨[.c 94 (gQ a),.c 34 (cN W),.a 85 true 3 eG ez (w::ws),.c 85 [.s co,.i .i64 g0,.nl]],4,[(0,lb m f),(2,.i .i64 (x:Int)),(3,.i .i64 (dQ:Int)),(5,.p 0 0),(10,.i .i64 ((m-1:Nat):Int)),(11,.p 1 0),(12,.aN 2 3 0 (ws.length+1) (ws.length+1)),(13,.b ok),(14,.i .i64 (k:Int)),(16,.p 3 0),(19,g),(20,.i .i64 (j:Int))]⟩
 |w::ws,t::ts=>⟨[.c 94 (gQ a),.c 34 (cN W),.a 85 true 3 eG ez (w::ws),.c 85 [.s co,.i .i64 g0,.aN 4 2 0 (ts.length+1) (ts.length+1)],.a 122 true 2 b5 c5 (t::ts)],5,[(0,lb m f),(2,.i .i64 (x:Int)),(3,.i .i64 (dQ:Int)),(5,.p 0 0),(10,.i .i64 ((m-1:Nat):Int)),(11,.p 1 0),(12,.aN 2 3 0 (ws.length+1) (ws.length+1)),(13,.b ok),(14,.i .i64 (k:Int)),(16,.p 3 0),(19,g),(20,.i .i64 (j:Int))]⟩
def Kp{j:Nat}(h:n=m):ae.aN j 2 0 n n=ae.aN j 2 0 m m:=h▸rfl
def wh{k:Nat}{b:ae}{x:ac bv}(h:m=n):wg k z m b [.s x,.aN k z 0 n n]=[.s x,b]:=by
 subst h;show ae.s x::(match Nat.beq k k&&(Nat.beq z z&&(Nat.beq 0 0&&(Nat.beq m m&&Nat.beq m m)))with|true=>b|false=>ae.aN k z 0 m m)::_=_;simp only[zaN];rfl
def abh:bw a4.ctx 35 Qb.spec:=by
 refine bZ [(34,Ff.spec),(94,Fb.spec),(95,abg.spec),(97,Fg.spec),(82,tx.spec),(96,BY.spec),(36,P2.spec),(38,JF.spec),(98,abc.spec)] V1.1 ?_;intro⟨m,f,a,x,dQ⟩ eZ H aK;have qN:=eZ.jb;have hm:=eZ.m;have U:=eZ.f;have pR:=eZ.gU;have pS:=eZ.hM;have aE:=eZ.lt;have J:=eZ.x;have gA:=eZ.dQ;simp only at qN hm U pR pS aE J gA;have q4:ba 501 (a.2-a.1):=q3 pS pR;have BG:ba 8518 ((a.2-a.1)^(m-1)):=b2 (EI (n:=m-1) q4) (by omega);have ij:0<a.2-a.1:=by grind
 have Cy:0<((a.2-a.1)^(m-1)).num:=aaw (Rat.pow_pos ij);obtain⟨mk,mU⟩:∃mk:Rat->Nat->fQ,mk=vN.mk' ⟨m,f,a,x,dQ⟩:=⟨_,rfl⟩;have ix:∀p,bV p (.aZ 3 eG ez (fE mk f m))->bV (.bM [p,.b (cE mk f m)]) (Qb.res ⟨m,f,a,x,dQ⟩):=fun p hp=>by
  rw[mU]at hp⊢;exact .bM ⟨hp,.refl _,trivial⟩
 refine ag 23 ?_;refine ax 23 (.i .i64 (m:Int)) rfl (by show ae.i .i64 ((aY m f).length:Int)=_;rw[eu]) (ag 24 ?_);refine b3 24 ((m-1:Nat):Int) (I ?_);refine aX xc (a.2,a.1) ⟨cC (da pS),cC (da pR)⟩ (I ?_);refine aX abb (a.2-a.1,m-1) ⟨b2 q4,by show m-1<=32;omega⟩ ?_;obtain⟨W,fm⟩:∃W,W=(a.2-a.1)^(m-1):=⟨_,rfl⟩;rw[<-fm]at BG Cy;refine ax 31 (ca W) rfl (by rw[fm];rfl) (I ?_);refine cw (L:=Nat×ac eG) (fun(k,ws)=>k<=m∧ws=fE mk f k) (fun(k,ws)=>as8 m f a x dQ W (cE mk f k) k ws) (fun l=>m-l.1) [0,1] (0,[]) ⟨zac _,rfl⟩ (by show m-0<bc+1;unfold bc;omega) bo ?_;rintro⟨k,ws⟩ ⟨hk,n1⟩;have mv:ws.length<=18:=by rw[n1];have:=zP mk f k;omega
 by_cases mT:k<m
 case neg=>
  have al8:m=k:=by omega
  subst al8;rcases ws with _|⟨w,ws⟩
  ·refine ag 34 ?_;refine v0 34 (show¬(m:Int)<=((m-1:Nat):Int) by omega) (I ?_);exact aM rfl (ix _ (by rw[<-n1];exact bV.nl))
  ·refine ag 34 ?_;refine v0 34 (show¬(m:Int)<=((m-1:Nat):Int) by omega) ?_;refine gq 12 ?_;rw[n1];refine I ?_;exact aM rfl (ix _ (.refl _))
 by_cases av:(f k).num=0
 ·have aq:fE mk f (k+1)=ws:=by rw[n1];exact zab av
  have e2:cE mk f (k+1)=cE mk f k:=zab av;rcases ws with _|⟨w,ws⟩<;>(
   refine ag 34 ?_;refine v1 34 (show(k:Int)<=((m-1:Nat):Int) by omega) (I ?_);refine db (f k) (di f mT) ?_;refine I ?_;refine aX xd (f k) trivial (ag 42 ?_);refine v1 42 (show(f k).num.sign=0 by rw[av];rfl) ?_;rw[<-e2];refine ag 36 ?_;refine b3 36 ((k+1:Nat):Int) (I ?_)
   first|exact aU [0,1] (k+1,[]) ⟨by show m-(k+1)<m-k;omega,mT,aq.symm⟩ bo|exact aU [0,1,2] (k+1,w::ws) ⟨by show m-(k+1)<m-k;omega,mT,aq.symm⟩ bo)
 have mY:(f k).num.sign≠0:=fun h=>av (zbS.1 h);obtain⟨S,bX⟩:∃S,S=mk (f k) k:=⟨_,rfl⟩;have aq:fE mk f (k+1)=ws++[S.dx]:=by rw[n1,bX];exact zaa av
 have e2:cE mk f (k+1)=(cE mk f k&&S.ok):=by rw[bX];exact zaa av
 have Zh:ba 4000004 (f k*(b7 (m-1) k:Rat)):=j0 (U k mT) (vg (by omega));obtain⟨co,rV⟩:∃co,co=f k*(b7 (m-1) k:Rat)/W:=⟨_,rfl⟩;have BE:ba 4010000 co:=by rw[rV];exact b2 (OK Zh BG Cy)
 have TP:S.co=co:=by
  rw[bX,mU,rV,fm];unfold vN.mk' fQ.co;show f k/(a.2-a.1)^(m-1)*(b7 (m-1) k:Rat)=_
  grind
 obtain⟨g,aO⟩:∃g:Nat->Rat,g=pv a.1 a.2 (k/2) ((m-1-k)/2):=⟨_,rfl⟩;obtain⟨M,e3⟩:∃M,M=k/2+(m-1-k)/2+1:=⟨_,rfl⟩;have avf:M<=9:=by omega
 have az:∀j,ba 1100000 (g j):=fun j=>by
  rw[aO];refine b2 (IX (b2 (EH pR)) (b2 pS) (k/2) ((m-1-k)/2) j) ?_;have:=mC (show k/2+(m-1-k)/2<=8 by omega);omega
 obtain⟨g0,wE⟩:∃g0:Int,g0=if k%2=1 then(x:Int)else -1:=⟨_,rfl⟩;have T4:S.dx=⟨ff co,g0,lJ x dQ g M⟩:=by
  unfold fQ.dx;rw[TP,wE,aO,e3,bX,mU];rfl
 have ahd:S.ok=(!fN co&&gr g M):=by
  unfold fQ.ok;rw[TP,aO,e3,bX,mU];rfl
 obtain⟨kP,MR⟩:∃kP,kP=(cE mk f k&& !fN co):=⟨_,rfl⟩
 revert mv
 revert ws
 refine' two (P:=fun ws:ac eG=>ws.length<=18∧ws=fE mk f k) (T:=fun ws:ac eG=>as7 m f a x dQ W kP k (ff co) g0 (lb M g) ws) (fun key=> ?MN) ?ML
 case MN=>
  intro ws n1 aq mv;rcases ws with _|⟨w,ws⟩<;>(
   refine ag 34 ?_;refine v1 34 (show(k:Int)<=((m-1:Nat):Int) by omega) (I ?_);refine db (f k) (di f mT) ?_;refine I ?_;refine aX xd (f k) trivial (ag 42 ?_);refine v0 42 mY (I ?_);refine bC aqH (m-1,k) ⟨by show k<=m-1;omega,by show m-1<=64;omega⟩ (I ?_);refine dp (f k) (di f mT) ?_;refine I ?_;refine bC oU (f k,(b7 (m-1) k:Rat)) ⟨cC (da (U k mT)),cC (da (vg (by omega)))⟩ (I ?_);refine bC aaT (f k*(b7 (m-1) k:Rat),W) ⟨cC (da Zh),cC (da BG),Cy⟩ ?_;refine ax 52 (ca co) rfl (by rw[rV];rfl) (ag 54 ?_);cases hb:cE mk f k with
   |true=>
    refine I ?_;refine aX zF co (b2 BE) (ag 58 ?_);refine ev 58 (b:=kP) (by rw[MR,hb];first|done|rfl) (I ?_);refine aX rb co (cC (da BE)) ?_;by_cases ak:k%2=1
    ·have yb:g0=(x:Int):=by rw[wE,zab ak]
     refine ag 63 ?_;refine b3 63 ((k/2:Nat):Int) ?_ (h:=rfl) (h1:=by show _<=((k/2:Nat):Int);omega) (h2:=by show((k/2:Nat):Int)<_;omega);refine ag 66 ?_;refine b3 66 ((m-1-k:Nat):Int) (ag 67 ?_);refine b3 67 (((m-1-k)/2:Nat):Int) ?_ (h:=rfl) (h1:=by show _<=(((m-1-k)/2:Nat):Int);omega) (h2:=by show(((m-1-k)/2:Nat):Int)<_;omega);refine ag 69 ?_;refine tF 69 ((k%2:Nat):Int) ?_ (h:=rfl);refine ag 70 ?_;refine v1 70 (show((k%2:Nat):Int)=1 by omega) (ag 71 ?_);refine ax 71 (.i .i64 g0) rfl (by rw[yb];first|done|rfl) (I ?_);refine aX JM (a.1,a.2,k/2,(m-1-k)/2) ⟨pR,pS,by show k/2+(m-1-k)/2<=8;omega⟩ ?_;refine ax 79 (lb M g) rfl (by rw[e3,aO];rfl) ?_
     first|refine ri [0,1,3] _ ?_ (key [] ⟨mv,n1⟩)|refine ri [0,1,2,4] _ ?_ (key (_::_) ⟨mv,n1⟩)
     exact bo
    ·have yb:g0= -1:=by rw[wE,zaa ak]
     refine ag 61 ?_;refine ax 61 (.agg [.s (ff co),.i .i64 g0,.nl]) rfl (by rw[yb];first|done|rfl) (ag 63 ?_);refine b3 63 ((k/2:Nat):Int) ?_ (h:=rfl) (h1:=by show _<=((k/2:Nat):Int);omega) (h2:=by show((k/2:Nat):Int)<_;omega);refine ag 66 ?_;refine b3 66 ((m-1-k:Nat):Int) (ag 67 ?_);refine b3 67 (((m-1-k)/2:Nat):Int) ?_ (h:=rfl) (h1:=by show _<=(((m-1-k)/2:Nat):Int);omega) (h2:=by show(((m-1-k)/2:Nat):Int)<_;omega);refine ag 69 ?_;refine tF 69 ((k%2:Nat):Int) ?_ (h:=rfl);refine ag 70 ?_;refine v0 70 (show¬((k%2:Nat):Int)=1 by omega) (I ?_);refine aX JM (a.1,a.2,k/2,(m-1-k)/2) ⟨pR,pS,by show k/2+(m-1-k)/2<=8;omega⟩ ?_;refine ax 79 (lb M g) rfl (by rw[e3,aO];rfl) ?_
     first|refine ri [0,1,3] _ ?_ (key [] ⟨mv,n1⟩)|refine ri [0,1,2,4] _ ?_ (key (_::_) ⟨mv,n1⟩)
     exact bo
   |false=>
    refine ag 58 ?_;refine ev 58 (b:=kP) (by rw[MR,hb];first|done|rfl) (I ?_);refine aX rb co (cC (da BE)) ?_;by_cases ak:k%2=1
    ·have yb:g0=(x:Int):=by rw[wE,zab ak]
     refine ag 63 ?_;refine b3 63 ((k/2:Nat):Int) ?_ (h:=rfl) (h1:=by show _<=((k/2:Nat):Int);omega) (h2:=by show((k/2:Nat):Int)<_;omega);refine ag 66 ?_;refine b3 66 ((m-1-k:Nat):Int) (ag 67 ?_);refine b3 67 (((m-1-k)/2:Nat):Int) ?_ (h:=rfl) (h1:=by show _<=(((m-1-k)/2:Nat):Int);omega) (h2:=by show(((m-1-k)/2:Nat):Int)<_;omega);refine ag 69 ?_;refine tF 69 ((k%2:Nat):Int) ?_ (h:=rfl);refine ag 70 ?_;refine v1 70 (show((k%2:Nat):Int)=1 by omega) (ag 71 ?_);refine ax 71 (.i .i64 g0) rfl (by rw[yb];first|done|rfl) (I ?_);refine aX JM (a.1,a.2,k/2,(m-1-k)/2) ⟨pR,pS,by show k/2+(m-1-k)/2<=8;omega⟩ ?_;refine ax 79 (lb M g) rfl (by rw[e3,aO];rfl) ?_
     first|refine ri [0,1,3] _ ?_ (key [] ⟨mv,n1⟩)|refine ri [0,1,2,4] _ ?_ (key (_::_) ⟨mv,n1⟩)
     exact bo
    ·have yb:g0= -1:=by rw[wE,zaa ak]
     refine ag 61 ?_;refine ax 61 (.agg [.s (ff co),.i .i64 g0,.nl]) rfl (by rw[yb];first|done|rfl) (ag 63 ?_);refine b3 63 ((k/2:Nat):Int) ?_ (h:=rfl) (h1:=by show _<=((k/2:Nat):Int);omega) (h2:=by show((k/2:Nat):Int)<_;omega);refine ag 66 ?_;refine b3 66 ((m-1-k:Nat):Int) (ag 67 ?_);refine b3 67 (((m-1-k)/2:Nat):Int) ?_ (h:=rfl) (h1:=by show _<=(((m-1-k)/2:Nat):Int);omega) (h2:=by show(((m-1-k)/2:Nat):Int)<_;omega);refine ag 69 ?_;refine tF 69 ((k%2:Nat):Int) ?_ (h:=rfl);refine ag 70 ?_;refine v0 70 (show¬((k%2:Nat):Int)=1 by omega) (I ?_);refine aX JM (a.1,a.2,k/2,(m-1-k)/2) ⟨pR,pS,by show k/2+(m-1-k)/2<=8;omega⟩ ?_;refine ax 79 (lb M g) rfl (by rw[e3,aO];rfl) ?_
     first|refine ri [0,1,3] _ ?_ (key [] ⟨mv,n1⟩)|refine ri [0,1,2,4] _ ?_ (key (_::_) ⟨mv,n1⟩)
     exact bo
   )
 case ML=>
  rintro ws ⟨mv,n1⟩;have aq:fE mk f (k+1)=ws++[S.dx]:=by rw[n1,bX];exact zaa av
  have hl:∀i,(lJ x dQ g i).length<=i:=fun i=>by
   induction i with
   |zero=>exact zae _
   |succ i a1=>
    unfold lJ;split
    ·omega
    ·rw[zaE];simp;omega
  have bS:cE mk f (k+1)=(kP&&gr g M):=by rw[e2,ahd,MR,zbK]
  have rS:kP=(kP&&gr g 0):=by show _=(_&&true);rw[zeY]
  rw[rS];rcases ws with _|⟨w,ws⟩
  ·refine I ?_;refine cw (L:=Nat×ac b5) (fun(j,ts)=>j<=M∧ts=lJ x dQ g j) (fun(j,ts)=>acx m f a x dQ W (kP&&gr g j) k (ff co) g0 (lb M g) j [] ts) (fun l=>M-l.1) [0,1,2] (0,[]) ⟨zac _,rfl⟩ (by show M-0<bc+1;unfold bc;omega) bo ?_;rintro⟨j,ts⟩ ⟨hj,ic⟩;have l1:ts.length<=9:=by rw[ic];have:=hl j;omega
   by_cases iy:j<M
   ·by_cases pW:(g j).num=0
    ·have t1:lJ x dQ g (j+1)=ts:=by rw[ic];exact zab pW
     have t2:gr g (j+1)=gr g j:=zab pW;rcases ts with _|⟨t,ts⟩<;>(
      refine ag 82 ?_;refine ax 82 (.i .i64 (M:Int)) rfl (by show ae.i .i64 ((aY M g).length:Int)=_;rw[eu]) (ag 83 ?_);refine v1 83 (show(j:Int)<(M:Int) by omega) (I ?_);refine db (g j) (di g iy) ?_;refine I ?_;refine aX xd (g j) trivial (ag 91 ?_);refine v1 91 (show(g j).num.sign=0 by rw[pW];rfl) ?_;rw[<-t2];refine ag 85 ?_;refine b3 85 ((j+1:Nat):Int) (I ?_)
      first|exact aU [0,1,2] (j+1,[]) ⟨by show M-(j+1)<M-j;omega,iy,t1.symm⟩ bo|exact aU [0,1,2,3] (j+1,t::ts) ⟨by show M-(j+1)<M-j;omega,iy,t1.symm⟩ bo)
    ·obtain⟨cL,ib⟩:∃cL,cL=FN x dQ j (g j):=⟨_,rfl⟩;have t1:lJ x dQ g (j+1)=ts++[cL]:=by rw[ic,ib];exact zaa pW
     have t2:gr g (j+1)=(gr g j&& !fN (g j)):=zaa pW;have yB:(g j).num.sign≠0:=fun h=>pW (zbS.1 h);rcases ts with _|⟨t,ts⟩
     ·refine ag 82 ?_;refine ax 82 (.i .i64 (M:Int)) rfl (by show ae.i .i64 ((aY M g).length:Int)=_;rw[eu]) (ag 83 ?_);refine v1 83 (show(j:Int)<(M:Int) by omega) (I ?_);refine db (g j) (di g iy) ?_;refine I ?_;refine aX xd (g j) trivial (ag 91 ?_);refine v0 91 yB (ag 93 ?_);cases hb:(kP&&gr g j)with
      |true=>
       have t3:(!fN (g j))=(kP&&gr g (j+1)):=by rw[t2,<-zbK,hb,zbx]
       refine I ?_;refine db (g j) (di g iy) ?_;refine I ?_;refine aX zF (g j) (b2 (az j)) (ag 100 ?_);refine ev 100 t3 (I ?_);refine dp (g j) (di g iy) ?_;refine I ?_;refine bC rb (g j) (cC (da (az j))) (I ?_);refine v5 gv 0 ?_;refine I ?_;refine hU ?_;refine I ?_;refine iC (j:Int) ?_ (hj:=by rw[zav];exact J);refine rh 4 3 (cs':=[.s (ff (g j)),.aZ 1 Int gv ((List.replicate dQ (0:Int)).set x (j:Int))]) ?_ (ha:=by exact wh (by rw[zbj,zav]));refine ag 116 ?_;refine dS 116 (.agg (c5 cL)) rfl (by rw[ib];exact .agg ⟨.refl _,.bb,trivial⟩) ?_;refine I ?_;refine l8 c5 [cL] (eR (R:=c5) [cL] rfl) ?_ (hb:=by show(5*1+1792)*41<=1125899906842624;decide);refine ag 85 ?_;refine b3 85 ((j+1:Nat):Int) (I ?_);exact aU [0,1,2,6] (j+1,[cL]) ⟨by show M-(j+1)<M-j;omega,iy,t1.symm⟩ bo
      |false=>
       have t3:false=(kP&&gr g (j+1)):=by rw[t2,<-zbK,hb,zcp]
       refine ag 100 ?_;refine ev 100 t3 (I ?_);refine dp (g j) (di g iy) ?_;refine I ?_;refine bC rb (g j) (cC (da (az j))) (I ?_);refine v5 gv 0 ?_;refine I ?_;refine hU ?_;refine I ?_;refine iC (j:Int) ?_ (hj:=by rw[zav];exact J);refine rh 4 3 (cs':=[.s (ff (g j)),.aZ 1 Int gv ((List.replicate dQ (0:Int)).set x (j:Int))]) ?_ (ha:=by exact wh (by rw[zbj,zav]));refine ag 116 ?_;refine dS 116 (.agg (c5 cL)) rfl (by rw[ib];exact .agg ⟨.refl _,.bb,trivial⟩) ?_;refine I ?_;refine l8 c5 [cL] (eR (R:=c5) [cL] rfl) ?_ (hb:=by show(5*1+1792)*41<=1125899906842624;decide);refine ag 85 ?_;refine b3 85 ((j+1:Nat):Int) (I ?_);exact aU [0,1,2,6] (j+1,[cL]) ⟨by show M-(j+1)<M-j;omega,iy,t1.symm⟩ bo
     ·refine ag 82 ?_;refine ax 82 (.i .i64 (M:Int)) rfl (by show ae.i .i64 ((aY M g).length:Int)=_;rw[eu]) (ag 83 ?_);refine v1 83 (show(j:Int)<(M:Int) by omega) (I ?_);refine db (g j) (di g iy) ?_;refine I ?_;refine aX xd (g j) trivial (ag 91 ?_);refine v0 91 yB (ag 93 ?_);cases hb:(kP&&gr g j)with
      |true=>
       have t3:(!fN (g j))=(kP&&gr g (j+1)):=by rw[t2,<-zbK,hb,zbx]
       refine I ?_;refine db (g j) (di g iy) ?_;refine I ?_;refine aX zF (g j) (b2 (az j)) (ag 100 ?_);refine ev 100 t3 (I ?_);refine dp (g j) (di g iy) ?_;refine I ?_;refine bC rb (g j) (cC (da (az j))) (I ?_);refine v5 gv 0 ?_;refine I ?_;refine hU ?_;refine I ?_;refine iC (j:Int) ?_ (hj:=by rw[zav];exact J);refine rh 5 4 (cs':=[.s (ff (g j)),.aZ 1 Int gv ((List.replicate dQ (0:Int)).set x (j:Int))]) ?_ (ha:=by exact wh (by rw[zbj,zav]));refine ag 116 ?_;refine dS 116 (.agg (c5 cL)) rfl (by rw[ib];exact .agg ⟨.refl _,.bb,trivial⟩) ?_;refine I ?_;refine lI (R:=c5) [cL] (eR (R:=c5) [cL] rfl) ?_ (hn:=by simp) (hb:=by show(5*(ts.length+1+1)+1792)*41<=1125899906842624;simp at l1;omega);refine ax 118 (.aN _ 2 0 ((ts++[cL]).length+1) ((ts++[cL]).length+1)) rfl (Kp (by simp)) (ag 85 ?_);refine b3 85 ((j+1:Nat):Int) (I ?_);exact aU [0,1,2,7] (j+1,t::(ts++[cL])) ⟨by show M-(j+1)<M-j;omega,iy,t1.symm⟩ bo
      |false=>
       have t3:false=(kP&&gr g (j+1)):=by rw[t2,<-zbK,hb,zcp]
       refine ag 100 ?_;refine ev 100 t3 (I ?_);refine dp (g j) (di g iy) ?_;refine I ?_;refine bC rb (g j) (cC (da (az j))) (I ?_);refine v5 gv 0 ?_;refine I ?_;refine hU ?_;refine I ?_;refine iC (j:Int) ?_ (hj:=by rw[zav];exact J);refine rh 5 4 (cs':=[.s (ff (g j)),.aZ 1 Int gv ((List.replicate dQ (0:Int)).set x (j:Int))]) ?_ (ha:=by exact wh (by rw[zbj,zav]));refine ag 116 ?_;refine dS 116 (.agg (c5 cL)) rfl (by rw[ib];exact .agg ⟨.refl _,.bb,trivial⟩) ?_;refine I ?_;refine lI (R:=c5) [cL] (eR (R:=c5) [cL] rfl) ?_ (hn:=by simp) (hb:=by show(5*(ts.length+1+1)+1792)*41<=1125899906842624;simp at l1;omega);refine ax 118 (.aN _ 2 0 ((ts++[cL]).length+1) ((ts++[cL]).length+1)) rfl (Kp (by simp)) (ag 85 ?_);refine b3 85 ((j+1:Nat):Int) (I ?_);exact aU [0,1,2,7] (j+1,t::(ts++[cL])) ⟨by show M-(j+1)<M-j;omega,iy,t1.symm⟩ bo
   have Nk:M=j:=by omega
   subst Nk;have Dp:S.dx=⟨ff co,g0,ts⟩:=by rw[T4,ic]
   rcases ts with _|⟨t,ts⟩
   ·refine ag 82 ?_;refine ax 82 (.i .i64 (M:Int)) rfl (by show ae.i .i64 ((aY M g).length:Int)=_;rw[eu]) (ag 83 ?_);refine v0 83 (show¬(M:Int)<(M:Int) by omega) ?_;refine ev 13 (b:=cE mk f (k+1)) bS.symm (ag 121 ?_);refine dS 121 (.agg (ez S.dx)) rfl (by rw[Dp];exact .agg ⟨.refl _,.refl _,(bV.nl.trans .bb),trivial⟩) ?_;refine I ?_;refine l8 ez [S.dx] (eR (R:=ez) [S.dx] rfl) ?_ (hb:=by show(5*1+1792)*49<=1125899906842624;decide);refine ag 36 ?_;refine b3 36 ((k+1:Nat):Int) (I ?_);exact aU [0,1,4] (k+1,[S.dx]) ⟨by show m-(k+1)<m-k;omega,mT,aq.symm⟩ bo
   ·refine ag 82 ?_;refine ax 82 (.i .i64 (M:Int)) rfl (by show ae.i .i64 ((aY M g).length:Int)=_;rw[eu]) (ag 83 ?_);refine v0 83 (show¬(M:Int)<(M:Int) by omega) ?_;refine ev 13 (b:=cE mk f (k+1)) bS.symm ?_;refine rh 2 3 (cs':=[.s (ff co),.i .i64 g0,.aZ 2 b5 c5 (t::ts)]) ?_ (ha:=by exact MD);refine ag 121 ?_;refine dS 121 (.agg (ez S.dx)) rfl (by rw[Dp];exact .agg ⟨.refl _,.refl _,.bb,trivial⟩) ?_;refine I ?_;refine l8 ez [S.dx] (eR (R:=ez) [S.dx] rfl) ?_ (hb:=by show(5*1+1792)*49<=1125899906842624;decide);refine ag 36 ?_;refine b3 36 ((k+1:Nat):Int) (I ?_);exact aU [0,1,5] (k+1,[S.dx]) ⟨by show m-(k+1)<m-k;omega,mT,aq.symm⟩ bo
  ·refine I ?_;refine cw (L:=Nat×ac b5) (fun(j,ts)=>j<=M∧ts=lJ x dQ g j) (fun(j,ts)=>acx m f a x dQ W (kP&&gr g j) k (ff co) g0 (lb M g) j (w::ws) ts) (fun l=>M-l.1) [0,1,2,3] (0,[]) ⟨zac _,rfl⟩ (by show M-0<bc+1;unfold bc;omega) bo ?_;rintro⟨j,ts⟩ ⟨hj,ic⟩;have l1:ts.length<=9:=by rw[ic];have:=hl j;omega
   by_cases iy:j<M
   ·by_cases pW:(g j).num=0
    ·have t1:lJ x dQ g (j+1)=ts:=by rw[ic];exact zab pW
     have t2:gr g (j+1)=gr g j:=zab pW;rcases ts with _|⟨t,ts⟩<;>(
      refine ag 82 ?_;refine ax 82 (.i .i64 (M:Int)) rfl (by show ae.i .i64 ((aY M g).length:Int)=_;rw[eu]) (ag 83 ?_);refine v1 83 (show(j:Int)<(M:Int) by omega) (I ?_);refine db (g j) (di g iy) ?_;refine I ?_;refine aX xd (g j) trivial (ag 91 ?_);refine v1 91 (show(g j).num.sign=0 by rw[pW];rfl) ?_;rw[<-t2];refine ag 85 ?_;refine b3 85 ((j+1:Nat):Int) (I ?_)
      first|exact aU [0,1,2,3] (j+1,[]) ⟨by show M-(j+1)<M-j;omega,iy,t1.symm⟩ bo|exact aU [0,1,2,3,4] (j+1,t::ts) ⟨by show M-(j+1)<M-j;omega,iy,t1.symm⟩ bo)
    ·obtain⟨cL,ib⟩:∃cL,cL=FN x dQ j (g j):=⟨_,rfl⟩;have t1:lJ x dQ g (j+1)=ts++[cL]:=by rw[ic,ib];exact zaa pW
     have t2:gr g (j+1)=(gr g j&& !fN (g j)):=zaa pW;have yB:(g j).num.sign≠0:=fun h=>pW (zbS.1 h);rcases ts with _|⟨t,ts⟩
     ·refine ag 82 ?_;refine ax 82 (.i .i64 (M:Int)) rfl (by show ae.i .i64 ((aY M g).length:Int)=_;rw[eu]) (ag 83 ?_);refine v1 83 (show(j:Int)<(M:Int) by omega) (I ?_);refine db (g j) (di g iy) ?_;refine I ?_;refine aX xd (g j) trivial (ag 91 ?_);refine v0 91 yB (ag 93 ?_);cases hb:(kP&&gr g j)with
      |true=>
       have t3:(!fN (g j))=(kP&&gr g (j+1)):=by rw[t2,<-zbK,hb,zbx]
       refine I ?_;refine db (g j) (di g iy) ?_;refine I ?_;refine aX zF (g j) (b2 (az j)) (ag 100 ?_);refine ev 100 t3 (I ?_);refine dp (g j) (di g iy) ?_;refine I ?_;refine bC rb (g j) (cC (da (az j))) (I ?_);refine v5 gv 0 ?_;refine I ?_;refine hU ?_;refine I ?_;refine iC (j:Int) ?_ (hj:=by rw[zav];exact J);refine rh 5 4 (cs':=[.s (ff (g j)),.aZ 1 Int gv ((List.replicate dQ (0:Int)).set x (j:Int))]) ?_ (ha:=by exact wh (by rw[zbj,zav]));refine ag 116 ?_;refine dS 116 (.agg (c5 cL)) rfl (by rw[ib];exact .agg ⟨.refl _,.bb,trivial⟩) ?_;refine I ?_;refine l8 c5 [cL] (eR (R:=c5) [cL] rfl) ?_ (hb:=by show(5*1+1792)*41<=1125899906842624;decide);refine ag 85 ?_;refine b3 85 ((j+1:Nat):Int) (I ?_);exact aU [0,1,2,3,7] (j+1,[cL]) ⟨by show M-(j+1)<M-j;omega,iy,t1.symm⟩ bo
      |false=>
       have t3:false=(kP&&gr g (j+1)):=by rw[t2,<-zbK,hb,zcp]
       refine ag 100 ?_;refine ev 100 t3 (I ?_);refine dp (g j) (di g iy) ?_;refine I ?_;refine bC rb (g j) (cC (da (az j))) (I ?_);refine v5 gv 0 ?_;refine I ?_;refine hU ?_;refine I ?_;refine iC (j:Int) ?_ (hj:=by rw[zav];exact J);refine rh 5 4 (cs':=[.s (ff (g j)),.aZ 1 Int gv ((List.replicate dQ (0:Int)).set x (j:Int))]) ?_ (ha:=by exact wh (by rw[zbj,zav]));refine ag 116 ?_;refine dS 116 (.agg (c5 cL)) rfl (by rw[ib];exact .agg ⟨.refl _,.bb,trivial⟩) ?_;refine I ?_;refine l8 c5 [cL] (eR (R:=c5) [cL] rfl) ?_ (hb:=by show(5*1+1792)*41<=1125899906842624;decide);refine ag 85 ?_;refine b3 85 ((j+1:Nat):Int) (I ?_);exact aU [0,1,2,3,7] (j+1,[cL]) ⟨by show M-(j+1)<M-j;omega,iy,t1.symm⟩ bo
     ·refine ag 82 ?_;refine ax 82 (.i .i64 (M:Int)) rfl (by show ae.i .i64 ((aY M g).length:Int)=_;rw[eu]) (ag 83 ?_);refine v1 83 (show(j:Int)<(M:Int) by omega) (I ?_);refine db (g j) (di g iy) ?_;refine I ?_;refine aX xd (g j) trivial (ag 91 ?_);refine v0 91 yB (ag 93 ?_);cases hb:(kP&&gr g j)with
      |true=>
       have t3:(!fN (g j))=(kP&&gr g (j+1)):=by rw[t2,<-zbK,hb,zbx]
       refine I ?_;refine db (g j) (di g iy) ?_;refine I ?_;refine aX zF (g j) (b2 (az j)) (ag 100 ?_);refine ev 100 t3 (I ?_);refine dp (g j) (di g iy) ?_;refine I ?_;refine bC rb (g j) (cC (da (az j))) (I ?_);refine v5 gv 0 ?_;refine I ?_;refine hU ?_;refine I ?_;refine iC (j:Int) ?_ (hj:=by rw[zav];exact J);refine rh 6 5 (cs':=[.s (ff (g j)),.aZ 1 Int gv ((List.replicate dQ (0:Int)).set x (j:Int))]) ?_ (ha:=by exact wh (by rw[zbj,zav]));refine ag 116 ?_;refine dS 116 (.agg (c5 cL)) rfl (by rw[ib];exact .agg ⟨.refl _,.bb,trivial⟩) ?_;refine I ?_;refine lI (R:=c5) [cL] (eR (R:=c5) [cL] rfl) ?_ (hn:=by simp) (hb:=by show(5*(ts.length+1+1)+1792)*41<=1125899906842624;simp at l1;omega);refine ax 118 (.aN _ 2 0 ((ts++[cL]).length+1) ((ts++[cL]).length+1)) rfl (Kp (by simp)) (ag 85 ?_);refine b3 85 ((j+1:Nat):Int) (I ?_);exact aU [0,1,2,3,8] (j+1,t::(ts++[cL])) ⟨by show M-(j+1)<M-j;omega,iy,t1.symm⟩ bo
      |false=>
       have t3:false=(kP&&gr g (j+1)):=by rw[t2,<-zbK,hb,zcp]
       refine ag 100 ?_;refine ev 100 t3 (I ?_);refine dp (g j) (di g iy) ?_;refine I ?_;refine bC rb (g j) (cC (da (az j))) (I ?_);refine v5 gv 0 ?_;refine I ?_;refine hU ?_;refine I ?_;refine iC (j:Int) ?_ (hj:=by rw[zav];exact J);refine rh 6 5 (cs':=[.s (ff (g j)),.aZ 1 Int gv ((List.replicate dQ (0:Int)).set x (j:Int))]) ?_ (ha:=by exact wh (by rw[zbj,zav]));refine ag 116 ?_;refine dS 116 (.agg (c5 cL)) rfl (by rw[ib];exact .agg ⟨.refl _,.bb,trivial⟩) ?_;refine I ?_;refine lI (R:=c5) [cL] (eR (R:=c5) [cL] rfl) ?_ (hn:=by simp) (hb:=by show(5*(ts.length+1+1)+1792)*41<=1125899906842624;simp at l1;omega);refine ax 118 (.aN _ 2 0 ((ts++[cL]).length+1) ((ts++[cL]).length+1)) rfl (Kp (by simp)) (ag 85 ?_);refine b3 85 ((j+1:Nat):Int) (I ?_);exact aU [0,1,2,3,8] (j+1,t::(ts++[cL])) ⟨by show M-(j+1)<M-j;omega,iy,t1.symm⟩ bo
   have Nk:M=j:=by omega
   subst Nk;have Dp:S.dx=⟨ff co,g0,ts⟩:=by rw[T4,ic]
   rcases ts with _|⟨t,ts⟩
   ·refine ag 82 ?_;refine ax 82 (.i .i64 (M:Int)) rfl (by show ae.i .i64 ((aY M g).length:Int)=_;rw[eu]) (ag 83 ?_);refine v0 83 (show¬(M:Int)<(M:Int) by omega) ?_;refine ev 13 (b:=cE mk f (k+1)) bS.symm (ag 121 ?_);refine dS 121 (.agg (ez S.dx)) rfl (by rw[Dp];exact .agg ⟨.refl _,.refl _,(bV.nl.trans .bb),trivial⟩) ?_;refine I ?_;refine lI (R:=ez) [S.dx] (eR (R:=ez) [S.dx] rfl) ?_ (hn:=by simp) (hb:=by show(5*(ws.length+1+1)+1792)*49<=1125899906842624;simp at mv;omega);refine ax 123 (.aN _ 3 0 ((ws++[S.dx]).length+1) ((ws++[S.dx]).length+1)) rfl (sw (by simp)) (ag 36 ?_);refine b3 36 ((k+1:Nat):Int) (I ?_);exact aU [0,1,5] (k+1,w::(ws++[S.dx])) ⟨by show m-(k+1)<m-k;omega,mT,aq.symm⟩ bo
   ·refine ag 82 ?_;refine ax 82 (.i .i64 (M:Int)) rfl (by show ae.i .i64 ((aY M g).length:Int)=_;rw[eu]) (ag 83 ?_);refine v0 83 (show¬(M:Int)<(M:Int) by omega) ?_;refine ev 13 (b:=cE mk f (k+1)) bS.symm ?_;refine rh 3 4 (cs':=[.s (ff co),.i .i64 g0,.aZ 2 b5 c5 (t::ts)]) ?_ (ha:=by exact MD);refine ag 121 ?_;refine dS 121 (.agg (ez S.dx)) rfl (by rw[Dp];exact .agg ⟨.refl _,.refl _,.bb,trivial⟩) ?_;refine I ?_;refine lI (R:=ez) [S.dx] (eR (R:=ez) [S.dx] rfl) ?_ (hn:=by simp) (hb:=by show(5*(ws.length+1+1)+1792)*49<=1125899906842624;simp at mv;omega);refine ax 123 (.aN _ 3 0 ((ws++[S.dx]).length+1) ((ws++[S.dx]).length+1)) rfl (sw (by simp)) (ag 36 ?_);refine b3 36 ((k+1:Nat):Int) (I ?_);exact aU [0,1,6] (k+1,w::(ws++[S.dx])) ⟨by show m-(k+1)<m-k;omega,mT,aq.symm⟩ bo
