/- What the functions of the program and of the document compute, for every input, and the plain laws of it (part 4); conditions as in the statements. -/
import Derived.Test.YtdinjknpilkilaaGreatDoorC3
import Derived.Test.YtdinjknpilkilaaGreatDoorS2
noncomputable section
set_option linter.all false
namespace Go.ah.aW
open Go.ah
set_option maxRecDepth 100000
set_option maxHeartbeats 4000000
def Yu{n m k:Nat}(h:n<2^m)(hk:m<=32*k):dE k n:=y5 (by rw[show(4294967296:Nat)=2^32 from rfl,<-zbk];exact zbL h (zaI (by decide) hk))
end Go.ah.aW
namespace Go.ah.aW
def b7:Nat->Nat->Nat
 |_,0=>1
 |0,_+1=>0
 |n+1,k+1=>b7 n k+b7 n (k+1)
theorem Aw:∀n k,(k+1)*b7 (n+1) (k+1)=(n+1)*b7 n k
 |0,0=>rfl
 |0,k+1=>by simp[b7]
 |n+1,0=>by
  have:=Aw n 0;simp only[b7]at *;omega
 |n+1,j+1=>by
  have h1:=Aw n (j+1);have h2:=Aw n j;simp only[b7]at *
  grind
theorem Gt:∀n k,n<k->b7 n k=0
 |_,0,h=>by omega
 |0,k+1,_=>rfl
 |n+1,k+1,h=>by
  have h1:=Gt n k (by omega);have h2:=Gt n (k+1) (by omega);simp only[b7];omega
theorem Gs:∀n,b7 n n=1
 |0=>rfl
 |n+1=>by
  have h1:=Gs n;have h2:=Gt n (n+1) (by omega);simp only[b7];omega
theorem C1:∀n a b,a+b=n->b7 n a=b7 n b
 |0,0,0,_=>rfl
 |0,0,b+1,h=>by omega
 |0,a+1,b,h=>by omega
 |n+1,0,b,h=>by
  have:b=n+1:=by omega
  subst this;rw[Gs];rfl
 |n+1,a+1,0,h=>by
  have:a=n:=by omega
  subst this;rw[Gs];rfl
 |n+1,a+1,b+1,h=>by
  have h1:=C1 n a (b+1) (by omega);have h2:=C1 n (a+1) b (by omega);simp only[b7];omega
theorem xS:∀n k,k<=n->0<b7 n k
 |_,0,_=>by simp[b7]
 |0,k+1,h=>by omega
 |n+1,k+1,h=>by
  have h1:=xS n k (by omega);simp only[b7];omega
theorem xT:∀n k,b7 n k<=2^n
 |n,0=>by
  have:0<2^n:=zat (by decide);simp only[b7];omega
 |0,k+1=>by simp[b7]
 |n+1,k+1=>by
  have h1:=xT n k;have h2:=xT n (k+1);simp only[b7,zak];omega
def SP(m i:Nat):(b7 (m+i+1) (i+1):Rat)=(b7 (m+i) i:Rat)*((m+i+1:Nat):Rat)/((i+1:Nat):Rat):=by
 have h:=Aw (m+i) i;have h2:((i+1:Nat):Rat)*(b7 (m+i+1) (i+1):Rat)=((m+i+1:Nat):Rat)*(b7 (m+i) i:Rat):=by exact_mod_cast h
 have ab:((i+1:Nat):Rat)≠0:=by
  intro h;have:(i+1:Nat)=0:=by exact_mod_cast h
  omega
 grind
def hV(lo:Rat)(n:Nat)(c:Nat->Rat)(p:Nat):Nat->Rat
 |0=>c p
 |j+1=>if p<n then hV lo n c p j+lo*hV lo n c (p+1) (j+1)else c p
termination_by j=>(n-p,j)
variable{lo:Rat}{n:Nat}{c:Nat->Rat}{p:Nat}
def qk(h:n<=p):∀j,hV lo n c p j=c p
 |0=>by rw[hV]
 |j+1=>by rw[hV,zaa (by omega)]
def xu{j:Nat}(h:p<n):hV lo n c p (j+1)=hV lo n c p j+lo*hV lo n c (p+1) (j+1):=by
 rw[hV,zab h]
def Co:hV lo n c p 0=c p:=by rw[hV]
theorem adp(lo:Rat)(n:Nat)(c d:Nat->Rat)(p j:Nat):hV lo n (fun i=>c i+d i) p j=hV lo n c p j+hV lo n d p j:=by
 by_cases h:p<n
 ·induction j with
  |zero=>simp only[Co]
  |succ j a1=>
   have:=adp lo n c d (p+1) (j+1);rw[xu h,xu h,xu h,a1,this]
   grind
 ·rw[qk (by omega),qk (by omega),qk (by omega)]
termination_by n-p
theorem adq{lo:Rat}{n:Nat}{c d:Nat->Rat}(M7:∀i,i<=n->c i=d i)(p j:Nat)(hp:p<=n):hV lo n c p j=hV lo n d p j:=by
 by_cases h:p<n
 ·induction j with
  |zero=>rw[Co,Co];exact M7 p hp
  |succ j a1=>
   have:=adq M7 (p+1) (j+1) (by omega) (lo:=lo);rw[xu h,xu h,a1,this]
 ·rw[qk (by omega),qk (by omega)];exact M7 p hp
termination_by n-p
def q0:Nat->Nat->Nat
 |_,0=>1
 |0,_+1=>0
 |j+1,i+1=>q0 j (i+1)+q0 (j+1) i
theorem IK:∀i j,q0 (j+1) i=b7 (i+j) j
 |0,j=>by rw[q0];rw[zaP,Gs]
 |i+1,0=>by
  have:=IK i 0;simp only[q0,b7]at *;omega
 |i+1,j+1=>by
  have h1:=IK (i+1) j;have h2:=IK i (j+1);have e:i+1+(j+1)=(i+1+j)+1:=by omega
  have e2:i+(j+1)=i+1+j:=by omega
  rw[e,b7,q0,h1,h2,e2]
def my(e:Nat)(a:Rat)(i:Nat):Rat:=if i=e then a else 0
theorem Q6(lo a:Rat)(n e:Nat)(he:e<=n)(p j:Nat)(hp:p<=n):hV lo n (my e a) p j=if p<=e then a*(q0 j (e-p):Rat)*lo^(e-p)else 0:=by
 by_cases h:p<n
 ·induction j with
  |zero=>
   rw[Co];unfold my;rcases zbo p e with h1|h1|h1
   ·obtain⟨d,ao⟩:∃d,e-p=d+1:=⟨e-p-1,by omega⟩;rw[zaa (by omega),zab (by omega),ao,q0];grind
   ·subst h1;simp[q0]
   ·rw[zaa (by omega),zaa (by omega)]
  |succ j a1=>
   have:=Q6 lo a n e he (p+1) (j+1) (by omega);rw[xu h,a1,this];rcases zbo p e with h1|h1|h1
   ·obtain⟨d,ao⟩:∃d,e-p=d+1:=⟨e-p-1,by omega⟩;have lB:e-(p+1)=d:=by omega
    rw[zab (by omega),zab (by omega),zab (by omega),ao,lB,q0]
    push_cast
    grind
   ·subst h1;rw[zab (zae _),zaa (by omega),zab (zae _),zcL];simp only[q0];grind
   ·rw[zaa (by omega),zaa (by omega),zaa (by omega)];grind
 ·have:p=n:=by omega
  subst this;rw[qk (zae _)];unfold my;by_cases h1:p=e
  ·subst h1;simp[q0]
  ·rw[zaa h1,zaa (by omega)]
termination_by n-p
def at2(lo a:Rat)(n e:Nat)(he:e<=n)(p:Nat)(hp:p<=n):hV lo n (my e a) p (p+1)=if p<=e then a*((b7 e p:Rat)*lo^(e-p))else 0:=by
 rw[Q6 lo a n e he p (p+1) hp];split
 ·rw[IK,show e-p+p=e by omega];grind
 ·rfl
def bs(g:Nat->Rat):Nat->Nat->Rat
 |p,0=>g p
 |0,_+1=>g 0
 |p+1,r+1=>bs g (p+1) r+bs g p r
def SF(g:Nat->Rat):∀r,bs g 0 r=g 0
 |0=>rfl
 |_+1=>rfl
theorem LG(g h:Nat->Rat):∀r p,bs (fun i=>g i+h i) p r=bs g p r+bs h p r
 |0,p=>by simp[bs]
 |r+1,0=>by simp[bs]
 |r+1,p+1=>by
  have h1:=LG g h r (p+1);have h2:=LG g h r p;simp only[bs]at *
  grind
theorem Au{g h:Nat->Rat}{n:Nat}(aO:∀i,i<=n->g i=h i):∀r p,p<=n->bs g p r=bs h p r
 |0,p,hp=>by simp only[bs];exact aO p hp
 |r+1,0,hp=>by simp only[bs];exact aO 0 hp
 |r+1,p+1,hp=>by
  have h1:=Au aO r (p+1) hp;have h2:=Au aO r p (by omega);simp only[bs,h1,h2]
theorem Gp(e:Nat)(a:Rat):∀r p,bs (my e a) p r=if e<=p then a*(b7 r (p-e):Rat)else 0
 |0,p=>by
  simp only[bs];unfold my;rcases zbo p e with h1|h1|h1
  ·rw[zaa (by omega),zaa (by omega)]
  ·subst h1;simp[b7]
  ·obtain⟨d,ao⟩:∃d,p-e=d+1:=⟨p-e-1,by omega⟩;rw[zaa (by omega),zab (by omega),ao,b7];grind
 |r+1,0=>by
  simp only[bs];unfold my;by_cases h:e=0
  ·subst h;simp[b7]
  ·rw[zaa (by omega),zaa (by omega)]
 |r+1,p+1=>by
  have h1:=Gp e a r (p+1);have h2:=Gp e a r p;simp only[bs,h1,h2];rcases zbo (p+1) e with h|h|h
  ·rw[zaa (by omega),zaa (by omega),zaa (by omega)];grind
  ·subst h;rw[zab (zae _),zaa (by omega),zab (zae _),zcL];simp only[b7];grind
  ·obtain⟨d,ao⟩:∃d,p+1-e=d+1:=⟨p-e,by omega⟩;have lB:p-e=d:=by omega
   rw[zab (by omega),zab (by omega),zab (by omega),ao,lB,b7]
   push_cast
   grind
def kL(f:Nat->Rat):Nat->Rat
 |0=>0
 |n+1=>kL f n+f n
theorem QU{f g:Nat->Rat}:∀n,(∀i,i<n->f i=g i)->kL f n=kL g n
 |0,_=>rfl
 |n+1,h=>by
  have:=QU n (fun i aa=>h i (by omega));simp only[kL,this,h n (by omega)]
theorem SE(g:Nat->Rat)(p:Nat):∀t,bs (fun i=>if i<t then g i else 0) p p=kL (fun i=>if i<=p then g i*(b7 p i:Rat)else 0) t
 |0=>by
  have:=Gp 0 0 p p;have e:bs (fun i=>if i<0 then g i else 0) p p=bs (my 0 0) p p:=Au (n:=p) (fun i _=>by unfold my;simp) p p (zae _);rw[e,this];simp[kL]
 |t+1=>by
  have a1:=SE g p t;have e:bs (fun i=>if i<t+1 then g i else 0) p p=bs (fun i=>(if i<t then g i else 0)+my t (g t) i) p p:=Au (n:=p) (fun i _=>by
   unfold my;rcases zbo i t with h|h|h
   ·rw[zab (by omega),zab h,zaa (by omega)];grind
   ·subst h;simp;grind
   ·rw[zaa (by omega),zaa (by omega),zaa (by omega)];grind) p p (zae _)
  rw[e,LG,a1,Gp];simp only[kL];congr 1;split
  ·rename_i h;rw[C1 p (p-t) t (by omega)]
  ·rfl
def aeT(g:Nat->Rat)(n p:Nat)(hp:p<=n):bs g p p=kL (fun i=>if i<=p then g i*(b7 p i:Rat)else 0) (n+1):=by
 rw[<-SE];exact Au (n:=p) (fun i aa=>by rw[zab (by omega)]) p p (zae _)
open Go.ah
def Fr(M B:Nat)(x:Rat):Prop:=0<M∧∃n:Int,x*(M:Rat)=(n:Rat)∧n.natAbs<=B*M
variable{M A:Nat}{x:Rat}{B:Nat}{y:Rat}
def ss(h:0<M):(M:Rat)≠0:=fun e=>by
 have:M=0:=by exact_mod_cast e
 omega
def Dw:Fr M A x->Fr M B y->Fr M (A+B) (x+y)
 |⟨h,n,aq,c3⟩,⟨_,m,e2,eP⟩=>⟨h,n+m,by push_cast;grind,by rw[zah];omega⟩
def ah7:Fr M A x->Fr M A (-x)
 |⟨h,n,aq,c3⟩=>⟨h,-n,by push_cast;grind,by omega⟩
def ah8(h1:Fr M A x)(h2:Fr M B y):Fr M (A+B) (x-y):=by
 rw[zec];exact Dw h1 (ah7 h2)
def uy{N:Nat}:Fr M A x->Fr N B y->Fr (M*N) (A*B) (x*y)
 |⟨h,n,aq,c3⟩,⟨h2,m,e2,eP⟩=>⟨zaM h h2,n*m,by push_cast;grind,by
  rw[zcA];refine zag (zaS c3 eP) ?_;rw[show A*M*(B*N)=A*B*(M*N) by grind];exact zae _⟩
def jV(a8:A<=B):Fr M A x->Fr M B x
 |⟨h,n,aq,c3⟩=>⟨h,n,aq,zag c3 (zaD _ a8)⟩
def sU{N:Nat}(ao:M∣N)(fq:0<N):Fr M A x->Fr N A x
 |⟨h,n,aq,c3⟩=>by
  obtain⟨k,rfl⟩:=ao;refine⟨fq,n*(k:Int),by push_cast;grind,?_⟩;rw[zcA,show A*(M*k)=A*M*k by grind];exact zaS c3 (by omega)
def Hj(h:0<M):Fr M 0 0:=⟨h,0,by simp,by simp⟩
def Um:Fr 1 1 1:=⟨by decide,1,by simp,by simp⟩
def ME(n:Nat):Fr 1 n (n:Rat):=⟨by decide,n,by simp;rfl,by simp⟩
def IL(x:Rat):x*(x.den:Rat)=(x.num:Rat):=by
 have h:(x.den:Rat)≠0:=ss (zaG x.den_nz);have:=zeO x;rw[zcY]at this
 grind
def ah5(h:0<n):Fr n 1 (1/(n:Rat)):=⟨h,1,by have:=ss h;push_cast;grind,by simp;omega⟩
def Uk(h:0<n)(J:Fr M A x):Fr (M*n) A (x/(n:Rat)):=by
 have:=uy J (ah5 h);rw[zbc]at this;rw[show x/(n:Rat)=x*(1/(n:Rat)) by grind];exact this
theorem Hi{M A:Nat}{x:Rat}(h:Fr M A x):∀n:Nat,Fr (M^n) (A^n) (x^n)
 |0=>by simp;exact Um
 |n+1=>by rw[zak,zak,zcq];exact uy (Hi h n) h
def AW(x:Rat):Fr x.den x.num.natAbs x:=by
 refine⟨zaG x.den_nz,x.num,?_,?_⟩
 ·exact IL x
 ·have:=zaG x.den_nz;exact zci _ this
def ah6:Fr M A x->∃n:Int,x=mkRat n M∧n.natAbs<=A*M∧M≠0
 |⟨h,n,aq,c3⟩=>⟨n,by rw[zcY];have:=ss h;grind,c3,by omega⟩
def qG{a b k:Nat}(h:Fr M A x)(ha:M<2^a)(hb:A<=2^b)(hk:a+b<=32*k):ba k x:=by
 obtain⟨n,e,h1,h2⟩:=ah6 h;rw[e];have bS:A*M<2^(a+b):=by
  rw[zal,zam];exact zaz (zaQ M hb) (zeJ ha (zat (by decide)))
 exact vh (Yu (zaz h1 bS) hk) (Yu ha (by omega)) h2
set_option maxRecDepth 100000
set_option maxHeartbeats 4000000
variable{α:Type}{a k b:Nat}{f:Rat->Rat->Rat}{l:ac Rat}{i:Nat}{w:Rat}{q L:Nat}
def kO(n:Int):Rat:=mkRat n 1
def KM(n:Int):(kO n).num=n∧(kO n).den=1:=by
 obtain⟨a,b⟩:=IN n 1 (by decide);unfold kO;rw[a,b];simp
def Fq:bN where
 L:=Rat×Rat
 args:=fun(x,y)=>[c8 x,c8 y]
 pre:=fun(x,y)=>ba 268435456 x∧ba 268435456 y
 res:=fun(x,y)=>c8 (x*y)
def QE(n m:Bool)(a b:Nat):ch (n != m) (a*b)=ch n a*ch m b:=by cases n<;>cases m<;>simp[ch,zcF,Int.mul_neg]
def xm:bw a4.ctx 71 Fq.spec:=by
 refine bZ [(60,xP.spec),(59,zg.spec),(114,zd.spec)] Wp.1 ?_;intro⟨x,y⟩ ⟨(J:ba _ x),(ay:ba _ y)⟩ H aK;refine I ?_;refine bC q2 (x.num.natAbs,y.num.natAbs) ⟨dD J.1,dD ay.1⟩ (I ?_);refine bC qv x trivial (I ?_);refine bC qv y trivial (I ?_);refine bC q2 (x.den,y.den) ⟨dD J.2,dD ay.2⟩ (I ?_);refine bC sa (decide (x.num<0) != decide (y.num<0),x.num.natAbs*y.num.natAbs,x.den*y.den) ⟨dD (m2 J.1 ay.1),dD (m2 J.2 ay.2),zbZ x.den_nz y.den_nz⟩ (I ?_);refine aM rfl (.of (congrArg c8 ?_));show mkRat (ch _ _) _=x*y;rw[QE,<-EO,<-EO,Rat.mul_def']
def Kf:bN where
 L:=Rat×Rat
 args:=fun(x,y)=>[c8 x,c8 y]
 pre:=fun(x,y)=>ba 268435456 x∧ba 268435456 y∧0<y.num
 res:=fun(x,y)=>.bM [c8 (mkRat (x.num*(y.den:Int)) (x.den*y.num.natAbs)),.i .i64 0]
def Qt:bw a4.ctx 145 Kf.spec:=by
 refine bZ [(25,FB.spec),(60,xP.spec),(59,zg.spec),(114,zd.spec)] UK.1 ?_;intro⟨x,y⟩ ⟨(J:ba _ x),(ay:ba _ y),(h0:0<y.num)⟩ H aK;refine I ?_;refine aX vC y trivial (I ?_);refine cP (fun h=> ?_) (fun h=> ?_)
 ·have h:y.num=0:=zbS.1 h;omega
 refine I ?_;refine bC qv y trivial (I ?_);refine bC q2 (x.num.natAbs,y.den) ⟨dD J.1,dD ay.2⟩ (I ?_);refine bC qv x trivial (I ?_);refine bC q2 (x.den,y.num.natAbs) ⟨dD J.2,dD ay.1⟩ (I ?_);refine bC sa (decide (x.num<0) != decide (y.num<0),x.num.natAbs*y.den,x.den*y.num.natAbs) ⟨dD (m2 J.1 ay.2),dD (m2 J.2 ay.1),zbZ x.den_nz (by omega)⟩ (I ?_);refine aM rfl (.of (congrArg (fun q=>ae.bM [c8 q,.i .i64 0]) ?_));show mkRat (ch (decide (x.num<0) != decide (y.num<0)) _) _=_;rw[zai (show¬y.num<0 by omega),QE,<-EO];rfl
def Oc:bN where
 L:=c2
 args:=fun x=>[.agg (e9 x)]
 pre:=fun _=>True
 res:=fun x=>c8 x.1
def Oa:bN where
 L:=c2
 args:=fun x=>[.agg (e9 x)]
 pre:=fun _=>True
 res:=fun x=>c8 x.2
def Od:bw a4.ctx 19 Oc.spec:=by
 refine bZ [] Vg.1 ?_;intro x _ H aK;refine I ?_;exact aM rfl (.refl _)
def Ob:bw a4.ctx 20 Oa.spec:=by
 refine bZ [] Vk.1 ?_;intro x _ H aK;refine I ?_;exact aM rfl (.refl _)
def adI:bN where
 L:=c2
 args:=fun x=>[.agg (e9 x)]
 pre:=fun x=>ba 250 x.1∧ba 250 x.2
 res:=fun x=>c8 (x.2-x.1)
def auL:bw a4.ctx 122 adI.spec:=by
 refine bZ [(16,Fu.spec)] UH.1 ?_;intro x ⟨(h1:ba 250 x.1),(h2:ba 250 x.2)⟩ H aK;refine I ?_;refine aX Fv (x.2,x.1) ⟨b2 h2,b2 h1⟩ (I ?_);exact aM rfl (.refl _)
def Fi(h:0<y.num):mkRat (x.num*(y.den:Int)) (x.den*y.num.natAbs)=x/y:=by
 have J:=IL x;have ay:=IL y;have d1:=ss (zaG x.den_nz);have d2:=ss (zaG y.den_nz);have e:((y.num.natAbs:Nat):Rat)=(y.num:Rat):=by
  have:((y.num.natAbs:Nat):Int)=y.num:=Int.natAbs_of_nonneg (by omega)
  exact_mod_cast congrArg (fun z:Int=>(z:Rat)) this
 have hn:(y.num:Rat)≠0:=fun h0=>by
  have:y.num=0:=by exact_mod_cast h0
  omega
 have adP:y≠0:=fun h0=>hn (by rw[<-ay,h0];grind);rw[zcY]
 push_cast
 rw[e,<-J,<-ay]
 grind
def GW:bN where
 L:=Rat×Rat
 args:=fun(x,y)=>[c8 x,c8 y]
 pre:=fun(x,y)=>ba 268435456 x∧ba 268435456 y∧0<y.num
 res:=fun(x,y)=>c8 (x/y)
def aqK:bw a4.ctx 121 GW.spec:=by
 refine bZ [(145,Kf.spec)] UG.1 ?_;intro⟨x,y⟩ ⟨(h1:ba _ x),(h2:ba _ y),(ab:0<y.num)⟩ H aK;refine I ?_;refine aX Qt (x,y) ⟨h1,h2,ab⟩ ?_;refine ax 10 (.bM [c8 (x/y),.i .i64 0]) rfl (by show ae.bM [c8 (mkRat _ _),_]=_;rw[Fi ab]) (I ?_);exact aM rfl (.refl _)
def abk:bw a4.ctx 76 GW.spec:=by
 refine bZ [(145,Kf.spec)] Wu.1 ?_;intro⟨x,y⟩ ⟨(h1:ba _ x),(h2:ba _ y),(ab:0<y.num)⟩ H aK;refine I ?_;refine aX Qt (x,y) ⟨h1,h2,ab⟩ ?_;refine ax 10 (.bM [c8 (x/y),.i .i64 0]) rfl (by show ae.bM [c8 (mkRat _ _),_]=_;rw[Fi ab]) (I ?_);exact aM rfl (.refl _)
def mE(n:Int):kO n=(n:Rat):=by unfold kO;rw[zcY];grind
def ti{n:Int}(h1: -9223372036854775808<=n)(h2:n<9223372036854775808):ba 2 (kO n):=lF n h1 h2
def abE:bN where
 L:=Nat×Nat
 args:=fun(a,b)=>[.i .i64 (a:Int),.i .i64 (b:Int)]
 pre:=fun(a,b)=>a<9223372036854775808∧b<9223372036854775808∧0<b
 res:=fun(a,b)=>.bM [c8 ((a:Rat)/(b:Rat)),.i .i64 0]
def ard:bw a4.ctx 70 abE.spec:=by
 refine bZ [(63,Ij.spec),(145,Kf.spec)] Wo.1 ?_;intro⟨a,b⟩ ⟨(h1:a<_),(h2:b<_),(ab:0<b)⟩ H aK;refine I ?_;refine aX s9 (a:Int) ⟨by show -9223372036854775808<=(a:Int);omega,by show(a:Int)<9223372036854775808;omega⟩ (I ?_);refine aX s9 (b:Int) ⟨by show -9223372036854775808<=(b:Int);omega,by show(b:Int)<9223372036854775808;omega⟩ ?_;have hb:(kO (b:Int)).num=(b:Int):=(KM _).1;refine aX Qt (kO (a:Int),kO (b:Int)) ⟨b2 (ti (by omega) (by omega)),b2 (ti (by omega) (by omega)),by rw[hb];omega⟩ ?_;refine ax 10 (.bM [c8 ((a:Rat)/(b:Rat)),.i .i64 0]) rfl (by show ae.bM [c8 (mkRat _ _),_]=_;rw[Fi (by rw[hb];omega),mE,mE];push_cast;rfl) (I ?_);exact aM rfl (.refl _)
def Db(x:Rat):Nat:=max (dX x.num.natAbs).length (dX x.den).length
def Tx:bN where
 L:=Rat
 args:=fun x=>[c8 x]
 pre:=fun x=>ba 268435456 x
 res:=fun x=>.i .i64 (Db x:Nat)
 hp:=iQ
 hm:=iQ.up
def Tv(a b:Nat):max (a:Int) (b:Int)=((max a b:Nat):Int):=by omega
def agF:bw a4.ctx 74 Tx.spec:=by
 refine pK [(100,OV.spec),(60,xP.spec)] Ws.1 ?_;intro(x:Rat) (J:ba _ x) H aK gx;have gE:=AI J.1;have iB:=AI J.2;refine I ?_;refine bC I7 x.num.natAbs (dD J.1) (I ?_) (hh:=gx);refine bC qv x trivial (I ?_);refine bC I7 x.den (dD J.2) (I ?_) (hh:=gx);exact aM rfl (.of (by show ae.i .i64 _=ae.i .i64 _;unfold Db;congr 1;omega))
def fN(x:Rat):Bool:=decide (2000<(Db x:Int))
def YH:bN where
 L:=Rat
 args:=fun x=>[c8 x]
 pre:=fun x=>ba 268435456 x
 res:=fun x=>.b (fN x)
 hp:=iQ
 hm:=iQ.up
def aoz:bw a4.ctx 73 YH.spec:=by
 refine pK [(74,Tx.spec)] Wr.1 ?_;intro(x:Rat) (J:ba _ x) H aK gx;refine I ?_;refine aX agF x J (I ?_) (hh:=gx);exact aM rfl (.refl _)
def Ou:ae:=.fn (.func 73) [] []
def gM{α:Type}(q:α->Bool):ac α->Nat->Int
 |[],_=> -1
 |x::l,k=>if q x=true then(k:Int)else gM q l (k+1)
theorem Ya{α:Type}(q:α->Bool):∀(l:ac α) (k:Nat),decide (0<=gM q l k)=l.any q
 |[],_=>rfl
 |x::l,k=>by
  unfold gM;cases h:q x with
  |true=>simp[h]
  |false=>
   rw[zaa (by decide),Ya q l (k+1)];simp[h]
def Yh:bN where
 L:=ac Rat
 args:=fun l=>[.aZ 3 Rat cA l,Ou]
 pre:=fun l=>l.length<=1048576∧∀x,x∈l->ba 268435456 x
 res:=fun l=>.i .i64 (gM fN l 0)
 hp:=iQ
 hm:=iQ.up
def anK:bw a4.ctx 146 Yh.spec:=by
 refine pK [(73,YH.spec)] UL.1 ?_;intro(l:ac Rat) ⟨(hl:l.length<=1048576),(af:∀x,x∈l->ba _ x)⟩ H aK gx;refine I ?_;refine cw (L:=Nat) (fun k=>k<=l.length∧gM fN (l.drop k) k=gM fN l 0) (fun(k:Nat)=>⟨[],0,[(0,.aZ 3 Rat cA l),(1,Ou),(6,.aZ 3 Rat cA l),(7,.i .i64 (l.length:Int)),(8,.i .i64 (k:Int))]⟩) (fun k=>l.length-k) [] 0 ⟨zac _,rfl⟩ yg bo ?_;rintro(k:Nat) ⟨hk,av⟩;refine ag 9 ?_;by_cases aE:k<l.length
 ·refine v1 9 (show(k:Int)<(l.length:Int) by omega) (I ?_);refine db l[k] (bE aE) ?_;refine I ?_;rw[fP aE]at av;refine Qh aoz l[k] (af _ (zas aE)) ?_ (hh:=gx);cases h:fN l[k]with
  |true=>
   refine ev 16 h (I ?_);exact aM rfl (.of (by show ae.i _ _=ae.i .i64 (gM fN l 0);rw[<-av];unfold gM;rw[zab h]))
  |false=>
   refine ev 16 h (ag 18 ?_);refine b3 18 ((k+1:Nat):Int) (I ?_);refine aU [] (k+1) ⟨by omega,aE,?_⟩ bo;rw[<-av];conv=>rhs;unfold gM
   rw[zaa (by rw[h];decide)]
 ·refine v0 9 (show¬(k:Int)<(l.length:Int) by omega) (I ?_);exact aM rfl (.of (by show ae.i _ _=ae.i .i64 (gM fN l 0);rw[<-av,zaY (by omega)];rfl))
def S6:bN where
 L:=ac Rat
 args:=fun l=>[.aZ 3 Rat cA l,Ou]
 pre:=fun l=>l.length<=1048576∧∀x,x∈l->ba 268435456 x
 res:=fun l=>.b (l.any fN)
 hp:=iQ
 hm:=iQ.up
def afk:bw a4.ctx 72 S6.spec:=by
 refine pK [(146,Yh.spec)] Wq.1 ?_;intro(l:ac Rat) hl H aK gx;refine I ?_;refine aX anK l hl (I ?_) (hh:=gx);exact aM rfl (.of (jU (Ya fN l 0)))
def QF:bN where
 L:=ac Rat
 args:=fun l=>[.aZ 3 Rat cA l]
 pre:=fun l=>l.length<=1048576∧∀x,x∈l->ba 268435456 x
 res:=fun l=>.b (!l.any fN)
 hp:=iQ
 hm:=iQ.up
def QG:bw a4.ctx 24 QF.spec:=by
 refine pK [(72,S6.spec)] VD.1 ?_;intro(l:ac Rat) hl H aK gx;refine I ?_;refine aX afk l hl (I ?_) (hh:=gx) (he:=by exact⟨.refl _,Ey,trivial⟩);exact aM rfl (.refl _)
def fo(n:Nat):ac ae:=[.i .i64 (n:Int)]
def iN(n:Nat):Bool:=decide (0<(n:Int))
def Jz:bN where
 L:=Nat
 args:=fun n=>[.i .i64 (n:Int)]
 pre:=fun _=>True
 res:=fun n=>.b (iN n)
def ap3:bw a4.ctx 67 Jz.spec:=by
 refine bZ [] Wl.1 ?_;intro(n:Nat) _ H aK;refine I ?_;exact aM rfl (.refl _)
def ap4:bw a4.ctx 68 Jz.spec:=by
 refine bZ [] Wm.1 ?_;intro(n:Nat) _ H aK;refine I ?_;exact aM rfl (.refl _)
def aav:Bool->ae
 |true=>.fn (.func 67) [] []
 |false=>.fn (.func 68) [] []
def Yf:bN where
 L:=ac Nat×Bool
 args:=fun(l,b)=>[.aZ 1 Nat fo l,aav b]
 pre:=fun(l,_)=>l.length<=1048576
 res:=fun(l,_)=>.i .i64 (gM iN l 0)
def Yg:bw a4.ctx 66 Yf.spec:=by
 refine bZ [(67,Jz.spec),(68,Jz.spec)] Wk.1 ?_;intro⟨l,b⟩ (hl:l.length<=1048576) H aK;refine I ?_;refine cw (L:=Nat) (fun k=>k<=l.length∧gM iN (l.drop k) k=gM iN l 0) (fun(k:Nat)=>⟨[],0,[(0,.aZ 1 Nat fo l),(1,aav b),(6,.aZ 1 Nat fo l),(7,.i .i64 (l.length:Int)),(8,.i .i64 (k:Int))]⟩) (fun k=>l.length-k) [] 0 ⟨zac _,rfl⟩ yg (by cases b<;>exact bo) ?_;rintro(k:Nat) ⟨hk,av⟩;refine ag 9 ?_;by_cases aE:k<l.length
 ·refine v1 9 (show(k:Int)<(l.length:Int) by omega) (I ?_);refine db l[k] (bE aE) ?_;refine I ?_;rw[fP aE]at av;have bf:gM iN (l[k]::l.drop (k+1)) k=if iN l[k]=true then(k:Int)else gM iN (l.drop (k+1)) (k+1):=rfl;rw[bf]at av;cases b with
  |true=>
   refine Qh ap3 l[k] trivial ?_;cases h:iN l[k]with
   |true=>
    rw[zab h]at av;refine ev 16 h (I ?_);exact aM rfl (.of (by rw[av];rfl))
   |false=>
    rw[zaa (by rw[h];decide)]at av;refine ev 16 h (ag 18 ?_);refine b3 18 ((k+1:Nat):Int) (I ?_);exact aU [] (k+1) ⟨by omega,aE,av⟩ bo
  |false=>
   refine Qh ap4 l[k] trivial ?_;cases h:iN l[k]with
   |true=>
    rw[zab h]at av;refine ev 16 h (I ?_);exact aM rfl (.of (by rw[av];rfl))
   |false=>
    rw[zaa (by rw[h];decide)]at av;refine ev 16 h (ag 18 ?_);refine b3 18 ((k+1:Nat):Int) (I ?_);exact aU [] (k+1) ⟨by omega,aE,av⟩ bo
 ·refine v0 9 (show¬(k:Int)<(l.length:Int) by omega) (I ?_);rw[zaY (by omega)]at av;exact aM rfl (.of (by show ae.i .i64 _=ae.i .i64 (gM iN l 0);rw[<-av];rfl))
def lN(d:ac Nat):Int:=if 0<=gM iN d 0∧0<=gM iN (d.drop ((gM iN d 0).toNat+1)) 0 then -1 else gM iN d 0
theorem Yb{α:Type}(q:α->Bool):∀(l:ac α) (k:Nat),-1<=gM q l k∧gM q l k<((k+l.length:Nat):Int)∨gM q l k= -1
 |[],k=>.inr rfl
 |x::l,k=>by
  have:=Yb q l (k+1);unfold gM;split
  ·left;simp;omega
  ·simp only[zax];omega
def adB:bN where
 L:=ac Nat
 args:=fun d=>[.aZ 1 Nat fo d]
 pre:=fun d=>d.length<=1048576
 res:=fun d=>.i .i64 (lN d)
def aui:bw a4.ctx 17 adB.spec:=by
 refine bZ [(66,Yf.spec)] U9.1 ?_;intro(d:ac Nat) (ao:d.length<=1048576) H aK;refine I ?_;refine aX Yg (d,true) ao ?_ (he:=by exact⟨.refl _,Ey,trivial⟩);have aL:=Yb iN d 0;refine ag 7 ?_;by_cases h:0<=gM iN d 0
 case neg=>
  refine v0 7 h (I ?_);exact aM rfl (.of (by show _=ae.i .i64 (lN d);unfold lN;rw[zaa (fun aC=>h aC.1)];rfl))
 obtain⟨a,ha⟩:∃a:Nat,gM iN d 0=(a:Int):=⟨(gM iN d 0).toNat,by omega⟩;have yp:a<d.length:=by omega
 refine v1 7 h (ag 11 ?_);refine ax 11 (.i .i64 ((a+1:Nat):Int)) rfl (by rw[ha];exact cS rfl (by omega) (by omega)) (I ?_);refine aq6 (p:=a+1) (d.drop (a+1)) ?_ (hl:=by rw[zaV (by rw[zaF];omega)]);refine I ?_;refine aX Yg (d.drop (a+1),false) (by show(d.drop (a+1)).length<=_;rw[zaF];omega) (ag 14 ?_) (he:=by exact⟨.refl _,Ey,trivial⟩);have e:lN d=if 0<=gM iN (d.drop (a+1)) 0 then -1 else gM iN d 0:=by
  unfold lN;rw[ha,zcj];by_cases h2:0<=gM iN (d.drop (a+1)) 0
  ·rw[zab ⟨by omega,h2⟩,zab h2]
  ·rw[zaa (fun aC=>h2 aC.2),zaa h2]
 by_cases h2:0<=gM iN (d.drop (a+1)) 0
 ·rw[zab h2]at e;refine v1 14 h2 (I ?_);exact aM rfl (.of (by show _=ae.i .i64 (lN d);rw[e];first|done|rfl))
 ·rw[zaa h2]at e;refine v0 14 h2 (I ?_);exact aM rfl (.of (by show _=ae.i .i64 (lN d);rw[e];first|done|rfl))
def q1(m x:Rat):Rat:=if x<m then x else m
def sc(m x:Rat):Rat:=if m<x then x else m
def EF(l:ac Rat):Rat:=l.tail.foldl q1 (l.headD 0)
def EG(l:ac Rat):Rat:=l.tail.foldl sc (l.headD 0)
theorem Y2{f:Rat->Rat->Rat}(U:∀a b,f a b=a∨f a b=b):∀(l:ac Rat) (a:Rat),l.foldl f a=a∨l.foldl f a∈l
 |[],a=>.inl rfl
 |x::l,a=>by
  rcases Y2 U l (f a x)with h|h
  ·rcases U a x with g|g
   ·left;show l.foldl f (f a x)=a;rw[h,g]
   ·right;show l.foldl f (f a x)∈x::l;rw[h,g];exact zbF
  ·right;exact zaB _ h
def Y6(a b:Rat):q1 a b=a∨q1 a b=b:=by unfold q1;split<;>simp
def Zb(a b:Rat):sc a b=a∨sc a b=b:=by unfold sc;split<;>simp
def IM(U:∀a b,f a b=a∨f a b=b)(h:l≠[]):l.tail.foldl f (l.headD 0)∈l:=by
 cases l with
 |nil=>exact absurd rfl h
 |cons x l=>
  rcases Y2 U l x with g|g
  ·show l.foldl f x∈_;rw[g];exact zbF
  ·exact zaB _ g
def T8(h0:0<k)(hk:k<l.length):(l.take (k+1)).tail.foldl f ((l.take (k+1)).headD 0)=f ((l.take k).tail.foldl f ((l.take k).headD 0)) l[k]:=by
 cases l with
 |nil=>simp at hk
 |cons x l=>
  obtain⟨j,rfl⟩:∃j,k=j+1:=⟨k-1,by omega⟩;have hj:j<l.length:=by simpa using hk
  show(l.take (j+1)).foldl f x=f ((l.take j).foldl f x) l[j];rw[<-zdy hj,zeW];rfl
def GA:ae:=.fn (.func 13) [] []
def Y7:bN where
 L:=ac Rat
 args:=fun l=>[.aZ 3 Rat cA l,GA]
 pre:=fun l=>l≠[]∧l.length<=1048576∧∀x,x∈l->ba 268435456 x
 res:=fun l=>c8 (EF l)
def aoN:bw a4.ctx 22 Y7.spec:=by
 refine bZ [(13,Fo.spec)] Vs.1 ?_;intro(l:ac Rat) ⟨(cb:l≠[]),(hl:l.length<=1048576),(af:∀x,x∈l->ba _ x)⟩ H aK;have h0:0<l.length:=zbn.2 cb;refine ag 9 ?_;refine v0 9 (show¬(l.length:Int)<1 by omega) (I ?_);refine db (j:=0) l[0] (bE h0) ?_;refine I ?_;refine cw (L:=Nat×Rat) (fun(k,m)=>1<=k∧k<=l.length∧m∈l∧m=(l.take k).tail.foldl q1 ((l.take k).headD 0)) (fun(k,m)=>⟨[.c 27 [.b false,.nl,.nl],.c 27 (cA m)],2,[(0,.aZ 3 Rat cA l),(1,GA),(4,.p 0 0),(5,.p 1 0),(6,.i .i64 (k:Int))]⟩) (fun x=>l.length-x.1) [0,1] (1,l[0]) ⟨zae _,h0,zas h0,by cases l with|nil=>simp at h0|cons x l=>rfl⟩ (by show l.length-1<bc+1;unfold bc;omega) bo ?_;rintro⟨k,m⟩ ⟨k0,hk,hm,av⟩;refine ag 17 ?_;by_cases aE:k<l.length
 ·have dz:=T8 (f:=q1) k0 aE;rw[<-av]at dz;refine v1 17 (show(k:Int)<(l.length:Int) by omega) (I ?_);refine dp l[k] (bE aE) ?_;refine I ?_;refine Tk Kc (l[k],m) ⟨af _ (zas aE),af _ hm⟩ ?_;refine ag 27 ?_;by_cases hc:l[k]<m
  ·rw[show q1 m l[k]=l[k]from zab hc]at dz;refine ax 27 (.b true) rfl (jU (zad (SZ.2 hc))) (I ?_);refine db l[k] (bE aE) ?_;refine ag 19 ?_;refine b3 19 ((k+1:Nat):Int) (I ?_);exact aU [0,1] (k+1,l[k]) ⟨by show l.length-(k+1)<l.length-k;omega,by omega,aE,zas aE,dz.symm⟩ bo
  ·rw[show q1 m l[k]=m from zaa hc]at dz;refine ax 27 (.b false) rfl (jU (zai (fun h=>hc (SZ.1 h)))) (ag 19 ?_);refine b3 19 ((k+1:Nat):Int) (I ?_);exact aU [0,1] (k+1,m) ⟨by show l.length-(k+1)<l.length-k;omega,by omega,aE,hm,dz.symm⟩ bo
 ·have jv:k=l.length:=by omega
  subst jv;rw[zaX]at av;refine v0 17 (show¬(l.length:Int)<(l.length:Int) by omega) (I ?_);exact aM rfl (.of (by rw[av];rfl))
def Zc:bN where
 L:=ac Rat
 args:=fun l=>[.aZ 3 Rat cA l,GA]
 pre:=fun l=>l≠[]∧l.length<=1048576∧∀x,x∈l->ba 268435456 x
 res:=fun l=>c8 (EG l)
def aoR:bw a4.ctx 23 Zc.spec:=by
 refine bZ [(13,Fo.spec)] VB.1 ?_;intro(l:ac Rat) ⟨(cb:l≠[]),(hl:l.length<=1048576),(af:∀x,x∈l->ba _ x)⟩ H aK;have h0:0<l.length:=zbn.2 cb;refine ag 9 ?_;refine v0 9 (show¬(l.length:Int)<1 by omega) (I ?_);refine db (j:=0) l[0] (bE h0) ?_;refine I ?_;refine cw (L:=Nat×Rat) (fun(k,m)=>1<=k∧k<=l.length∧m∈l∧m=(l.take k).tail.foldl sc ((l.take k).headD 0)) (fun(k,m)=>⟨[.c 27 [.b false,.nl,.nl],.c 27 (cA m)],2,[(0,.aZ 3 Rat cA l),(1,GA),(4,.p 0 0),(5,.p 1 0),(6,.i .i64 (k:Int))]⟩) (fun x=>l.length-x.1) [0,1] (1,l[0]) ⟨zae _,h0,zas h0,by cases l with|nil=>simp at h0|cons x l=>rfl⟩ (by show l.length-1<bc+1;unfold bc;omega) bo ?_;rintro⟨k,m⟩ ⟨k0,hk,hm,av⟩;refine ag 17 ?_;by_cases aE:k<l.length
 ·have dz:=T8 (f:=sc) k0 aE;rw[<-av]at dz;refine v1 17 (show(k:Int)<(l.length:Int) by omega) (I ?_);refine dp l[k] (bE aE) ?_;refine I ?_;refine Tk Kc (l[k],m) ⟨af _ (zas aE),af _ hm⟩ ?_;refine ag 27 ?_;by_cases hc:m<l[k]
  ·rw[show sc m l[k]=l[k]from zab hc]at dz;refine ax 27 (.b true) rfl (jU (zad (Az.2 hc))) (I ?_);refine db l[k] (bE aE) ?_;refine ag 19 ?_;refine b3 19 ((k+1:Nat):Int) (I ?_);exact aU [0,1] (k+1,l[k]) ⟨by show l.length-(k+1)<l.length-k;omega,by omega,aE,zas aE,dz.symm⟩ bo
  ·rw[show sc m l[k]=m from zaa hc]at dz;refine ax 27 (.b false) rfl (jU (zai (fun h=>hc (Az.1 h)))) (ag 19 ?_);refine b3 19 ((k+1:Nat):Int) (I ?_);exact aU [0,1] (k+1,m) ⟨by show l.length-(k+1)<l.length-k;omega,by omega,aE,hm,dz.symm⟩ bo
 ·have jv:k=l.length:=by omega
  subst jv;rw[zaX]at av;refine v0 17 (show¬(l.length:Int)<(l.length:Int) by omega) (I ?_);exact aM rfl (.of (by rw[av];rfl))
def aY(n:Nat)(f:Nat->α):ac α:=(List.range n).map f
def eu(n:Nat)(f:Nat->α):(aY n f).length=n:=by unfold aY;simp
def di(f:Nat->α)(h:i<n):(aY n f)[i]? =some (f i):=by unfold aY;simp[h]
def py(f:Nat->α)(v:α):(aY n f).set i v=aY n (fun j=>if j=i then v else f j):=by
 apply zbA;intro j;unfold aY;rw[zbb];by_cases hj:i=j
 ·subst hj;simp;by_cases hn:i<n
  ·simp[hn]
  ·simp[hn]
 ·simp[hj];by_cases hn:j<n<;>simp[hn,Ne.symm hj]
def h5{f g:Nat->α}(h:∀i,i<n->f i=g i):aY n f=aY n g:=zdJ fun i aa=>h i (zcv.1 aa)
def Cl(n:Nat)(f:Nat->α):aY (n+1) f=aY n f++[f n]:=by unfold aY;rw[zew,zcg];rfl
def acT{f:Nat->α}{x:α}(h:x∈aY n f):∃i,i<n∧x=f i:=by
 unfold aY at h;obtain⟨i,aa,e⟩:=zbX.1 h;exact⟨i,zcv.1 aa,e.symm⟩
def QX(n:Nat)(a:α):List.replicate n a=aY n (fun _=>a):=by
 apply zbA;intro j;unfold aY;by_cases h:j<n<;>simp[h]
def dT(c:Nat->Rat)(n k:Nat):Rat:=if k=0 then c 0 else if k=n then c (n-1)else c k+(k:Rat)/(n:Rat)*(c (k-1)-c k)
def j0(h1:ba a x)(h2:ba b y):ba (a+b) (x*y):=by
 rw[Rat.mul_def'];exact vh (by rw[zcA];exact m2 h1.1 h2.1) (m2 h1.2 h2.2) (zbZ x.den_nz y.den_nz)
def IY(ha:a<18446744073709551616)(hb:b<18446744073709551616)(h0:0<b):ba 2 ((a:Rat)/(b:Rat)):=by
 have:=vh (k:=2) (n:=(a:Int)) (d:=b) (te (by omega)) (te hb) (by omega);rw[zcY]at this;exact this
def abD:bN where
 L:=Nat×(Nat->Rat)
 args:=fun(n,c)=>[.aZ 3 Rat cA (aY n c)]
 pre:=fun(n,c)=>1<=n∧n<=1048576∧∀i,i<n->ba 60000000 (c i)
 res:=fun(n,c)=>.aZ 3 Rat cA (aY (n+1) (dT c n))
def arc:bw a4.ctx 21 abD.spec:=by
 refine bZ [(70,abE.spec),(16,Fu.spec),(71,Fq.spec),(48,B7.spec)] Vq.1 ?_;intro⟨n,c⟩ ⟨(hn:1<=n),(hl:n<=1048576),(af:∀i,i<n->ba 60000000 (c i))⟩ H aK;refine ag 9 ?_;refine ax 9 (.i .i64 (n:Int)) rfl (by rw[eu]) (I ?_);refine db (j:=0) (c 0) (di c hn) ?_;refine ag 13 ?_;refine m7 (z:=3) 0 cA [c 0] ?_;refine I ?_;refine cw (L:=Nat×Bool) (fun(k,g)=>1<=k∧k<=n) (fun(k,g)=>⟨[.a 27 g 3 Rat cA (aY k (dT c n))],1,[(0,.aZ 3 Rat cA (aY n c)),(3,.i .i64 (n:Int)),(4,.aN 0 3 0 (aY k (dT c n)).length (aY k (dT c n)).length),(5,.i .i64 (k:Int))]⟩) (fun x=>n-x.1) [0] (1,false) ⟨zae _,hn⟩ (by show n-1<bc+1;unfold bc;omega) bo ?_;rintro⟨k,g⟩ ⟨k0,hk⟩;have hlen:=eu k (dT c n);have lA:=Cl k (dT c n);refine ag 16 ?_;by_cases aE:k<n
 ·have e:dT c n k=c k+(k:Rat)/(n:Rat)*(c (k-1)-c k):=by unfold dT;rw[zaa (by omega),zaa (by omega)]
  have hH:=af k aE;have fc:=af (k-1) (by omega);have BD:=q3 fc hH;have zh:=j0 (IY (a:=k) (b:=n) (by omega) (by omega) (by omega)) BD;refine v1 16 (show(k:Int)<(n:Int) by omega) (I ?_);refine aX ard (k,n) ⟨by show k<_;omega,by show n<_;omega,by show 0<n;omega⟩ (ag 33 ?_);refine ww 33 ((k-1:Nat):Int) ?_;refine I ?_;refine dp (c (k-1)) (di (n:=n) (i:=k-1) c (by omega)) ?_;refine I ?_;refine dp (c k) (di c aE) ?_;refine I ?_;refine bC Fv (c (k-1),c k) ⟨b2 fc,b2 hH⟩ (I ?_);refine bC xm ((k:Rat)/(n:Rat),c (k-1)-c k) ⟨b2 (IY (by omega) (by omega) (by omega)),b2 BD⟩ (I ?_);refine dp (c k) (di c aE) ?_;refine I ?_;refine bC B8 (c k,(k:Rat)/(n:Rat)*(c (k-1)-c k)) ⟨b2 hH,b2 zh⟩ (I ?_);cases g with
  |false=>
   refine agb (R:=cA) (k0:=0) (n:=(aY k (dT c n)).length) (c:=(aY k (dT c n)).length) (l:=aY k (dT c n)) [dT c n k] (aY (k+1) (dT c n)) (eR (R:=cA) [dT c n k] (by rw[e])) ?_ (by simp) (by simp) (by rw[zaX,lA]) (by first|(simp;done)|(simp;omega));refine ag 18 ?_;refine b3 18 ((k+1:Nat):Int) (I ?_);exact aU [3] (k+1,true) ⟨by show n-(k+1)<n-k;omega,by omega,aE⟩ bo
  |true=>
   refine aga (R:=cA) (k0:=0) (l:=aY k (dT c n)) [dT c n k] (aY (k+1) (dT c n)) (eR (R:=cA) [dT c n k] (by rw[e])) ?_ (by simp) lA.symm (by first|(simp;done)|(simp;omega));refine ag 18 ?_;refine b3 18 ((k+1:Nat):Int) (I ?_);exact aU [3] (k+1,true) ⟨by show n-(k+1)<n-k;omega,by omega,aE⟩ bo
 ·have jw:k=n:=by omega
  subst jw;have e:dT c k k=c (k-1):=by unfold dT;rw[zaa (by omega),zab rfl]
  refine v0 16 (show¬(k:Int)<(k:Int) by omega) (ag 48 ?_);refine b3 48 ((k-1:Nat):Int) (I ?_);refine db (c (k-1)) (di (n:=k) (i:=k-1) c (by omega)) ?_;refine I ?_;cases g with
  |false=>
   refine abw (R:=cA) (k0:=0) (n:=(aY k (dT c k)).length) (c:=(aY k (dT c k)).length) (l:=aY k (dT c k)) [dT c k k] (eR (R:=cA) [dT c k k] (by rw[e])) (aY (k+1) (dT c k)) ?_ (hl:=by rw[zaX,lA]) (hb:=by first|(simp;done)|(simp;omega));refine gq 52 ?_ (hn:=by rw[lA];first|(simp;done)|(simp;omega));refine I ?_;exact aM rfl (.refl _)
  |true=>
   refine lI (R:=cA) (l:=aY k (dT c k)) [dT c k k] (eR (R:=cA) [dT c k k] (by rw[e])) ?_ (hb:=by first|(simp;done)|(simp;omega));refine gq 52 ?_ (hn:=by simp);refine I ?_;exact aM rfl (.of (by show ae.aZ 3 Rat cA (_++_)=ae.aZ 3 Rat cA (aY (k+1) (dT c k));rw[lA]))
def SO(n k:Nat)(h:k<=n):(k+1)*b7 n (k+1)=(n-k)*b7 n k:=by
 cases n with
 |zero=>
  have:k=0:=by omega
  subst this;rfl
 |succ n=>
  rw[Aw];by_cases hk:k<=n
  ·have h1:=Aw n (n-k);rw[C1 (n+1) (n-k+1) k (by omega),C1 n (n-k) k (by omega)]at h1;rw[<-h1,show n+1-k=n-k+1 by omega]
  ·have:k=n+1:=by omega
   subst this;rw[Gt n (n+1) (by omega)];simp
def j4(w:Rat)(n k:Nat):Rat:=w^k/(b7 n k:Rat)
def QB(w:Rat)(n:Nat):j4 w n 0=1:=by
 unfold j4;rw[show b7 n 0=1 by cases n<;>rfl];simp
 grind
def arR(h:k<n):j4 w n (k+1)=j4 w n k*w*((k+1:Nat):Rat)/((n-k:Nat):Rat):=by
 have h1:=SO n k (by omega);have h2:((k+1:Nat):Rat)*(b7 n (k+1):Rat)=((n-k:Nat):Rat)*(b7 n k:Rat):=by exact_mod_cast h1
 have ab:=ss (xS n k (by omega));have aD:=ss (xS n (k+1) (by omega));have bg:=ss (show 0<n-k by omega);unfold j4;rw[zcq]
 grind
def mj(lo w:Rat)(n:Nat)(c:Nat->Rat)(i:Nat):Rat:=hV lo n c i (i+1)*j4 w n i
def sJ(lo w:Rat)(n:Nat)(c:Nat->Rat)(p:Nat):Rat:=bs (mj lo w n c) p p
def Ti(lo w:Rat)(c:Nat->Rat):sJ lo w 0 c 0=c 0:=by
 unfold sJ mj;rw[SF,qk (zae _),QB]
 grind
def qf(n:Nat):Nat->Nat
 |0=>1
 |m+1=>qf n m*b7 n m
theorem Jw(n:Nat):∀m,m<=n+1->0<qf n m
 |0,_=>by simp[qf]
 |m+1,h=>zaM (Jw n m (by omega)) (xS n m (by omega))
theorem LW(n k:Nat):∀m,k<m->b7 n k∣qf n m
 |0,h=>by omega
 |m+1,h=>by
  by_cases hk:k=m
  ·subst hk;exact zeg _ _
  ·exact zdw (LW n k m (by omega)) (zcZ _ _)
theorem Py(n:Nat):∀m,qf n m<=2^(n*m)
 |0=>by simp[qf]
 |m+1=>by
  rw[zaq,zbc,zal];exact zaS (Py n m) (xT n m)
def at4(hc:∀i,i<=n->Fr M A (c i))(hl:Fr q L lo)(gy:1<=L):∀(d p:Nat),p+d=n->∀j,Fr (M*q^d) (A*L^d*2^(d+j)) (hV lo n c p j):=by
 have e3:0<M:=(hc 0 (zac _)).1;have hq:0<q:=hl.1;intro d
 induction d with
 |zero=>
  intro p hp j;rw[qk (by omega)];have:=jV (B:=A*2^j) (zci _ (zat (by decide))) (hc p (by omega));simpa using this
 |succ d a1=>
  intro p hp j;have ml:0<M*q^(d+1):=zaM e3 (zat hq);have base:Fr (M*q^(d+1)) (A*L^(d+1)*2^(d+1)) (c p):=by
   refine jV ?_ (sU (zcZ _ _) ml (hc p (by omega)));rw[zan];exact zci _ (zaM (zat (by omega)) (zat (by decide)))
  induction j with
  |zero=>rw[Co];exact base
  |succ j anM=>
   rw[xu (by omega)];have h2:=uy hl (a1 (p+1) (by omega) (j+1));rw[show q*(M*q^d)=M*q^(d+1) by grind,show L*(A*L^d*2^(d+(j+1)))=A*L^(d+1)*2^(d+1+j) by grind]at h2;have ab:=Dw anM h2;rw[show A*L^(d+1)*2^(d+1+j)+A*L^(d+1)*2^(d+1+j)=A*L^(d+1)*2^(d+1+(j+1)) by grind]at ab;exact ab
def at3(hc:∀i,i<=n->Fr M A (c i))(hl:Fr q L lo)(gy:1<=L){j:Nat}(hp:p<=n)(hj:j<=n+1):Fr (M*q^n) (A*L^n*2^(2*n+1)) (hV lo n c p j):=by
 have e3:0<M:=(hc 0 (zac _)).1;have hq:0<q:=hl.1;have h:=at4 hc hl gy (n-p) p (by omega) j;refine jV ?_ (sU (Nat.mul_dvd_mul_left _ (zeh _ (by omega))) (zaM e3 (zat hq)) h);exact zaS (zaQ _ (zaI gy (by omega))) (zaI (by decide) (by omega))
def arQ{r W:Nat}(hw:Fr r W w)(fm:1<=W)(hk:k<=n):Fr (r^n*qf n (n+1)) (W^n) (j4 w n k):=by
 have h:=Uk (xS n k hk) (Hi hw k);exact jV (zaI fm hk) (sU (Nat.mul_dvd_mul (zeh _ hk) (LW n k (n+1) (by omega))) (zaM (zat hw.1) (Jw n (n+1) (zae _))) h)
theorem LH{M A:Nat}{g:Nat->Rat}{n:Nat}(aO:∀i,i<=n->Fr M A (g i)):∀r p,p<=n->Fr M (A*2^r) (bs g p r)
 |0,p,hp=>by simpa[bs]using aO p hp
 |r+1,0,hp=>by
  rw[SF];exact jV (zci _ (zat (by decide))) (aO 0 hp)
 |r+1,p+1,hp=>by
  have h1:=LH aO r (p+1) hp;have h2:=LH aO r p (by omega);have h:=Dw h1 h2;rw[show A*2^r+A*2^r=A*2^(r+1) by grind]at h;exact h
def Ow{x y:Nat}(h1:x<2^a)(h2:y<=2^b):x*y<2^(a+b):=by
 rw[zal];exact zaz (zaQ x h2) (zeJ h1 (zat (by decide)))
def aaz{x:Nat}(h:x<=2^a):x^n<=2^(a*n):=by
 rw[zbk];exact zco h n
structure jg(z a b:Nat)(M:Nat)(n:Nat)(c:Nat->Rat)(lo w:Rat)(q r:Nat):Prop where
 av:z<=8000
 hn:n<=16
 hc:∀i,i<=n->Fr M (2^b) (c i)
 e3:M<2^a
 fG:Fr q (2^z) lo
 hq:q<=2^z
 hw:Fr r (2^(z+1)) w
 aL:r<=2^(2*z)
def xY(M q r n:Nat):Nat:=M*q^n*(r^n*qf n (n+1))
def af8(M q r:Nat):xY M q r 0=M:=by unfold xY;simp[qf,b7]
def mC(h:a<=b):2^a<=2^b:=zaI (by decide) h
section
variable{z a b M n q r:Nat}{c:Nat->Rat}{lo w:Rat}
variable{j:Nat}
def jg.Rp(h:jg z a b M n c lo w q r):z*n<=8000*n:=zaD n h.av
def jg.jb(h:jg z a b M n c lo w q r):M*q^n<2^(a+8000*n):=zbL (Ow h.e3 (aaz h.hq)) (mC (by have:=h.Rp;omega))
def jg.lh(h:jg z a b M n c lo w q r):r^n*qf n (n+1)<=2^(16017*n):=by
 have h1:=zaS (aaz (n:=n) h.aL) (Py n (n+1));rw[<-zal]at h1;refine zag h1 (mC ?_);have h2:n*(n+1)<=n*17:=zaQ n (by have:=h.hn;omega);have ab:=h.Rp;rw[zan];omega
def jg.m0(h:jg z a b M n c lo w q r):xY M q r n<2^(a+25000*n):=zbL (Ow h.jb h.lh) (mC (by omega))
def jg.cQ(h:jg z a b M n c lo w q r)(hp:p<=n)(hj:j<=n+1):Fr (M*q^n) (2^(b+8002*n+1)) (hV lo n c p j):=by
 have h1:=at3 h.hc h.fG (zei) hp hj;rw[<-zbk,<-zal,<-zal]at h1;exact jV (mC (by have:=h.Rp;omega)) h1
theorem jg.j4(h:jg z a b M n c lo w q r){k:Nat}(hk:k<=n):Fr (r^n*qf n (n+1)) (2^(8001*n)) (j4 w n k):=by
 have h1:=arQ h.hw (zei) hk;rw[<-zbk]at h1;exact jV (mC (zaD n (by have:=h.av;omega))) h1
theorem jg.mj(h:jg z a b M n c lo w q r){k:Nat}(hk:k<=n):Fr (xY M q r n) (2^(b+16003*n+1)) (mj lo w n c k):=by
 have h1:=uy (h.cQ hk (j:=k+1) (by omega)) (h.j4 hk);rw[<-zal]at h1;exact jV (mC (by omega)) h1
def jg.bs(h:jg z a b M n c lo w q r)(hp:p<=n)(hk:k<=n):Fr (xY M q r n) (2^(b+16004*n+1)) (Go.ah.aW.bs (Go.ah.aW.mj lo w n c) p k):=by
 have h1:=LH (n:=n) (fun i aa=>h.mj aa) k p hp;rw[<-zal]at h1;exact jV (mC (by omega)) h1
def jg.AH(h:jg z a b M n c lo w q r)(hp:p<=n):Fr (xY M q r n) (2^(b+16100*n)) (sJ lo w n c p):=by
 by_cases h0:n=0
 ·subst h0;have:p=0:=by omega
  subst this;rw[Ti,af8];exact h.hc 0 (zae _)
 ·exact jV (mC (by omega)) (h.bs hp hp)
def jg.I6(h:jg z a b M n c lo w q r)(aL:a+b+50000*n<=31000000)(hp:p<=n)(hj:j<=n+1):ba 1000000 (hV lo n c p j):=qG (h.cQ hp hj) h.jb (zae _) (by have:=h.hn;omega)
def jg.Zx(h:jg z a b M n c lo w q r)(hk:k<=n):ba 50000 (Go.ah.aW.j4 w n k):=qG (h.j4 hk) (a:=16017*n+1) (zaz h.lh (zeU (by decide) (by omega))) (zae _) (by have:=h.hn;omega)
def jg.ao2(h:jg z a b M n c lo w q r)(aL:a+b+50000*n<=31000000)(hk:k<=n):ba 1000000 (Go.ah.aW.mj lo w n c k):=qG (h.mj hk) h.m0 (zae _) (by have:=h.hn;omega)
def jg.aoU(h:jg z a b M n c lo w q r)(aL:a+b+50000*n<=31000000)(hp:p<=n)(hk:k<=n):ba 1000000 (Go.ah.aW.bs (Go.ah.aW.mj lo w n c) p k):=qG (h.bs hp hk) h.m0 (zae _) (by have:=h.hn;omega)
end
def FI{f:Nat->α}{y:α}(h:(aY n f)[i]? =some y):i<n∧y=f i:=by
 have aa:=(zaf.1 h).1;rw[eu]at aa;rw[di f aa]at h;exact⟨aa,(Option.some.inj h).symm⟩
def abL:ik [.b false,.nl,.nl] (cA 0):=⟨.refl _,bV.nl.trans (.of (by show c6 []=c6 (aT _ 0);rw[fL])),bV.se,trivial⟩
def k7(f:Nat->Rat)(b:Rat)(j:Nat):Rat:=if 0<j then f (j-1)*b else 0
def fw(f:Nat->Rat)(a b:Rat)(i j:Nat):Rat:=if j<i then k7 f b j+f j*a else if j=i then k7 f b j else 0
def YE:bN where
 L:=Nat×(Nat->Rat)×Rat×Rat
 args:=fun(n,f,a,b)=>[.aZ 3 Rat cA (aY n f),c8 a,c8 b]
 pre:=fun(n,f,a,b)=>n<=1048576∧(∀i,i<n->ba 60000000 (f i))∧ba 1000 a∧ba 1000 b
 res:=fun(n,f,a,b)=>.aZ 3 Rat cA (aY (n+1) (fw f a b n))
def YF:bw a4.ctx 77 YE.spec:=by
 refine bZ [(71,Fq.spec),(48,B7.spec)] Wv.1 ?_;intro⟨n,f,a,b⟩ ⟨(hn:n<=1048576),(U:∀i,i<n->ba _ (f i)),(ha:ba 1000 a),(hb:ba 1000 b)⟩ H aK;have zi:∀i,i<=n->ba 60001000 (k7 f b i):=fun i aa=>by
  unfold k7;split
  ·exact j0 (U _ (by omega)) hb
  ·exact b2 (lF 0 (by decide) (by decide))
 refine ag 11 ?_;refine ax 11 (.i .i64 (n:Int)) rfl (by rw[eu]) (ag 12 ?_);refine b3 12 ((n+1:Nat):Int) (I ?_);refine lj (fun _:Unit=>[.b false,.nl,.nl]) () ?_;refine Fm 2 cA (aY (n+1) (fw f a b 0)) ?_ (by rw[eu,zav]) (fun i x y _ ay=>by
  rw[(FI ay).2];have:fw f a b 0 i=0:=by unfold fw k7;split<;>(try split)<;>(try split)<;>first|rfl|omega
  rw[this];exact abL) (hk:=rfl)
 refine ag 15 ?_;refine ax 15 (.i .i64 (n:Int)) rfl (by rw[eu]) (I ?_);refine cw (L:=Nat) (fun i=>i<=n) (fun i=>⟨[.c 27 (cA a),.c 27 (cA b),.a 27 false 3 Rat cA (aY (n+1) (fw f a b i))],3,[(4,.p 0 0),(5,.p 1 0),(7,.aN 2 3 0 (n+1) (n+1)),(14,.aZ 3 Rat cA (aY n f)),(15,.i .i64 (n:Int)),(16,.i .i64 (i:Int))]⟩) (fun i=>n-i) [0,1,2] 0 (zac _) (by show n-0<bc+1;unfold bc;omega) bo ?_;rintro(i:Nat) (aa:i<=n);refine ag 17 ?_;by_cases aE:i<n
 ·have aq:fw f a b i i=k7 f b i:=by unfold fw;rw[zaa (by omega),zab rfl]
  have x8:k7 f b i+f i*a=fw f a b (i+1) i:=by unfold fw;rw[zab (by omega)]
  have kC:f i*b=fw f a b (i+1) (i+1):=by unfold fw;rw[zaa (by omega),zab rfl];unfold k7;rw[zab (by omega),zeX]
  have hH:=j0 (U i aE) ha;have h2:((aY (n+1) (fw f a b i)).set i (fw f a b i i+f i*a))[i+1]? =some (fw f a b i (i+1)):=by rw[py,di _ (by omega),zaa (by omega)]
  refine v1 17 (show(i:Int)<(n:Int) by omega) (I ?_);refine db (f i) (di f aE) ?_;refine I ?_;refine bC xm (f i,a) ⟨b2 (U i aE),b2 ha⟩ (I ?_);refine gl ?_;refine I ?_;refine rJ (fw f a b i i) (di (n:=n+1) (i:=i) _ (by omega)) ?_;refine I ?_;refine bC B8 (fw f a b i i,f i*a) ⟨by rw[aq];exact b2 (zi i aa),b2 hH⟩ (I ?_);refine bC xm (f i,b) ⟨b2 (U i aE),b2 hb⟩ (I ?_);refine gl ?_;refine I ?_;refine sK (a:=c8 (fw f a b i i+f i*a)) (fw f a b i i+f i*a) (di (n:=n+1) (i:=i) (fw f a b i) (by omega)) ?_;refine ag 25 ?_;refine ww 25 ((i+1:Nat):Int) ?_;refine I ?_;refine gl ?_;refine I ?_;refine sK (a:=c8 (f i*b)) (f i*b) (w:=fw f a b i (i+1)) h2 ?_;refine ag 39 ?_;refine b3 39 ((i+1:Nat):Int) (I ?_);have ew:((aY (n+1) (fw f a b i)).set i (fw f a b i i+f i*a)).set (i+1) (f i*b)=aY (n+1) (fw f a b (i+1)):=by
   rw[aq,x8,kC,py,py];refine h5 fun j hj=> ?_;by_cases h1:j=i+1
   ·subst h1;rw[zab rfl]
   ·rw[zaa h1];by_cases h2:j=i
    ·subst h2;rw[zab rfl]
    ·rw[zaa h2];unfold fw;by_cases ab:j<i
     ·rw[zab ab,zab (by omega)]
     ·rw[zaa ab,zaa h2,zaa (by omega),zaa h1]
  rw[ew];exact aU [0,1,2] (i+1) ⟨by show n-(i+1)<n-i;omega,aE⟩ bo
 ·have gA:i=n:=by omega
  subst gA;refine v0 17 (show¬(i:Int)<(i:Int) by omega) (ag 40 ?_);refine gq 40 ?_ (hn:=eu _ _);refine I ?_;exact aM rfl (.refl _)
theorem aaB(x:Rat):∀n:Nat,((x.num:Rat))^n=x^n*((x.den:Nat):Rat)^n
 |0=>by simp
 |n+1=>by
  have h1:=aaB x n;have h2:=IL x;rw[zcq,zcq,zcq,h1,<-h2]
  grind
theorem X5(a:Int):∀n:Nat,((a^n:Int):Rat)=(a:Rat)^n
 |0=>by simp
 |n+1=>by rw[Int.pow_succ,zcq,<-X5 a n];push_cast;rfl
theorem OI(a:Nat):∀n:Nat,((a^n:Nat):Rat)=(a:Rat)^n
 |0=>by simp
 |n+1=>by rw[zak,zcq,<-OI a n];push_cast;rfl
def aaA(x:Rat)(n:Nat):mkRat (x.num^n) (x.den^n)=x^n:=by
 rw[zcY,X5,OI,aaB];have h:((x.den:Nat):Rat)^n≠0:=by
  rw[<-OI];exact ss (zat (zaG x.den_nz))
 generalize((x.den:Nat):Rat)^n=d at *
 grind
theorem ab5(a:Int):∀n:Nat,a^n=ch (decide (a<0)&&decide (n%2=1)) (a.natAbs^n)
 |0=>by simp[ch]
 |n+1=>by
  have h:(decide (a<0)&&decide ((n+1)%2=1))=((decide (a<0)&&decide (n%2=1)) != decide (a<0)):=by
   rcases zdB n with h|h
   ·rw[zad (show(n+1)%2=1 by omega),zai (show¬n%2=1 by omega)];cases decide (a<0)<;>rfl
   ·rw[zai (show¬(n+1)%2=1 by omega),zad h];cases decide (a<0)<;>rfl
  have af:a=ch (decide (a<0)) a.natAbs:=by
   unfold ch;by_cases h:a<0
   ·rw[zad h,zab rfl];omega
   ·rw[zai h,zaa (by decide)];omega
  rw[Int.pow_succ,h,zak,QE,<-ab5 a n,<-af]
theorem Ew{a k:Nat}(h:dE k a):∀n,dE (k*n+1) (a^n)
 |0=>by rw[zcU,zcm];exact y5 (by decide)
 |n+1=>by
  have:=m2 (Ew h n) h;rw[zak];exact dD this (by rw[Nat.mul_succ];omega)
def EI(h:ba k x):ba (k*n+1) (x^n):=by
 rw[<-aaA];exact vh (by rw[Int.natAbs_pow];exact Ew h.1 n) (Ew h.2 n) (zej (zat (zaG x.den_nz)))
def aay:bN where
 L:=Rat×Nat
 args:=fun(x,n)=>[c8 x,.i .i64 (n:Int)]
 pre:=fun(x,n)=>ba 1000000 x∧n<=64
 res:=fun(x,n)=>.bM [c8 (x^n),.i .i64 0]
def ap6:bw a4.ctx 75 aay.spec:=by
 refine bZ [(116,zp.spec),(59,zg.spec),(60,xP.spec),(114,zd.spec)] Wt.1 ?_;intro⟨x,n⟩ ⟨(J:ba 1000000 x),(hn:n<=64)⟩ H aK;have r8:∀i,i<=n->dE 64000001 (x.num.natAbs^i):=fun i aa=>dD (Ew J.1 i) (by omega);have Bs:∀i,i<=n->dE 64000001 (x.den^i):=fun i aa=>dD (Ew J.2 i) (by omega);refine ag 11 ?_;refine v0 11 (show¬(n:Int)< -64 by omega) (ag 14 ?_);refine v0 14 (show¬(64:Int)<(n:Int) by omega) (ag 18 ?_);refine v0 18 (show¬(n:Int)<0 by omega) (I ?_);refine aX sg (1:Nat) (by show 1<_;decide) (I ?_);refine aX sg (1:Nat) (by show 1<_;decide) (I ?_);refine cw (L:=Nat) (fun i=>i<=n) (fun i=>⟨[.c 27 (cA x),.c 27 [.b false,.nl,.nl]],2,[(1,.i .i64 (n:Int)),(2,.p 0 0),(4,.p 1 0),(8,dm (x.num.natAbs^i)),(9,dm (x.den^i)),(37,.i .i64 (n:Int)),(38,.i .i64 (i:Int))]⟩) (fun i=>n-i) [0,1] 0 (zac _) (by show n-0<bc+1;unfold bc;omega) bo ?_;rintro(i:Nat) (aa:i<=n);refine ag 39 ?_;by_cases aE:i<n
 ·refine v1 39 (show(i:Int)<(n:Int) by omega) (I ?_);refine bC q2 (x.num.natAbs^i,x.num.natAbs) ⟨dD (r8 i aa),dD J.1⟩ (I ?_);refine bC qv x trivial (I ?_);refine bC q2 (x.den^i,x.den) ⟨dD (Bs i aa),dD J.2⟩ (ag 48 ?_);refine b3 48 ((i+1:Nat):Int) (I ?_);exact aU [0,1] (i+1) ⟨by show n-(i+1)<n-i;omega,aE⟩ bo
 ·have gA:i=n:=by omega
  subst gA;have e:∀b,b=(decide (x.num<0)&&decide (i%2=1))->c8 (mkRat (if b=true then -((x.num.natAbs^i:Nat):Int)else((x.num.natAbs^i:Nat):Int)) (x.den^i))=c8 (x^i):=fun b hb=>by
   rw[<-aaA,ab5,<-hb];cases b<;>rfl
  refine v0 39 (show¬(i:Int)<(i:Int) by omega) (ag 50 ?_);cases af:decide (x.num<0)with
  |false=>
   refine I ?_;refine aX sa (false,x.num.natAbs^i,x.den^i) ⟨dD (r8 i aa),dD (Bs i aa),zej (zat (zaG x.den_nz))⟩ ?_;refine ax 58 (c8 (x^i)) rfl (e false (by rw[af];rfl)) (I ?_);exact aM rfl (.refl _)
  |true=>
   refine ag 53 ?_;refine tF 53 ((i%2:Nat):Int) ?_ (h:=rfl);refine ag 54 ?_;by_cases ak:i%2=1
   ·refine v1 54 (show((i%2:Nat):Int)=1 by omega) (I ?_);refine aX sa (true,x.num.natAbs^i,x.den^i) ⟨dD (r8 i aa),dD (Bs i aa),zej (zat (zaG x.den_nz))⟩ ?_;refine ax 58 (c8 (x^i)) rfl (e true (by rw[af,zad ak];rfl)) (I ?_);exact aM rfl (.refl _)
   ·refine v0 54 (show¬((i%2:Nat):Int)=1 by omega) (I ?_);refine aX sa (false,x.num.natAbs^i,x.den^i) ⟨dD (r8 i aa),dD (Bs i aa),zej (zat (zaG x.den_nz))⟩ ?_;refine ax 58 (c8 (x^i)) rfl (e false (by rw[af,zai ak];rfl)) (I ?_);exact aM rfl (.refl _)
set_option maxHeartbeats 8000000
variable{st:Nat}{g:Nat->Rat}{fr t r:Nat}
def Yn(dz:0<st)(oz:fr/st%(n+1)=0)(hk:k<=n):(fr+k*st)/st%(n+1)=k:=by
 rw[Nat.add_mul_div_right _ _ dz,zee,oz,zaP,Nat.mod_mod,zbU (by omega)]
def Yo:p/st%(n+1)<=n:=zey (zaj _ (zcO n))
def an2:p/st%(n+1)*st<=p:=zag (zaD _ (Nat.mod_le _ _)) (zdX _ _)
def hS(st n fr:Nat)(f g:Nat->Rat)(p:Nat):Rat:=if fr+p/st%(n+1)*st=p then g (p/st%(n+1))else f p
def ZJ{f:Nat->Rat}(dz:0<st)(oz:fr/st%(n+1)=0)(hk:k<=n):hS st n fr f g (fr+k*st)=g k:=by
 unfold hS;rw[Yn dz oz hk,zab rfl]
def Pc{f:Nat->Rat}{v:Rat}(dz:0<st)(oz:fr/st%(n+1)=0)(hk:k<=n)(p:Nat):(if p=fr+k*st then v else hS st n fr f g p)=hS st n fr f (fun i=>if i=k then v else g i) p:=by
 by_cases h:p=fr+k*st
 ·rw[zab h,h,ZJ dz oz hk,zab rfl]
 ·rw[zaa h];unfold hS;split
  ·rename_i h2;show g _=if _ then v else g _;rw[zaa];intro ab;rw[ab]at h2;exact h h2.symm
  ·rfl
def apA{f:Nat->Rat}(p:Nat):hS st n fr f (fun k=>f (fr+k*st)) p=f p:=by
 unfold hS;split
 ·rename_i h;exact congrArg f h
 ·rfl
def vm{f h:Nat->Rat}(aO:∀k,k<=n->g k=h k)(p:Nat):hS st n fr f g p=hS st n fr f h p:=by
 unfold hS;split
 ·exact aO _ Yo
 ·rfl
def qE(st n:Nat)(lo w:Rat)(f:Nat->Rat)(p:Nat):Rat:=sJ lo w n (fun i=>f (p-p/st%(n+1)*st+i*st)) (p/st%(n+1))
def kU(st n:Nat)(lo w:Rat)(f:Nat->Rat)(t p:Nat):Rat:=if p-p/st%(n+1)*st<t then qE st n lo w f p else f p
def Ul(dz:0<st):(p-p/st%(n+1)*st)/st%(n+1)=0:=by
 have h1:p/st%(n+1)<=p/st:=Nat.mod_le _ _;have h2:(p-p/st%(n+1)*st)/st=p/st-p/st%(n+1):=by
  rw[zam];exact Nat.sub_mul_div _ _ _
 rw[h2];have:=zbr (p/st) (n+1);rw[show p/st-p/st%(n+1)=(n+1)*(p/st/(n+1)) by omega];exact Nat.mul_mod_right _ _
def agZ{f:Nat->Rat}(dz:0<st)(aF:t/st%(n+1)≠0)(p:Nat):kU st n lo w f (t+1) p=kU st n lo w f t p:=by
 unfold kU;have h:p-p/st%(n+1)*st≠t:=fun e=>aF (by rw[<-e];exact Ul dz);by_cases h1:p-p/st%(n+1)*st<t
 ·rw[zab (by omega),zab h1]
 ·rw[zaa (by omega),zaa h1]
def agY{f:Nat->Rat}(dz:0<st)(aF:t/st%(n+1)=0)(p:Nat):kU st n lo w f (t+1) p=hS st n t (kU st n lo w f t) (sJ lo w n (fun i=>f (t+i*st))) p:=by
 have hm:=an2 (st:=st) (n:=n) (p:=p);unfold hS;by_cases h:t+p/st%(n+1)*st=p
 ·rw[zab h];have e:p-p/st%(n+1)*st=t:=by omega
  unfold kU qE;rw[e,zab (by omega)]
 ·rw[zaa h];unfold kU;by_cases h1:p-p/st%(n+1)*st<t
  ·rw[zab (by omega),zab h1]
  ·rw[zaa (by omega),zaa h1]
def agX{f:Nat->Rat}(dz:0<st)(aF:t/st%(n+1)=0)(hk:k<=n):kU st n lo w f t (t+k*st)=f (t+k*st):=by
 unfold kU;rw[Yn dz aF hk,zeX,zaa (by omega)]
def Ih(dz:0<st)(aF:t/st%(n+1)=0)(hk:k<=n)(a8:t<B*((n+1)*st)):t+k*st<B*((n+1)*st):=by
 obtain⟨A,jW⟩:∃A,t/st=(n+1)*A:=zeP aF;have h1:=zbr t st;have h2:=zaj t dz;rw[jW]at h1;have ab:A<B:=by
  apply Nat.lt_of_not_le;intro h;have:=zaD ((n+1)*st) h;rw[show st*((n+1)*A)=A*((n+1)*st) by grind]at h1;omega
 have aD:=zaD ((n+1)*st) (show A+1<=B from ab);have bg:=zaD st hk;rw[show st*((n+1)*A)=A*((n+1)*st) by grind]at h1;rw[zah,zaw,zah n,zaw]at aD;rw[zah n,zaw]at h1⊢;omega
def hR(lo:Rat)(n:Nat)(c:Nat->Rat)(i m p:Nat):Rat:=hV lo n c p (min (if m<=p then i+1 else i) (p+1))
def aoo(lo:Rat)(n:Nat)(c:Nat->Rat)(p:Nat)(hp:p<=n):hR lo n c 0 n p=c p:=by
 unfold hR;split
 ·exact qk (by omega) _
 ·rw[Nat.zero_min];exact Co
def aor(aa:i<=k)(hk:k<n)(p:Nat):(if p=k then hR lo n c i (k+1) k+hR lo n c i (k+1) (k+1)*lo else hR lo n c i (k+1) p)=hR lo n c i k p:=by
 by_cases h:p=k
 ·subst h;rw[zab rfl];unfold hR;rw[zaa (by omega),zab (zae _),zab (zae _),zaC (by omega),zaC (by omega),zaC (by omega),xu hk]
  grind
 ·rw[zaa h];unfold hR;by_cases h1:k<=p
  ·rw[zab h1,zab (by omega)]
  ·rw[zaa h1,zaa (by omega)]
def aoq(aa:i<n)(p:Nat)(hp:p<=n):hR lo n c i i p=hR lo n c (i+1) n p:=by
 unfold hR;by_cases h:n<=p
 ·rw[qk h,qk h]
 ·rw[zaa h];by_cases h1:i<=p
  ·rw[zab h1]
  ·rw[zaa h1];congr 1;omega
def aop(lo:Rat)(n:Nat)(c:Nat->Rat)(p:Nat)(hp:p<=n):hR lo n c n n p=hV lo n c p (p+1):=by
 unfold hR;by_cases h:n<=p
 ·rw[qk h,qk h]
 ·rw[zaa h,zdh (by omega)]
def l3(lo w:Rat)(n:Nat)(c:Nat->Rat)(k p:Nat):Rat:=if p<k then mj lo w n c p else hV lo n c p (p+1)
def aos(lo w:Rat)(n:Nat)(c:Nat->Rat)(p:Nat):l3 lo w n c 1 p=hV lo n c p (p+1):=by
 unfold l3;split
 ·have:p=0:=by omega
  subst this;unfold mj;rw[QB];grind
 ·rfl
def aot(p:Nat):(if p=k then l3 lo w n c k k*j4 w n k else l3 lo w n c k p)=l3 lo w n c (k+1) p:=by
 unfold l3;by_cases h:p=k
 ·subst h;rw[zab rfl,zaa (by omega),zab (by omega)];rfl
 ·rw[zaa h];by_cases h1:p<k
  ·rw[zab h1,zab (by omega)]
  ·rw[zaa h1,zaa (by omega)]
def hY(g:Nat->Rat)(n r m p:Nat):Rat:=bs g p (r+p-n+if n-r<=p∧p<m then 1 else 0)
def aou(hp:p<=n):hY g n 0 n p=g p:=by
 unfold hY;rw[zaa (by omega),show 0+p-n+0=0 by omega];rfl
def aeU(g:Nat->Rat)(p r:Nat):bs g (p+1) (r+1)=bs g (p+1) r+bs g p r:=rfl
def aox{m:Nat}(aL:r<n)(h1:n-r<=m)(h2:m<=n)(p:Nat):(if p=m then hY g n r m m+hY g n r m (m-1)else hY g n r m p)=hY g n r (m+1) p:=by
 by_cases h:p=m
 ·subst h;rw[zab rfl];obtain⟨q,rfl⟩:∃q,p=q+1:=⟨p-1,by omega⟩;unfold hY;rw[zaa (show¬(n-r<=q+1∧q+1<q+1) by omega),zab (show n-r<=q+1∧q+1<q+1+1 by omega),zeX,aeU,zbh];congr 2;by_cases hq:n-r<=q
  ·rw[zab (by omega)];omega
  ·rw[zaa (by omega)];omega
 ·rw[zaa h];unfold hY;by_cases ab:n-r<=p∧p<m
  ·rw[zab ab,zab (by omega)]
  ·rw[zaa ab,zaa (by omega)]
def aow(aL:r<n)(hp:p<=n):hY g n r (n+1) p=hY g n (r+1) (n-(r+1)) p:=by
 unfold hY;rw[zaa (show¬(n-(r+1)<=p∧p<n-(r+1)) by omega)];congr 1;by_cases h:n-r<=p
 ·rw[zab (by omega)];omega
 ·rw[zaa (by omega)];omega
def aov(hp:p<=n):hY g n n 0 p=bs g p p:=by
 unfold hY;rw[zaa (by omega),show n+p-n+0=p by omega]
set_option maxHeartbeats 16000000
def vr(m:Nat):ac ae:=[.gp 3 3 m 0]
def lW(N st n:Nat)(b:ac c2)(j:Nat)(F:Nat->Rat)(more:ac bd):ac bd:=.c 49 [.aN 3 3 0 N N]:: .c 3 [.i .i64 (st:Int)]:: .c 3 [.i .i64 (n:Int)]:: .a 27 false 3 Rat cA (aY N F):: .c 117 [.aZ 6 c2 e9 b]:: .c 3 [.i .i64 (j:Int)]::more
structure KR where
 N:Nat
 B:Nat
 st:Nat
 n:Nat
 b:ac c2
 j:Nat
 v:c2
 f:Nat->Rat
 a:Nat
 nf:Nat
 M:Nat
 q:Nat
 r:Nat
 z:Nat
structure KS(l:KR):Prop where
 N:l.N=l.B*((l.n+1)*l.st)
 fq:l.N<=600
 st:0<l.st
 j:l.b[l.j]? =some l.v
 cf:l.b.length<=1048576
 n:l.n<=16
 f:∀p,p<l.N->Fr l.M (2^l.nf) (l.f p)
 M:l.M<2^l.a
 z:l.z<=8000
 lo:Fr l.q (2^l.z) l.v.1
 q:l.q<=2^l.z
 w:Fr l.r (2^(l.z+1)) (l.v.2-l.v.1)
 r:l.r<=2^(2*l.z)
 hH:ba 250 l.v.1
 fc:ba 250 l.v.2
 room:l.a+l.nf+50000*l.n<=31000000
variable{j:Nat}{d:Nat->Nat}
def KS.ct{l:KR}(h:KS l)(aF:t/l.st%(l.n+1)=0)(fq:t<l.N):jg l.z l.a l.nf l.M l.n (fun i=>l.f (t+i*l.st)) l.v.1 (l.v.2-l.v.1) l.q l.r:=
 ⟨h.z,h.n,fun i aa=>h.f _ (by rw[h.N]at fq ⊢;exact Ih h.st aF aa fq),h.M,h.lo,h.q,h.w,h.r⟩
def TJ:ka where
 L:=KR
 own:=fun l=>lW l.N l.st l.n l.b l.j l.f []
 args:=fun l=>[.fn (.func 50) [] [.p 4 0,.p 5 0],.p 0 0,.p 1 0,.p 2 0]
 pre:=KS
 bl:=fun l=>lW l.N l.st l.n l.b l.j (qE l.st l.n l.v.1 (l.v.2-l.v.1) l.f) []
 res:=fun _=>.bM []
def aol(N st n:Nat)(b:ac c2)(j:Nat)(F:Nat->Rat)(t k:Nat):ac Nat->cr
 |[]=>⟨lW N st n b j F [],6,[(0,.fn (.func 50) [] [.p 4 0,.p 5 0]),(1,.p 0 0),(2,.p 1 0),(3,.p 2 0),(8,.aN 3 3 0 N N),(9,.i .i64 (N:Int)),(10,.i .i64 (t:Int)),(5,.i .i64 (t:Int)),(6,.nl),(21,.i .i64 ((n+1:Nat):Int)),(22,.i .i64 (k:Int))]⟩
 |v::vs=>⟨lW N st n b j F [.a 127 true 1 Nat vr (v::vs)],7,[(0,.fn (.func 50) [] [.p 4 0,.p 5 0]),(1,.p 0 0),(2,.p 1 0),(3,.p 2 0),(8,.aN 3 3 0 N N),(9,.i .i64 (N:Int)),(10,.i .i64 (t:Int)),(5,.i .i64 (t:Int)),(6,.aN 6 1 0 (vs.length+1) (vs.length+1)),(21,.i .i64 ((n+1:Nat):Int)),(22,.i .i64 (k:Int))]⟩
def ag0:bw a4.ctx 49 TJ.spec:=by
 refine LN [(71,Fq.spec),(48,B7.spec),(63,Ij.spec),(122,adI.spec),(121,GW.spec)] Wb.1 ?_;intro⟨N,B,st,n,b,j,v,f,a,nf,M,q,r,z⟩ eZ H i0 aK hlen;obtain⟨b0,c3,eP,lq,vT,tV,rfl⟩:∃b0 c3 eP lq vT tV,i0=[b0,c3,eP,lq,vT,tV]:=by
  match i0,hlen with
  |[b0,c3,eP,lq,vT,tV],_=>exact⟨_,_,_,_,_,_,rfl⟩
 have fq:=eZ.N;have Xb:=eZ.fq;have dz:=eZ.st;have hj:=eZ.j;have hn:=eZ.n;have mn:=eZ.cf;simp only at fq Xb dz hj hn mn;have wv:j<b.length:=(zaf.1 hj).1;have XQ:(n+1)*st<=600∨N=0:=by
  rcases zcx B with h|h
  ·right;rw[fq,h,zaA]
  ·left;have:=zdP ((n+1)*st) h;omega
 obtain⟨w,hw⟩:∃w,w=v.2-v.1:=⟨_,rfl⟩;show aS.ok _ ⟨_,_,⟨lW N st n b j f [],6,[(0,.fn (.func 50) [] [.p 4 0,.p 5 0]),(1,.p 0 0),(2,.p 1 0),(3,.p 2 0)]⟩⟩;have a7:aY N f=aY N (kU st n v.1 w f 0):=h5 fun p _=>by unfold kU;rw[zaa (by omega)]
 have aq:aY N (kU st n v.1 w f N)=aY N (qE st n v.1 w f):=h5 fun p hp=>by unfold kU;rw[zab (by omega)]
 unfold lW;rw[a7];refine I ?_;refine cw (L:=Nat) (fun t=>t<=N) (fun t=>⟨lW N st n b j (kU st n v.1 w f t) [],6,[(0,.fn (.func 50) [] [.p 4 0,.p 5 0]),(1,.p 0 0),(2,.p 1 0),(3,.p 2 0),(8,.aN 3 3 0 N N),(9,.i .i64 (N:Int)),(10,.i .i64 (t:Int))]⟩) (fun t=>N-t) [0,1,2,3,4,5] 0 (zac _) (by show N-0<bc+1;unfold bc;omega) bo ?_;rintro(t:Nat) (aF:t<=N);refine ag 11 ?_;by_cases aE:t<N
 case neg=>
  have NP:t=N:=by omega
  subst NP;refine v0 11 (show¬(t:Int)<(t:Int) by omega) (I ?_);refine l9 ⟨.inl rfl,⟨_,rfl,rfl,.refl _⟩,[0,1,2,3,4,5],rfl,?_⟩;show Sub 6 [0,1,2,3,4,5] _ ⟨lW t st n b j (qE st n v.1 (v.2-v.1) f) [],6,[]⟩;rw[<-hw];unfold lW;rw[<-aq];exact bo
 have XQ:(n+1)*st<=600:=by omega
 have avJ:st<=600:=zag (zdP st (zcO n)) XQ;refine v1 11 (show(t:Int)<(N:Int) by omega) (I ?_);refine Mb ?_;refine ag 17 ?_;refine ww 17 ((n+1:Nat):Int) ?_;refine ag 18 ?_;refine auK 18 ((t/st%(n+1):Nat):Int) ?_ (h:=rfl);refine ag 19 ?_;by_cases h0:t/st%(n+1)=0
 case neg=>
  refine hJ 19 (show((t/st%(n+1):Nat):Int)≠0 by omega) (ag 39 ?_);refine b3 39 ((t+1:Nat):Int) ?_;have e2:aY N (kU st n v.1 w f t)=aY N (kU st n v.1 w f (t+1)):=h5 fun p _=>(agZ dz h0 p).symm;unfold lW;rw[e2];refine I ?_;exact aU [0,1,2,3,4,5] (t+1) ⟨by show N-(t+1)<N-t;omega,aE⟩ bo
 refine ij 19 (fc (show((t/st%(n+1):Nat):Int)=0 by omega)) (ag 21 ?_);refine b3 21 ((n+1:Nat):Int) (I ?_);refine cw (L:=Nat×ac Nat) (fun(k,vs)=>k<=n+1∧vs=aY k (fun k=>t+k*st)) (fun(k,vs)=>aol N st n b j (kU st n v.1 w f t) t k vs) (fun x=>n+1-x.1) [0,1,2,3,4,5] (0,[]) ⟨zac _,rfl⟩ (by show n+1-0<bc+1;unfold bc;omega) bo ?_;rintro⟨k,vs⟩ ⟨hk,jM⟩;have iz:vs.length=k:=by rw[jM,eu]
 by_cases jw:k<n+1
 ·have gA:t+k*st<N:=by rw[fq];exact Ih dz h0 (by omega) (by rw[<-fq];exact aE)
  have wz:k*st<=t+k*st:=Nat.le_add_left _ _;have lA:=Cl k (fun k=>t+k*st);rw[<-jM]at lA;rcases vs with _|⟨u,us⟩<;>(
   refine ag 23 ?_;refine v1 23 (show(k:Int)<((n+1:Nat):Int) by omega) (ag 30 ?_);refine b3 30 ((k*st:Nat):Int) ?_ (h:=by push_cast;rfl) (h1:=by rw[<-zaK];omega) (h2:=by rw[<-zaK];omega);refine ag 31 ?_;refine b3 31 ((t+k*st:Nat):Int) (I ?_);refine hU ?_;refine I ?_
   first|refine l8 vr [t+k*st] (eR (R:=vr) [t+k*st] rfl) ?_|(refine lI [t+k*st] (eR (R:=vr) [t+k*st] rfl) ?_ (hn:=by simp) (hb:=by simp at iz ⊢;omega);refine ax 34 (.aN 8 1 0 ((us++[t+k*st]).length+1) ((us++[t+k*st]).length+1)) rfl (by simp) ?_)
   refine ag 35 ?_;refine b3 35 ((k+1:Nat):Int) (I ?_)
   first|exact aU [0,1,2,3,4,5,7] (k+1,[t+k*st]) ⟨by show n+1-(k+1)<n+1-k;omega,jw,lA.symm⟩ bo|exact aU [0,1,2,3,4,5,8] (k+1,u::(us++[t+k*st])) ⟨by show n+1-(k+1)<n+1-k;omega,jw,lA.symm⟩ bo)
 have jw:k=n+1:=by omega
 subst jw;rcases vs with _|⟨u,us⟩
 ·simp at iz
 have Eh:us.length=n:=by simpa using iz
 have wB:∀i,i<=n->(u::us)[i]? =some (t+i*st):=fun i aa=>by rw[jM];exact di _ (by omega)
 have pX:∀i,i<=n->t+i*st<N:=fun i aa=>by rw[fq];exact Ih dz h0 aa (by rw[<-fq];exact aE)
 obtain⟨c,hc⟩:∃c,c=fun i=>f (t+i*st):=⟨_,rfl⟩;have gy:=eZ.ct (t:=t) h0 aE;simp only at gy;rw[<-hc,<-hw]at gy;have mX:=eZ.room;simp only at mX;have hH:=eZ.hH;have OH:=eZ.fc;simp only at hH OH;have q4:ba 501 w:=by rw[hw];exact q3 OH hH
 refine ag 23 ?_;refine v0 23 (show¬((n+1:Nat):Int)<((n+1:Nat):Int) by omega) (I ?_);refine aq0 Wc.1 (by kernel_rfl) ?_;intro H1 i1 s1 alY _;obtain⟨o1,fg,e1,mg,CZ,LL,LM,rfl⟩:∃o1 fg e1 mg CZ LL LM,i1=[o1,fg,e1,mg,CZ,LL,LM]:=by
  match i1,alY with
  |[o1,fg,e1,mg,CZ,LL,LM],_=>exact⟨_,_,_,_,_,_,_,rfl⟩
 refine I ?_;refine db v hj ?_;refine I ?_;refine xi Wd.1 (by kernel_rfl) ?_;intro F4 i2 s2 A7 _;obtain⟨d0,d1,d2,d3,d4,d5,d6,rfl⟩:∃d0 d1 d2 d3 d4 d5 d6,i2=[d0,d1,d2,d3,d4,d5,d6]:=by
  match i2,A7 with
  |[d0,d1,d2,d3,d4,d5,d6],_=>exact⟨_,_,_,_,_,_,_,rfl⟩
 refine ag 13 ?_;refine b3 13 (n:Int) ?_ (h:=by rw[Eh];omega);have arI:aY N (kU st n v.1 w f t)=aY N (hS st n t (kU st n v.1 w f t) (hR v.1 n c 0 n)):=h5 fun p _=>
  (apA (st:=st) (n:=n) (fr:=t) (f:=kU st n v.1 w f t) p).symm.trans (vm (fun k hk=>by rw[agX dz h0 hk,aoo _ _ _ _ hk,hc]) p)
 obtain⟨F,ar⟩:∃F,F=kU st n v.1 w f t:=⟨_,rfl⟩;rw[arI,<-ar];have kX:∀(g:Nat->Rat) (k:Nat),k<=n->(aY N (hS st n t F g))[t+k*st]? =some (g k):=fun g k hk=>by rw[di _ (pX k hk),ZJ dz h0 hk]
 have OJ:∀i m p,i<=n->p<=n->ba 1000000 (hR v.1 n c i m p):=fun i m p aa hp=>gy.I6 mX hp (by split<;>omega);refine I ?_;refine cw (L:=Nat) (fun i=>i<=n) (fun i=>⟨lW N st n b j (hS st n t F (hR v.1 n c i n)) [.a 127 true 1 Nat vr (u::us),.c 73 (e9 v)],8,[(0,.aN 6 1 0 (us.length+1) (us.length+1)),(3,.p 7 0),(4,.i .i64 (n:Int)),(14,.i .i64 (n:Int)),(15,.i .i64 (i:Int))]⟩) (fun i=>n-i) [0,1,2,3,4,5,6,7] 0 (zac _) (zaz (show n-0<=600 by omega) (by show 600<4611686018427387903;decide)) bo ?_;rintro(i:Nat) (aa:i<=n);refine ag 16 ?_;by_cases gA:i<n
 ·refine v1 16 (show(i:Int)<(n:Int) by omega) (ag 19 ?_);refine b3 19 ((n:Int)-1) (I ?_);refine cw (L:=Nat) (fun m=>i<=m∧m<=n) (fun m=>⟨lW N st n b j (hS st n t F (hR v.1 n c i m)) [.a 127 true 1 Nat vr (u::us),.c 73 (e9 v)],8,[(0,.aN 6 1 0 (us.length+1) (us.length+1)),(3,.p 7 0),(4,.i .i64 (n:Int)),(14,.i .i64 (n:Int)),(15,.i .i64 (i:Int)),(5,.i .i64 (i:Int)),(6,.i .i64 ((m:Int)-1))]⟩) (fun m=>m) [0,1,2,3,4,5,6,7] n ⟨aa,zae _⟩ (zaz (show n<=600 by omega) (by show 600<4611686018427387903;decide)) bo ?_;rintro(m:Nat) ⟨s3,HQ⟩;refine ag 22 ?_;by_cases hm:i<m
  ·obtain⟨k,rfl⟩:∃k,m=k+1:=⟨m-1,by omega⟩;have jw:k<n:=by omega
   refine v1 22 (show(i:Int)<=((k+1:Nat):Int)-1 by omega) ?_;refine tF 6 (k:Int) ?_ (h:=by omega);refine ag 37 ?_;refine ww 37 ((k+1:Nat):Int) ?_;refine I ?_;refine gl ?_ (hj:=by omega);refine I ?_;refine pM (t+(k+1)*st) (wB (k+1) (by omega)) ?_;refine I ?_;refine rJ (hR v.1 n c i (k+1) (k+1)) (kX (hR v.1 n c i (k+1)) (k+1) (by omega)) ?_;refine I ?_;refine bC xm (hR v.1 n c i (k+1) (k+1),v.1) ⟨b2 (OJ i (k+1) (k+1) aa (by omega)),b2 hH⟩ (I ?_);refine gl ?_ (hj:=by omega);refine I ?_;refine pM (t+k*st) (wB k (by omega)) ?_;refine I ?_;refine rJ (hR v.1 n c i (k+1) k) (kX (hR v.1 n c i (k+1)) k (by omega)) ?_;refine I ?_;refine bC B8 (hR v.1 n c i (k+1) k,hR v.1 n c i (k+1) (k+1)*v.1) ⟨b2 (OJ i (k+1) k aa (by omega)),b2 (j0 (OJ i (k+1) (k+1) aa (by omega)) hH)⟩ (I ?_);refine gl ?_ (hj:=by omega);refine I ?_;refine pM (t+k*st) (wB k (by omega)) ?_;refine I ?_;refine sK (hR v.1 n c i (k+1) k+hR v.1 n c i (k+1) (k+1)*v.1) (kX (hR v.1 n c i (k+1)) k (by omega)) ?_;refine ag 24 ?_;refine b3 24 ((k:Int)-1) ?_;have ew:(aY N (hS st n t F (hR v.1 n c i (k+1)))).set (t+k*st) (hR v.1 n c i (k+1) k+hR v.1 n c i (k+1) (k+1)*v.1)=aY N (hS st n t F (hR v.1 n c i k)):=by
    rw[py];exact h5 fun p _=>(Pc dz h0 (by omega) p).trans (vm (fun x J=>aor (by omega) jw x) p)
   rw[ew];refine I ?_;exact aU [0,1,2,3,4,5,6,7] k ⟨zbp k,by omega,by omega⟩ bo
  ·have Ns:m=i:=by omega
   subst Ns;refine v0 22 (show¬(m:Int)<=(m:Int)-1 by omega) (ag 47 ?_);refine b3 47 ((m+1:Nat):Int) ?_;have ew:aY N (hS st n t F (hR v.1 n c m m))=aY N (hS st n t F (hR v.1 n c (m+1) n)):=h5 fun p _=>vm (fun x J=>aoq gA x J) p;unfold lW;rw[ew];refine I ?_;exact aU [0,1,2,3,4,5,6,7] (m+1) ⟨by show n-(m+1)<n-m;omega,gA⟩ bo
 have gA:i=n:=by omega
 subst gA;refine v0 16 (show¬(i:Int)<(i:Int) by omega) (I ?_);refine aX s9 (1:Int) ⟨by decide,by decide⟩ ?_;refine ax 48 (c8 (j4 w i 0)) rfl (by rw[QB];rfl) ?_;have arJ:aY N (hS st i t F (hR v.1 i c i i))=aY N (hS st i t F (l3 v.1 w i c 1)):=h5 fun p _=>vm (fun x J=>by rw[aop _ _ _ _ J,aos]) p;unfold lW;rw[arJ];have zk:∀k p,p<=i->ba 1000000 (l3 v.1 w i c k p):=fun k p hp=>by unfold l3;split;exact gy.ao2 mX hp;exact gy.I6 mX hp (by omega)
 refine I ?_;refine cw (L:=Nat) (fun k=>k<=i) (fun k=>⟨lW N st i b j (hS st i t F (l3 v.1 w i c (k+1))) [.a 127 true 1 Nat vr (u::us),.c 73 (e9 v),.c 27 (cA (j4 w i k))],9,[(0,.aN 6 1 0 (us.length+1) (us.length+1)),(3,.p 7 0),(4,.i .i64 (i:Int)),(7,.p 8 0),(8,.i .i64 ((k+1:Nat):Int))]⟩) (fun k=>i-k) [0,1,2,3,4,5,6,7,8] 0 (zac _) (zaz (show i-0<=600 by omega) (by show 600<4611686018427387903;decide)) bo ?_;rintro(k:Nat) (hk:k<=i);refine ag 51 ?_;by_cases HK:k<i
 ·have Zy:=gy.Zx hk;have Zl:=j0 Zy q4;have se:ba 2 ((k+1:Nat):Rat):=by have:=ti (n:=((k+1:Nat):Int)) (by omega) (by omega);rw[mE]at this;exact this
  have apl:ba 2 ((i-k:Nat):Rat):=by have:=ti (n:=((i-k:Nat):Int)) (by omega) (by omega);rw[mE]at this;exact this
  have ao4:=j0 Zl se;have Ea:0<((i-k:Nat):Rat).num:=by
   have:=(KM ((i-k:Nat):Int)).1;rw[mE]at this;have h2:(((i-k:Nat):Int):Rat)=((i-k:Nat):Rat):=rfl;rw[h2]at this;omega
  refine v1 51 (show((k+1:Nat):Int)<=(i:Int) by omega) (I ?_);refine bC auL v ⟨hH,OH⟩ (I ?_);refine bC xm (j4 w i k,v.2-v.1) ⟨b2 Zy,by rw[<-hw];exact b2 q4⟩ (I ?_);refine bC s9 ((k+1:Nat):Int) ⟨by show -9223372036854775808<=((k+1:Nat):Int);omega,by show((k+1:Nat):Int)<9223372036854775808;omega⟩ (I ?_);refine bC xm (j4 w i k*(v.2-v.1),kO ((k+1:Nat):Int)) ⟨by rw[<-hw];exact b2 Zl,by rw[mE];exact b2 se⟩ (ag 63 ?_);refine ww 63 ((i:Int)-((k+1:Nat):Int)) ?_;refine ag 64 ?_;refine ww 64 ((i-k:Nat):Int) ?_;refine I ?_;refine bC s9 ((i-k:Nat):Int) ⟨by show -9223372036854775808<=((i-k:Nat):Int);omega,by show((i-k:Nat):Int)<9223372036854775808;omega⟩ ?_;refine bC aqK (j4 w i k*(v.2-v.1)*kO ((k+1:Nat):Int),kO ((i-k:Nat):Int)) ⟨by rw[<-hw,mE];exact b2 ao4,by rw[mE];exact b2 apl,by rw[mE];exact Ea⟩ ?_;refine ax 66 (c8 (j4 w i (k+1))) rfl (by show c8 (_/_)=_;rw[<-hw,mE,mE,arR HK];rfl) (I ?_);refine gl ?_ (hj:=by omega);refine I ?_;refine pM (t+(k+1)*st) (wB (k+1) (by omega)) ?_;refine I ?_;refine rJ (l3 v.1 w i c (k+1) (k+1)) (kX (l3 v.1 w i c (k+1)) (k+1) (by omega)) ?_;refine I ?_;refine bC xm (l3 v.1 w i c (k+1) (k+1),j4 w i (k+1)) ⟨b2 (zk (k+1) (k+1) (by omega)),b2 (gy.Zx (by omega))⟩ (I ?_);refine gl ?_ (hj:=by omega);refine I ?_;refine pM (t+(k+1)*st) (wB (k+1) (by omega)) ?_;refine I ?_;refine sK (l3 v.1 w i c (k+1) (k+1)*j4 w i (k+1)) (kX (l3 v.1 w i c (k+1)) (k+1) (by omega)) ?_;refine ag 53 ?_;refine b3 53 ((k+1+1:Nat):Int) ?_;have ew:(aY N (hS st i t F (l3 v.1 w i c (k+1)))).set (t+(k+1)*st) (l3 v.1 w i c (k+1) (k+1)*j4 w i (k+1))=aY N (hS st i t F (l3 v.1 w i c (k+1+1))):=by
   rw[py];exact h5 fun p _=>(Pc dz h0 (by omega) p).trans (vm (fun x J=>aot x) p)
  rw[ew];refine I ?_;exact aU [0,1,2,3,4,5,6,7,8] (k+1) ⟨by show i-(k+1)<i-k;omega,HK⟩ bo
 have HK:k=i:=by omega
 subst HK;refine v0 51 (show¬((k+1:Nat):Int)<=(k:Int) by omega) ?_;obtain⟨g,aO⟩:∃g,g=mj v.1 w k c:=⟨_,rfl⟩;have arK:aY N (hS st k t F (l3 v.1 w k c (k+1)))=aY N (hS st k t F (hY g k 0 k)):=h5 fun p _=>vm (fun x J=>by rw[aou J,aO];unfold l3;rw[zab (by omega)]) p;unfold lW;rw[arK];have Ze:∀r m p,r<k->p<=k->ba 1000000 (hY g k r m p):=fun r m p aL hp=>by rw[aO];exact gy.aoU mX hp (by split<;>omega)
 refine I ?_;refine cw (L:=Nat) (fun r=>r<=k) (fun r=>⟨lW N st k b j (hS st k t F (hY g k r (k-r))) [.a 127 true 1 Nat vr (u::us),.c 73 (e9 v),.c 27 (cA (j4 w k k))],9,[(0,.aN 6 1 0 (us.length+1) (us.length+1)),(3,.p 7 0),(4,.i .i64 (k:Int)),(9,.i .i64 ((k-r:Nat):Int))]⟩) (fun r=>k-r) [0,1,2,3,4,5,6,7,8] 0 (zac _) (zaz (show k-0<=600 by omega) (by show 600<4611686018427387903;decide)) bo ?_;rintro(r:Nat) (aL:r<=k);refine ag 82 ?_;by_cases yR:r<k
 ·refine v1 82 (show(0:Int)<((k-r:Nat):Int) by omega) (I ?_);refine cw (L:=Nat) (fun m=>k-r<=m∧m<=k+1) (fun m=>⟨lW N st k b j (hS st k t F (hY g k r m)) [.a 127 true 1 Nat vr (u::us),.c 73 (e9 v),.c 27 (cA (j4 w k k))],9,[(0,.aN 6 1 0 (us.length+1) (us.length+1)),(3,.p 7 0),(4,.i .i64 (k:Int)),(9,.i .i64 ((k-r:Nat):Int)),(10,.i .i64 (m:Int))]⟩) (fun m=>k+1-m) [0,1,2,3,4,5,6,7,8] (k-r) ⟨zae _,by omega⟩ (zaz (show k+1-(k-r)<=600 by omega) (by show 600<4611686018427387903;decide)) bo ?_;rintro(m:Nat) ⟨qN,yI⟩;refine ag 88 ?_;by_cases mU:m<=k
  ·refine v1 88 (show(m:Int)<=(k:Int) by omega) (I ?_);refine gl ?_ (hj:=by omega);refine I ?_;refine pM (t+m*st) (wB m mU) ?_;refine I ?_;refine rJ (hY g k r m m) (kX (hY g k r m) m (by omega)) ?_;refine ag 103 ?_;refine ww 103 ((m-1:Nat):Int) ?_;refine I ?_;refine gl ?_ (hj:=by omega);refine I ?_;refine pM (t+(m-1)*st) (wB (m-1) (by omega)) ?_;refine I ?_;refine rJ (hY g k r m (m-1)) (kX (hY g k r m) (m-1) (by omega)) ?_;refine I ?_;refine bC B8 (hY g k r m m,hY g k r m (m-1)) ⟨b2 (Ze r m m yR mU),b2 (Ze r m (m-1) yR (by omega))⟩ (I ?_);refine gl ?_ (hj:=by omega);refine I ?_;refine pM (t+m*st) (wB m mU) ?_;refine I ?_;refine sK (hY g k r m m+hY g k r m (m-1)) (kX (hY g k r m) m (by omega)) ?_;refine ag 90 ?_;refine b3 90 ((m+1:Nat):Int) ?_;have ew:(aY N (hS st k t F (hY g k r m))).set (t+m*st) (hY g k r m m+hY g k r m (m-1))=aY N (hS st k t F (hY g k r (m+1))):=by
    rw[py];exact h5 fun p _=>(Pc dz h0 mU p).trans (vm (fun x J=>aox yR qN mU x) p)
   rw[ew];refine I ?_;exact aU [0,1,2,3,4,5,6,7,8] (m+1) ⟨by show k+1-(m+1)<k+1-m;omega,by omega,by omega⟩ bo
  ·have mU:m=k+1:=by omega
   subst mU;refine v0 88 (show¬((k+1:Nat):Int)<=(k:Int) by omega) (ag 84 ?_);refine b3 84 ((k-(r+1):Nat):Int) ?_;have ew:aY N (hS st k t F (hY g k r (k+1)))=aY N (hS st k t F (hY g k (r+1) (k-(r+1)))):=h5 fun p _=>vm (fun x J=>aow yR J) p;unfold lW;rw[ew];refine I ?_;exact aU [0,1,2,3,4,5,6,7,8] (r+1) ⟨by show k-(r+1)<k-r;omega,yR⟩ bo
 have yR:r=k:=by omega
 subst yR;refine v0 82 (show¬(0:Int)<((r-r:Nat):Int) by omega) ?_;have ew:aY N (hS st r t F (hY g r r (r-r)))=aY N (kU st r v.1 w f (t+1)):=h5 fun p _=>by
  rw[agY dz h0,<-ar,<-hc];exact vm (fun x J=>by rw[zcL,aov J,aO];rfl) p
 unfold lW;rw[ew];refine I ?_;refine l9 ⟨.inl rfl,_,rfl,?_⟩;refine I ?_;refine l9 ⟨.inl rfl,_,rfl,?_⟩;refine ag 39 ?_;refine b3 39 ((t+1:Nat):Int) (I ?_);exact aU [0,1,2,3,4,5] (t+1) ⟨by show N-(t+1)<N-t;omega,aE⟩ bo
def eN(t:b5)(j:Nat):Nat:=((t.cp[j]?).getD 0).toNat
def cM(l:ac b5)(j:Nat):Nat:=l.foldl (fun m t=>max m (eN t j)) 0
def Tu(l:ac b5)(t:b5)(j:Nat):cM (l++[t]) j=max (cM l j) (eN t j):=by unfold cM;rw[zeW];rfl
theorem Ug{f:b5->Nat}:∀(l:ac b5) (a:Nat),a<=l.foldl (fun m t=>max m (f t)) a∧∀t,t∈l->f t<=l.foldl (fun m t=>max m (f t)) a
 |[],a=>⟨zae _,fun t h=>by cases h⟩
 |x::l,a=>by
  obtain⟨h1,h2⟩:=Ug l (max a (f x));refine⟨zag (zex _ _) h1,fun t aF=> ?_⟩;rcases zap.1 aF with rfl|aF
  ·exact zag (Nat.le_max_right _ _) h1
  ·exact h2 t aF
theorem Uf{f:b5->Nat}{B:Nat}:∀(l:ac b5) (a:Nat),a<=B->(∀t,t∈l->f t<=B)->l.foldl (fun m t=>max m (f t)) a<=B
 |[],a,h,_=>h
 |x::l,a,h,h2=>Uf l (max a (f x)) (Nat.max_le.2 ⟨h,h2 x zbF⟩) (fun t aF=>h2 t (zaB _ aF))
def GR{l:ac b5}{t:b5}(h:t∈l)(j:Nat):eN t j<=cM l j:=(Ug (f:=fun t=>eN t j) l 0).2 t h
theorem aaG:∀{l:ac Int} {m:Int},l6 m l=true->∀k∈l,0<=k∧k<=m
 |[],_,_,k,h=>by cases h
 |x::l,m,h,k,hk=>by
  rw[PL,zcr]at h;have h1:=zbB h.1;rcases zap.1 hk with rfl|hk
  ·exact h1
  ·have:=aaG h.2 k hk;omega
def E5{t:b5}(h:l6 16 t.cp=true)(hj:j<t.cp.length):t.cp[j]=(eN t j:Int)∧eN t j<=16:=by
 have:=aaG h _ (zas hj);unfold eN;rw[bE hj];show t.cp[j]=((t.cp[j]).toNat:Int)∧(t.cp[j]).toNat<=16;omega
def aqe{t:b5}(h:l6 16 t.cp=true)(j:Nat):eN t j<=16:=by
 by_cases hj:j<t.cp.length
 ·exact(E5 h hj).2
 ·unfold eN;rw[zbi (by omega)];exact zac _
def Da{l:ac b5}(h:∀t,t∈l->l6 16 t.cp=true)(j:Nat):cM l j<=16:=Uf (f:=fun t=>eN t j) l 0 (by decide) fun t aF=>aqe (h t aF) j
theorem adl{n:Nat}:∀{l:ac b5},pz n l=0->∀t,t∈l->ed t.dN=0∧l6 16 t.cp=true∧t.cp.length=n
 |[],_,t,h=>by cases h
 |x::l,h,t,aF=>by
  unfold pz at h;split at h
  ·rename_i h0;rcases zap.1 aF with rfl|aF
   ·unfold tB at h0;split at h0
    ·rename_i he;split at h0
     ·rename_i hp;exact⟨he,hp⟩
     ·cases h0
    ·rename_i he;exact absurd h0 he
   ·exact adl h t aF
  ·rename_i h0;exact absurd h h0
def FO{l:ac b5}(h:lK n l=0):l.length<=200∧∀t,t∈l->ed t.dN=0∧l6 16 t.cp=true∧t.cp.length=n:=by
 unfold lK at h;split at h
 ·cases h
 ·exact⟨by omega,adl h⟩
def ck(d:Nat->Nat):Nat->Nat
 |0=>1
 |k+1=>ck d k*(d k+1)
def en(d:Nat->Nat):Nat->Nat
 |0=>0
 |k+1=>en d k+d k
theorem FA(d:Nat->Nat):∀k,1+en d k<=ck d k
 |0=>zae _
 |k+1=>by
  have h:=FA d k;have:d k<=ck d k*d k:=zdP _ (by omega);simp only[ck,en];rw[zaq];omega
def Jx(d:Nat->Nat)(k:Nat):0<ck d k:=by have:=FA d k;omega
theorem Pz(d:Nat->Nat)(k:Nat):∀j,ck d k∣ck d (k+j)
 |0=>Nat.dvd_refl _
 |j+1=>zdw (Pz d k j) (zcZ _ _)
def PA(d:Nat->Nat)(h:k<=n):ck d k<=ck d n:=by
 obtain⟨j,rfl⟩:∃j,n=k+j:=⟨n-k,by omega⟩;exact Nat.le_of_dvd (Jx d _) (Pz d k j)
theorem Kk(d:Nat->Nat){k:Nat}:∀{n:Nat},k<=n->en d k<=en d n
 |0,h=>by have:k=0:=by omega
          subst this;exact zae _
 |n+1,h=>by
  by_cases hk:k=n+1
  ·subst hk;exact zae _
  ·have:=Kk d (k:=k) (n:=n) (by omega);simp only[en];omega
def k5(d p:Nat->Nat):Nat->Nat
 |0=>0
 |k+1=>k5 d p k*(d k+1)+p k
theorem Of{d p:Nat->Nat}:∀k,(∀j,j<k->p j<=d j)->k5 d p k<ck d k
 |0,_=>by simp[k5,ck]
 |k+1,h=>by
  have h1:=Of k (fun j hj=>h j (by omega));have h2:=h k (by omega);have ab:=zaD (d k+1) (show k5 d p k+1<=ck d k from h1);rw[zah,zaw]at ab;simp only[k5,ck];omega
def iu(l:ac b5)(d:Nat->Nat)(n:Nat):Nat->Nat->Rat
 |0,_=>0
 |k+1,p=>match l[k]? with
  |some t=>if p=k5 d (eN t) n then iu l d n k p+eE t.dN else iu l d n k p
  |none=>iu l d n k p
def LQ{l:ac b5}{t:b5}(h:l[k]? =some t)(p:Nat):iu l d n (k+1) p=if p=k5 d (eN t) n then iu l d n k p+eE t.dN else iu l d n k p:=by
 rw[iu,h]
def o4(b:ac c2)(d:Nat->Nat)(N:Nat)(f:Nat->Rat):Nat->Nat->Rat
 |0=>f
 |j+1=>qE (N/ck d (j+1)) (d j) ((b[j]?).getD (0,0)).1 (((b[j]?).getD (0,0)).2-((b[j]?).getD (0,0)).1) (o4 b d N f j)
def Yw(k:Nat):∃z,z<=32*k∧∀n,dE k n->n<2^z:=⟨32*k,zae _,fun n h=>by have:=u3 h;rwa [show(4294967296:Nat)=2^32 from rfl,<-zbk]at this⟩
def X9:∃z,z<=8000∧(∀n,dE 250 n->n<2^z)∧∀v:c2,ba 250 v.1->ba 250 v.2->∃q r,Fr q (2^z) v.1∧q<=2^z∧Fr r (2^(z+1)) (v.2-v.1)∧r<=2^(2*z):=by
 obtain⟨z,h1,h2⟩:=Yw 250;refine⟨z,h1,h2,fun v a b=> ?_⟩;have gU:=jV (zaL (h2 _ a.1)) (AW v.1);have c3:=jV (zaL (h2 _ b.1)) (AW v.2);have hM:=zaL (h2 _ a.2);have eP:=zaL (h2 _ b.2);refine⟨v.1.den,v.2.den*v.1.den,gU,hM,?_,?_⟩
 ·have hp:0<v.2.den*v.1.den:=zaM c3.1 gU.1;have:=ah8 (sU (zcZ _ _) hp c3) (sU (zeg _ _) hp gU);rw[show 2^z+2^z=2^(z+1) by rw[zak];omega]at this;exact this
 ·rw[Nat.two_mul,zal];exact zaS eP hM
def lU(l:ac b5):Nat->Nat
 |0=>1
 |k+1=>match l[k]? with
  |some t=>lU l k*(eE t.dN).den
  |none=>lU l k
theorem SN{z:Nat}(av:∀n,dE 250 n->n<2^z)(l:ac b5)(d:Nat->Nat)(n:Nat):∀k,lU l k<=2^(z*k)∧0<lU l k∧∀p,Fr (lU l k) (k*2^z) (iu l d n k p)
 |0=>⟨by simp[lU],by simp[lU],fun p=>by rw[iu,zaA];exact Hj (by simp[lU])⟩
 |k+1=>by
  obtain⟨h1,h2,ab⟩:=SN av l d n k;cases aO:l[k]? with
  |none=>
   have aq:lU l (k+1)=lU l k:=by rw[lU,aO]
   refine⟨by rw[aq];exact zag h1 (mC (zaQ z (zba k))),by rw[aq];exact h2,fun p=> ?_⟩;rw[aq,iu,aO];exact jV (zaD _ (zba k)) (ab p)
  |some t=>
   have hb:=wO t.dN;have aq:lU l (k+1)=lU l k*(eE t.dN).den:=by rw[lU,aO]
   have hp:0<lU l k*(eE t.dN).den:=zaM h2 (zaG (eE t.dN).den_nz);refine⟨?_,by rw[aq];exact hp,fun p=> ?_⟩
   ·rw[aq,Nat.mul_succ,zal];exact zaS h1 (zaL (av _ hb.2))
   ·rw[aq,LQ aO];have f1:=sU (zcZ _ (eE t.dN).den) hp (ab p);split
    ·have f2:=sU (zeg _ (lU l k)) hp (jV (zaL (av _ hb.1)) (AW (eE t.dN)));have:=Dw f1 f2;rw[show k*2^z+2^z=(k+1)*2^z by rw[zcJ]]at this;exact this
    ·exact jV (zaD _ (zba k)) f1
def SM{z:Nat}(av:∀n,dE 250 n->n<2^z){l:ac b5}(hl:l.length<=200)(d:Nat->Nat)(n:Nat)(hk:k<=l.length)(p:Nat):Fr (lU l k) (2^(z+8)) (iu l d n k p)∧lU l k<2^(z*200+1):=by
 obtain⟨h1,h2,ab⟩:=SN av l d n k;refine⟨jV ?_ (ab p),zaz h1 (zeU (by decide) (by have:=zaQ z (show k<=200 by omega);omega))⟩;rw[zal,zam];exact zaQ _ (by show k<=256;omega)
def acD(hj:j<n):ck d n=ck d j*((d j+1)*(ck d n/ck d (j+1)))∧0<ck d n/ck d (j+1):=by
 have h1:ck d (j+1)∣ck d n:=by
  obtain⟨i,rfl⟩:∃i,n=(j+1)+i:=⟨n-(j+1),by omega⟩;exact Pz d (j+1) i
 refine⟨?_,zcV (PA d (by omega)) (Jx d _)⟩;rw[<-zan];exact(Nat.mul_div_cancel' h1).symm
theorem L7{z:Nat}(av:z<=8000)(hD:∀v:c2,ba 250 v.1->ba 250 v.2->∃q r,Fr q (2^z) v.1∧q<=2^z∧Fr r (2^(z+1)) (v.2-v.1)∧r<=2^(2*z)){b:ac c2}(hb:∀v,v∈b->ba 250 v.1∧ba 250 v.2){d:Nat->Nat}{n:Nat}(ao:∀j,d j<=16){f:Nat->Rat}{a0 b0 CE:Nat}
 (U:∀p,p<ck d n->Fr CE (2^b0) (f p)) (e3:CE<2^a0):∀j,j<=n->∃M,M<2^(a0+25000*en d j)∧∀p,p<ck d n->Fr M (2^(b0+16100*en d j)) (o4 b d (ck d n) f j p)
 |0,_=>⟨CE,by simpa[en]using e3,fun p hp=>by simpa[en,o4]using U p hp⟩
 |j+1,hj=>by
  obtain⟨M,h1,h2⟩:=L7 av hD hb ao U e3 j (by omega);obtain⟨aq,e2⟩:=acD (d:=d) (n:=n) (j:=j) (by omega);obtain⟨v,aB⟩:∃v,v=(b[j]?).getD (0,0):=⟨_,rfl⟩;have XU:ba 250 v.1∧ba 250 v.2:=by
   rw[aB];cases aO:b[j]? with
   |none=>exact⟨b2 (lF 0 (by decide) (by decide)),b2 (lF 0 (by decide) (by decide))⟩
   |some u=>exact hb u (zau aO)
  obtain⟨q,r,aH,aI,bj,cn⟩:=hD v XU.1 XU.2;have key:∀p,p<ck d n->jg z (a0+25000*en d j) (b0+16100*en d j) M (d j) (fun i=>o4 b d (ck d n) f j (p-p/(ck d n/ck d (j+1))%(d j+1)*(ck d n/ck d (j+1))+i*(ck d n/ck d (j+1)))) v.1 (v.2-v.1) q r:=fun p hp=>
   ⟨av,ao j,fun i aa=>h2 _ (by
    have bg:p-p/(ck d n/ck d (j+1))%(d j+1)*(ck d n/ck d (j+1))<ck d j*((d j+1)*(ck d n/ck d (j+1))):=zaz (zca _ _) (by rw[<-aq];exact hp);have cv:=Ih e2 (Ul e2) aa bg;rw[<-aq]at cv;exact cv),h1,aH,aI,bj,cn⟩
  refine⟨xY M q r (d j),?_,fun p hp=> ?_⟩
  ·have:=(key 0 (Jx d n)).m0;refine zbL this (mC ?_);simp only[en];omega
  ·have:=(key p hp).AH (p:=p/(ck d n/ck d (j+1))%(d j+1)) Yo;show Fr _ _ (qE _ _ _ _ _ p);rw[<-aB];refine jV (mC ?_) this;simp only[en];omega
def rB(l:ac cI):Prop:=l.length<=1048576∧∀s,s∈l->s.1.length<=1048576∧s.2.length<=1048576
def hW(l:ac b5)(x:ac cI):Int:=if fJ x=0 then if lK x.length l=0 then if 600<ck (cM l) x.length then 3 else 0 else lK x.length l else fJ x
def kA(l:ac b5)(x:ac cI):ac Nat:=if hW l x=0 then aY x.length (cM l)else[]
def qw(l:ac b5)(x:ac cI):Nat->Rat:=o4 (iq x) (cM l) (ck (cM l) x.length) (iu l (cM l) x.length l.length) x.length
def xR(l:ac b5)(x:ac cI):ac Rat:=if hW l x=0 then aY (ck (cM l) x.length) (qw l x)else[]
def L5:bN where
 L:=ac b5×ac cI
 args:=fun(l,x)=>[.bb 2 b5 c5 l,.bb 2 cI gh x]
 pre:=fun(l,x)=>qo l∧rB x
 res:=fun(l,x)=>.bM [.aZ 1 Nat fo (kA l x),.aZ 3 Rat cA (xR l x),.i .i64 (hW l x)]
def ah4{z:Nat}{b:ae}{m:Nat}(h:m=n):wg k z m b [.aN k z 0 n n]=[b]:=by
 subst h;show(match Nat.beq k k&&(Nat.beq z z&&(Nat.beq 0 0&&(Nat.beq m m&&Nat.beq m m)))with|true=>b|false=>ae.aN k z 0 m m)::_=_;simp only[zaN];rfl
def LR{l:ac b5}{x:ac cI}{e:Int}(h:hW l x=e)(h0:e≠0):bV (.bM [.nl,.nl,.i .i64 e]) (L5.res (l,x)):=bV.trans (b:=.bM [.aZ 1 Nat fo [],.aZ 3 Rat cA [],.i .i64 e]) (.bM ⟨bV.nl,bV.nl,.refl _,trivial⟩) (.of (by show _=ae.bM [.aZ 1 Nat fo (kA l x),.aZ 3 Rat cA (xR l x),.i .i64 (hW l x)];unfold kA xR;rw[h,zaa h0,zaa h0]))
def O6(s:cI):ba 250 (ej s).1∧ba 250 (ej s).2:=by
 have z:ba 250 (0:Rat):=b2 (lF 0 (by decide) (by decide));unfold ej Br;split
 ·split
  ·split
   ·exact⟨z,z⟩
   ·exact⟨wO _,wO _⟩
  ·exact⟨z,z⟩
 ·exact⟨z,z⟩
def Gn{x:ac cI}:∀v,v∈iq x->ba 250 v.1∧ba 250 v.2:=fun v aB=>by
 unfold iq at aB;split at aB
 ·obtain⟨s,_,rfl⟩:=zbX.1 aB;exact O6 s
 ·cases aB
def LD{x:ac cI}(h:fJ x=0):(iq x).length=x.length:=by unfold iq;rw[zab h,zbu]
def mL(l:ac b5)(k j i:Nat):Nat:=if i<j then cM (l.take (k+1)) i else cM (l.take k) i
def afm:bw a4.ctx 11 L5.spec:=by
 refine bZ [(45,LF.spec),(46,zR.spec),(47,Cd.spec),(48,B7.spec),(49,TJ.spec)] Hn.1 ?_;intro⟨l,x⟩ ⟨⟨(hl:l.length<=1048576),(af:∀t,t∈l->t.dN.length<=1048576∧t.cp.length<=1048576)⟩,⟨(J:x.length<=1048576),(r2:∀s,s∈x->s.1.length<=1048576∧s.2.length<=1048576)⟩⟩ H aK;have ars:=As x;refine I ?_;refine aX aeR x ⟨J,r2⟩ (ag 32 ?_);by_cases hb:fJ x=0
 case neg=>
  have e:hW l x=fJ x:=zaa hb;refine v0 32 hb (ag 38 ?_);refine v1 38 hb (I ?_);exact aM rfl (LR e hb)
 refine v1 32 hb (I ?_);refine aX atP (l,x.length) ⟨⟨hl,af⟩,J⟩ (ag 38 ?_);by_cases aF:lK x.length l=0
 case neg=>
  have e:hW l x=lK x.length l:=(zab hb).trans (zaa aF);refine v1 38 aF (I ?_);exact aM rfl (LR e aF)
 refine v0 38 (fc aF) ?_;obtain⟨kE,ic⟩:=FO aF;obtain⟨n,hn⟩:∃n,n=x.length:=⟨_,rfl⟩;rw[<-hn]at ic J;have mn:=LD hb;rw[<-hn]at mn;obtain⟨b,uE⟩:∃b,b=iq x:=⟨_,rfl⟩;have DH:∀v,v∈b->ba 250 v.1∧ba 250 v.2:=fun v aB=>Gn v (by rw[<-uE];exact aB);rw[<-uE]at mn;have hQ:∀{k:Nat} (hk:k<l.length),l[k].cp.length=n∧l6 16 l[k].cp=true∧ed l[k].dN=0:=fun hk=>⟨(ic _ (zas hk)).2.2,(ic _ (zas hk)).2.1,(ic _ (zas hk)).1⟩;refine ag 41 ?_;refine ax 41 (.i .i64 (n:Int)) rfl (by rw[hn]) (I ?_);refine lj fo 0 ?_;have a7:List.replicate n 0=aY n (mL l 0 0):=by rw[QX];exact h5 fun i _=>by unfold mL cM;rw[zaa (by omega)];rfl
 rw[a7];refine I ?_;refine cw (L:=Nat) (fun k=>k<=l.length) (fun k=>⟨[.c 49 [.nl],.c 117 [.aZ 6 c2 e9 b],.a 3 false 1 Nat fo (aY n (mL l k 0))],3,[(0,.bb 2 b5 c5 l),(4,.aN 2 1 0 n n),(5,.p 0 0),(7,.p 1 0),(43,.bb 2 b5 c5 l),(44,.i .i64 (l.length:Int)),(45,.i .i64 (k:Int))]⟩) (fun k=>l.length-k) [0,1,2] 0 (zac _) (by show l.length-0<bc+1;unfold bc;omega) (by rw[uE];exact bo) ?_;rintro(k:Nat) (hk:k<=l.length);refine ag 46 ?_;by_cases aE:k<l.length
 ·have cb:l≠[]:=ne_of_lt aE;obtain⟨mV,pk,wD⟩:=hQ aE;obtain⟨t,pn⟩:∃t,t=l[k]:=⟨_,rfl⟩;rw[<-pn]at mV pk wD;have r1:l.take (k+1)=l.take k++[t]:=by rw[pn];exact(zdy aE).symm
  refine v1 46 (show(k:Int)<(l.length:Int) by omega) ?_;refine dS 43 (.aZ 2 b5 c5 l) rfl (.ga cb) ?_;refine I ?_;refine db t (by rw[pn];exact bE aE) ?_;refine ag 51 ?_;refine ax 51 (.i .i64 (n:Int)) rfl (by rw[mV]) (I ?_);refine cw (L:=Nat) (fun j=>j<=n) (fun j=>⟨[.c 49 [.nl],.c 117 [.aZ 6 c2 e9 b],.a 3 false 1 Nat fo (aY n (mL l k j)),.c 122 (c5 t)],4,[(0,.bb 2 b5 c5 l),(4,.aN 2 1 0 n n),(5,.p 0 0),(7,.p 1 0),(43,.aZ 2 b5 c5 l),(44,.i .i64 (l.length:Int)),(45,.i .i64 (k:Int)),(50,.bb 1 Int gv t.cp),(51,.i .i64 (n:Int)),(52,.i .i64 (j:Int))]⟩) (fun j=>n-j) [0,1,2,3] 0 (zac _) (by show n-0<bc+1;unfold bc;omega) bo ?_;rintro(j:Nat) (hj:j<=n);refine ag 53 ?_;by_cases kk:j<n
  ·have oA:j<t.cp.length:=by omega
   obtain⟨x9,Dk⟩:=E5 pk oA;refine v1 53 (show(j:Int)<(n:Int) by omega) ?_;refine dS 50 (.aZ 1 Int gv t.cp) rfl (.ga (ne_of_lt oA)) ?_;refine I ?_;refine db t.cp[j] (bE oA) ?_;refine I ?_;refine hU ?_;refine I ?_;refine sq (mL l k j j) (di (n:=n) (i:=j) (mL l k j) kk) ?_;refine ag 64 ?_;refine ax 64 (.i .i64 ((max (mL l k j j) (eN t j):Nat):Int)) rfl (by rw[x9];exact congrArg (ae.i .i64) (Tv _ _)) (I ?_);refine hU ?_;refine I ?_;refine iC (max (mL l k j j) (eN t j)) ?_ (hj:=by rw[eu];exact kk);have ew:(aY n (mL l k j)).set j (max (mL l k j j) (eN t j))=aY n (mL l k (j+1)):=by
    rw[py];refine h5 fun i aa=> ?_;by_cases ju:i=j
    ·subst ju;rw[zab rfl];unfold mL;rw[zaa (by omega),zab (by omega),r1,Tu]
    ·rw[zaa ju];unfold mL;by_cases h1:i<j
     ·rw[zab h1,zab (by omega)]
     ·rw[zaa h1,zaa (by omega)]
   rw[ew];refine dS 50 (.bb 1 Int gv t.cp) rfl .bb ?_;refine ag 66 ?_;refine b3 66 ((j+1:Nat):Int) (I ?_);exact aU [0,1,2,3] (j+1) ⟨by show n-(j+1)<n-j;omega,kk⟩ bo
  ·have kk:j=n:=by omega
   subst kk;refine v0 53 (show¬(j:Int)<(j:Int) by omega) (ag 67 ?_);refine b3 67 ((k+1:Nat):Int) ?_;have ew:aY j (mL l k j)=aY j (mL l (k+1) 0):=h5 fun i aa=>by unfold mL;rw[zab aa,zaa (by omega)]
   rw[ew];refine dS 43 (.bb 2 b5 c5 l) rfl .bb ?_;refine I ?_;exact aU [0,1,2] (k+1) ⟨by show l.length-(k+1)<l.length-k;omega,aE⟩ bo
 have jv:k=l.length:=by omega
 subst jv;refine v0 46 (show¬(l.length:Int)<(l.length:Int) by omega) ?_;obtain⟨d,ao⟩:∃d,d=cM l:=⟨_,rfl⟩;have aq:aY n (mL l l.length 0)=aY n d:=h5 fun i aa=>by unfold mL;rw[zaa (by omega),zaX,ao]
 have np:∀j,d j<=16:=fun j=>by rw[ao];exact Da (fun t aF=>(ic t aF).2.1) j
 rw[aq];refine I ?_;refine cw (L:=Nat) (fun k=>k<=n∧ck d k<=600) (fun k=>⟨[.c 49 [.nl],.c 117 [.aZ 6 c2 e9 b],.a 3 false 1 Nat fo (aY n d)],3,[(0,.bb 2 b5 c5 l),(4,.aN 2 1 0 n n),(5,.p 0 0),(7,.p 1 0),(12,.i .i64 (ck d k:Nat)),(68,.aN 2 1 0 n n),(69,.i .i64 (n:Int)),(70,.i .i64 (k:Int))]⟩) (fun k=>n-k) [0,1,2] 0 ⟨zac _,by simp[ck]⟩ (by show n-0<bc+1;unfold bc;omega) bo ?_;rintro(k:Nat) ⟨hk,HW⟩;refine ag 71 ?_;by_cases jw:k<n
 ·have HB:=np k;have akU:ck d k*(d k+1)<=600*17:=zaS HW (by omega);refine v1 71 (show(k:Int)<(n:Int) by omega) (I ?_);refine hU ?_;refine I ?_;refine sq (d k) (di (n:=n) (i:=k) d jw) ?_;refine ag 76 ?_;refine b3 76 ((d k+1:Nat):Int) (ag 77 ?_);refine b3 77 ((ck d (k+1):Nat):Int) ?_ (h:=by rw[<-zaK];rfl) (h1:=by rw[<-zaK];omega) (h2:=by rw[<-zaK];omega);refine ag 79 ?_;by_cases cv:600<ck d (k+1)
  ·have e:hW l x=3:=(zab hb).trans ((zab aF).trans (zab (by rw[<-hn,<-ao];exact zbL cv (PA d jw))));refine v1 79 (show(600:Int)<((ck d (k+1):Nat):Int) by omega) (I ?_);exact aM rfl (LR e (by decide))
  ·refine v0 79 (show¬(600:Int)<((ck d (k+1):Nat):Int) by omega) (ag 80 ?_);refine b3 80 ((k+1:Nat):Int) (I ?_);exact aU [0,1,2] (k+1) ⟨by show n-(k+1)<n-k;omega,jw,by omega⟩ bo
 have jw:k=n:=by omega
 subst jw;have dF:hW l x=0:=(zab hb).trans ((zab aF).trans (zaa (by rw[<-hn,<-ao];omega)));refine v0 71 (show¬(k:Int)<(k:Int) by omega) ?_;obtain⟨N,fq⟩:∃N,N=ck d k:=⟨_,rfl⟩;rw[<-fq]at HW⊢;refine I ?_;refine lj (fun _:Unit=>[.b false,.nl,.nl]) () ?_;refine Fm 3 cA (aY N (iu l d k 0)) ?_ (by rw[eu,zav]) (fun i x y _ ay=>by rw[(FI ay).2,iu];exact abL) (hk:=rfl);refine I ?_;have kD:∀{i:Nat} (aa:i<l.length),k5 d (eN l[i]) k<N:=fun aa=>by rw[fq];exact Of k (fun j _=>by rw[ao];exact GR (zas aa) j)
 obtain⟨z,H7,av,hD⟩:=X9;have yu:=fun i (aa:i<=l.length) p=>SM av kE d k aa p;have vi:∀i p,i<=l.length->ba 60001 (iu l d k i p):=fun i p aa=>qG (yu i aa p).1 (yu i aa p).2 (zae _) (by omega);refine cw (L:=Nat) (fun i=>i<=l.length) (fun i=>⟨[.c 49 [.aN 3 3 0 N N],.c 117 [.aZ 6 c2 e9 b],.a 3 false 1 Nat fo (aY k d),.a 27 false 3 Rat cA (aY N (iu l d k i))],4,[(4,.aN 2 1 0 k k),(5,.p 0 0),(7,.p 1 0),(12,.i .i64 (N:Nat)),(83,.bb 2 b5 c5 l),(84,.i .i64 (l.length:Int)),(85,.i .i64 (i:Int))]⟩) (fun i=>l.length-i) [0,1,2,3] 0 (zac _) (by show l.length-0<bc+1;unfold bc;omega) bo ?_;rintro(i:Nat) (aa:i<=l.length);refine ag 86 ?_;by_cases kY:i<l.length
 ·obtain⟨mV,pk,wD⟩:=hQ kY;have Ni:=kD kY;have ox:=(af _ (zas kY)).1;obtain⟨t,pn⟩:∃t,t=l[i]:=⟨_,rfl⟩;rw[<-pn]at mV pk wD Ni ox;have aO:l[i]? =some t:=by rw[pn];exact bE kY
  have amp:∀j,j<=k->k5 d (eN t) j<=600:=fun j hj=>by
   have h1:=Of (d:=d) (p:=eN t) j (fun a _=>by rw[ao];exact GR (zau aO) a);have h2:=PA d hj;omega
  refine v1 86 (show(i:Int)<(l.length:Int) by omega) ?_;refine dS 83 (.aZ 2 b5 c5 l) rfl (.ga (ne_of_lt kY)) ?_;refine I ?_;refine db t aO ?_;refine ag 91 ?_;refine ax 91 (.i .i64 (k:Int)) rfl (by rw[mV]) (I ?_);refine cw (L:=Nat) (fun j=>j<=k) (fun j=>⟨[.c 49 [.aN 3 3 0 N N],.c 117 [.aZ 6 c2 e9 b],.a 3 false 1 Nat fo (aY k d),.a 27 false 3 Rat cA (aY N (iu l d k i)),.c 122 (c5 t)],5,[(4,.aN 2 1 0 k k),(5,.p 0 0),(7,.p 1 0),(12,.i .i64 (N:Nat)),(83,.aZ 2 b5 c5 l),(84,.i .i64 (l.length:Int)),(85,.i .i64 (i:Int)),(16,.p 4 0),(17,.i .i64 ((k5 d (eN t) j:Nat):Int)),(90,.bb 1 Int gv t.cp),(91,.i .i64 (k:Int)),(92,.i .i64 (j:Int))]⟩) (fun j=>k-j) [0,1,2,3,4] 0 (zac _) (by show k-0<bc+1;unfold bc;omega) bo ?_;rintro(j:Nat) (hj:j<=k);refine ag 93 ?_;by_cases kk:j<k
  ·have oA:j<t.cp.length:=by omega
   obtain⟨x9,Dk⟩:=E5 pk oA;have ia:=np j;have ju:=amp j hj;have akU:k5 d (eN t) j*(d j+1)<=600*17:=zaS ju (by omega);refine v1 93 (show(j:Int)<(k:Int) by omega) ?_;refine dS 90 (.aZ 1 Int gv t.cp) rfl (.ga (ne_of_lt oA)) ?_;refine I ?_;refine db t.cp[j] (bE oA) ?_;refine ag 96 ?_;refine tF 96 ((eN t j:Nat):Int) ?_ (h:=x9);refine I ?_;refine hU ?_;refine I ?_;refine sq (d j) (di (n:=k) (i:=j) d kk) ?_;refine ag 102 ?_;refine b3 102 ((d j+1:Nat):Int) (ag 103 ?_);refine b3 103 ((k5 d (eN t) j*(d j+1):Nat):Int) ?_ (h:=by rw[<-zaK]) (h1:=by rw[<-zaK];omega) (h2:=by rw[<-zaK];omega);refine ag 105 ?_;refine b3 105 ((k5 d (eN t) (j+1):Nat):Int) ?_ (h:=by rw[<-zdg];rfl) (h1:=by rw[<-zdg];omega) (h2:=by rw[<-zdg];omega);refine dS 90 (.bb 1 Int gv t.cp) rfl .bb ?_;refine ag 106 ?_;refine b3 106 ((j+1:Nat):Int) (I ?_);exact aU [0,1,2,3,4] (j+1) ⟨by show k-(j+1)<k-j;omega,kk⟩ bo
  have kk:j=k:=by omega
  subst kk;refine v0 93 (show¬(j:Int)<(j:Int) by omega) (I ?_);refine aX Ke t.dN ox ?_;refine ax 110 (.bM [c8 (eE t.dN),.i .i64 0]) rfl (by show zx t.dN=_;unfold zx;rw[wD]) (I ?_);refine gl ?_;refine I ?_;refine rJ (iu l d j i (k5 d (eN t) j)) (di (n:=N) (iu l d j i) Ni) ?_;refine I ?_;refine bC B8 (iu l d j i (k5 d (eN t) j),eE t.dN) ⟨b2 (vi i _ aa),b2 (wO t.dN)⟩ (I ?_);refine gl ?_;refine I ?_;refine sK (a:=c8 (iu l d j i (k5 d (eN t) j)+eE t.dN)) (iu l d j i (k5 d (eN t) j)+eE t.dN) (di (n:=N) (iu l d j i) Ni) ?_;refine ag 122 ?_;refine b3 122 ((i+1:Nat):Int) ?_;have ew:(aY N (iu l d j i)).set (k5 d (eN t) j) (iu l d j i (k5 d (eN t) j)+eE t.dN)=aY N (iu l d j (i+1)):=by
   rw[py];refine h5 fun p _=> ?_;rw[LQ aO];by_cases hp:p=k5 d (eN t) j
   ·rw[zab hp,zab hp,hp]
   ·rw[zaa hp,zaa hp]
  rw[ew];refine dS 83 (.bb 2 b5 c5 l) rfl .bb ?_;refine I ?_;exact aU [0,1,2,3] (i+1) ⟨by show l.length-(i+1)<l.length-i;omega,kY⟩ bo
 have kY:i=l.length:=by omega
 subst kY;refine v0 86 (show¬(l.length:Int)<(l.length:Int) by omega) ?_;obtain⟨f0,nr⟩:∃f0,f0=iu l d k l.length:=⟨_,rfl⟩;have et:=L7 (z:=z) H7 hD DH (n:=k) np (f:=f0) (a0:=z*200+1) (b0:=z+8) (CE:=lU l l.length) (fun p _=>by rw[nr];exact(yu _ (zae _) p).1) (yu _ (zae _) 0).2;rw[<-fq]at et;have amH:=FA d k;rw[<-fq]at amH;rw[<-nr];have amL:N/ck d 0=N:=zbJ N;refine I ?_;refine cw (L:=Nat) (fun j=>j<=k) (fun j=>⟨[.c 49 [.aN 3 3 0 N N],.c 117 [.aZ 6 c2 e9 b],.a 3 false 1 Nat fo (aY k d),.a 27 false 3 Rat cA (aY N (o4 b d N f0 j)),.c 3 [.i .i64 ((N/ck d j:Nat):Int)]],5,[(4,.aN 2 1 0 k k),(5,.p 0 0),(7,.p 1 0),(22,.p 4 0),(124,.aN 2 1 0 k k),(125,.i .i64 (k:Int)),(126,.i .i64 (j:Int))]⟩) (fun j=>k-j) [0,1,2,3,4] 0 (zac _) (by show k-0<bc+1;unfold bc;omega) (by rw[amL];exact bo) ?_;rintro(j:Nat) (hj:j<=k);by_cases hE:j<k
 ·have ia:=np j;obtain⟨e2,bS⟩:=acD (d:=d) hE;rw[<-fq]at e2 bS;have hle:N/ck d j<=N:=zaH _ _;have ahx:N/ck d j/(d j+1)=N/ck d (j+1):=zbf _ _ _;have wv:j<b.length:=by rw[mn];exact hE
  obtain⟨M,ak8,ak9⟩:=et j hj;have jt:=DH _ (zas wv);obtain⟨q,r,eD,eU,fT,j2⟩:=hD b[j] jt.1 jt.2;have avH:en d j+d j<=599:=by have:=Kk d (show j+1<=k from hE);simp only[en]at this;omega
  refine ag 127 ?_;refine v1 127 (show(j:Int)<(k:Int) by omega) (I ?_);refine hU ?_;refine I ?_;refine sq (d j) (di (n:=k) (i:=j) d hE) ?_;refine ag 133 ?_;refine b3 133 ((d j+1:Nat):Int) (ag 134 ?_);have aB:((N/ck d j:Nat):Int).tdiv ((d j+1:Nat):Int)=((N/ck d (j+1):Nat):Int):=by rw[<-ahx];rfl
  have mu:N/ck d (j+1)<=600:=zag (zaH _ _) HW;refine b3 134 ((N/ck d (j+1):Nat):Int) ?_ (h:=aB) (h1:=by rw[aB];omega) (h2:=by rw[aB];omega);refine I ?_;refine aqS ag0 [0,4,6,3,1,5] ⟨N,ck d j,N/ck d (j+1),d j,b,j,b[j],o4 b d N f0 j,z*200+1+25000*en d j,z+8+16100*en d j,M,q,r,z⟩ ⟨e2,HW,bS,bE wv,by show b.length<=_;omega,ia,ak9,ak8,H7,eD,eU,fT,j2,jt.1,jt.2,by show z*200+1+25000*en d j+(z+8+16100*en d j)+50000*d j<=31000000;omega⟩ ?_ bo (aeF (bl:=[.c 49 [.aN 3 3 0 N N],.c 117 [.aZ 6 c2 e9 b],.a 3 false 1 Nat fo (aY k d),.a 27 false 3 Rat cA (aY N (o4 b d N f0 (j+1))),.c 3 [.i .i64 ((N/ck d (j+1):Nat):Int)],.c 3 [.i .i64 (j:Int)],.c 3 [.i .i64 (d j:Int)]]) (fun i aa hn=>by
   match i,aa,hn with
   |0,_,hn=>exact absurd (by simp) hn
   |1,_,hn=>exact absurd (by simp) hn
   |2,_,_=>rfl
   |3,_,hn=>exact absurd (by simp) hn
   |4,_,hn=>exact absurd (by simp) hn
   |5,_,hn=>exact absurd (by simp) hn
   |6,_,hn=>exact absurd (by simp) hn
   |i+7,aa,_=>exact absurd aa (by show¬i+7<7;omega)) (h2:=by
   have gK:o4 b d N f0 (j+1)=qE (N/ck d (j+1)) (d j) b[j].1 (b[j].2-b[j].1) (o4 b d N f0 j):=by rw[o4,bE wv];rfl
   rw[gK];exact⟨⟨_,rfl,rfl⟩,⟨_,rfl,rfl⟩,⟨_,rfl,rfl⟩,⟨_,rfl,rfl,fun _=>rfl⟩,⟨_,rfl,rfl⟩,⟨_,rfl,rfl⟩,trivial⟩))
  refine ag 139 ?_;refine b3 139 ((j+1:Nat):Int) (I ?_);exact aU [0,1,2,3,4] (j+1) ⟨by show k-(j+1)<k-j;omega,hE⟩ bo
 have hE:j=k:=by omega
 subst hE;refine J9 4 ?_ (hn:=eu _ _);refine ag 127 ?_;refine v0 127 (show¬(j:Int)<(j:Int) by omega) ?_;refine rh 0 3 (cs':=[.aZ 3 Rat cA (aY N (o4 b d N f0 j))]) ?_ (ha:=by exact ah4 (eu _ _));refine I ?_;exact aM rfl (.of (by show _=ae.bM [.aZ 1 Nat fo (kA l x),.aZ 3 Rat cA (xR l x),.i .i64 (hW l x)];unfold kA xR qw;rw[dF,zab rfl,zab rfl,<-hn,<-ao,<-uE,<-fq,<-nr]))
