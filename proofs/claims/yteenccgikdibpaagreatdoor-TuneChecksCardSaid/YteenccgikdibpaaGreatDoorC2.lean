/- What the functions of the program and of the document compute, for every input (part 2); conditions as in the statements. -/
import Derived.Test.YteenccgikdibpaaGreatDoorC1
import Derived.Test.YteenccgikdibpaaGreatDoorS1
import Derived.Test.YteenccgikdibpaaGreatDoorL
import Derived.Test.YteenccgikdibpaaGreatDoorS2
noncomputable section
set_option linter.all false
namespace Go.an.bh
open Go.an
set_option maxRecDepth 100000
set_option maxHeartbeats 4000000
def HO:bE where
 L:=Int×Int
 args:=fun(e,p)=>[pq e p]
 pre:=fun(e,p)=>True
 res:=fun(e,p)=>.i .i64 (if fD e p then 0 else 2)
theorem X0:bg aC.ctx 127 HO.spec:=by
 refine bR [] RP.1 ?_;intro⟨e,p⟩ _ H aJ;have bad:¬fD e p->b3 (.i .i64 2) (HO.res (e,p)):=fun h=>.of (by show _=af.i .i64 (if _ then _ else _);rw[if_neg h])
 repeat refine al 5 ?_
 by_cases h1:e<2
 ·refine dx 5 h1 ?_
  repeat refine I ?_
  exact aw rfl (bad (by unfold fD;omega))
 refine dL 5 h1 ?_
 repeat refine al 9 ?_
 by_cases h2:11<e
 ·refine dx 9 h2 ?_
  repeat refine I ?_
  exact aw rfl (bad (by unfold fD;omega))
 refine dL 9 h2 ?_
 repeat refine al 14 ?_
 by_cases h3:p<2
 ·refine dx 14 h3 ?_
  repeat refine I ?_
  exact aw rfl (bad (by unfold fD;omega))
 refine dL 14 h3 ?_
 repeat refine al 19 ?_
 by_cases ay:113<p
 ·refine dx 19 ay ?_
  repeat refine I ?_
  exact aw rfl (bad (by unfold fD;omega))
 refine dL 19 ay ?_
 repeat refine al 26 ?_
 refine az 26 (.i .i64 (e+p)) rfl (cO rfl (by omega) (by omega)) ?_
 repeat refine al 27 ?_
 by_cases aY:e+p<5
 ·refine dx 27 aY ?_
  repeat refine I ?_
  exact aw rfl (bad (by unfold fD;omega))
 refine dL 27 aY ?_
 repeat refine I ?_
 exact aw rfl (.of (by show _=af.i .i64 (if _ then _ else _);rw[if_pos (by unfold fD;omega)]))
def HN:bE where
 L:=Int×Int
 args:=fun(e,p)=>[pq e p]
 pre:=fun(e,p)=>fD e p
 res:=fun(e,p)=>.i .i64 (eV e)
theorem Nj:bg aC.ctx 390 HN.spec:=by
 refine bR [] Tv.1 ?_;intro⟨e,p⟩ ⟨h1,h2,h3,ay,aY⟩ H aJ;obtain⟨n,hn⟩:∃n:Nat,e=(n:Int)+1:=⟨(e-1).toNat,by omega⟩;subst hn;have HJ:∀i:Nat,i<=10->1<=2^i∧2^i<=1024:=fun i ae=>⟨Nat.two_pow_pos i,Nat.pow_le_pow_right (by decide) ae⟩
 repeat refine I ?_
 refine cG (L:=Nat) (fun i=>i<=n) (fun(i:Nat)=>⟨[.c 92 [.i .i64 ((n:Int)+1),.i .i64 p]],1,[(1,.p 0 0),(3,.i .i64 ((2^i:Nat):Int)),(4,.i .i64 ((i:Int)+1))]⟩) (fun i=>n-i) [0] 0 (Nat.zero_le _) (by show n-0<ba+1;unfold ba;omega) dP ?_;intro(i:Nat) ae;have hp:=HJ i (by omega)
 repeat refine I ?_
 refine cP (fun h=> ?_) (fun h=> ?_)
 ·repeat refine I ?_
  refine bc [0] (i+1) ⟨by show n-(i+1)<n-i;omega,by show i+1<=n;omega⟩ (e3 ⟨rfl,?_,?_,trivial⟩ ⟨_,rfl,rfl⟩)
  ·exact congrArg (fun n=>some (af.i .i64 n)) (tP (by rw[Nat.pow_succ];omega) (by omega) (by omega))
  ·exact congrArg (fun n=>some (af.i .i64 n)) (tP (by omega) (by omega) (by omega))
 ·have he:i=n:=by omega
  subst he
  repeat refine I ?_
  refine aw rfl (.of (congrArg (af.i .i64) (tP ?_ (by omega) (by omega))));unfold eV;rw[show((i:Int)+1-1).toNat=i by omega,Int.natCast_pow];rfl
theorem qU(n:Nat):dS (n+1) (2^n):=lr (by decide) (e4 (Nat.pow_lt_pow_right (by decide) (Nat.lt_succ_self n)) (Nat.pow_le_pow_left (by decide) (n+1)))
theorem c1{k l a:Nat}(h:dS k a)(hl:k<=l):dS l a:=Nat.le_trans h hl
def HV(k:Nat):bE where
 L:=Nat
 args:=fun n=>[.i .i64 n]
 pre:=fun n=>n<k∧n<=1000000000
 res:=fun n=>cX (2^n)
theorem HW:∀k:Nat,bg aC.ctx 408 (HV k).spec
 |0=>by
  refine bR [(134,vA.spec)] KT.1 ?_;intro(n:Nat) h H aJ;exact absurd h.1 (Nat.not_lt_zero _)
 |k+1=>by
  have a0:=HW k;refine bR [(134,vA.spec),(408,(HV k).spec),(229,xW.spec),(228,HL.spec)] KT.1 ?_;intro(n:Nat) ⟨(h1:n<k+1),(h2:n<=1000000000)⟩ H aJ
  repeat refine I ?_
  refine cP (fun h=> ?_) (fun h=> ?_)
  ·have h:n=0:=by omega
   subst h
   repeat refine I ?_
   refine aX tx () trivial ?_
   repeat refine I ?_
   exact aw rfl (.refl _)
  have h:n≠0:=by omega
  repeat refine al 9 ?_
  refine az 9 (.i .i64 ((n/2:Nat):Int)) rfl (by show af.i _ (IntKind.i64.wrap ((n/2:Nat):Int))=_;exact cO rfl (by omega) (by omega)) ?_;refine aX a0 (n/2) ⟨by show n/2<k;omega,by show n/2<=_;omega⟩ ?_
  repeat refine I ?_
  have hq:=qU (n/2);refine aX p2 (2^(n/2),2^(n/2)) ⟨c1 hq (by omega),c1 hq (by omega)⟩ ?_
  repeat refine al 15 ?_
  refine az 15 (.i .i64 ((n%2:Nat):Int)) rfl rfl ?_;have e:2^(n/2)*2^(n/2)=2^(n/2+n/2):=(Nat.pow_add 2 _ _).symm;have Gt:dS 1073741824 (2^(n/2)*2^(n/2)):=by rw[e];exact c1 (qU _) (by omega)
  repeat refine I ?_
  refine cP (fun h=> ?_) (fun h=> ?_)
  ·have h:n%2=1:=by omega
   repeat refine I ?_
   refine aX Ng (2^(n/2)*2^(n/2),2^(n/2)*2^(n/2)) ⟨Gt,Gt⟩ ?_
   repeat refine I ?_
   refine aw rfl (.of (congrArg cX ?_));show 2^(n/2)*2^(n/2)+2^(n/2)*2^(n/2)=2^n;rw[e,<-Nat.two_mul,<-Nat.pow_succ'];congr 1;omega
  ·have h:n%2=0:=by omega
   repeat refine I ?_
   refine aw rfl (.of (congrArg cX ?_));show 2^(n/2)*2^(n/2)=2^n;rw[e];congr 1;omega
def HK:bE where
 L:=Rat
 args:=fun x=>[dm x]
 pre:=fun _=>True
 res:=fun x=>dm (ih x)
theorem Nf:bg aC.ctx 352 HK.spec:=by
 refine bR [] Tg.1 ?_;intro(x:Rat) _ H aJ
 repeat refine I ?_
 refine aw rfl (.of ?_);show af.agg [.i _ (IntKind.i64.wrap (x.num.sign*x.num.sign)),cX x.num.natAbs,de (if x.num=0 then[]else a1 1000000000 x.den)]=af.agg [.i _ _,cX (ih x).num.natAbs,de (if(ih x).num=0 then[]else a1 1000000000 (ih x).den)];rw[(qi x).1,(qi x).2,Int.natAbs_natCast];have e:IntKind.i64.wrap (x.num.sign*x.num.sign)=((x.num.natAbs:Nat):Int).sign:=by
  rcases(show x.num<0∨x.num=0∨0<x.num by omega)with h|h|h
  ·rw[Int.sign_eq_neg_one_of_neg h,Int.sign_eq_one_of_pos (by omega)];rfl
  ·rw[h];rfl
  ·rw[Int.sign_eq_one_of_pos h,Int.sign_eq_one_of_pos (by omega)];rfl
 rw[e];by_cases h:x.num=0
 ·rw[h];rfl
 ·rw[if_neg h,if_neg (by omega)]
theorem J3{n k:Nat}:n<2^k↔bU n<=k:=⟨EY,fun h=>by
 by_cases h0:n=0
 ·subst h0;exact Nat.two_pow_pos k
 ·exact e4 (ri h0).2 (Nat.pow_le_pow_right (by decide) h)⟩
theorem P5{n:Nat}:29*((a1 1000000000 n).length-1)<=bU n∧bU n<=30*(a1 1000000000 n).length:=by
 constructor
 ·refine Nat.le_of_not_lt fun h=> ?_;have hl:0<(a1 1000000000 n).length:=by omega
  have h1:=(y5 (b:=1000000000) (n:=n) (i:=(a1 1000000000 n).length-1) (by decide)).1 (by omega);have h2:1000000000^((a1 1000000000 n).length-1)<=n:=Nat.le_of_not_lt fun aB=>h1 (Nat.div_eq_of_lt aB);have h3:(2^29)^((a1 1000000000 n).length-1)<=1000000000^((a1 1000000000 n).length-1):=Nat.pow_le_pow_left (by decide) _;rw[<-Nat.pow_mul]at h3;have:=J3.2 (Nat.le_of_lt h);omega
 ·refine EY (e4 (rp (b5 _)) ?_);rw[Nat.pow_mul];exact Nat.pow_le_pow_left (by decide) _
def Ye:bE where
 L:=Nat
 args:=fun n=>[cX n]
 pre:=fun n=>dS 30000000 n
 res:=fun n=>.i .i64 (bU n:Nat)
theorem Yf:bg aC.ctx 392 Ye.spec:=by
 refine bR [(408,(HV 1000000001).spec),(133,r6.spec)] Tx.1 ?_;intro(n:Nat) (hn:(a1 _ n).length<=_) H aJ;obtain⟨cZ,dz⟩:= @P5 n;obtain⟨l,hl⟩:∃l,l=(a1 1000000000 n).length:=⟨_,rfl⟩;rw[<-hl]at cZ dz hn
 repeat refine al 9 ?_
 rw[<-hl];refine az 9 (.i .i64 (29*((l:Int)-1))) rfl (congrArg (af.i .i64) (by rw[g0 (n:=(l:Int)-1) (by omega) (by omega)];exact tP rfl (by omega) (by omega))) ?_
 repeat refine al 10 ?_
 refine az 10 (.i .i64 ((29*(l-1):Nat):Int)) rfl (congrArg (af.i .i64) (by omega)) ?_
 repeat refine al 13 ?_
 try rw[<-hl]
 refine az 13 (.i .i64 ((30*l:Nat):Int)) rfl cO ?_
 repeat refine I ?_
 refine cG (L:=Nat×Nat) (fun(bb,ae)=>bb<=bU n∧bU n<=ae∧ae<=900000000) (fun((bb:Nat),(ae:Nat))=>⟨[],0,[(0,cX n),(3,.i .i64 bb),(4,.i .i64 ae)]⟩) (fun l=>l.2-l.1) [] (29*(l-1),30*l) ⟨cZ,dz,by omega⟩ (by show 30*l-29*(l-1)<ba+1;unfold ba;omega) ei ?_;rintro⟨bb,ae⟩ ⟨h1,h2,h3⟩
 repeat refine I ?_
 refine cP (fun h=> ?_) (fun h=> ?_)
 ·have h:bb<ae:=by omega
  repeat refine al 19 ?_
  refine az 19 (.i .i64 ((bb+ae:Nat):Int)) rfl cO ?_
  repeat refine al 20 ?_
  refine az 20 (.i .i64 (((bb+ae)/2:Nat):Int)) rfl (by show af.i _ (IntKind.i64.wrap (((bb+ae)/2:Nat):Int))=_;exact cO rfl (by omega) (by omega)) ?_
  repeat refine I ?_
  refine aX (HW 1000000001) ((bb+ae)/2) ⟨by show(bb+ae)/2<_;omega,by show(bb+ae)/2<=_;omega⟩ ?_;refine aX qT (n,2^((bb+ae)/2)) ⟨by show(a1 _ n).length<=_;omega,c1 (qU _) (by omega)⟩ ?_
  repeat refine I ?_
  refine cP (fun hc=> ?_) (fun hc=> ?_)
  ·have hc:=J3.1 (yY hc)
   repeat refine I ?_
   exact bc [] (bb,(bb+ae)/2) ⟨by show(bb+ae)/2-bb<ae-bb;omega,h1,hc,by omega⟩ ei
  ·have hc:(bb+ae)/2<bU n:=Nat.lt_of_not_le fun aB=>Nat.not_lt.2 (yZ hc) (J3.2 aB)
   repeat refine I ?_
   exact bc [] ((bb+ae)/2+1,ae) ⟨by show ae-((bb+ae)/2+1)<ae-bb;omega,hc,h2,h3⟩ (jA ⟨rfl,fo,rfl,trivial⟩)
 ·have he:bb=bU n:=by omega
  repeat refine I ?_
  exact aw rfl (.of (by rw[he];rfl))
def en(k:Nat)(x:Rat):Prop:=dS k x.num.natAbs∧dS k x.den
theorem mf{a b k l:Nat}(ha:dS k a)(aa:dS l b):dS (k+l) (a*b):=lr (by decide) (by rw[Nat.pow_add];exact Nat.mul_lt_mul'' (rp ha) (rp aa))
def DN:bE where
 L:=Rat×Rat
 args:=fun(x,y)=>[dm x,dm y]
 pre:=fun(x,y)=>en 268435456 x∧en 268435456 y
 res:=fun(x,y)=>.i .i64 (jo x y)
theorem AN(n:Int): -1<=n.sign∧n.sign<=1:=by
 rcases(show n<0∨n=0∨0<n by omega)with h|h|h
 ·rw[Int.sign_eq_neg_one_of_neg h];decide
 ·rw[h];decide
 ·rw[Int.sign_eq_one_of_pos h];decide
theorem HX:bg aC.ctx 220 DN.spec:=by
 refine bR [(231,xT.spec),(229,xW.spec),(133,r6.spec)] SD.1 ?_;intro⟨x,y⟩ ⟨(J:en _ x),(aG:en _ y)⟩ H aJ;obtain⟨dh,dC,jH⟩:=Qs x y;have hb:=AN x.num;have ml:=AN y.num
 repeat refine I ?_
 refine cP (fun h=> ?_) (fun h=> ?_)
 ·repeat refine I ?_
  exact aw rfl (.of (by show af.i .i64 (-1)=af.i .i64 (jo x y);rw[dh h]))
 repeat refine I ?_
 refine cP (fun h1=> ?_) (fun h1=> ?_)
 ·repeat refine I ?_
  exact aw rfl (.of (by show af.i .i64 1=af.i .i64 (jo x y);rw[dC h1]))
 have he:x.num.sign=y.num.sign:=by omega
 repeat refine I ?_
 refine ck qS y trivial ?_
 repeat refine I ?_
 refine ck p2 (x.num.natAbs,y.den) ⟨c1 J.1 (by decide),c1 aG.2 (by decide)⟩ ?_
 repeat refine I ?_
 refine ck qS x trivial ?_
 repeat refine I ?_
 refine ck p2 (y.num.natAbs,x.den) ⟨c1 aG.1 (by decide),c1 J.2 (by decide)⟩ ?_
 repeat refine I ?_
 refine ck qT (x.num.natAbs*y.den,y.num.natAbs*x.den) ⟨c1 (mf J.1 aG.2) (by decide),c1 (mf aG.1 J.2) (by decide)⟩ ?_
 repeat refine I ?_
 refine aw rfl (.of ?_);show af.i .i64 (IntKind.i64.wrap (x.num.sign*h4 _ _))=af.i .i64 (jo x y);rw[jH he];refine congrArg _ (tP rfl ?_ ?_)
 all_goals
  have ah:x.num.sign= -1∨x.num.sign=0∨x.num.sign=1:=by omega
  unfold h4;rcases ah with h|h|h<;>rw[h]<;>split<;>(try split)<;>decide
def Nm:bE where
 L:=Nat×Nat
 args:=fun(a,b)=>[cX a,cX b]
 pre:=fun(a,b)=>dS 268435456 a∧dS 268435456 b∧b≠0
 res:=fun(a,b)=>.bB [cX (a/b),cX (a%b)]
theorem apc{b W m:Nat}(aa:(a1 1000000000 b).length=m+1)(gq:b<=W)(aP:W<1000000000*b):
 0<b/1000000000^m∧b/1000000000^m<1000000000∧W/1000000000^m/(b/1000000000^m+1)<=W/b∧W/b<=min ((W/1000000000^m+1)/(b/1000000000^m)) 999999999∧W/1000000000^m<1000000000*1000000000∧0<W/b∧W<1000000000^(m+2):=by
 have k2:0<b:=by
  refine Nat.pos_of_ne_zero fun e=> ?_;rw[e,g6]at aa;simp at aa
 have iq:0<1000000000^m:=Nat.pow_pos (by decide);have h1:=(y5 (b:=1000000000) (n:=b) (i:=m) (by decide)).1 (by omega);have h2:=QQ (b:=1000000000) (by decide) (Nat.le_of_eq aa);have oy:b=b/1000000000^m*1000000000^m+b%1000000000^m:=by rw[Nat.mul_comm];exact(Nat.div_add_mod _ _).symm
 have QX:W=W/1000000000^m*1000000000^m+W%1000000000^m:=by rw[Nat.mul_comm];exact(Nat.div_add_mod _ _).symm
 have sO:W<1000000000^(m+2):=by
  rw[show m+2=(m+1)+1 from rfl,Nat.pow_succ,Nat.mul_comm];exact e4 aP (mu _ (Nat.le_of_lt h2))
 refine⟨Nat.pos_of_ne_zero h1,?_,ajI (B:=0) oy (Nat.mod_lt _ iq) QX k2,?_,?_,Nat.div_pos gq k2,sO⟩
 ·exact Nat.div_lt_of_lt_mul (by rwa [Nat.pow_succ]at h2)
 ·have h3:=ajH oy (Nat.mod_lt W iq) QX (Nat.pos_of_ne_zero h1) iq;have ay:W/b<1000000000:=Nat.div_lt_of_lt_mul (by rw[Nat.mul_comm];exact aP);omega
 ·refine Nat.div_lt_of_lt_mul ?_;rw[show m+2=m+(1+1)from rfl,Nat.pow_add,Nat.pow_add,Nat.pow_one]at sO;exact sO
theorem wy{d:Nat}(h0:d≠0)(h:d<1000000000):a1 1000000000 d=[d]:=by
 rw[pj (by decide) h0,gW h,Nat.div_eq_of_lt h,g6]
theorem N9{d r:Nat}(h:d<1000000000):eM (d::a1 1000000000 r)=a1 1000000000 (d+1000000000*r):=by
 rw[yl (b:=1000000000) (by decide) (fun x J=>by
  rcases List.mem_cons.1 J with rfl|J
  ·exact h
  ·exact gM (by decide) r x J)]
 simp only[val];rw[gn (by decide)]
theorem Qu{a b:Nat}:h4 a b<=0↔a<=b:=by
 unfold h4;split
 ·omega
 ·split<;>omega
theorem apa{r b k:Nat}(h:r<b)(aa:dS k b):dS k r:=lr (by decide) (Nat.lt_trans h (rp aa))
theorem apb{i d:Nat}{dj:List Nat}:(List.replicate (i+1) 0++dj).set i d=List.replicate i 0++d::dj:=by
 rw[List.replicate_succ',List.append_assoc,List.set_append_right _ _ (by simp)];simp
def Nl(xs dj:List Nat)(b m i W:Nat)(e:bT):cS:=⟨[.a 2 false 1 Nat fO (List.replicate (i+1) 0++dj)],1,(0,de xs)::(1,de (a1 1000000000 b))::(6,.a6 0 1 0 xs.length xs.length)::(7,.i .i64 ((m+1:Nat):Int))::(8,cX W)::(9,.i .i64 i)::e⟩
theorem Nn:bg aC.ctx 136 Nm.spec:=by
 refine bR [(137,vB.spec),(133,r6.spec),(229,xW.spec),(227,HZ.spec)] RZ.1 ?_;intro⟨a,b⟩ ⟨(ha:(a1 _ a).length<=_),(aa:(a1 _ b).length<=_),(k2:b≠0)⟩ H aJ;have h1:=gM (b:=1000000000) (by decide) a;have iE:=gn (b:=1000000000) (by decide) a;obtain⟨m,hm⟩:∃m,(a1 1000000000 b).length=m+1:=⟨(a1 1000000000 b).length-1,by
  have:(a1 1000000000 b).length≠0:=fun e=>k2 ((rq (by decide)).1 (List.eq_nil_of_length_eq_zero e));omega⟩
 have zq:=Z7 (b:=1000000000) (by decide) hm;show a2.ok _ ⟨_,_,⟨_,_,[(0,de (a1 1000000000 a)),(1,de (a1 1000000000 b))]⟩⟩;generalize xj:a1 1000000000 a=xs at *
 repeat refine I ?_
 refine oW fO 0 ?_
 repeat refine I ?_
 rw[hm];refine AH 8 (de []) rfl b3.nl ?_;refine az 8 (cX 0) rfl (by unfold cX;rw[g6]) ?_;refine cG (L:=Nat×List Nat×Nat) (fun(k,dj,r)=>k+dj.length=xs.length∧c2 1000000000 dj∧r<b∧val 1000000000 (xs.drop k)=val 1000000000 dj*b+r)
  (fun((k:Nat),(dj:List Nat),(r:Nat))=>⟨[.a 2 false 1 Nat fO (List.replicate k 0++dj)],1,[(0,de xs),(1,de (a1 1000000000 b)),(6,.a6 0 1 0 xs.length xs.length),(7,.i .i64 ((m+1:Nat):Int)),(8,cX r),(9,.i .i64 ((k:Int)-1))]⟩)
  (fun l=>l.1) [0] (xs.length,[],0) ⟨by simp,fun x J=>by simp at J,by omega,by simp[val]⟩ (by show xs.length<ba+1;unfold ba;omega) ?_ ?_
 ·exact e3 ⟨rfl,rfl,rfl,rfl,rfl,fo,trivial⟩ ⟨_,rfl,by simp,fun _=>rfl⟩
 rintro⟨k,dj,r⟩ ⟨U,bP,aQ,aH⟩;cases k with
 |zero=>
  repeat refine I ?_
  refine hD 99 ?_;refine aX vC dj (by show dj.length<=_;omega) ?_
  repeat refine I ?_
  refine aw rfl (.of ?_);show af.bB [de (eM dj),cX r]=af.bB [cX (a/b),cX (a%b)];rw[List.drop_zero,iE]at aH;have av:=Nat.div_mod_unique (Nat.pos_of_ne_zero k2) (a:=a) (c:=r) (d:=val 1000000000 dj);obtain⟨aA,e2⟩:=av.2 ⟨by rw[aH,Nat.mul_comm];exact Nat.add_comm _ _,aQ⟩;rw[yl (by decide) bP,aA,e2];rfl
 |succ i=>
  have J:i<xs.length:=by omega
  have k6:=h1 _ (dr J);obtain⟨W,gq⟩:∃W,W=xs[i]+1000000000*r:=⟨_,rfl⟩;have akg:W<1000000000*b:=by omega
  have xh:∀q dH:Nat,q*b+dH=W->val 1000000000 (xs.drop i)=val 1000000000 (q::dj)*b+dH:=fun q dH h=>by
   rw[hf J];simp only[val];rw[aH,Nat.add_mul,Nat.mul_add,Nat.mul_assoc];omega
  have LF:=apa aQ aa;refine az 9 (.i .i64 (i:Nat)) rfl fI ?_
  repeat refine I ?_
  refine az 23 (.b true) rfl (by simp) ?_
  repeat refine al 26 ?_
  refine iS (L:=Unit) (fun _=>True) (fun _=>Nl xs dj b m i W []) ?_ ?_
  ·repeat refine I ?_
   refine cV xs[i] (a9 J) ?_
   repeat refine I ?_
   refine mh 1 fO [xs[i]] ?_;by_cases pJ:r=0
   ·subst pJ;refine az 31 (de []) rfl (by unfold cX;rw[g6]) ?_;refine AF (R:=fO) (lL rfl (fun _=>rfl) (fun _=>rfl)) ?_;refine hD 32 ?_;refine aX vC [xs[i]] (by show 1<=_;decide) ?_
    repeat refine I ?_
    refine bc [0] () trivial (e3 ⟨rfl,rfl,rfl,rfl,congrArg (fun l=>some (de l)) ?_,rfl,trivial⟩ ⟨_,rfl,rfl,fun _=>rfl⟩);have:=N9 (d:=xs[i]) (r:=0) k6;rw[g6]at this;rw[gq];exact this
   ·have hne:a1 1000000000 r≠[]:=fun e=>pJ ((rq (by decide)).1 e);have hl:0<(a1 1000000000 r).length:=List.length_pos_iff.2 hne;have LF:(a1 1000000000 r).length<=268435456:=LF;refine x7 (R:=fO) (a1 1000000000 r) (lL rfl (fun _=>rfl) (fun _=>rfl)) (xs[i]::a1 1000000000 r) ?_ (h0:=hne);refine hD 32 ?_;refine aX vC (xs[i]::a1 1000000000 r) (by show(a1 _ r).length+1<=_;omega) ?_
    repeat refine I ?_
    refine bc [0] () trivial (e3 ⟨rfl,rfl,rfl,rfl,congrArg (fun l=>some (de l)) ?_,rfl,trivial⟩ ⟨_,rfl,rfl,fun _=>rfl⟩);rw[gq];exact N9 k6
  intro _ _;have K0:dS 268435457 W:=by
   have:=N9 (d:=xs[i]) (r:=r) k6;have h2:=aa0 (xs[i]::a1 1000000000 r);rw[this,<-gq]at h2;exact Nat.le_trans h2 (Nat.succ_le_succ LF)
  repeat refine I ?_
  refine aX qT (W,b) ⟨c1 K0 (by decide),c1 aa (by decide)⟩ ?_
  repeat refine I ?_
  refine cP (fun h=> ?_) (fun h=> ?_)
  ·have h:W<b:=yY h
   repeat refine I ?_
   refine bc [0] (i,0::dj,W) ⟨by simp,by simp;omega,?_,h,xh 0 W (by omega)⟩ (e3 ⟨rfl,rfl,rfl,rfl,rfl,fo,trivial⟩ ⟨_,rfl,by rw[List.replicate_succ',List.append_assoc];rfl,fun _=>rfl⟩);intro x J;rcases List.mem_cons.1 J with rfl|J
   ·decide
   ·exact bP x J
  have lz:b<=W:=yZ h;obtain⟨t1,t2,t3,t4,t5,t6,t7⟩:=apc hm lz akg;have El:m<(a1 1000000000 W).length:=(y5 (by decide)).2 (by have:=Nat.div_le_div_right (c:=1000000000^m) lz;omega);have au3:=lr (b:=1000000000) (by decide) t7;have Ob:∃hO:Nat,(a1 1000000000 W)[m]? =some hO∧(((a1 1000000000 W).length=m+1∧hO=W/1000000000^m)∨((a1 1000000000 W).length=m+2∧∃y:Nat,(a1 1000000000 W)[m+1]? =some y∧hO+1000000000*y=W/1000000000^m)):=by
   rcases(show(a1 1000000000 W).length=m+1∨(a1 1000000000 W).length=m+2 by omega)with h|h
   ·exact⟨_,Z7 (by decide) h,.inl ⟨h,rfl⟩⟩
   ·obtain⟨aL,aR,a7⟩:=asH (b:=1000000000) (by decide) (show m+1<_ by omega) t7;exact⟨_,aL,.inr ⟨h,_,aR,a7⟩⟩
  generalize Gz:b/1000000000^m=v at *;generalize ev:W/1000000000^m=w at *;obtain⟨hO,xi,Ob⟩:=Ob
  repeat refine I ?_
  refine az 40 (.i .i64 (m:Nat)) rfl cO ?_
  repeat refine I ?_
  refine cV hO xi ?_
  repeat refine al 10 ?_
  iterate 3 refine I ?_
  refine iS (L:=Unit) (fun _=>True) (fun _=>Nl xs dj b m i W [(10,.i .i64 (w:Nat))]) ?_ ?_
  ·repeat refine I ?_
   rcases Ob with⟨aL,aR⟩|⟨aL,y,aR,a7⟩
   ·refine az 46 (.b false) rfl (by rw[aL];simp) ?_
    repeat refine I ?_
    exact bc [0] () trivial (e3 ⟨rfl,rfl,rfl,rfl,rfl,rfl,by rw[<-aR];rfl,trivial⟩ ⟨_,rfl,rfl,fun _=>rfl⟩)
   ·refine az 46 (.b true) rfl (by rw[aL];simp) ?_
    repeat refine I ?_
    refine cV y aR ?_
    repeat refine I ?_
    refine bc [0] () trivial (e3 ⟨rfl,rfl,rfl,rfl,rfl,rfl,?_,trivial⟩ ⟨_,rfl,rfl,fun _=>rfl⟩);exact congrArg (fun n=>some (af.i .i64 n)) (by rw[g0 (n:=1000000000*(y:Int)) (by omega) (by omega),g0 (by omega) (by omega)];omega)
  intro _ _
  repeat refine I ?_
  refine eh 57 (.i .i64 (m:Nat)) rfl rfl cO ?_;refine gm v zq ?_
  repeat refine al 60 ?_
  refine eh 60 (.i .i64 ((v+1:Nat):Int)) rfl rfl cO ?_;refine QL ?_
  repeat refine al 63 ?_
  refine eh 63 (.i .i64 ((w+1:Nat):Int)) rfl rfl cO ?_
  repeat refine al 66 ?_
  refine eh 66 (.i .i64 (m:Nat)) rfl rfl cO ?_;refine gm v zq ?_
  repeat refine I ?_
  refine QL ?_
  repeat refine al 70 ?_
  obtain⟨bb,gr⟩:∃bb,bb=w/(v+1):=⟨_,rfl⟩;obtain⟨ae,gP⟩:∃ae,ae=min ((w+1)/v) 999999999:=⟨_,rfl⟩;rw[<-gr]at t3;rw[<-gP]at t4;refine eh 61 (.i .i64 (bb:Nat)) rfl rfl (by rw[gr]) ?_;refine eh 70 (.i .i64 (ae:Nat)) rfl rfl (by rw[gP];exact fI (by generalize(w+1)/v=u;omega)) ?_;have akX:ae<=999999999:=by generalize(w+1)/v=u at *;omega
  have anI:∀d:Nat,d≠0->d<1000000000->dS 268435457 (b*d):=fun d h0 h=>mf (k:=268435456) (l:=1) aa (by show(a1 _ d).length<=1;rw[wy h0 h];exact b5 _);generalize oE:W/b=q at *;have fQ:0<b:=Nat.pos_of_ne_zero k2
  repeat refine I ?_
  refine cG (L:=Nat×Nat) (fun(l,h)=>l<=q∧q<=h∧h<=999999999) (fun((l:Nat),(h:Nat))=>Nl xs dj b m i W [(11,.i .i64 l),(12,.i .i64 h)]) (fun l=>l.2-l.1) [0] (bb,ae) ⟨t3,t4,akX⟩ (by show ae-bb<ba+1;unfold ba;omega) dP ?_;rintro⟨l,h⟩ ⟨aL,aR,a7⟩
  repeat refine I ?_
  refine cP (fun aP=> ?_) (fun aP=> ?_)
  ·have aP:l<h:=by omega
   obtain⟨kK,ak8⟩:∃kK,kK=(l+h+1)/2:=⟨_,rfl⟩
   repeat refine al 76 ?_
   refine az 76 (.i .i64 ((l+h:Nat):Int)) rfl cO ?_
   repeat refine al 77 ?_
   refine az 77 (.i .i64 ((l+h+1:Nat):Int)) rfl cO ?_
   repeat refine al 78 ?_
   refine az 78 (.i .i64 (kK:Nat)) rfl (by rw[ak8];show af.i _ (IntKind.i64.wrap (((l+h+1)/2:Nat):Int))=_;exact cO rfl (by omega) (by omega)) ?_;have zA:kK≠0:=by omega
   have w1:kK<1000000000:=by omega
   repeat refine I ?_
   refine mh 1 fO [kK] ?_;refine hD 81 ?_;refine az 81 (cX kK) rfl (by unfold cX;rw[wy zA w1];rfl) ?_;refine aX p2 (b,kK) ⟨c1 aa (by decide),by show(a1 _ kK).length<=_;rw[wy zA w1];exact kx rfl⟩ ?_
   repeat refine I ?_
   refine aX qT (b*kK,W) ⟨c1 (anI kK zA w1) (by decide),c1 K0 (by decide)⟩ ?_
   repeat refine I ?_
   have Ct:b*kK<=W↔kK<=q:=by rw[<-oE,Nat.le_div_iff_mul_le fQ,Nat.mul_comm]
   refine cP (fun hc=> ?_) (fun hc=> ?_)
   ·have hc:=Ct.1 (Qu.1 hc)
    repeat refine I ?_
    exact bc [0] (kK,h) ⟨by show h-kK<h-l;omega,hc,aR,a7⟩ dP
   ·have hc:q<kK:=Nat.lt_of_not_le fun aB=>hc (Qu.2 (Ct.2 aB))
    repeat refine I ?_
    exact bc [0] (l,kK-1) ⟨by show kK-1-l<h-l;omega,aL,by show q<=kK-1;omega,by show kK-1<=_;omega⟩ (e3 ⟨rfl,rfl,rfl,rfl,rfl,rfl,rfl,fo,trivial⟩ ⟨_,rfl,rfl,fun _=>rfl⟩)
  ·have he:l=q:=by omega
   subst he;have w1:l<1000000000:=by omega
   have zA:l≠0:=by omega
   have zG:b*l<=W:=by rw[<-oE];exact Nat.mul_div_le W b
   repeat refine I ?_
   refine hE ?_;refine jk l ?_
   repeat refine I ?_
   refine mh 1 fO [l] ?_;refine hD 96 ?_;refine az 96 (cX l) rfl (by unfold cX;rw[wy zA w1];rfl) ?_;refine aX p2 (b,l) ⟨c1 aa (by decide),by show(a1 _ l).length<=_;rw[wy zA w1];exact kx rfl⟩ ?_;refine aX DO (W,b*l) ⟨c1 K0 (by decide),zG⟩ ?_
   repeat refine I ?_
   have alb:W-b*l=W%b:=by have:=Nat.div_add_mod W b;rw[oE]at this;omega
   refine bc [0] (i,l::dj,W-b*l) ⟨by simp,by simp;omega,?_,by rw[alb];exact Nat.mod_lt _ fQ,xh l _ (by rw[Nat.mul_comm l b];omega)⟩ (e3 ⟨rfl,rfl,rfl,rfl,rfl,fo,trivial⟩ ⟨_,rfl,by rw[apb],fun _=>rfl⟩);intro x J;rcases List.mem_cons.1 J with rfl|J
   ·exact w1
   ·exact bP x J
theorem nv{k a b:Nat}(h:dS k b)(hl:a<=b):dS k a:=lr (by decide) (Nat.lt_of_le_of_lt hl (rp h))
theorem p1{k a:Nat}(h:dS k a):bU a<=30*k:=Nat.le_trans P5.2 (mu _ h)
theorem GY{n:Nat}:(a1 1000000000 n).length=0↔n=0:=by rw[List.length_eq_zero_iff];exact rq (by decide)
def X4:bE where
 L:=Nat×Nat
 args:=fun(a,b)=>[cX a,cX b]
 pre:=fun(a,b)=>dS 268435456 a∧dS 268435456 b∧b≠0
 res:=fun(a,b)=>cX (Nat.gcd a b)
def xV(x y t:Nat):cS:=⟨[],0,[(0,cX x),(1,cX y),(5,.i .i64 t)]⟩
theorem ape:bg aC.ctx 135 X4.spec:=by
 refine bR [(136,Nm.spec),(225,Yo.spec),(226,X6.spec),(133,r6.spec),(227,HZ.spec),(228,HL.spec)] RY.1 ?_;intro⟨a,b⟩ ⟨(ha:dS _ a),(aa:dS _ b),(k2:b≠0)⟩ H aJ
 repeat refine I ?_
 refine aX Nn (a,b) ⟨ha,aa,k2⟩ ?_
 repeat refine I ?_
 have aQ:a%b<b:=Nat.mod_lt _ (Nat.pos_of_ne_zero k2);have aO:Nat.gcd (a%b) b=Nat.gcd a b:=by rw[Nat.gcd_comm a b,Nat.gcd_rec b a]
 have qr:dS 268435456 (a%b):=nv aa (Nat.le_of_lt aQ);generalize J:a%b=hO at *;refine cP (fun h=> ?_) (fun h=> ?_)
 ·have h:hO=0:=GY.1 (by omega);subst h
  repeat refine I ?_
  exact aw rfl (.of (by show cX b=cX (Nat.gcd a b);rw[<-aO,Nat.gcd_zero_left]))
 have h:hO≠0:=fun e=>h (by rw[e,g6];rfl)
 repeat refine I ?_
 refine oV (L:=Nat×Nat×Nat) (fun(x,y,t)=>x≠0∧y≠0∧dS 268435456 x∧dS 268435456 y∧t<=10000000000∧2^t*Nat.gcd x y=Nat.gcd a b∧Nat.gcd x y%2=1) (fun(x,y,t)=>xV x y t) ?_ ?_
 ·refine cG (L:=Nat×Nat×Nat) (fun(x,y,t)=>x≠0∧y≠0∧dS 268435456 x∧dS 268435456 y∧t+bU x<=10000000000∧2^t*Nat.gcd x y=Nat.gcd a b) (fun(x,y,t)=>xV x y t) (fun l=>bU l.1) [] (hO,b,0) ⟨h,k2,qr,aa,by have:=p1 qr;show 0+_<=_;omega,by rw[Nat.pow_zero,Nat.one_mul,aO]⟩ (by have:=p1 qr;show bU hO<ba+1;unfold ba;omega) ei ?_;rintro⟨x,y,t⟩ ⟨aL,aR,a7,cl,dc,eI⟩
  repeat refine I ?_
  refine aX HS x trivial ?_
  repeat refine I ?_
  by_cases s5:x%2=1
  ·refine az 20 (.b false) rfl (by rw[decide_eq_true s5];rfl) ?_
   repeat refine I ?_
   exact bc [] (x,y,t) ⟨aL,aR,a7,cl,by omega,eI,Ud (fun h=>by omega)⟩ ei
  refine az 20 (.b true) rfl (by rw[decide_eq_false s5];rfl) ?_
  repeat refine I ?_
  have s5:x%2=0:=by omega
  refine aX HS y trivial ?_
  repeat refine I ?_
  by_cases GC:y%2=1
  ·refine az 24 (.b false) rfl (by rw[decide_eq_true GC];rfl) ?_
   repeat refine I ?_
   exact bc [] (x,y,t) ⟨aL,aR,a7,cl,by omega,eI,Ud (fun h=>by omega)⟩ ei
  refine az 24 (.b true) rfl (by rw[decide_eq_false GC];rfl) ?_;have GC:y%2=0:=by omega
  repeat refine I ?_
  refine aX HQ x (c1 a7 (by decide)) ?_
  repeat refine I ?_
  refine aX HQ y (c1 cl (by decide)) ?_
  repeat refine I ?_
  have nW:=uk (n:=x) (by omega);have rA:=gcd_both s5 GC;exact bc [] (x/2,y/2,t+1) ⟨by show bU (x/2)<bU x;omega,by show x/2≠0;omega,by show y/2≠0;omega,nv a7 (Nat.div_le_self _ _),nv cl (Nat.div_le_self _ _),by show t+1+bU (x/2)<=_;omega,by rw[Nat.pow_succ,Nat.mul_assoc,rA];exact eI⟩ (jA ⟨rfl,rfl,fo,trivial⟩)
 rintro⟨X,Y,t⟩ ⟨aL,aR,a7,cl,dc,eI,g8⟩;obtain⟨g,Gf⟩:∃g,g=Nat.gcd X Y:=⟨_,rfl⟩;rw[<-Gf]at eI g8
 repeat refine I ?_
 refine oV (L:=Unit) (fun _=>True) (fun _=>⟨[],0,[(1,cX g),(5,.i .i64 t)]⟩) ?_ ?_
 ·refine cG (L:=Nat×Nat) (fun(x,y)=>y≠0∧dS 268435456 x∧dS 268435456 y∧Nat.gcd x y=g) (fun(x,y)=>xV x y t) (fun l=>2*(bU l.1+bU l.2)+l.1%2) [] (X,Y) ⟨aR,a7,cl,Gf.symm⟩ (by have:=p1 a7;have:=p1 cl;show 2*(bU X+bU Y)+X%2<ba+1;unfold ba;omega) ei ?_;rintro⟨x,y⟩ ⟨h1,h2,h3,ay⟩
  repeat refine I ?_
  refine cP (fun hl=> ?_) (fun hl=> ?_)
  ·have xi:x≠0:=fun e=>by rw[e,g6]at hl;simp at hl
   repeat refine I ?_
   refine oV (L:=Nat) (fun dR=>dR%2=1∧dS 268435456 dR∧Nat.gcd dR y=g∧2*bU dR<=2*bU x+x%2-1) (fun dR=>xV dR y t) ?_ ?_
   ·refine cG (L:=Nat) (fun dR=>dR≠0∧dS 268435456 dR∧Nat.gcd dR y=g∧bU dR<=bU x∧(dR=x∨bU dR<bU x)) (fun dR=>xV dR y t) bU [] x ⟨xi,h2,ay,b5 _,.inl rfl⟩ (by have:=p1 h2;show bU x<ba+1;unfold ba;omega) ei ?_;rintro dR ⟨bj,bM,dK,tb,GM⟩
    repeat refine I ?_
    refine aX HS dR trivial ?_
    repeat refine I ?_
    refine AG (fun ak=> ?_) (fun ak=> ?_)
    ·have nW:=uk (n:=dR) (by omega);have ak:dR%2=0:=by omega
     repeat refine I ?_
     refine aX HQ dR (c1 bM (by decide)) ?_
     repeat refine I ?_
     exact bc [] (dR/2) ⟨by show bU (dR/2)<bU dR;omega,by omega,nv bM (Nat.div_le_self _ _),by rw[Ub ak (by rw[dK];exact g8)];exact dK,by omega,.inr (by omega)⟩ ei
    ·repeat refine I ?_
     exact bc [] dR ⟨ak,bM,dK,by rcases GM with rfl|GM<;>omega⟩ ei
   rintro dR ⟨bj,bM,dK,tb⟩
   repeat refine I ?_
   refine oV (L:=Nat) (fun fi=>fi%2=1∧dS 268435456 fi∧Nat.gcd dR fi=g∧bU fi<=bU y) (fun fi=>xV dR fi t) ?_ ?_
   ·refine cG (L:=Nat) (fun fi=>fi≠0∧dS 268435456 fi∧Nat.gcd dR fi=g∧bU fi<=bU y) (fun fi=>xV dR fi t) bU [] y ⟨h1,h3,dK,b5 _⟩ (by have:=p1 h3;show bU y<ba+1;unfold ba;omega) ei ?_;rintro fi ⟨amM,hW,va,VE⟩
    repeat refine I ?_
    refine aX HS fi trivial ?_
    repeat refine I ?_
    refine AG (fun ak=> ?_) (fun ak=> ?_)
    ·have nW:=uk (n:=fi) (by omega);have ak:fi%2=0:=by omega
     repeat refine I ?_
     refine aX HQ fi (c1 hW (by decide)) ?_
     repeat refine I ?_
     exact bc [] (fi/2) ⟨by show bU (fi/2)<bU fi;omega,by omega,nv hW (Nat.div_le_self _ _),by rw[ajo ak (by rw[va];exact g8)];exact va,by omega⟩ ei
    ·repeat refine I ?_
     exact bc [] fi ⟨ak,hW,va,VE⟩ ei
   rintro fi ⟨amM,hW,va,VE⟩
   repeat refine I ?_
   by_cases al5:fi=1
   ·subst al5;rw[Nat.gcd_one_right]at va;refine az 1 (de [1]) rfl (by unfold cX;rw[uC]) ?_;refine az 47 (.b true) rfl (by rw[uC];rfl) ?_
    repeat refine I ?_
    refine cV (j:=0) 1 rfl ?_
    repeat refine I ?_
    exact bc [] () trivial (jA ⟨by rw[<-va];unfold cX;rw[uC];rfl,rfl,trivial⟩)
   refine iS (L:=Unit) (fun _=>True) (fun _=>⟨[],0,[(0,cX dR),(1,cX fi),(5,.i .i64 t),(52,.b false)]⟩) ?_ ?_
   ·by_cases hL:(a1 1000000000 fi).length=1
    ·have Vf:fi<1000000000:=rp (k:=1) (Nat.le_of_eq hL);refine az 47 (.b true) rfl (by rw[hL];rfl) ?_;refine az 1 (de [fi]) rfl (by unfold cX;rw[wy (by omega) Vf]) ?_
     repeat refine I ?_
     refine cV (j:=0) fi rfl ?_
     repeat refine I ?_
     exact bc [] () trivial (jA ⟨rfl,by unfold cX;rw[wy (by omega) Vf];rfl,rfl,congrArg (fun b=>some (af.b b)) (decide_eq_false (by omega)),trivial⟩)
    ·refine az 47 (.b false) rfl (by rw[decide_eq_false (by omega)]) ?_
     repeat refine I ?_
     exact bc [] () trivial ei
   intro _ _
   repeat refine I ?_
   refine aX qT (dR,fi) ⟨c1 bM (by decide),c1 hW (by decide)⟩ ?_
   repeat refine I ?_
   have auv:=uk (n:=dR) (by omega);refine cP (fun hc=> ?_) (fun hc=> ?_)
   ·have hc:=yY hc
    repeat refine I ?_
    refine aX DO (fi,dR) ⟨c1 hW (by decide),Nat.le_of_lt hc⟩ ?_
    repeat refine I ?_
    have fQ:=J4 (Nat.sub_le fi dR);exact bc [] (fi-dR,dR) ⟨by show 2*(bU (fi-dR)+bU dR)+(fi-dR)%2<2*(bU x+bU y)+x%2;omega,by show dR≠0;omega,nv hW (Nat.sub_le _ _),bM,by rw[Uc (Nat.le_of_lt hc),Nat.gcd_comm];exact va⟩ ei
   ·have hc:=yZ hc
    repeat refine I ?_
    refine aX DO (dR,fi) ⟨c1 bM (by decide),hc⟩ ?_
    repeat refine I ?_
    have fQ:=J4 (Nat.sub_le dR fi);exact bc [] (dR-fi,fi) ⟨by show 2*(bU (dR-fi)+bU fi)+(dR-fi)%2<2*(bU x+bU y)+x%2;omega,by show fi≠0;omega,nv bM (Nat.sub_le _ _),hW,by rw[Uc hc];exact va⟩ ei
  ·have xi:x=0:=GY.1 (by omega);subst xi;rw[Nat.gcd_zero_left]at ay
   repeat refine I ?_
   exact bc [] () trivial (jA ⟨by rw[<-ay];rfl,rfl,trivial⟩)
 intro _ _
 repeat refine I ?_
 refine cG (L:=Nat) (fun i=>i<=t) (fun(i:Nat)=>⟨[],0,[(1,cX (2^i*g)),(5,.i .i64 t),(6,.i .i64 i)]⟩) (fun i=>t-i) [] 0 (Nat.zero_le _) (by show t-0<ba+1;unfold ba;omega) (jA ⟨by rw[Nat.pow_zero,Nat.one_mul];rfl,rfl,rfl,trivial⟩) ?_;intro(i:Nat) ae
 repeat refine I ?_
 refine cP (fun h=> ?_) (fun h=> ?_)
 ·have h:i<t:=by omega
  have dv:2^i*g<=b:=Nat.le_trans (hF g (Nat.pow_le_pow_right (by decide) ae)) (by rw[eI];exact Nat.gcd_le_right _ (Nat.pos_of_ne_zero k2))
  repeat refine I ?_
  refine aX Ng (2^i*g,2^i*g) ⟨c1 (nv aa dv) (by decide),c1 (nv aa dv) (by decide)⟩ ?_
  repeat refine I ?_
  exact bc [] (i+1) ⟨by show t-(i+1)<t-i;omega,h⟩ (jA ⟨congrArg (fun n=>some (cX n)) (by rw[Nat.pow_succ,Nat.mul_comm (2^i) 2,Nat.mul_assoc];omega),rfl,fo,trivial⟩)
 ·have he:i=t:=by omega
  subst he
  repeat refine I ?_
  exact aw rfl (.of (by show cX _=cX _;rw[eI]))
theorem Yc:b3 (.agg [.i .i64 0,.nl,.nl]) (dm 0):=b3.agg ⟨.refl _,b3.nl.trans (.of (by show de []=de (a1 _ 0);rw[g6])),b3.nl,trivial⟩
theorem XS{n:Bool}{p q:Nat}(hp:p≠0)(hq:q≠0):dm (mkRat (if n then -(p:Int)else p) q)= .agg [.i .i64 (if n then -1 else 1),cX (p/p.gcd q),cX (q/p.gcd q)]:=by
 obtain⟨h1,h2⟩:=WL (neg:=n) hp hq;have aO:0<p.gcd q:=Nat.gcd_pos_of_pos_left _ (by omega);have av:0<p/p.gcd q:=Nat.div_pos (Nat.le_of_dvd (by omega) (Nat.gcd_dvd_left p q)) aO;unfold dm;rw[h1,h2];generalize p/p.gcd q=a at *;cases n
 ·simp only[Bool.false_eq_true,if_false];rw[if_neg (by omega),Int.sign_eq_one_of_pos (by omega)];rfl
 ·simp only[if_true];rw[if_neg (by omega),Int.sign_eq_neg_one_of_neg (by omega),Int.natAbs_neg];rfl
def vz:bE where
 L:=Int×Nat×Nat
 args:=fun(s,p,q)=>[.i .i64 s,cX p,cX q]
 pre:=fun(s,p,q)=> -1<=s∧s<=1∧dS 268435456 p∧dS 268435456 q∧q≠0
 res:=fun(s,p,q)=>dm (mkRat (s*p) q)
theorem ao3{s:Int}{p q:Nat}(h1: -1<=s)(h2:s<=1)(ah:s≠0)(hp:p≠0)(hq:q≠0):dm (mkRat (s*p) q)= .agg [.i .i64 s,cX (p/p.gcd q),cX (q/p.gcd q)]:=by
 rcases(show s=1∨s= -1 by omega)with rfl|rfl
 ·have:=XS (n:=false) hp hq;rw[if_neg (by decide),if_neg (by decide)]at this;rw[Int.one_mul];exact this
 ·have:=XS (n:=true) hp hq;rw[if_pos rfl,if_pos rfl]at this;rw[Int.neg_mul,Int.one_mul];exact this
theorem y0{a b:Nat}:h4 a b=0↔a=b:=by
 unfold h4;split
 ·omega
 ·split<;>omega
theorem DK:dS 1073741824 1:=by show(a1 _ 1).length<=_;rw[uC];exact kx rfl
theorem tw:bg aC.ctx 72 vz.spec:=by
 refine bR [(134,vA.spec),(133,r6.spec),(135,X4.spec),(136,Nm.spec)] TW.1 ?_;intro⟨s,p,q⟩ ⟨(h1: -1<=s),(h2:s<=1),(hp:dS _ p),(hq:dS _ q),(oH:q≠0)⟩ H aJ;have zero:s*(p:Int)=0->b3 (.agg [.i .i64 0,.nl,.nl]) (vz.res (s,p,q)):=fun h=>Yc.trans (.of (by show dm 0=dm (mkRat (s*p) q);rw[h,Rat.zero_mkRat]))
 repeat refine al 11 ?_
 by_cases rI:p=0
 ·refine az 11 (.b true) rfl (by show af.b (decide (((a1 1000000000 p).length:Int)=0))=_;rw[decide_eq_true (by have:=GY.2 rI;omega)]) ?_
  repeat refine I ?_
  exact aw rfl (zero (by rw[rI];simp))
 refine az 11 (.b false) rfl (by show af.b (decide (((a1 1000000000 p).length:Int)=0))=_;rw[decide_eq_false (by have:=mt GY.1 rI;omega)]) ?_
 repeat refine al 13 ?_
 by_cases rJ:s=0
 ·refine dx 13 rJ ?_
  repeat refine I ?_
  exact aw rfl (zero (by rw[rJ];simp))
 refine dL 13 rJ ?_;have hS:=ao3 h1 h2 rJ rI oH;have fin:∀{gh fg:Nat},gh=p/p.gcd q->fg=q/p.gcd q->b3 (.agg [.i .i64 s,cX gh,cX fg]) (vz.res (s,p,q)):=fun aA e2=>.of (by rw[aA,e2];exact hS.symm)
 repeat refine I ?_
 refine aX tx () trivial ?_;refine aX qT (p,1) ⟨c1 hp (by decide),DK⟩ ?_
 repeat refine al 20 ?_
 by_cases u0:p=1
 ·refine az 20 (.b true) rfl (by show af.b (decide _)=_;rw[decide_eq_true (y0.2 u0)]) ?_
  repeat refine I ?_
  exact aw rfl (fin (by rw[u0];simp) (by rw[u0];simp))
 refine az 20 (.b false) rfl (by show af.b (decide _)=_;rw[decide_eq_false (mt y0.1 u0)]) ?_
 repeat refine I ?_
 refine aX tx () trivial ?_
 repeat refine I ?_
 refine aX qT (q,1) ⟨c1 hq (by decide),DK⟩ ?_
 repeat refine al 24 ?_
 by_cases zF:q=1
 ·refine az 24 (.b true) rfl (by show af.b (decide _)=_;rw[decide_eq_true (y0.2 zF)]) ?_
  repeat refine I ?_
  exact aw rfl (fin (by rw[zF];simp) (by rw[zF];simp))
 refine az 24 (.b false) rfl (by show af.b (decide _)=_;rw[decide_eq_false (mt y0.1 zF)]) ?_;have aO:0<p.gcd q:=Nat.gcd_pos_of_pos_right _ (Nat.pos_of_ne_zero oH);have Gg:dS 268435456 (p.gcd q):=nv hq (Nat.gcd_le_right _ (Nat.pos_of_ne_zero oH))
 repeat refine I ?_
 refine aX ape (p,q) ⟨hp,hq,oH⟩ ?_
 repeat refine I ?_
 refine aX tx () trivial ?_;refine aX qT (p.gcd q,1) ⟨c1 Gg (by decide),DK⟩ ?_
 repeat refine I ?_
 refine iS (L:=Nat×Nat) (fun(gh,fg)=>gh=p/p.gcd q∧fg=q/p.gcd q) (fun(gh,fg)=>⟨[.c 73 [.i .i64 0,.nl,.nl]],1,[(0,.i .i64 s),(1,cX gh),(2,cX fg),(6,.p 0 0)]⟩) ?_ ?_
 ·refine cP (fun hc=> ?_) (fun hc=> ?_)
  ·repeat refine I ?_
   refine aX Nn (p,p.gcd q) ⟨hp,Gg,by show p.gcd q≠0;omega⟩ ?_
   repeat refine I ?_
   refine aX Nn (q,p.gcd q) ⟨hq,Gg,by show p.gcd q≠0;omega⟩ ?_
   repeat refine I ?_
   exact bc [0] (p/p.gcd q,q/p.gcd q) ⟨rfl,rfl⟩ dP
  ·have hc:p.gcd q=1:=y0.1 (Decidable.not_not.1 hc)
   repeat refine I ?_
   exact bc [0] (p,q) ⟨by rw[hc,Nat.div_one],by rw[hc,Nat.div_one]⟩ dP
 rintro⟨gh,fg⟩ ⟨aA,e2⟩
 repeat refine I ?_
 exact aw rfl (fin aA e2)
def No:bE where
 L:=Int
 args:=fun n=>[.i .i64 n]
 pre:=fun n=> -9223372036854775808<=n∧n<9223372036854775808
 res:=fun n=>dm (mkRat n 1)
theorem XV{n:Nat}(h:n<18446744073709551616):dS 3 n:=lr (by decide) (by omega)
theorem X8:bg aC.ctx 388 No.spec:=by
 refine bR [(407,Yi.spec),(134,vA.spec),(72,vz.spec)] Ts.1 ?_;intro(n:Int) ⟨(h1:_<=n),(h2:n<_)⟩ H aJ;have cn:dS 268435456 1:=by show(a1 _ 1).length<=_;rw[uC];exact kx rfl
 repeat refine I ?_
 refine cP (fun h=> ?_) (fun h=> ?_)
 ·obtain⟨m,hm⟩:∃m:Nat,m=n.natAbs:=⟨_,rfl⟩
  repeat refine al 6 ?_
  refine az 6 (.i .i64 (n+1)) rfl (cO rfl (by omega) (by omega)) ?_
  repeat refine al 7 ?_
  refine az 7 (.i .i64 ((m-1:Nat):Int)) rfl cO ?_
  repeat refine al 9 ?_
  have afD:((m-1)%18446744073709551616+1)%18446744073709551616=m:=by omega
  refine az 9 (.i .u64 (m:Nat)) rfl (congrArg (fun n:Nat=>af.i .u64 (n:Int)) afD) ?_;refine aX Yj m (by show m<_;omega) ?_
  repeat refine I ?_
  refine aX tx () trivial ?_;refine aX tw (-1,m,1) ⟨by decide,by decide,c1 (XV (by omega)) (by decide),cn,by decide⟩ ?_
  repeat refine I ?_
  exact aw rfl (.of (by show dm _=dm _;rw[show -1*(m:Int)=n by omega]))
 ·obtain⟨m,hm⟩:∃m:Nat,n=(m:Int):=⟨n.toNat,by omega⟩;subst hm
  repeat refine al 14 ?_
  refine az 14 (.i .u64 (m:Nat)) rfl fI ?_;refine aX Yj m (by show m<_;omega) ?_
  repeat refine I ?_
  refine aX tx () trivial ?_;refine aX tw (1,m,1) ⟨by decide,by decide,c1 (XV (by omega)) (by decide),cn,by decide⟩ ?_
  repeat refine I ?_
  exact aw rfl (.of (by show dm _=dm _;rw[Int.one_mul]))
theorem Nh{x y:Rat}{s:Int}{k:Nat}(h:s*(k:Int)=x.num*y.den+y.num*x.den):mkRat (s*k) (x.den*y.den)=x+y:=by rw[h,Rat.add_def']
theorem Zh(n:Int):n=n.sign*(n.natAbs:Int):=(Int.sign_mul_natAbs n).symm
def DJ(x:Rat):List af:=[.i .i64 x.num.sign,cX x.num.natAbs,de (if x.num=0 then[]else a1 1000000000 x.den)]
def Ys:bE where
 L:=Rat×Rat
 args:=fun(x,y)=>[dm x,dm y]
 pre:=fun(x,y)=>en 67108864 x∧en 67108864 y
 res:=fun(x,y)=>dm (x+y)
theorem apz:bg aC.ctx 405 Ys.spec:=by
 refine bR [(231,xT.spec),(229,xW.spec),(228,HL.spec),(227,HZ.spec),(133,r6.spec),(72,vz.spec)] Tz.1 ?_;intro⟨x,y⟩ ⟨(J:en _ x),(aG:en _ y)⟩ H aJ;have fp:dS 134217728 (x.num.natAbs*y.den):=mf J.1 aG.2;have fJ:dS 134217728 (y.num.natAbs*x.den):=mf aG.1 J.2;have l1:dS 134217728 (x.den*y.den):=mf J.2 aG.2;have h3:x.den*y.den≠0:=Nat.mul_ne_zero x.den_nz y.den_nz;have hb:=AN x.num;have ml:=AN y.num
 repeat refine I ?_
 refine ck qS y trivial ?_
 repeat refine I ?_
 refine ck p2 (x.num.natAbs,y.den) ⟨c1 J.1 (by decide),c1 aG.2 (by decide)⟩ ?_
 repeat refine I ?_
 refine ck qS x trivial ?_
 repeat refine I ?_
 refine ck p2 (y.num.natAbs,x.den) ⟨c1 aG.1 (by decide),c1 J.2 (by decide)⟩ ?_
 repeat refine I ?_
 refine ck qS x trivial ?_
 repeat refine I ?_
 refine ck qS y trivial ?_
 repeat refine I ?_
 refine ck p2 (x.den,y.den) ⟨c1 J.2 (by decide),c1 aG.2 (by decide)⟩ ?_
 repeat refine al 27 ?_
 refine iS (L:=Bool) (fun t=>t=decide (x.num.sign=0∨y.num.sign=0∨x.num.sign=y.num.sign)) (fun t=>⟨[.c 73 (DJ x),.c 73 (DJ y),.c 73 [.i .i64 0,.nl,.nl]],3,[(2,.p 0 0),(3,.p 1 0),(4,.p 2 0),(5,cX (x.num.natAbs*y.den)),(6,cX (y.num.natAbs*x.den)),(7,cX (x.den*y.den)),(38,.b t)]⟩) ?_ ?_
 ·by_cases dh:x.num.sign=0
  ·refine az 27 (.b true) rfl (by rw[decide_eq_true dh]) ?_
   repeat refine I ?_
   exact bc [0,1,2] true (by simp[dh]) ld
  refine az 27 (.b false) rfl (by rw[decide_eq_false dh]) ?_
  repeat refine al 32 ?_
  by_cases dC:y.num.sign=0
  ·refine az 32 (.b true) rfl (by rw[decide_eq_true dC]) ?_
   repeat refine I ?_
   exact bc [0,1,2] true (by simp[dC]) ld
  refine az 32 (.b false) rfl (by rw[decide_eq_false dC]) ?_
  repeat refine I ?_
  exact bc [0,1,2] (decide (x.num.sign=y.num.sign)) (by simp only[dh,dC,false_or]) ld
 intro t aN;have ex:=Zh x.num;have sL:=Zh y.num;by_cases hc:x.num.sign=0∨y.num.sign=0∨x.num.sign=y.num.sign
 ·refine az 38 (.b true) rfl (by rw[aN,decide_eq_true hc]) ?_
  repeat refine I ?_
  refine iS (L:=Int) (fun s=> -1<=s∧s<=1∧s*((x.num.natAbs*y.den+y.num.natAbs*x.den:Nat):Int)=x.num*y.den+y.num*x.den) (fun s=>⟨[.c 73 (DJ x),.c 73 (DJ y),.c 73 [.i .i64 0,.nl,.nl]],3,[(4,.p 2 0),(5,cX (x.num.natAbs*y.den)),(6,cX (y.num.natAbs*x.den)),(7,cX (x.den*y.den)),(8,.i .i64 s)]⟩) ?_ ?_
  ·refine cP (fun h=> ?_) (fun h=> ?_)
   ·repeat refine I ?_
    refine bc [0,1,2] y.num.sign ⟨ml.1,ml.2,?_⟩ ld;have h0:x.num=0:=Int.sign_eq_zero_iff_zero.1 h
    conv=>rhs;rw[sL]
    rw[h0];simp[Int.mul_assoc]
   ·repeat refine I ?_
    refine bc [0,1,2] x.num.sign ⟨hb.1,hb.2,?_⟩ ld;have u5:y.num=x.num.sign*(y.num.natAbs:Int):=by
     rcases hc with aB|aB|aB
     ·exact absurd aB h
     ·rw[Int.sign_eq_zero_iff_zero.1 aB];simp
     ·rw[aB];exact sL
    conv=>rhs;rw[ex,u5]
    rw[Int.natCast_add,Int.natCast_mul,Int.natCast_mul,Int.mul_add,Int.mul_assoc,Int.mul_assoc]
  rintro s ⟨s1,s2,ye⟩
  repeat refine I ?_
  refine aX Ng (x.num.natAbs*y.den,y.num.natAbs*x.den) ⟨c1 fp (by decide),c1 fJ (by decide)⟩ ?_
  repeat refine I ?_
  refine aX tw (s,x.num.natAbs*y.den+y.num.natAbs*x.den,x.den*y.den) ⟨s1,s2,c1 (Jy fp fJ) (by decide),c1 l1 (by decide),h3⟩ ?_
  repeat refine I ?_
  exact aw rfl (.of (congrArg dm (Nh ye)))
 ·refine az 38 (.b false) rfl (by rw[aN,decide_eq_false hc]) ?_;have Gp:y.num.sign= -x.num.sign:=by omega
  repeat refine I ?_
  refine aX qT (x.num.natAbs*y.den,y.num.natAbs*x.den) ⟨c1 fp (by decide),c1 fJ (by decide)⟩ ?_
  repeat refine I ?_
  have key:∀(s:Int) (a b:Nat),b<=a->s*((a-b:Nat):Int)=s*a+(-s)*b:=fun s a b h=>by rw[show((a-b:Nat):Int)=(a:Int)-b by omega,Int.mul_sub,Int.neg_mul];rfl
  refine cP (fun h=> ?_) (fun h=> ?_)
  ·have aP:=yY h
   repeat refine I ?_
   refine ck DO (y.num.natAbs*x.den,x.num.natAbs*y.den) ⟨c1 fJ (by decide),Nat.le_of_lt aP⟩ ?_
   repeat refine I ?_
   refine ck tw (y.num.sign,y.num.natAbs*x.den-x.num.natAbs*y.den,x.den*y.den) ⟨ml.1,ml.2,c1 (nv fJ (Nat.sub_le _ _)) (by decide),c1 l1 (by decide),h3⟩ ?_
   repeat refine I ?_
   refine aw rfl (.of (congrArg dm (Nh ?_)));rw[key _ _ _ (Nat.le_of_lt aP)]
   conv=>rhs;rw[ex,sL]
   rw[Gp,Int.natCast_mul,Int.natCast_mul,Int.neg_neg,Int.mul_assoc,Int.mul_assoc,Int.add_comm]
  ·have lz:=yZ h
   repeat refine I ?_
   refine ck DO (x.num.natAbs*y.den,y.num.natAbs*x.den) ⟨c1 fp (by decide),lz⟩ ?_
   repeat refine I ?_
   refine ck tw (x.num.sign,x.num.natAbs*y.den-y.num.natAbs*x.den,x.den*y.den) ⟨hb.1,hb.2,c1 (nv fp (Nat.sub_le _ _)) (by decide),c1 l1 (by decide),h3⟩ ?_
   repeat refine I ?_
   refine aw rfl (.of (congrArg dm (Nh ?_)));rw[key _ _ _ lz]
   conv=>rhs;rw[ex,sL]
   rw[Gp,Int.natCast_mul,Int.natCast_mul,Int.mul_assoc,Int.mul_assoc]
def Yv:bE where
 L:=Rat×Rat
 args:=fun(x,y)=>[dm x,dm y]
 pre:=fun(x,y)=>en 67108864 x∧en 67108864 y
 res:=fun(x,y)=>dm (x-y)
theorem WH{k:Nat}{x:Rat}(h:en k x):en k (-x):=by
 unfold en;rw[Rat.neg_num,Rat.neg_den,Int.natAbs_neg];exact h
theorem apB:bg aC.ctx 387 Yv.spec:=by
 refine bR [(406,Ym.spec),(405,Ys.spec)] Tr.1 ?_;intro⟨x,y⟩ ⟨(J:en _ x),(aG:en _ y)⟩ H aJ
 repeat refine I ?_
 refine ck aps y trivial ?_
 repeat refine I ?_
 refine ck apz (x,-y) ⟨J,WH aG⟩ ?_
 repeat refine I ?_
 exact aw rfl (.of (by show dm (x+ -y)=dm (x-y);rw[Rat.sub_eq_add_neg]))
def Nt:bE where
 L:=Rat×Int
 args:=fun(x,k)=>[dm x,.i .i64 k]
 pre:=fun(x,k)=>en 67108864 x∧-100000000<=k∧k<=100000000
 res:=fun(x,k)=>dm (dV x k)
theorem Yw:bg aC.ctx 389 Nt.spec:=by
 refine bR [(231,xT.spec),(408,(HV 1000000001).spec),(229,xW.spec),(72,vz.spec)] Tt.1 ?_;intro⟨x,k⟩ ⟨(J:en _ x),(h1:_<=k),(h2:k<=_)⟩ H aJ;have hb:=AN x.num
 repeat refine I ?_
 refine cP (fun h=> ?_) (fun h=> ?_)
 ·obtain⟨n,hn⟩:∃n:Nat,k= -(n:Int):=⟨(-k).toNat,by omega⟩;subst hn
  repeat refine I ?_
  refine ck qS x trivial ?_
  repeat refine al 14 ?_
  refine eh 14 (.i .i64 (n:Nat)) rfl rfl cO ?_;refine ck (HW 1000000001) n ⟨by show n<_;omega,by show n<=_;omega⟩ ?_
  repeat refine I ?_
  refine ck p2 (x.den,2^n) ⟨c1 J.2 (by decide),c1 (qU n) (by omega)⟩ ?_
  repeat refine I ?_
  refine ck tw (x.num.sign,x.num.natAbs,x.den*2^n) ⟨hb.1,hb.2,c1 J.1 (by decide),c1 (mf J.2 (qU n)) (by omega),Nat.mul_ne_zero x.den_nz (by have:=Nat.two_pow_pos n;omega)⟩ ?_
  repeat refine I ?_
  refine aw rfl (.of (congrArg dm ?_));show _=dV x (-(n:Int));unfold dV;rw[if_pos (by omega),Int.sign_mul_natAbs,show(- -(n:Int)).toNat=n by omega]
 ·obtain⟨n,hn⟩:∃n:Nat,k=(n:Int):=⟨k.toNat,by omega⟩;subst hn
  repeat refine I ?_
  refine ck (HW 1000000001) n ⟨by show n<_;omega,by show n<=_;omega⟩ ?_
  repeat refine I ?_
  refine ck p2 (x.num.natAbs,2^n) ⟨c1 J.1 (by decide),c1 (qU n) (by omega)⟩ ?_
  repeat refine I ?_
  refine ck qS x trivial ?_
  repeat refine I ?_
  refine ck tw (x.num.sign,x.num.natAbs*2^n,x.den) ⟨hb.1,hb.2,c1 (mf J.1 (qU n)) (by omega),c1 J.2 (by decide),x.den_nz⟩ ?_
  repeat refine I ?_
  refine aw rfl (.of (congrArg dm ?_));show _=dV x (n:Int);unfold dV;rw[if_neg (by omega),Int.natCast_mul,<-Int.mul_assoc,Int.sign_mul_natAbs,Int.natCast_pow,show((n:Int)).toNat=n by omega];rfl
def Ar:bE where
 L:=Int
 args:=fun k=>[.i .i64 k]
 pre:=fun k=> -100000000<=k∧k<=100000000
 res:=fun k=>dm (dV (mkRat 1 1) k)
theorem z8:en 1 (mkRat 1 1):=by
 show dS 1 1∧dS 1 1;unfold dS;rw[uC];exact⟨b5 _,b5 _⟩
theorem k8{k l:Nat}{x:Rat}(h:en k x)(hl:k<=l):en l x:=⟨c1 h.1 hl,c1 h.2 hl⟩
theorem DP:bg aC.ctx 357 Ar.spec:=by
 refine bR [(388,No.spec),(389,Nt.spec)] Tl.1 ?_;intro(k:Int) ⟨(h1:_<=k),(h2:k<=_)⟩ H aJ
 repeat refine I ?_
 refine aX X8 (1:Int) ⟨by decide,by decide⟩ ?_
 repeat refine I ?_
 refine aX Yw (mkRat 1 1,k) ⟨k8 z8 (by decide),h1,h2⟩ ?_
 repeat refine I ?_
 exact aw rfl (.refl _)
def X9:bE where
 L:=Rat
 args:=fun x=>[dm x]
 pre:=fun x=>en 67108864 x
 res:=fun x=>.b (decide (x.den=1))
theorem aph:bg aC.ctx 139 X9.spec:=by
 refine bR [(231,xT.spec),(134,vA.spec),(133,r6.spec)] KR.1 ?_;intro(x:Rat) (J:en _ x) H aJ
 repeat refine I ?_
 refine aX qS x trivial ?_;refine aX tx () trivial ?_;refine aX qT (x.den,1) ⟨c1 J.2 (by decide),DK⟩ ?_
 repeat refine I ?_
 exact aw rfl (.of (by show af.b (decide _)=af.b (decide _);congr 1;rw[decide_eq_decide];exact y0))
theorem yg(k:Int):(dV (mkRat 1 1) k).num=2^k.toNat∧(dV (mkRat 1 1) k).den=2^(-k).toNat:=by
 have F0:(mkRat 1 1).num=1∧(mkRat 1 1).den=1:=⟨rfl,rfl⟩;unfold dV;rw[F0.1,F0.2];split
 ·obtain⟨h1,h2⟩:=xD 1 (1*2^(-k).toNat) (by have:=Nat.two_pow_pos (-k).toNat;omega);rw[h1,h2,show k.toNat=0 by omega];simp
 ·obtain⟨h1,h2⟩:=xD (1*2^k.toNat) 1 (by decide);rw[h1,h2,show(-k).toNat=0 by omega];simp
theorem Md{x:Rat}{k:Int}:ih x<dV (mkRat 1 1) k↔x.num.natAbs*2^(-k).toNat<x.den*2^k.toNat:=by
 rw[Rat.lt_iff,(qi x).1,(qi x).2,(yg k).1,(yg k).2];rw[show(x.num.natAbs:Int)*((2^(-k).toNat:Nat):Int)=((x.num.natAbs*2^(-k).toNat:Nat):Int)from(Int.natCast_mul _ _).symm,show(2:Int)^k.toNat*(x.den:Int)=((x.den*2^k.toNat:Nat):Int) by rw[Int.natCast_mul,Int.natCast_pow,Int.mul_comm];rfl];exact Int.ofNat_lt
theorem Mv{k:Nat}{x:Rat}(h:en k x):en k (ih x):=by
 unfold en;rw[(qi x).1,(qi x).2];exact h
theorem Mx{c:Nat}{k:Int}(h1: -(c:Int)<=k)(h2:k<=c):en (c+1) (dV (mkRat 1 1) k):=by
 obtain⟨aA,e2⟩:=yg k;unfold en;rw[aA,e2,Int.natAbs_pow];exact⟨c1 (qU _) (by omega),c1 (qU _) (by omega)⟩
theorem Qq{x y:Rat}:jo x y<0↔x<y:=by
 unfold jo;constructor
 ·intro h;split at h
  ·assumption
  split at h<;>omega
 ·intro h;rw[if_pos h];decide
def Yg:bE where
 L:=Rat
 args:=fun x=>[dm x]
 pre:=fun x=>en 3000000 x∧x.num≠0
 res:=fun x=>.i .i64 (jg x.num.natAbs x.den)
theorem apm:bg aC.ctx 358 Yg.spec:=by
 refine bR [(392,Ye.spec),(352,HK.spec),(357,Ar.spec),(220,DN.spec)] Tm.1 ?_;intro(x:Rat) ⟨(J:en _ x),(h0:x.num≠0)⟩ H aJ;have cZ:=p1 J.1;have dz:=p1 J.2
 repeat refine I ?_
 refine cP (fun h=> ?_) (fun h=> ?_)
 ·exact absurd (Int.sign_eq_zero_iff_zero.1 h) h0
 repeat refine I ?_
 refine ck Yf x.num.natAbs (c1 J.1 (by decide)) ?_
 repeat refine I ?_
 refine eh 11 (cX x.den) rfl rfl (by rw[if_neg h0];rfl) ?_;refine ck Yf x.den (c1 J.2 (by decide)) ?_;obtain⟨p,hp⟩:∃p,p=bU x.num.natAbs:=⟨_,rfl⟩;obtain⟨q,hq⟩:∃q,q=bU x.den:=⟨_,rfl⟩;have hl:jg x.num.natAbs x.den=if x.num.natAbs*2^((q:Int)-p).toNat<x.den*2^((p:Int)-q).toNat then(p:Int)-q-1 else(p:Int)-q:=by rw[hp,hq];rfl
 rw[<-hp]at cZ;rw[<-hq]at dz
 repeat refine al 13 ?_
 obtain⟨k,U⟩:∃k:Int,k=(p:Int)-q:=⟨_,rfl⟩;refine az 13 (.i .i64 k) rfl (by rw[U,hp,hq];exact cO rfl (by omega) (by omega)) ?_
 repeat refine I ?_
 refine aX Nf x trivial ?_
 repeat refine I ?_
 refine aX DP k ⟨by show _<=k;omega,by show k<=_;omega⟩ ?_;refine aX HX (ih x,dV (mkRat 1 1) k) ⟨k8 (Mv J) (by decide),k8 (Mx (c:=100000000) (by omega) (by omega)) (by decide)⟩ ?_;have Ct:jo (ih x) (dV (mkRat 1 1) k)<0↔x.num.natAbs*2^((q:Int)-p).toNat<x.den*2^((p:Int)-q).toNat:=by
  rw[Qq,Md,U,show -((p:Int)-q)=(q:Int)-p by omega]
 repeat refine I ?_
 refine cP (fun hc=> ?_) (fun hc=> ?_)
 ·have hc:=Ct.1 hc
  repeat refine I ?_
  exact aw rfl (.of (by
   show af.i _ _=af.i .i64 (jg _ _);rw[hl,if_pos hc];exact cO))
 ·have hc:=mt Ct.2 hc
  repeat refine I ?_
  exact aw rfl (.of (by
   show af.i _ _=af.i .i64 (jg _ _);rw[hl,if_neg hc,U]))
def Yd:bE where
 L:=Int×Int
 args:=fun(e,p)=>[pq e p]
 pre:=fun(e,p)=>fD e p
 res:=fun(e,p)=>dm (dV (mkRat 1 1) (2-eV e-p))
theorem apl:bg aC.ctx 356 Yd.spec:=by
 refine bR [(390,HN.spec),(357,Ar.spec)] Tk.1 ?_;intro⟨e,p⟩ ar H aJ;obtain⟨h1,h2,h3,ay,aY⟩:=ar;obtain⟨cZ,dz⟩:=o9 h1 h2
 repeat refine I ?_
 refine ck Nj (e,p) ⟨h1,h2,h3,ay,aY⟩ ?_
 repeat refine al 5 ?_
 refine az 5 (.i .i64 (2-eV e)) rfl (cO rfl (by omega) (by omega)) ?_
 repeat refine al 8 ?_
 refine az 8 (.i .i64 (2-eV e-p)) rfl (cO rfl (by omega) (by omega)) ?_;refine ck DP (2-eV e-p) ⟨by show _<=2-eV e-p;omega,by show 2-eV e-p<=_;omega⟩ ?_
 repeat refine I ?_
 exact aw rfl (.refl _)
def Yn:bE where
 L:=Int×Int
 args:=fun(e,p)=>[pq e p]
 pre:=fun(e,p)=>fD e p
 res:=fun(e,p)=>dm (dV (mkRat 1 1) (1-eV e))
theorem apu:bg aC.ctx 391 Yn.spec:=by
 refine bR [(390,HN.spec),(357,Ar.spec)] Tw.1 ?_;intro⟨e,p⟩ ar H aJ;obtain⟨h1,h2,h3,ay,aY⟩:=ar;obtain⟨cZ,dz⟩:=o9 h1 h2
 repeat refine I ?_
 refine aX Nj (e,p) ⟨h1,h2,h3,ay,aY⟩ ?_
 repeat refine al 5 ?_
 refine az 5 (.i .i64 (1-eV e)) rfl (cO rfl (by omega) (by omega)) ?_;refine aX DP (1-eV e) ⟨by show _<=1-eV e;omega,by show 1-eV e<=_;omega⟩ ?_
 repeat refine I ?_
 exact aw rfl (.refl _)
theorem xL{k:Nat}{n:Int}{d:Nat}(h1:dS k n.natAbs)(h2:dS k d)(av:d≠0):en k (mkRat n d):=by
 obtain⟨aA,e2⟩:=xD n d av;refine⟨nv h1 ?_,nv h2 ?_⟩
 ·rw[aA,Int.natAbs_ediv_of_dvd (Int.ofNat_dvd_left.2 (Nat.gcd_dvd_left _ _))];exact Nat.div_le_self _ _
 ·rw[e2];exact Nat.div_le_self _ _
theorem Mw{a:Nat}(c:Nat){x:Rat}{k:Int}(h:en a x)(h1: -(c:Int)<=k)(h2:k<=c):en (a+c+1) (dV x k):=by
 unfold dV;split
 ·exact xL (c1 h.1 (by omega)) (c1 (mf h.2 (qU _)) (by omega)) (Nat.mul_ne_zero x.den_nz (by have:=Nat.two_pow_pos (-k).toNat;omega))
 ·refine xL ?_ (c1 h.2 (by omega)) x.den_nz;rw[Int.natAbs_mul,Int.natAbs_pow];exact c1 (mf h.1 (qU _)) (by omega)
theorem aoc{a b:Nat}{x y:Rat}(h1:en a x)(h2:en b y):en (a+b+1) (x+y):=by
 rw[Rat.add_def'];have eF:=mf h1.1 h2.2;have a5:=mf h2.1 h1.2;refine xL (nv (Jy eF (c1 a5 (by omega))) ?_) (c1 (mf h1.2 h2.2) (by omega)) (Nat.mul_ne_zero x.den_nz y.den_nz);have:=Int.natAbs_add_le (x.num*y.den) (y.num*x.den);rw[Int.natAbs_mul,Int.natAbs_mul]at this;simpa using this
theorem WI{a b:Nat}{x y:Rat}(h1:en a x)(h2:en b y):en (a+b+1) (x-y):=by
 rw[Rat.sub_eq_add_neg];exact aoc h1 (WH h2)
theorem aod{e p:Int}(h:fD e p):en 2000 (m9 e p):=by
 obtain⟨h1,h2,h3,ay,aY⟩:=h;obtain⟨cZ,dz⟩:=o9 h1 h2;exact k8 (Mw 1200 (WI (Mw 120 z8 (by omega) (by omega)) z8) (by omega) (by omega)) (by decide)
def X5:bE where
 L:=Int×Int
 args:=fun(e,p)=>[pq e p]
 pre:=fun(e,p)=>fD e p
 res:=fun(e,p)=>dm (m9 e p)
theorem apf:bg aC.ctx 353 X5.spec:=by
 refine bR [(357,Ar.spec),(388,No.spec),(387,Yv.spec),(390,HN.spec),(389,Nt.spec)] Th.1 ?_;intro⟨e,p⟩ ar H aJ;obtain⟨h1,h2,h3,ay,aY⟩:=ar;obtain⟨cZ,dz⟩:=o9 h1 h2;have nq:=Mw (k:=p) 120 z8 (by omega) (by omega)
 repeat refine I ?_
 refine aX DP p ⟨by omega,by omega⟩ ?_;refine aX X8 (1:Int) ⟨by decide,by decide⟩ ?_;refine aX apB (dV (mkRat 1 1) p,mkRat 1 1) ⟨k8 nq (by decide),k8 z8 (by decide)⟩ ?_
 repeat refine I ?_
 refine ck Nj (e,p) ⟨h1,h2,h3,ay,aY⟩ ?_
 repeat refine al 14 ?_
 refine az 14 (.i .i64 (eV e-p)) rfl (cO rfl (by omega) (by omega)) ?_
 repeat refine al 15 ?_
 refine az 15 (.i .i64 (eV e-p+1)) rfl (cO rfl (by omega) (by omega)) ?_;refine ck Yw (dV (mkRat 1 1) p-mkRat 1 1,eV e-p+1) ⟨k8 (WI nq z8) (by decide),by show _<=eV e-p+1;omega,by show eV e-p+1<=_;omega⟩ ?_
 repeat refine I ?_
 exact aw rfl (.refl _)
def XY:bE where
 L:=Int×Int×Rat
 args:=fun(e,p,x)=>[pq e p,dm x]
 pre:=fun(e,p,x)=>fD e p∧en 67108864 x
 res:=fun(e,p,x)=>.b (decide (ih x<dV (mkRat 1 1) (1-eV e)))
theorem ao5:bg aC.ctx 355 XY.spec:=by
 refine bR [(352,HK.spec),(391,Yn.spec),(220,DN.spec)] Tj.1 ?_;intro⟨e,p,x⟩ ⟨ar,(J:en _ x)⟩ H aJ;have c6:=ar;obtain⟨h1,h2,h3,ay,aY⟩:=c6;obtain⟨cZ,dz⟩:=o9 h1 h2
 repeat refine I ?_
 refine ck Nf x trivial ?_
 repeat refine I ?_
 refine ck apu (e,p) ar ?_
 repeat refine I ?_
 refine ck HX (ih x,dV (mkRat 1 1) (1-eV e)) ⟨k8 (Mv J) (by decide),k8 (Mx (c:=2000) (by omega) (by omega)) (by decide)⟩ ?_
 repeat refine I ?_
 exact aw rfl (.of (by show af.b (decide _)=af.b (decide _);congr 1;rw[decide_eq_decide];exact Qq))
def mR(e p:Int)(x:Rat):Int:=if ih x<dV (mkRat 1 1) (1-eV e)then 2-eV e-p else jg x.num.natAbs x.den-p+1
def Yy:bE where
 L:=Int×Int×Rat
 args:=fun(e,p,x)=>[pq e p,dm x]
 pre:=fun(e,p,x)=>fD e p∧en 3000000 x
 res:=fun(e,p,x)=>dm (dV (mkRat 1 1) (mR e p x))
theorem abs_zero{x:Rat}(h:x.num=0)(k:Int):ih x<dV (mkRat 1 1) k:=by
 rw[Md,h];simp;exact Nat.mul_pos (Nat.pos_of_ne_zero x.den_nz) (Nat.two_pow_pos _)
theorem apF:bg aC.ctx 299 Yy.spec:=by
 refine bR [(355,XY.spec),(356,Yd.spec),(358,Yg.spec),(357,Ar.spec)] S8.1 ?_;intro⟨e,p,x⟩ ⟨ar,(J:en _ x)⟩ H aJ;have c6:=ar;obtain⟨h1,h2,h3,ay,aY⟩:=c6;obtain⟨cZ,dz⟩:=o9 h1 h2
 repeat refine I ?_
 refine aX ao5 (e,p,x) ⟨ar,k8 J (by decide)⟩ ?_
 repeat refine I ?_
 refine cP (fun h=> ?_) (fun h=> ?_)
 ·repeat refine I ?_
  refine aX apl (e,p) ar ?_
  repeat refine I ?_
  exact aw rfl (.of (by show dm _=dm _;unfold mR;rw[if_pos h]))
 ·have h0:x.num≠0:=fun aB=>h (abs_zero aB _);have lP:=G2 x.num.natAbs x.den;have rf:=p1 J.1;have Bw:=p1 J.2;obtain⟨k,U⟩:∃k:Int,k=jg x.num.natAbs x.den:=⟨_,rfl⟩;rw[<-U]at lP
  repeat refine I ?_
  refine ck apm x ⟨J,h0⟩ ?_
  repeat refine al 14 ?_
  refine az 14 (.i .i64 (k-p)) rfl (by rw[U];exact cO rfl (by omega) (by omega)) ?_
  repeat refine al 15 ?_
  refine az 15 (.i .i64 (k-p+1)) rfl (cO rfl (by omega) (by omega)) ?_;refine ck DP (k-p+1) ⟨by show _<=k-p+1;omega,by show k-p+1<=_;omega⟩ ?_
  repeat refine I ?_
  exact aw rfl (.of (by show dm _=dm _;unfold mR;rw[if_neg h,U];rfl))
theorem apk{c:Int}:b3 (.bB [.agg [.i .i64 0,.nl,.nl],.i .i64 c]) (.bB [dm 0,.i .i64 c]):=.bB ⟨Yc,.refl _,trivial⟩
def nS(p q:Nat)(k:Int):Prop:=q*2^k.toNat<=p*2^(-k).toNat
theorem ajn{p q:Nat}{k:Int}(h:nS p q (k+1)):nS p q k:=by
 unfold nS at *;rcases(show 0<=k∨k<0 by omega)with h0|h0
 ·rw[show(k+1).toNat=k.toNat+1 by omega,show(-(k+1)).toNat=0 by omega,Nat.pow_succ]at h;rw[show(-k).toNat=0 by omega];exact Nat.le_trans (mu q (by omega)) h
 ·rw[show(k+1).toNat=0 by omega]at h;rw[show k.toNat=0 by omega,show(-k).toNat=(-(k+1)).toNat+1 by omega,Nat.pow_succ];exact Nat.le_trans h (mu p (by omega))
theorem FR{p q:Nat}{j k:Int}(je:j<=k)(h:nS p q k):nS p q j:=by
 obtain⟨n,rfl⟩:∃n:Nat,k=j+n:=⟨(k-j).toNat,by omega⟩
 induction n with
 |zero=>simpa using h
 |succ n a0=>exact a0 (by omega) (ajn (by rw[show j+(n:Int)+1=j+((n+1:Nat):Int) by omega];exact h))
theorem ani{p q:Nat}(hp:p≠0)(hq:q≠0)(k:Int):k<=jg p q↔nS p q k:=by
 obtain⟨iA,hB⟩:=ri hp;obtain⟨cn,cz⟩:=ri hq;have fY:=uk (n:=p) (by omega);have hi:=uk (n:=q) (by omega);have e:jg p q=if p*2^((bU q:Int)-bU p).toNat<q*2^((bU p:Int)-bU q).toNat then(bU p:Int)-bU q-1 else(bU p:Int)-bU q:=rfl;obtain⟨a,ha⟩:∃a,bU p=a+1:=⟨_,fY⟩;obtain⟨b,aa⟩:∃b,bU q=b+1:=⟨_,hi⟩;rw[ha,show a+1-1=a by omega]at iA;rw[aa,show b+1-1=b by omega]at cn;rw[ha]at hB e;rw[aa]at cz e;have bb:nS p q ((a:Int)-b-1):=by
  unfold nS;rcases(show(b:Int)+1<=a∨(a:Int)<b+1 by omega)with h|h
  ·rw[show(-((a:Int)-b-1)).toNat=0 by omega,Nat.pow_zero,Nat.mul_one];refine Nat.le_trans (hF _ (Nat.le_of_lt cz)) ?_;rw[<-Nat.pow_add,show b+1+((a:Int)-b-1).toNat=a by omega];exact iA
  ·rw[show((a:Int)-b-1).toNat=0 by omega,Nat.pow_zero,Nat.mul_one];refine Nat.le_trans (Nat.le_of_lt cz) (Nat.le_trans ?_ (hF _ iA));rw[<-Nat.pow_add,show a+(-((a:Int)-b-1)).toNat=b+1 by omega];exact b5 _
 have ae:¬nS p q ((a:Int)-b+1):=by
  unfold nS;rw[Nat.not_le];rcases(show(b:Int)<=a+1∨(a:Int)+1<b by omega)with h|h
  ·rw[show(-((a:Int)-b+1)).toNat=0 by omega,Nat.pow_zero,Nat.mul_one];refine e4 hB (Nat.le_trans ?_ (hF _ cn));rw[<-Nat.pow_add,show b+((a:Int)-b+1).toNat=a+1 by omega];exact b5 _
  ·rw[show((a:Int)-b+1).toNat=0 by omega,Nat.pow_zero,Nat.mul_one];refine e4 (Nat.mul_lt_mul_of_pos_right hB (Nat.two_pow_pos _)) (Nat.le_trans ?_ cn);rw[<-Nat.pow_add,show a+1+(-((a:Int)-b+1)).toNat=b by omega];exact b5 _
 have e2:(p*2^(((b+1:Nat):Int)-((a+1:Nat):Int)).toNat<q*2^(((a+1:Nat):Int)-((b+1:Nat):Int)).toNat)↔¬nS p q ((a:Int)-b):=by
  unfold nS;rw[Nat.not_le,show((b+1:Nat):Int)-((a+1:Nat):Int)= -((a:Int)-b) by omega,show((a+1:Nat):Int)-((b+1:Nat):Int)=(a:Int)-b by omega]
 by_cases hm:nS p q ((a:Int)-b)
 ·rw[if_neg (fun h=>e2.1 h hm)]at e;rw[e];exact⟨fun h=>FR (by omega) hm,fun h=>Int.not_lt.1 fun aB=>ae (FR (by omega) h)⟩
 ·rw[if_pos (e2.2 hm)]at e;rw[e];exact⟨fun h=>FR (by omega) bb,fun h=>Int.not_lt.1 fun aB=>hm (FR (by omega) h)⟩
theorem ZM{e p:Int}{x:Rat}(h0:x.num≠0):IX e p x=mR e p x:=by
 have J:x.num.natAbs≠0:=by omega
 have h1:=ani J x.den_nz (1-eV e);have h2:= @Md x (1-eV e);unfold IX mR;rw[if_neg h0];unfold nS at h1;by_cases hc:ih x<dV (mkRat 1 1) (1-eV e)
 ·rw[if_pos hc];have h3:=h2.1 hc;have ay:¬1-eV e<=jg x.num.natAbs x.den:=fun h=>by have:=h1.1 h;omega
  omega
 ·rw[if_neg hc];have h3:=mt h2.2 hc;have ay:=h1.2 (by omega);omega
def Wy:bE where
 L:=Nat
 args:=fun n=>[.i .i64 n]
 pre:=fun n=>n<1000000000
 res:=fun n=>.s (gY (kr 9 n).reverse)
theorem aoR(n i:Nat):n/10^i<=n:=Nat.div_le_self _ _
theorem anZ:bg aC.ctx 230 Wy.spec:=by
 refine bR [] SO.1 ?_;intro(n:Nat) (hn:n<1000000000) H aJ
 repeat refine I ?_
 refine cG (L:=Nat) (fun i=>i<=9) (fun(i:Nat)=>⟨[],0,[(0,.i .i64 (n/10^i:Nat)),(3,.s (gY (kr i n).reverse)),(4,.i .i64 i)]⟩) (fun i=>9-i) [] 0 (Nat.zero_le _) (by show 9-0<ba+1;unfold ba;omega) (jA ⟨by simp;rfl,rfl,rfl,trivial⟩) ?_;intro(i:Nat) ae;have hm:=aoR n i;have ah:n/10^(i+1)=n/10^i/10:=by rw[Nat.pow_succ,Nat.div_div_eq_div_mul]
 have hl:gY (kr (i+1) n).reverse=gY [n/10^i%10]++gY (kr i n).reverse:=by rw[VW,List.reverse_append,PF];rfl
 have hlen:(gY (kr i n).reverse).length=i:=by rw[Bt,List.length_reverse,Dg]
 generalize gp:n/10^i=m at *
 repeat refine I ?_
 refine cP (fun h=> ?_) (fun h=> ?_)
 ·have h:i<9:=by omega
  repeat refine al 10 ?_
  refine az 10 (.i .i64 ((m%10:Nat):Int)) rfl rfl ?_
  repeat refine al 11 ?_
  refine az 11 (.i .i64 ((48+m%10:Nat):Int)) rfl cO ?_
  repeat refine al 12 ?_
  refine az 12 (.i .u8 ((UInt8.ofNat (48+m%10)).toNat:Int)) rfl (by rw[UInt8.toNat_ofNat']) ?_
  repeat refine I ?_
  refine mh 0 yD [UInt8.ofNat (48+m%10)] ?_;refine apM (gY [m%10]) ?_
  repeat refine I ?_
  refine D2 ?_ (hl:=by rw[hlen];show 1+i<=_;omega);refine az 16 (.s (gY (kr (i+1) n).reverse)) rfl (by rw[hl]) ?_
  repeat refine I ?_
  exact bc [] (i+1) ⟨by show 9-(i+1)<9-i;omega,h⟩ (jA ⟨by rw[ah];show some (af.i _ (IntKind.i64.wrap ((m/10:Nat):Int)))=_;exact fo rfl (by omega) (by omega),rfl,fo,trivial⟩)
 ·have he:i=9:=by omega
  subst he
  repeat refine I ?_
  exact aw rfl (.refl _)
def Yz:bE where
 L:=Nat
 args:=fun n=>[cX n]
 pre:=fun n=>dS 1073741824 n
 res:=fun n=>.s (j4 n)
theorem afb{d:Nat}(h:d<10):dec d=[d]:=by
 unfold dec;split
 ·rename_i h0;rw[h0]
 ·rw[pj (by decide) (by assumption),gW h,Nat.div_eq_of_lt h,g6];rfl
theorem asK{c8:List Nat}{d:Nat}(h:d≠0):eM (c8++[d])=c8++[d]:=by rw[se,if_neg h]
theorem KM:∀l:List Nat,(l.flatMap (kr 9)).length=9*l.length
 |[]=>rfl
 |x::l=>by rw[List.flatMap_cons,List.length_append,KM l,Dg,List.length_cons];omega
theorem YA:bg aC.ctx 138 Yz.spec:=by
 refine bR [(230,Wy.spec)] R1.1 ?_;intro(n:Nat) (hn:(a1 _ n).length<=_) H aJ;have h1:=gM (b:=1000000000) (by decide) n;have ata:=gn (b:=1000000000) (by decide) n;show a2.ok _ ⟨_,_,⟨_,_,[(0,de (a1 1000000000 n))]⟩⟩;generalize a1 1000000000 n=xs at *
 repeat refine I ?_
 refine oV (L:=Unit) (fun _=>True) (fun _=>⟨[],0,[(3,.s (gY (xs.flatMap (kr 9)).reverse))]⟩) ?_ ?_
 ·refine cG (L:=Nat) (fun k=>k<=xs.length) (fun(k:Nat)=>⟨[],0,[(0,de xs),(3,.s (gY ((xs.drop k).flatMap (kr 9)).reverse)),(4,.i .i64 ((k:Int)-1))]⟩) id [] xs.length (b5 _) (by show xs.length<ba+1;unfold ba;omega) (jA ⟨rfl,by rw[List.drop_length];rfl,fo,trivial⟩) ?_;intro(k:Nat) U;cases k with
  |zero=>
   repeat refine I ?_
   exact bc [] () trivial ei
  |succ m=>
   have J:m<xs.length:=by omega
   have k6:=h1 _ (dr J);have pE:=KM (xs.drop (m+1));refine az 4 (.i .i64 (m:Nat)) rfl fI ?_
   repeat refine I ?_
   refine az 9 (.b true) rfl (by simp) ?_
   repeat refine I ?_
   refine cV xs[m] (a9 J) ?_
   repeat refine I ?_
   refine aX anZ xs[m] k6 ?_;refine D2 ?_ (hl:=by rw[Bt,Bt,List.length_reverse,List.length_reverse,pE,Dg,List.length_drop];omega);refine az 18 (.s (gY ((xs.drop m).flatMap (kr 9)).reverse)) rfl (by rw[hf J,List.flatMap_cons,List.reverse_append,PF]) ?_
   repeat refine I ?_
   exact bc [] m ⟨by simp,by omega⟩ (jA ⟨rfl,rfl,fo,trivial⟩)
 intro _ _;have bP:=B9 xs;have xh:=Rf h1;have hlen:=KM xs;rw[ata]at xh;generalize xs.flatMap (kr 9)=KD at *
 repeat refine I ?_
 refine cG (L:=List Nat) (fun es=>c2 10 es∧val 10 es=n∧es.length<=KD.length) (fun es=>⟨[],0,[(3,.s (gY es.reverse))]⟩) List.length [] KD ⟨bP,xh,b5 _⟩ (by show KD.length<ba+1;unfold ba;omega) ei ?_;rintro es ⟨aL,aR,a7⟩;rcases List.eq_nil_or_concat es with rfl|⟨c8,d,rfl⟩
 ·have pH:n=0:=by rw[<-aR];rfl
  repeat refine I ?_
  refine aw rfl (.of ?_);show af.s [48]=af.s (j4 n);rw[pH];rfl
 rw[List.concat_eq_append]at *;have av:d<10:=aL d (by simp);have ah:gY (c8++[d]).reverse=UInt8.ofNat (48+d)::gY c8.reverse:=by rw[List.reverse_append];rfl
 rw[mo]at aR;simp only[val,Nat.mul_zero,Nat.add_zero]at aR;refine az 3 (.s (UInt8.ofNat (48+d)::gY c8.reverse)) rfl (by rw[ah]) ?_
 repeat refine al 22 ?_
 have hl:(gY c8.reverse).length=c8.length:=by rw[Bt,List.length_reverse]
 by_cases ae:c8=[]
 ·subst ae;refine az 22 (.b false) rfl (by simp[gY]) ?_
  repeat refine I ?_
  refine aw rfl (.of ?_);show af.s (gY [d])=af.s (j4 n);have:n=d:=by simp[val]at aR;exact aR.symm
  rw[this];congr 1;unfold j4;rw[afb av]
 have auo:0<c8.length:=List.length_pos_iff.2 ae;refine az 22 (.b true) rfl (by rw[List.length_cons,hl];simp;omega) ?_
 repeat refine I ?_
 refine nz (UInt8.ofNat (48+d)) (j:=0) rfl ?_
 repeat refine al 25 ?_
 have iL:=Fs av;by_cases wQ:d=0
 ·refine az 25 (.b true) rfl (by rw[iL,wQ];rfl) ?_
  repeat refine I ?_
  refine x9 (p:=1) (gY c8.reverse) ?_ (hp:=by simp) (hq:=by simp)
  repeat refine I ?_
  exact bc [] c8 ⟨by simp,fun x J=>aL x (by simp[J]),by rw[wQ]at aR;simpa using aR,by simp at a7;omega⟩ ei
 ·refine az 25 (.b false) rfl (by rw[iL];exact congrArg af.b (decide_eq_false (by omega))) ?_
  repeat refine I ?_
  refine aw rfl (.of ?_);show af.s (UInt8.ofNat (48+d)::gY c8.reverse)=af.s (j4 n);rw[<-ah];have e:=BS (b:=10) (by decide) aL (asK wQ);rw[mo]at e;simp only[val,Nat.mul_zero,Nat.add_zero]at e;rw[aR]at e;have pH:n≠0:=fun h=>by rw[h,g6]at e;simp at e
  unfold j4 dec;rw[if_neg pH,e]
theorem PG{k n:Nat}(h:dS k n):(j4 n).length<=9*k+1:=by
 unfold j4 dec;rw[Bt];split
 ·simp
 ·rw[List.length_reverse];refine Nat.le_succ_of_le (lr (b:=10) (by decide) ?_);have:=rp h;rw[show(1000000000:Nat)=10^9 from rfl,<-Nat.pow_mul]at this;exact this
def XR:bE where
 L:=Rat
 args:=fun x=>[dm x]
 pre:=fun x=>en 67108864 x
 res:=fun x=>.s (nI x)
theorem ao2:bg aC.ctx 74 XR.spec:=by
 refine bR [(138,Yz.spec),(139,X9.spec)] TY.1 ?_;intro(x:Rat) (J:en _ x) H aJ;have fp:=PG J.1;have fJ:=PG J.2
 repeat refine I ?_
 refine aX YA x.num.natAbs (c1 J.1 (by decide)) ?_
 repeat refine I ?_
 have ZG:x.num.sign<0↔x.num<0:=Int.sign_neg_iff;obtain⟨u,hu⟩:∃u,u=(if x.num<0 then[45]else[])++j4 x.num.natAbs:=⟨_,rfl⟩;have u4:u.length<=9*67108864+2:=by
  rw[hu,List.length_append];have:(if x.num<0 then([45]:List UInt8)else[]).length<=1:=by split<;>simp
  omega
 refine iS (L:=Unit) (fun _=>True) (fun _=>⟨[.c 73 (DJ x)],1,[(1,.p 0 0),(3,.s u)]⟩) ?_ ?_
 ·refine cP (fun h=> ?_) (fun h=> ?_)
  ·repeat refine I ?_
   refine D2 ?_ (hl:=by show 1+(j4 _).length<=_;omega)
   repeat refine I ?_
   exact bc [0] () trivial (e3 ⟨rfl,by rw[hu,if_pos (ZG.1 h)];rfl,trivial⟩ ⟨_,rfl,rfl⟩)
  ·repeat refine I ?_
   exact bc [0] () trivial (e3 ⟨rfl,by rw[hu,if_neg (fun aB=>h (ZG.2 aB))];rfl,trivial⟩ ⟨_,rfl,rfl⟩)
 intro _ _
 repeat refine I ?_
 refine aX aph x J ?_
 repeat refine I ?_
 refine AG (fun h=> ?_) (fun h=> ?_)
 ·have h0:x.num≠0:=fun e=>h (by have:=x.reduced;rw[e]at this;simpa[Nat.Coprime]using this)
  repeat refine I ?_
  refine D2 ?_ (hl:=by show u.length+1<=_;omega)
  repeat refine al 18 ?_
  refine az 18 (cX x.den) rfl (by rw[if_neg h0];rfl) ?_;refine aX YA x.den (c1 J.2 (by decide)) ?_;refine D2 ?_ (hl:=by rw[List.length_append];show u.length+1+(j4 _).length<=_;omega)
  repeat refine I ?_
  refine aw rfl (.of ?_);show af.s (u++[47]++j4 x.den)=af.s (nI x);unfold nI;rw[<-hu,if_neg h,List.append_assoc];rfl
 ·repeat refine I ?_
  refine aw rfl (.of ?_);show af.s u=af.s (nI x);unfold nI;rw[<-hu,if_pos h,List.append_nil]
def Nr:bE where
 L:=List UInt8
 args:=fun s=>[.s s]
 pre:=fun s=>s.length<=1073741824
 res:=fun s=>.b (decide (hG s))
theorem abQ{s:List UInt8}{i:Nat}(h:i<s.length)(h1:iX (s.take i))(h2:48<=s[i].toNat∧s[i].toNat<=57):iX (s.take (i+1)):=by
 rw[List.take_succ_eq_append_getElem h];intro c hc;rcases List.mem_append.1 hc with hc|hc
 ·exact h1 c hc
 ·simp at hc;subst hc;exact h2
theorem Ns:bg aC.ctx 132 Nr.spec:=by
 refine bR [] RV.1 ?_;intro(s:List UInt8) (ah:s.length<=_) H aJ
 repeat refine I ?_
 refine oV (L:=Unit) (fun _=>iX s) (fun _=>⟨[],0,[(0,.s s)]⟩) ?_ ?_
 ·refine cG (L:=Nat) (fun i=>i<=s.length∧iX (s.take i)) (fun(i:Nat)=>⟨[],0,[(0,.s s),(3,.i .i64 i)]⟩) (fun i=>s.length-i) [] 0 ⟨Nat.zero_le _,fun c hc=>by simp at hc⟩ (by show s.length-0<ba+1;unfold ba;omega) ei ?_;rintro(i:Nat) ⟨ae,ha⟩
  repeat refine I ?_
  refine cP (fun h=> ?_) (fun h=> ?_)
  ·have h:i<s.length:=by omega
   have hm:s[i]∈s:=dr h
   repeat refine I ?_
   refine nz s[i] (a9 h) ?_
   repeat refine al 14 ?_
   have bad:¬(48<=s[i].toNat∧s[i].toNat<=57)->b3 (.b false) (Nr.res s):=fun h=>.of (by show af.b false=af.b (decide _);rw[decide_eq_false (fun aa=>h (aa.2.1 _ hm))]);by_cases h1:s[i].toNat<48
   ·refine az 14 (.b true) rfl (by rw[decide_eq_true (by omega)]) ?_
    repeat refine I ?_
    exact aw rfl (bad (by omega))
   refine az 14 (.b false) rfl (by rw[decide_eq_false (by omega)]) ?_
   repeat refine I ?_
   refine nz s[i] (a9 h) ?_
   repeat refine I ?_
   refine cP (fun h2=> ?_) (fun h2=> ?_)
   ·repeat refine I ?_
    exact aw rfl (bad (by omega))
   ·repeat refine I ?_
    exact bc [] (i+1) ⟨by show s.length-(i+1)<s.length-i;omega,h,abQ h ha (by omega)⟩ (jA ⟨rfl,fo,trivial⟩)
  ·have he:i=s.length:=by omega
   subst he;rw[List.take_length]at ha
   repeat refine I ?_
   exact bc [] () ha ei
 intro _ ez;cases s with
 |nil=>
  repeat refine al 23 ?_
  refine az 23 (.b false) rfl rfl ?_
  repeat refine I ?_
  exact aw rfl (.of (by show af.b false=af.b (decide _);rw[decide_eq_false (fun aa=>aa.1 rfl)]))
 |cons c t=>
  repeat refine al 23 ?_
  refine az 23 (.b true) rfl (by simp) ?_
  repeat refine al 26 ?_
  by_cases aa:c::t=[48]
  ·refine az 26 (.b true) rfl (by rw[aa];rfl) ?_
   repeat refine I ?_
   exact aw rfl (.of (by show af.b true=af.b (decide _);rw[decide_eq_true ⟨by simp,ez,.inl aa⟩]))
  refine az 26 (.b false) rfl (by rw[beq_eq_false_iff_ne.2 aa]) ?_
  repeat refine I ?_
  refine nz c (j:=0) rfl ?_
  repeat refine I ?_
  refine aw rfl (.of ?_);show af.b (decide _)=af.b (decide _);congr 1;rw[decide_eq_decide];constructor
  ·intro h;refine⟨by simp,ez,.inr fun e=>h ?_⟩;have e:c=48:=by simpa using e
   rw[e];rfl
  ·rintro⟨_,_,h|h⟩ e
   ·exact aa h
   ·exact h (congrArg some (UInt8.toNat_inj.1 (show c.toNat=48 by omega)))
def D6(s:List UInt8):af:=
 match(cutAt (dQ s).2).2 with
 |none=>.bB [.s (dQ s).2,.s [49],.i .i64 (if(dQ s).1=true then -1 else 1),.b (decide (hG (dQ s).2∧¬((dQ s).1=true∧(dQ s).2=[48])))]
 |some q=>.bB [.s (cutAt (dQ s).2).1,.s q,.i .i64 (if(dQ s).1=true then -1 else 1),.b (decide (hG (cutAt (dQ s).2).1∧hG q∧q≠[48]∧q≠[49]∧¬((dQ s).1=true∧(cutAt (dQ s).2).1=[48])))]
theorem QN{p:Prop}[Decidable p]{b:Bool}:decide p=b↔(p↔b=true):=by cases b<;>simp
def HY:bE where
 L:=List UInt8
 args:=fun s=>[.s s]
 pre:=fun s=>s.length<=1073741824
 res:=fun s=>D6 s
theorem aeR{s:List UInt8}{i:Nat}(h:i<s.length)(h1:(47:UInt8)∉s.take i)(h2:s[i]=47):cutAt s=(s.take i,some (s.drop (i+1))):=by
 refine Fh h1 ?_;rw[<-h2,<-hf h,List.take_append_drop]
theorem apA:bg aC.ctx 71 HY.spec:=by
 refine bR [(132,Nr.spec)] TV.1 ?_;intro(s:List UInt8) (ah:s.length<=_) H aJ;have Gw:(dQ s).2.length<=s.length:=by
  unfold dQ;split
  ·exact Nat.zero_le _
  ·split<;>simp
 repeat refine al 7 ?_
 iterate 3 refine I ?_
 refine iS (L:=Unit) (fun _=>True) (fun _=>⟨[],0,[(6,.s (dQ s).2),(7,.i .i64 (if(dQ s).1=true then -1 else 1))]⟩) ?_ ?_
 ·cases s with
  |nil=>
   repeat refine I ?_
   exact bc [] () trivial ei
  |cons c t=>
   repeat refine al 15 ?_
   refine az 15 (.b true) rfl (by simp) ?_
   repeat refine I ?_
   refine nz c (j:=0) rfl ?_
   repeat refine I ?_
   by_cases hc:c=45
   ·subst hc;refine az 19 (.b true) rfl rfl ?_
    repeat refine I ?_
    refine x9 (p:=1) t ?_ (hp:=by simp) (hq:=by simp)
    repeat refine I ?_
    exact bc [] () trivial ei
   ·have aO:dQ (c::t)=(false,c::t):=if_neg hc;refine az 19 (.b false) rfl (congrArg af.b (decide_eq_false (fun e=>hc (UInt8.toNat_inj.1 (show c.toNat=45 by omega))))) ?_
    repeat refine I ?_
    exact bc [] () trivial (jA ⟨by rw[aO];rfl,by rw[aO];rfl,trivial⟩)
 intro _ _;obtain⟨⟨n,t⟩,aO⟩:∃g,g=dQ s:=⟨_,rfl⟩;rw[<-aO]at Gw;have fin:∀{r},D6 s=r->b3 r (HY.res s):=fun h=>.of h.symm;unfold D6 at fin;rw[<-aO]at fin⊢;simp only at fin Gw;obtain⟨cj,ni⟩:∃cj:Int,cj=if n=true then -1 else 1:=⟨_,rfl⟩;have u1:decide (cj>0)= !n:=by rw[ni];cases n<;>rfl
 refine az 7 (.i .i64 cj) rfl (by rw[ni]) ?_;rw[<-ni]at fin
 repeat refine I ?_
 refine oV (L:=Unit) (fun _=>(47:UInt8)∉t) (fun _=>⟨[],0,[(6,.s t),(7,.i .i64 cj)]⟩) ?_ ?_
 ·refine cG (L:=Nat) (fun i=>i<=t.length∧(47:UInt8)∉t.take i) (fun(i:Nat)=>⟨[],0,[(6,.s t),(7,.i .i64 cj),(8,.i .i64 i)]⟩) (fun i=>t.length-i) [] 0 ⟨Nat.zero_le _,fun hm=>by simp at hm⟩ (by show t.length-0<ba+1;unfold ba;omega) ei ?_;rintro(i:Nat) ⟨ae,ha⟩
  repeat refine I ?_
  refine cP (fun h=> ?_) (fun h=> ?_)
  ·have h:i<t.length:=by omega
   repeat refine I ?_
   refine nz t[i] (a9 h) ?_
   repeat refine I ?_
   refine cP (fun hc=> ?_) (fun hc=> ?_)
   ·have hc:t[i]=47:=UInt8.toNat_inj.1 (show t[i].toNat=47 by omega);have pA:=aeR h ha hc;rw[pA]at fin;simp only at fin;generalize iq:t.take i=P at *;generalize oE:t.drop (i+1)=Q at *;have L5:P.length<=t.length:=by rw[<-iq];simp;omega
    have am6:Q.length<=t.length:=by rw[<-oE];simp
    repeat refine I ?_
    refine Fm P ?_ (hl:=by rw[<-iq];simp)
    repeat refine al 37 ?_
    refine eh 37 (.i .i64 ((i+1:Nat):Int)) rfl rfl cO ?_;refine Fm Q ?_ (hl:=by rw[<-oE];exact List.take_of_length_le (by simp))
    repeat refine I ?_
    have bad:¬(hG P∧hG Q∧Q≠[48]∧Q≠[49]∧¬(n=true∧P=[48]))->b3 (.bB [.s P,.s Q,.i .i64 cj,.b false]) (HY.res s):=fun h=>fin (by rw[decide_eq_false h]);refine aX Ns P (by show P.length<=_;omega) ?_
    repeat refine al 44 ?_
    by_cases h1:hG P
    ·refine dx 44 h1 ?_
     repeat refine I ?_
     refine aX Ns Q (by show Q.length<=_;omega) ?_
     repeat refine al 48 ?_
     by_cases h2:hG Q
     ·refine dx 48 h2 ?_
      repeat refine al 52 ?_
      by_cases h3:Q=[48]
      ·refine az 52 (.b false) rfl (by rw[h3];rfl) ?_
       repeat refine I ?_
       exact aw rfl (bad (fun h=>h.2.2.1 h3))
      refine az 52 (.b true) rfl (by rw[beq_eq_false_iff_ne.2 h3];rfl) ?_
      repeat refine al 56 ?_
      by_cases ay:Q=[49]
      ·refine az 56 (.b false) rfl (by rw[ay];rfl) ?_
       repeat refine I ?_
       exact aw rfl (bad (fun h=>h.2.2.2.1 ay))
      refine az 56 (.b true) rfl (by rw[beq_eq_false_iff_ne.2 ay];rfl) ?_
      repeat refine al 59 ?_
      by_cases aY:P=[48]
      ·refine az 59 (.b false) rfl (by rw[aY];rfl) ?_
       repeat refine I ?_
       refine aw rfl (fin ?_);rw[u1];refine congrArg (fun b=>af.bB [.s P,.s Q,.i .i64 cj,.b b]) ?_;rw[QN];simp[h2,h3,ay,aY];exact fun _=>aY▸h1
      ·refine az 59 (.b true) rfl (by rw[beq_eq_false_iff_ne.2 aY];rfl) ?_
       repeat refine I ?_
       exact aw rfl (fin (by rw[decide_eq_true ⟨h1,h2,h3,ay,fun h=>aY h.2⟩]))
     ·refine dL 48 h2 ?_
      repeat refine I ?_
      exact aw rfl (bad (fun h=>h2 h.2.1))
    ·refine dL 44 h1 ?_
     repeat refine I ?_
     exact aw rfl (bad (fun h=>h1 h.1))
   ·have hc:t[i]≠47:=fun e=>hc (by rw[e];rfl)
    repeat refine I ?_
    refine bc [] (i+1) ⟨by show t.length-(i+1)<t.length-i;omega,h,?_⟩ (jA ⟨rfl,rfl,fo,trivial⟩);rw[List.take_succ_eq_append_getElem h];intro hm;rcases List.mem_append.1 hm with hm|hm
    ·exact ha hm
    ·simp at hm;exact hc hm.symm
  ·have he:i=t.length:=by omega
   subst he;rw[List.take_length]at ha
   repeat refine I ?_
   exact bc [] () ha ei
 intro _ gd;rw[QH gd]at fin;simp only at fin
 repeat refine I ?_
 refine aX Ns t (by show t.length<=_;omega) ?_
 repeat refine al 68 ?_
 by_cases aa:hG t
 ·refine dx 68 aa ?_
  repeat refine al 71 ?_
  by_cases h0:t=[48]
  ·refine az 71 (.b false) rfl (by rw[h0];rfl) ?_
   repeat refine I ?_
   refine aw rfl (fin ?_);rw[u1];refine congrArg (fun b=>af.bB [.s t,.s [49],.i .i64 cj,.b b]) ?_;rw[QN];simp[h0];exact fun _=>h0▸aa
  ·refine az 71 (.b true) rfl (by rw[beq_eq_false_iff_ne.2 h0];rfl) ?_
   repeat refine I ?_
   refine aw rfl (fin ?_);rw[decide_eq_true ⟨aa,fun h=>h0 h.2⟩]
 ·refine dL 68 aa ?_
  repeat refine I ?_
  refine aw rfl (fin ?_);rw[decide_eq_false (fun h=>aa h.1)]
theorem ND(u v:List UInt8):b1 (u++v)=b1 v+10^v.length*b1 u:=by
 unfold b1 mB;rw[List.map_append,List.reverse_append,mo,List.length_reverse,List.length_map]
theorem NG(w:List UInt8)(c:UInt8):b1 (w++[c])=(c.toNat-48)+10*b1 w:=by
 rw[ND];simp[b1,mB,val]
theorem qW{s:List UInt8}(h:iX s):b1 s<10^s.length:=by
 have:=kf (b:=10) (ds:=(mB s).reverse) (fun d av=>QS h d (List.mem_reverse.1 av));rw[List.length_reverse]at this;unfold mB at this;rw[List.length_map]at this;exact this
def Yt:bE where
 L:=List UInt8
 args:=fun s=>[.s s]
 pre:=fun s=>iX s∧s.length<=1073741824
 res:=fun s=>cX (b1 s)
def apy(s:List UInt8)(i:Int):List Nat->cS
 |[]=>⟨[],0,[(0,.s s),(3,.nl),(4,.i .i64 i)]⟩
 |d::ds=>⟨[.a 2 true 1 Nat fO (d::ds)],1,[(0,.s s),(3,.a6 0 1 0 (d::ds).length (d::ds).length),(4,.i .i64 i)]⟩
theorem ap5{s:List UInt8}{es:List Nat}{r bb:Nat}(h:b1 s=val 1000000000 es+1000000000^es.length*b1 (s.take r))(aQ:r<=s.length)(gr:bb=r-9):
 b1 s=val 1000000000 (es++[b1 ((s.take r).drop bb)])+1000000000^(es++[b1 ((s.take r).drop bb)]).length*b1 (s.take bb):=by
 have e:s.take r=s.take bb++(s.take r).drop bb:=by
  conv=>lhs;rw[<-List.take_append_drop bb (s.take r)]
  rw[List.take_take,Nat.min_eq_left (by omega)]
 have e2:b1 (s.take r)=b1 ((s.take r).drop bb)+1000000000*b1 (s.take bb):=by
  conv=>lhs;rw[e,ND]
  congr 1;rcases(show bb=0∨r=bb+9 by omega)with h0|h0
  ·subst h0;simp[b1,mB,val]
  ·rw[List.length_drop,List.length_take,Nat.min_eq_left aQ,h0,Nat.add_sub_cancel_left]
 rw[h,e2,mo,List.length_append,Nat.pow_add];simp only[val,List.length_cons,List.length_nil,Nat.mul_zero,Nat.add_zero,Nat.zero_add,Nat.pow_one];rw[Nat.mul_add,Nat.mul_assoc];omega
theorem Yu:bg aC.ctx 73 Yt.spec:=by
 refine bR [(137,vB.spec)] TX.1 ?_;intro(s:List UInt8) ⟨(ez:iX s),(ah:s.length<=_)⟩ H aJ
 repeat refine I ?_
 refine cG (L:=Int×List Nat) (fun(i,es)=>i<=s.length∧-9<=i∧es.length+i.toNat<=s.length∧c2 1000000000 es∧b1 s=val 1000000000 es+1000000000^es.length*b1 (s.take i.toNat)) (fun(i,es)=>apy s i es) (fun l=>l.1.toNat) [] ((s.length:Int),[]) ⟨Int.le_refl _,by show -9<=(s.length:Int);omega,by simp,fun x J=>by simp at J,by simp[val]⟩ (by show((s.length:Int)).toNat<ba+1;unfold ba;omega) ei ?_;rintro⟨i,es⟩ ⟨h1,h2,h3,ay,aY⟩;obtain⟨r,aQ⟩:∃r,r=i.toNat:=⟨_,rfl⟩;rw[<-aQ]at h3 aY;obtain⟨bb,gr⟩:∃bb,bb=r-9:=⟨_,rfl⟩;have nj:=ap5 aY (by omega) gr;have iL:iX ((s.take r).drop bb):=fun c hc=>ez c (List.mem_of_mem_take (List.mem_of_mem_drop hc));have aP:=qW iL;have auu:b1 ((s.take r).drop bb)<1000000000:=e4 aP (Nat.pow_le_pow_right (n:=10) (by decide) (show _<=9 by simp;omega));have kG:¬0<i->a1 1000000000 (b1 s)=eM es:=fun h=>by
  have:r=0:=by omega
  rw[this]at aY;rw[yl (b:=1000000000) (by decide) ay,aY];simp[b1,mB,val]
 have piece:∀k:Nat,bb<=k->k<=r->b1 ((s.take k).drop bb)<10^(k-bb):=fun k oG js=>by
  have h:=qW (s:=(s.take k).drop bb) (fun c hc=>ez c (List.mem_of_mem_take (List.mem_of_mem_drop hc)))
  rwa [List.length_drop,List.length_take,Nat.min_eq_left (by omega)]at h
 cases es with
 |nil=>
  repeat refine I ?_
  refine cP (fun ae=> ?_) (fun ae=> ?_)
  ·have qx:i=(r:Int):=by omega
   subst qx
   repeat refine al 14 ?_
   refine az 14 (.i .i64 ((r:Int)-9)) rfl (cO rfl (by omega) (by omega)) ?_
   repeat refine al 15 ?_
   refine az 15 (.i .i64 (bb:Nat)) rfl fI ?_
   repeat refine I ?_
   refine oV (L:=Unit) (fun _=>True) (fun _=>⟨[],0,[(0,.s s),(3,.nl),(4,.i .i64 (r:Int)),(5,.i .i64 (b1 ((s.take r).drop bb):Nat))]⟩) ?_ ?_
   ·refine cG (L:=Nat) (fun k=>bb<=k∧k<=r) (fun(k:Nat)=>⟨[],0,[(0,.s s),(3,.nl),(4,.i .i64 (r:Int)),(5,.i .i64 (b1 ((s.take k).drop bb):Nat)),(6,.i .i64 k)]⟩) (fun k=>r-k) [] bb ⟨b5 _,by omega⟩ (by show r-bb<ba+1;unfold ba;omega) (jA ⟨rfl,rfl,rfl,by rw[List.drop_eq_nil_of_le (by simp;omega)];rfl,rfl,trivial⟩) ?_;rintro(k:Nat) ⟨bj,bM⟩
    repeat refine I ?_
    refine cP (fun U=> ?_) (fun U=> ?_)
    ·have U:k<r:=by omega
     have rD:k<s.length:=by omega
     have hp:=piece k bj (by omega);have w4:(10:Nat)^(k-bb)<=10^9:=Nat.pow_le_pow_right (by decide) (by omega);have hc:=ez _ (dr rD);have u1:b1 ((s.take (k+1)).drop bb)=(s[k].toNat-48)+10*b1 ((s.take k).drop bb):=by
      rw[List.take_succ_eq_append_getElem rD,List.drop_append_of_le_length (by simp;omega),NG]
     generalize hn:b1 ((s.take k).drop bb)=n at *;have alc:n<1000000000:=by omega
     repeat refine I ?_
     refine nz s[k] (a9 rD) ?_
     repeat refine al 26 ?_
     have BY:(s[k].toNat+(256*48-48))%256=s[k].toNat-48:=by omega
     refine az 26 (.i .u8 ((s[k].toNat-48:Nat):Int)) rfl (congrArg (fun n:Nat=>af.i .u8 (n:Int)) BY) ?_
     repeat refine I ?_
     refine bc [] (k+1) ⟨by show r-(k+1)<r-k;omega,by omega,U⟩ (jA ⟨rfl,rfl,rfl,?_,fo,trivial⟩);rw[u1];exact congrArg (fun n=>some (af.i .i64 n)) (by rw[g0 (n:=10*(n:Int)) (by omega) (by omega),g0 (n:=((s[k].toNat-48:Nat):Int)) (by omega) (by omega),g0 (by omega) (by omega)];omega)
    ·have he:k=r:=by omega
     subst he
     repeat refine I ?_
     exact bc [] () trivial ei
   intro _ _;generalize hn:b1 ((s.take r).drop bb)=n at *
   repeat refine I ?_
   refine x6 fO [n] (gG (R:=fO) [n] rfl) ?_
   repeat refine I ?_
   exact bc [1] ((r:Int)-9,[n]) ⟨by show((r:Int)-9).toNat<((r:Int)).toNat;omega,by omega,by omega,by simp;omega,fun x J=>by simp at J;omega,by rw[show((r:Int)-9).toNat=bb by omega];exact nj⟩ (AS ⟨rfl,rfl,fo,trivial⟩ ⟨_,rfl,rfl,fun _=>rfl⟩)
  ·repeat refine I ?_
   refine AH 33 (de []) rfl b3.nl ?_;refine aX vC [] (by show 0<=_;decide) ?_
   repeat refine I ?_
   exact aw rfl (.of (by show de (eM [])=de _;rw[<-kG ae]))
 |cons d ds=>
  repeat refine I ?_
  refine cP (fun ae=> ?_) (fun ae=> ?_)
  ·have qx:i=(r:Int):=by omega
   subst qx
   repeat refine al 14 ?_
   refine az 14 (.i .i64 ((r:Int)-9)) rfl (cO rfl (by omega) (by omega)) ?_
   repeat refine al 15 ?_
   refine az 15 (.i .i64 (bb:Nat)) rfl fI ?_
   repeat refine I ?_
   refine oV (L:=Unit) (fun _=>True) (fun _=>⟨[.a 2 true 1 Nat fO (d::ds)],1,[(0,.s s),(3,.a6 0 1 0 (d::ds).length (d::ds).length),(4,.i .i64 (r:Int)),(5,.i .i64 (b1 ((s.take r).drop bb):Nat))]⟩) ?_ ?_
   ·refine cG (L:=Nat) (fun k=>bb<=k∧k<=r) (fun(k:Nat)=>⟨[.a 2 true 1 Nat fO (d::ds)],1,[(0,.s s),(3,.a6 0 1 0 (d::ds).length (d::ds).length),(4,.i .i64 (r:Int)),(5,.i .i64 (b1 ((s.take k).drop bb):Nat)),(6,.i .i64 k)]⟩) (fun k=>r-k) [0] bb ⟨b5 _,by omega⟩ (by show r-bb<ba+1;unfold ba;omega) (e3 ⟨rfl,rfl,rfl,by rw[List.drop_eq_nil_of_le (by simp;omega)];rfl,rfl,trivial⟩ ⟨_,rfl,rfl,fun _=>rfl⟩) ?_;rintro(k:Nat) ⟨bj,bM⟩
    repeat refine I ?_
    refine cP (fun U=> ?_) (fun U=> ?_)
    ·have U:k<r:=by omega
     have rD:k<s.length:=by omega
     have hp:=piece k bj (by omega);have w4:(10:Nat)^(k-bb)<=10^9:=Nat.pow_le_pow_right (by decide) (by omega);have hc:=ez _ (dr rD);have u1:b1 ((s.take (k+1)).drop bb)=(s[k].toNat-48)+10*b1 ((s.take k).drop bb):=by
      rw[List.take_succ_eq_append_getElem rD,List.drop_append_of_le_length (by simp;omega),NG]
     generalize hn:b1 ((s.take k).drop bb)=n at *;have alc:n<1000000000:=by omega
     repeat refine I ?_
     refine nz s[k] (a9 rD) ?_
     repeat refine al 26 ?_
     have BY:(s[k].toNat+(256*48-48))%256=s[k].toNat-48:=by omega
     refine az 26 (.i .u8 ((s[k].toNat-48:Nat):Int)) rfl (congrArg (fun n:Nat=>af.i .u8 (n:Int)) BY) ?_
     repeat refine I ?_
     refine bc [0] (k+1) ⟨by show r-(k+1)<r-k;omega,by omega,U⟩ (e3 ⟨rfl,rfl,rfl,?_,fo,trivial⟩ ⟨_,rfl,rfl,fun _=>rfl⟩);rw[u1];exact congrArg (fun n=>some (af.i .i64 n)) (by rw[g0 (n:=10*(n:Int)) (by omega) (by omega),g0 (n:=((s[k].toNat-48:Nat):Int)) (by omega) (by omega),g0 (by omega) (by omega)];omega)
    ·have he:k=r:=by omega
     subst he
     repeat refine I ?_
     exact bc [0] () trivial dP
   intro _ _;generalize hn:b1 ((s.take r).drop bb)=n at *
   repeat refine I ?_
   have iu:ds.length<=1073741824:=by simp at h3;omega
   refine x5 (R:=fO) [n] (gG (R:=fO) [n] rfl) ?_
   repeat refine I ?_
   refine bc [2] ((r:Int)-9,d::(ds++[n])) ⟨by show((r:Int)-9).toNat<((r:Int)).toNat;omega,by omega,by omega,by simp at h3 ⊢;omega,?_,by rw[show((r:Int)-9).toNat=bb by omega];exact nj⟩ (AS ⟨rfl,congrArg (fun k=>some (af.a6 2 1 0 k k)) (by simp),fo,trivial⟩ ⟨_,rfl,rfl,fun _=>rfl⟩);intro x J;rcases List.mem_append.1 (show x∈(d::ds)++[n]from J)with h|h
   ·exact ay x h
   ·simp at h;omega
  ·repeat refine I ?_
   refine hD 33 ?_;refine aX vC (d::ds) (by show(d::ds).length<=_;omega) ?_
   repeat refine I ?_
   exact aw rfl (.of (by show de (eM (d::ds))=de _;rw[<-kG ae]))
theorem Zi(s:List UInt8):s=(if(dQ s).1=true then[45]else[])++(dQ s).2:=by
 unfold dQ;split
 ·rfl
 ·split
  ·rename_i c t h;rw[h];rfl
  ·rfl
theorem XW{s:List UInt8}{k:Nat}(h:iX s)(hl:s.length<=9*k):dS k (b1 s):=lr (by decide) (by
 refine e4 (qW h) (Nat.le_trans (Nat.pow_le_pow_right (by decide) hl) ?_);rw[Nat.pow_mul];exact b5 _)
def mb(s:List UInt8):af:=match gT s with
 |some x=>.bB [dm x,.i .i64 0]
 |none=>.bB [dm 0,.i .i64 6]
def Aq:bE where
 L:=List UInt8
 args:=fun s=>[.s s]
 pre:=fun s=>s.length<=2000
 res:=fun s=>mb s
theorem aqF(n:Bool)(p:Nat):(if n=true then(-1:Int)else 1)*(p:Int)=ie n p:=by cases n<;>simp[ie]
theorem aqk{N:Nat}{s:List UInt8}(hS:1<=N)(ah:s.length<=N):∃P Q b,D6 s= .bB [.s P,.s Q,.i .i64 (if(dQ s).1=true then -1 else 1),.b b]∧(b=false->gT s=none)∧
 (b=true->hG P∧hG Q∧P.length<=N∧Q.length<=N∧b1 Q≠0∧(nI (mkRat (ie (dQ s).1 (b1 P)) (b1 Q))=s->gT s=some (mkRat (ie (dQ s).1 (b1 P)) (b1 Q)))∧(nI (mkRat (ie (dQ s).1 (b1 P)) (b1 Q))≠s->gT s=none)):=by
 have rK:=Zi s;unfold gT D6;obtain⟨⟨n,t⟩,aO⟩:∃g,g=dQ s:=⟨_,rfl⟩;rw[<-aO]at rK⊢;simp only at rK⊢;have xe:t.length<=N:=by have:=congrArg List.length rK;rw[List.length_append]at this;omega
 obtain⟨dh,dC,jH⟩:=QG t;obtain⟨⟨P,Q⟩,hq⟩:∃g,g=cutAt t:=⟨_,rfl⟩;rw[<-hq]at dh dC jH⊢;simp only at dh dC jH⊢;cases Q with
 |none=>
  have KZ:=jH rfl;subst KZ;refine⟨t,[49],_,rfl,fun h=>if_neg (of_decide_eq_false h),fun h=> ?_⟩;have a5:=of_decide_eq_true h;have e:=asT a5.1 a5.2;exact⟨a5.1,by decide,xe,hS,by decide,fun _=>by rw[if_pos a5];rfl,fun h=>absurd (e.trans rK.symm) h⟩
 |some q=>
  have aN:=dC q rfl;have L5:P.length+q.length<=N:=by have:=congrArg List.length aN;rw[List.length_append,List.length_cons]at this;omega
  refine⟨P,q,_,rfl,fun h=> ?_,fun h=> ?_⟩
  ·have a5:=of_decide_eq_false h;by_cases h1:hG P∧¬(n=true∧P=[48])
   ·rw[if_pos h1];exact if_neg (fun h=>a5 ⟨h1.1,h.1,h.2.1,h.2.2.1,h1.2⟩)
   ·rw[if_neg h1]
  ·obtain⟨cZ,dz,lP,rf,Bw⟩:=of_decide_eq_true h;have e:=asS cZ dz Bw lP rf;rw[List.append_assoc,<-aN,<-rK]at e;refine⟨cZ,dz,by omega,by omega,fun h=>lP (wg dz h),fun h=> ?_,fun h=> ?_⟩
   ·rw[if_pos ⟨cZ,Bw⟩];exact if_pos ⟨dz,lP,rf,e.1 h⟩
   ·rw[if_pos ⟨cZ,Bw⟩];exact if_neg (fun hh=>h (e.2 hh.2.2.2))
theorem HT:bg aC.ctx 26 Aq.spec:=by
 refine bR [(71,HY.spec),(73,Yt.spec),(72,vz.spec),(74,XR.spec)] SV.1 ?_;intro(s:List UInt8) (ah:s.length<=2000) H aJ;have hp:∀{r},gT s=r->b3 (match r with|some x=>.bB [dm x,.i .i64 0]|none=>.bB [dm 0,.i .i64 6]) (Aq.res s):=fun h=>.of (by subst h;rfl);have fail:gT s=none->b3 (.bB [.agg [.i .i64 0,.nl,.nl],.i .i64 6]) (Aq.res s):=fun h=>apk.trans (hp h);obtain⟨P,Q,b,cI,ar,gO⟩:=aqk (by decide) ah;obtain⟨n,hn⟩:∃n,n=(dQ s).1:=⟨_,rfl⟩;rw[<-hn]at cI gO;have Zg: -1<=(if n=true then(-1:Int)else 1)∧(if n=true then(-1:Int)else 1)<=1:=by cases n<;>decide
 repeat refine I ?_
 refine aX apA s (by show s.length<=_;omega) ?_;refine az 11 _ rfl cI ?_
 repeat refine I ?_
 cases b with
 |false=>
  repeat refine I ?_
  exact aw rfl (fail (ar rfl))
 |true=>
  obtain⟨cZ,dz,L5,am6,me,lP,rf⟩:=gO rfl;have XP:=XW (k:=223) cZ.2.1 (by omega);have XQ:=XW (k:=223) dz.2.1 (by omega)
  repeat refine al 22 ?_
  refine az 22 (.b false) rfl (congrArg af.b (decide_eq_false (by omega))) ?_
  repeat refine I ?_
  refine cP (fun h=> ?_) (fun h=> ?_)
  ·omega
  repeat refine I ?_
  refine aX Yu P ⟨cZ.2.1,by show P.length<=_;omega⟩ ?_
  repeat refine I ?_
  refine aX Yu Q ⟨dz.2.1,by show Q.length<=_;omega⟩ ?_;refine aX tw (if n=true then -1 else 1,b1 P,b1 Q) ⟨Zg.1,Zg.2,c1 XP (by decide),c1 XQ (by decide),me⟩ ?_;refine az 33 (dm (mkRat (ie n (b1 P)) (b1 Q))) rfl (by show dm _=_;rw[aqF]) ?_
  repeat refine I ?_
  refine aX ao2 (mkRat (ie n (b1 P)) (b1 Q)) (k8 (xL (by rw[tI];exact XP) XQ me) (by decide)) ?_
  repeat refine al 37 ?_
  by_cases aN:nI (mkRat (ie n (b1 P)) (b1 Q))=s
  ·refine az 37 (.b false) rfl (by show af.b (!(nI _==s))=_;rw[aN];simp) ?_
   repeat refine I ?_
   exact aw rfl (hp (lP aN))
  ·refine az 37 (.b true) rfl (by show af.b (!(nI _==s))=_;rw[beq_eq_false_iff_ne.2 aN];rfl) ?_
   repeat refine I ?_
   exact aw rfl (fail (rf aN))
def fP(b:Bool):List af:=[.b b]
def iO(c:UInt8):Bool:=decide (48<=c.toNat∧c.toNat<=57)
def wv:List Bool:=(List.range 256).map fun j=>decide (48<=j∧j<=57)
def ph:List af:=wv.flatMap fP
theorem afi{j:Nat}(h:j<256):ph.drop j= .b (decide (48<=j∧j<=57))::ph.drop (j+1):=by
 have e:ph=wv.map af.b:=by unfold ph;rw[List.map_eq_flatMap];rfl
 have hl:j<wv.length:=by unfold wv;rw[List.length_map,List.length_range];exact h
 rw[e,<-List.map_drop,<-List.map_drop,hf hl,List.map_cons];congr 2;simp[wv]
def K3:bE where
 L:=UInt8
 args:=fun c=>[.ip ph,.i .u8 (c.toNat:Int)]
 pre:=fun _=>True
 res:=fun c=>.b (iO c)
theorem Uw:bg aC.ctx 292 K3.spec:=by
 refine bR [] S4.1 ?_;intro(c:UInt8) _ H aJ;have hc:c.toNat<256:=c.toNat_lt
 repeat refine I ?_
 refine g2 (amc rfl rfl hc) ?_;refine az 8 (.ip (.b (iO c)::ph.drop (c.toNat+1))) rfl (by rw[Nat.mul_one,afi hc];rfl) ?_
 repeat refine I ?_
 exact aw rfl (.refl _)
def Z3:bE where
 L:=List UInt8
 args:=fun s=>[.s s,.ip ph]
 pre:=fun s=>s.length<=1073741824
 res:=fun s=>.s (s.dropWhile iO)
theorem asG:bg aC.ctx 208 Z3.spec:=by
 refine bR [(292,K3.spec)] Sr.1 ?_;intro(s:List UInt8) (ah:s.length<=_) H aJ
 repeat refine I ?_
 refine cG (L:=List UInt8) (fun t=>t.dropWhile iO=s.dropWhile iO∧t.length<=s.length) (fun t=>⟨[],0,[(0,.s t),(1,.ip ph)]⟩) List.length [] s ⟨rfl,b5 _⟩ (by show s.length<ba+1;unfold ba;omega) ei ?_;rintro t ⟨h1,h2⟩;cases t with
 |nil=>
  repeat refine I ?_
  exact aw rfl (.of (by show af.s []=af.s _;rw[<-h1];rfl))
 |cons c t=>
  repeat refine al 7 ?_
  refine az 7 (.b true) rfl (by simp) ?_
  repeat refine I ?_
  refine nz c (j:=0) rfl ?_;refine aX Uw c trivial ?_
  repeat refine I ?_
  by_cases hc:iO c=true
  ·refine az 12 (.b false) rfl (by show af.b (!iO c)=_;rw[hc];rfl) ?_
   repeat refine I ?_
   refine x9 (p:=1) t ?_ (hp:=by simp) (hq:=by simp)
   repeat refine I ?_
   exact bc [] t ⟨by simp,by rw[<-h1,List.dropWhile_cons,if_pos hc],by simp at h2;omega⟩ ei
  ·have hc:iO c=false:=by simpa using hc
   refine az 12 (.b true) rfl (by show af.b (!iO c)=_;rw[hc];rfl) ?_
   repeat refine I ?_
   exact aw rfl (.of (by show af.s (c::t)=af.s _;rw[<-h1,List.dropWhile_cons,if_neg (by rw[hc];decide)]))
def mS(s:List UInt8):List UInt8:=(s.reverse.dropWhile iO).reverse
theorem ZP(t:List UInt8)(c:UInt8):mS (t++[c])=if iO c=true then mS t else t++[c]:=by
 unfold mS;rw[List.reverse_append];show((c::t.reverse).dropWhile iO).reverse=_;rw[List.dropWhile_cons];split
 ·rfl
 ·simp
def aaY:bE where
 L:=List UInt8
 args:=fun s=>[.s s,.ip ph]
 pre:=fun s=>s.length<=1073741824
 res:=fun s=>.s (mS s)
theorem asJ:bg aC.ctx 209 aaY.spec:=by
 refine bR [(292,K3.spec)] Ss.1 ?_;intro(s:List UInt8) (ah:s.length<=_) H aJ
 repeat refine I ?_
 refine cG (L:=List UInt8) (fun t=>mS t=mS s∧t.length<=s.length) (fun t=>⟨[],0,[(0,.s t),(1,.ip ph)]⟩) List.length [] s ⟨rfl,b5 _⟩ (by show s.length<ba+1;unfold ba;omega) ei ?_;rintro t ⟨h1,h2⟩;rcases List.eq_nil_or_concat t with rfl|⟨t,c,rfl⟩
 ·repeat refine I ?_
  exact aw rfl (.of (by show af.s []=af.s _;rw[<-h1];rfl))
 ·rw[List.concat_eq_append]at *;have hl:(t++[c]).length=t.length+1:=by simp
  repeat refine al 7 ?_
  refine az 7 (.b true) rfl (by simp) ?_
  repeat refine al 12 ?_
  refine az 12 (.i .i64 (t.length:Nat)) rfl (by rw[hl];exact cO) ?_;refine nz c (show(t++[c])[t.length]? =some c by simp) ?_;refine aX Uw c trivial ?_
  repeat refine I ?_
  by_cases hc:iO c=true
  ·refine az 15 (.b false) rfl (by show af.b (!iO c)=_;rw[hc];rfl) ?_
   repeat refine al 19 ?_
   refine az 19 (.i .i64 (t.length:Nat)) rfl (by rw[hl];exact cO) ?_;refine x9 (p:=0) t ?_ (hp:=Nat.zero_le _) (hq:=by simp)
   repeat refine I ?_
   exact bc [] t ⟨by simp,by rw[<-h1,ZP,if_pos hc],by omega⟩ ei
  ·refine az 15 (.b true) rfl (by show af.b (!iO c)=_;rw[show iO c=false by simpa using hc];rfl) ?_
   repeat refine I ?_
   exact aw rfl (.of (by show af.s (t++[c])=af.s _;rw[<-h1,ZP,if_neg hc]))
def AM:Nat->List Bool
 |0=>List.replicate 256 false
 |n+1=>(AM n).set (48+n) true
theorem Zf:∀n,(AM n).length=256
 |0=>List.length_replicate
 |n+1=>by unfold AM;rw[List.length_set];exact Zf n
theorem aqC:AM 10=wv:=by kernel_rfl
def BU:List UInt8:=[48,49,50,51,52,53,54,55,56,57]
theorem afn{i:Nat}(h:i<10):BU[i]? =some (UInt8.ofNat (48+i)):=by
 rcases(show i=0∨i=1∨i=2∨i=3∨i=4∨i=5∨i=6∨i=7∨i=8∨i=9 by omega)with rfl|rfl|rfl|rfl|rfl|rfl|rfl|rfl|rfl|rfl<;>rfl
def Wo:bE where
 L:=Unit
 args:=fun _=>[.s BU]
 pre:=fun _=>True
 res:=fun _=>.bB [.agg ph,.b true]
theorem anG:bg aC.ctx 207 Wo.spec:=by
 refine bR [] Sq.1 ?_;intro _ _ H aJ
 repeat refine al 3 ?_
 refine mh 0 fP (AM 0) ?_
 repeat refine I ?_
 refine cG (L:=Nat) (fun i=>i<=10) (fun(i:Nat)=>⟨[.a 312 false 1 Bool fP (AM i)],1,[(0,.s BU),(2,.p 0 0),(4,.i .i64 i)]⟩) (fun i=>10-i) [0] 0 (Nat.zero_le _) (by show 10-0<ba+1;unfold ba;omega) dP ?_;intro(i:Nat) ae
 repeat refine I ?_
 have hl:((BU.length:Nat):Int)=10:=rfl;refine cP (fun h=> ?_) (fun h=> ?_)
 ·have h:i<10:=by omega
  have hn:(UInt8.ofNat (48+i)).toNat=48+i:=Fs h
  repeat refine I ?_
  refine nz (UInt8.ofNat (48+i)) (afn h) ?_;refine az 14 (.i .u8 ((48+i:Nat):Int)) rfl (by rw[hn]) ?_
  repeat refine I ?_
  refine cP (fun aB=> ?_) (fun aB=> ?_)
  ·omega
  repeat refine I ?_
  refine IF ?_;refine jk true ?_ (hj:=by rw[Zf];omega)
  repeat refine I ?_
  exact bc [0] (i+1) ⟨by show 10-(i+1)<10-i;omega,h⟩ (e3 ⟨rfl,rfl,fo,trivial⟩ ⟨_,rfl,rfl,fun _=>rfl⟩)
 ·have he:i=10:=by omega
  subst he;rw[aqC]
  repeat refine I ?_
  refine apJ 0 ?_
  repeat refine I ?_
  exact aw rfl (.of rfl)
def aaZ:bE where
 L:=List UInt8
 args:=fun s=>[.s s,.s BU]
 pre:=fun s=>s.length<=1073741824
 res:=fun s=>.s ((mS s).dropWhile iO)
theorem asz(s:List UInt8):(mS s).length<=s.length:=by
 unfold mS;rw[List.length_reverse,<-(List.length_reverse:s.reverse.length=s.length)];exact(List.dropWhile_sublist _).length_le
theorem asy:bg aC.ctx 121 aaZ.spec:=by
 refine bR [(207,Wo.spec),(209,aaY.spec),(208,Z3.spec)] RJ.1 ?_;intro(s:List UInt8) (ah:s.length<=_) H aJ
 repeat refine al 9 ?_
 by_cases h:s=[]
 ·subst h
  repeat refine I ?_
  exact aw rfl (.refl _)
 refine az 9 (.b false) rfl (by rw[beq_eq_false_iff_ne.2 h]) ?_
 repeat refine I ?_
 refine aX anG () trivial ?_
 repeat refine I ?_
 refine mh 0 fP wv ?_;refine apT 5 ?_;refine az 5 (.ip ph) rfl rfl ?_;refine aX asJ s ah ?_
 repeat refine I ?_
 refine aX asG (mS s) (Nat.le_trans (asz s) ah) ?_
 repeat refine I ?_
 exact aw rfl (.refl _)
theorem drop_nil:∀{s:List UInt8},s.dropWhile iO=[]↔∀c∈s,iO c=true
 |[]=>by simp
 |c::s=>by
  rw[List.dropWhile_cons];by_cases h:iO c=true
  ·rw[if_pos h,drop_nil];simp[h]
  ·rw[if_neg h];simp[h]
theorem VA{c:UInt8}:iO c=true↔48<=c.toNat∧c.toNat<=57:=by unfold iO;rw[decide_eq_true_iff]
theorem strip_nil{s:List UInt8}:(mS s).dropWhile iO=[]↔iX s:=by
 rw[drop_nil];unfold iX;constructor
 ·intro h;have h1:mS s=[]:=by
   rcases List.eq_nil_or_concat (mS s)with h0|⟨t,c,h0⟩
   ·exact h0
   ·rw[List.concat_eq_append]at h0;have hc:=h c (by rw[h0];simp);have e:s.reverse.dropWhile iO=c::t.reverse:=by
     have:=congrArg List.reverse h0;unfold mS at this;rw[List.reverse_reverse,List.reverse_append]at this;exact this
    have:=List.head_dropWhile_not iO (l:=s.reverse) (by rw[e];simp);simp only[e,List.head_cons]at this;rw[hc]at this;cases this
  unfold mS at h1;have h2:=drop_nil.1 (List.reverse_eq_nil_iff.1 h1);exact fun c hc=>VA.1 (h2 c (List.mem_reverse.2 hc))
 ·intro h;have h2:s.reverse.dropWhile iO=[]:=drop_nil.2 fun c hc=>VA.2 (h c (List.mem_reverse.1 hc));unfold mS;rw[h2];intro c hc;simp at hc
def Y2:bE where
 L:=List UInt8
 args:=fun s=>[.s s]
 pre:=fun s=>s.length<=1073741824
 res:=fun s=>.b (decide (hG s))
theorem NI:bg aC.ctx 64 Y2.spec:=by
 refine bR [(121,aaZ.spec)] TO.1 ?_;intro(s:List UInt8) (ah:s.length<=_) H aJ
 repeat refine al 5 ?_
 cases s with
 |nil=>
  refine az 5 (.b false) rfl rfl ?_
  repeat refine I ?_
  exact aw rfl (.of (by show af.b false=af.b (decide _);rw[decide_eq_false (fun aa=>aa.1 rfl)]))
 |cons c t=>
  refine az 5 (.b true) rfl rfl ?_
  repeat refine I ?_
  refine aX asy (c::t) ah ?_
  repeat refine al 10 ?_
  by_cases ez:iX (c::t)
  ·refine az 10 (.b true) rfl (by show af.b (_==[])=_;rw[strip_nil.2 ez];rfl) ?_
   repeat refine al 13 ?_
   by_cases aa:c::t=[48]
   ·refine az 13 (.b true) rfl (by rw[aa];rfl) ?_
    repeat refine I ?_
    exact aw rfl (.of (by show af.b true=af.b (decide _);rw[decide_eq_true ⟨by simp,ez,.inl aa⟩]))
   refine az 13 (.b false) rfl (by rw[beq_eq_false_iff_ne.2 aa]) ?_
   repeat refine I ?_
   refine nz c (j:=0) rfl ?_
   repeat refine I ?_
   refine aw rfl (.of ?_);show af.b (decide _)=af.b (decide _);congr 1;rw[decide_eq_decide];constructor
   ·intro h;refine⟨by simp,ez,.inr fun e=>h ?_⟩;have e:c=48:=by simpa using e
    rw[e];rfl
   ·rintro⟨_,_,h|h⟩ e
    ·exact aa h
    ·exact h (congrArg some (UInt8.toNat_inj.1 (show c.toNat=48 by omega)))
  ·refine az 10 (.b false) rfl (by show af.b (_==[])=_;rw[beq_eq_false_iff_ne.2 (mt strip_nil.1 ez)]) ?_
   repeat refine I ?_
   exact aw rfl (.of (by show af.b false=af.b (decide _);rw[decide_eq_false (fun aa=>ez aa.2.1)]))
theorem Vr:∀s:List UInt8,(match pO 47 s with
 |none=>cutAt s=(s,none)
 |some i=>i<s.length∧cutAt s=(s.take i,some (s.drop (i+1))))
 |[]=>rfl
 |c::s=>by
  have a0:=Vr s;have e:pO 47 (c::s)=cond (Nat.beq c.toNat (47:UInt8).toNat) (some 0) (bl (pO 47 s) (fun i=>some (Nat.succ i)) none):=rfl;by_cases hc:c=47
  ·subst hc;rw[e,show Nat.beq (47:UInt8).toNat (47:UInt8).toNat=true from rfl];exact⟨Nat.succ_pos _,rfl⟩
  ·have aa:Nat.beq c.toNat (47:UInt8).toNat=false:=by
    rw[Bool.eq_false_iff];exact fun h=>hc (UInt8.toNat_inj.1 (ep h))
   have e2:cutAt (c::s)=(c::(cutAt s).1,(cutAt s).2):=if_neg hc;rw[e,aa,cond_false];cases h:pO 47 s with
   |none=>
    rw[h]at a0;show cutAt (c::s)=_;rw[e2,show cutAt s=(s,none)from a0]
   |some i=>
    rw[h]at a0;obtain⟨h1,h2⟩:=a0;show i+1<s.length+1∧cutAt (c::s)=_;rw[e2,h2];exact⟨by omega,rfl⟩
def U0:bE where
 L:=List UInt8
 args:=fun s=>[.s s,.s [45]]
 pre:=fun s=>s.length<=1073741824
 res:=fun s=>.b (dQ s).1
theorem alq:bg aC.ctx 203 U0.spec:=by
 refine bR [] So.1 ?_;intro(s:List UInt8) (ah:s.length<=_) H aJ
 repeat refine al 10 ?_
 cases s with
 |nil=>
  refine az 10 (.b false) rfl rfl ?_
  repeat refine I ?_
  exact aw rfl (.refl _)
 |cons c t=>
  refine az 10 (.b true) rfl (by simp;omega) ?_
  repeat refine I ?_
  refine x9 (p:=0) (q:=1) [c] ?_ (hq:=by simp)
  repeat refine I ?_
  refine aw rfl (.of ?_);show af.b ([c]==[45])=af.b (dQ (c::t)).1;by_cases hc:c=45
  ·subst hc;rfl
  ·rw[show dQ (c::t)=(false,c::t)from if_neg hc,beq_eq_false_iff_ne.2 (by simpa using hc)]
def Fc:bE where
 L:=List UInt8
 args:=fun s=>[.s s,.s [45]]
 pre:=fun s=>s.length<=1073741824
 res:=fun s=>.bB [.s (dQ s).2,.b (dQ s).1]
theorem ac9:bg aC.ctx 119 Fc.spec:=by
 refine bR [(203,U0.spec)] RG.1 ?_;intro(s:List UInt8) (ah:s.length<=_) H aJ
 repeat refine I ?_
 refine aX alq s ah ?_
 repeat refine I ?_
 cases s with
 |nil=>
  repeat refine I ?_
  exact aw rfl (.refl _)
 |cons c t=>
  by_cases hc:c=45
  ·subst hc;refine az 9 (.b false) rfl rfl ?_
   repeat refine I ?_
   refine x9 (p:=1) t ?_ (hp:=by simp) (hq:=by simp)
   repeat refine I ?_
   exact aw rfl (.refl _)
  ·have aO:dQ (c::t)=(false,c::t):=if_neg hc;refine az 9 (.b true) rfl (by show af.b (!(dQ (c::t)).1)=_;rw[aO];rfl) ?_
   repeat refine I ?_
   exact aw rfl (.of (by show af.bB _=af.bB [.s (dQ (c::t)).2,.b (dQ (c::t)).1];rw[aO]))
theorem ac8:bg aC.ctx 62 Fc.spec:=by
 refine bR [(119,Fc.spec)] TM.1 ?_;intro(s:List UInt8) (ah:s.length<=_) H aJ
 repeat refine I ?_
 refine aX ac9 s ah ?_
 repeat refine I ?_
 exact aw rfl (.refl _)
def VD:bE where
 L:=List UInt8
 args:=fun s=>[.s s,.i .u8 47]
 pre:=fun s=>s.length<=1073741824
 res:=fun s=>.i .i64 (s7 47 s)
theorem amK:bg aC.ctx 288 VD.spec:=by
 refine bR [] S2.1 ?_;intro(s:List UInt8) (ah:s.length<=_) H aJ
 repeat refine I ?_
 refine g2 (amg (c:=47) rfl rfl) ?_
 repeat refine I ?_
 exact aw rfl (.refl _)
def VC:bE where
 L:=List UInt8
 args:=fun s=>[.s s,.s [47]]
 pre:=fun s=>s.length<=1073741824
 res:=fun s=>.i .i64 (s7 47 s)
theorem amJ:bg aC.ctx 204 VC.spec:=by
 refine bR [(288,VD.spec)] Sp.1 ?_;intro(s:List UInt8) (ah:s.length<=_) H aJ
 repeat refine I ?_
 by_cases h:[47]=s
 ·refine az 16 (.b true) rfl (by rw[<-h];rfl) ?_
  repeat refine I ?_
  exact aw rfl (.of (by show af.i _ 0=af.i _ (s7 47 s);rw[<-h];rfl))
 refine az 16 (.b false) rfl (by rw[beq_eq_false_iff_ne.2 h]) ?_
 repeat refine I ?_
 refine nz 47 (j:=0) rfl ?_;refine aX amK s ah ?_
 repeat refine I ?_
 exact aw rfl (.refl _)
def ow(s:List UInt8):af:=match(cutAt s).2 with
 |none=>.bB [.s s,.s [],.b false]
 |some q=>.bB [.s (cutAt s).1,.s q,.b true]
def BO:bE where
 L:=List UInt8
 args:=fun s=>[.s s,.s [47]]
 pre:=fun s=>s.length<=1073741824
 res:=fun s=>ow s
theorem aeU:bg aC.ctx 120 BO.spec:=by
 refine bR [(204,VC.spec)] RI.1 ?_;intro(s:List UInt8) (ah:s.length<=_) H aJ;have ae:=Vr s;have fin:∀{r},ow s=r->b3 r (BO.res s):=fun h=>.of h.symm;unfold ow at fin
 repeat refine I ?_
 refine aX amJ s ah ?_;cases J:pO 47 s with
 |none=>
  rw[J]at ae;have ae:cutAt s=(s,none):=ae;rw[ae]at fin;refine az 10 (.i .i64 (-1)) rfl (by show af.i _ (s7 47 s)=_;unfold s7;rw[J]) ?_
  repeat refine I ?_
  exact aw rfl (fin rfl)
 |some i=>
  rw[J]at ae;obtain⟨h1,h2⟩:i<s.length∧cutAt s=(s.take i,some (s.drop (i+1))):=ae;rw[h2]at fin;refine az 10 (.i .i64 (i:Nat)) rfl (by show af.i _ (s7 47 s)=_;unfold s7;rw[J]) ?_
  repeat refine I ?_
  refine Fm (s.take i) ?_ (hl:=by simp)
  repeat refine al 20 ?_
  refine eh 20 (.i .i64 ((i+1:Nat):Int)) rfl rfl (cO (by simp) (by simp;omega) (by simp;omega)) ?_;refine Fm (s.drop (i+1)) ?_ (hl:=List.take_of_length_le (by simp))
  repeat refine I ?_
  exact aw rfl (fin rfl)
theorem aeS:bg aC.ctx 63 BO.spec:=by
 refine bR [(120,BO.spec)] TN.1 ?_;intro(s:List UInt8) (ah:s.length<=_) H aJ
 repeat refine I ?_
 refine aX aeU s ah ?_;cases J:(cutAt s).2 with
 |none=>
  refine az 9 (.bB [.s s,.s [],.b false]) rfl (by show ow s=_;unfold ow;rw[J]) ?_
  repeat refine I ?_
  exact aw rfl (.of (by show _=ow s;unfold ow;rw[J]))
 |some q=>
  refine az 9 (.bB [.s (cutAt s).1,.s q,.b true]) rfl (by show ow s=_;unfold ow;rw[J]) ?_
  repeat refine I ?_
  exact aw rfl (.of (by show _=ow s;unfold ow;rw[J]))
