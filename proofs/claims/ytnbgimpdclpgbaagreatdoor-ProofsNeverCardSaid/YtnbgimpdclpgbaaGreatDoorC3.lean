/- What the functions of the program and of the document compute, for every input, and the plain laws of it (part 3); conditions as in the statements. -/
import Derived.Test.YtnbgimpdclpgbaaGreatDoorC2
import Derived.Test.YtnbgimpdclpgbaaGreatDoorS3
import Derived.Test.YtnbgimpdclpgbaaGreatDoorS2
import Derived.Test.YtnbgimpdclpgbaaGreatDoorC1
noncomputable section
set_option linter.all false
namespace Go.bA.c3
open Go.bA
set_option maxRecDepth 100000
set_option maxHeartbeats 4000000
def qW(e p:Int)(x:Rat):Int:=max (jR x.num.natAbs x.den) (1-gC e)-p+1
def ku(e p:Int)(x:Rat):Prop:=fJ e p/\(x.num=0\/(ej x<|-qW e p x).den=1/\¬nd e p<iA x)
instance(e p:Int)(x:Rat):Decidable (ku e p x):=by unfold ku;infer_instance
def hasB(e p:Int)(x:Rat):Bool:=decide (ku e p x)
def ank{e p:Int}{x:Rat}(h:fJ e p)(j:b9 250 x): -9000<=qW e p x/\qW e p x<=9000:=by
 have q:=GG x.num.natAbs x.den;have r:=Cf j.1;obtain⟨c,d,n,i,o⟩:=h;have:=qR c d;unfold qW;omega
def G9:bl:=b3 λ((e,p,x):Int×Int×Rat)=>([pM e p,cc x],b9 250 x,.b<|hasB e p x)
def Ys:bt 179 G9:=by
 refine bR [(289,GB),(17,uO),(292,WO),(291,WS),(290,Mi),(293,Yp),(282,Wt),(294,WR),(106,Gv)] U7.1 ?_;intro⟨e,p,x⟩ (i:b9 250 x) H au;have no:¬ku e p x->bJ (.b false) (G9.res (e,p,x)):=λh=>.of (bK<|by unfold hasB;exact(cq h).symm);have q:ku e p x->bJ (.b true) (G9.res (e,p,x)):=λh=>.of (bK<|by unfold hasB;exact(ck h).symm);refine I 10<|aV als (e,p) aC ?_;by_cases h:fJ e p
 ·refine aP 9 (.bq [uT e p 0<|gC e,.aa 0]) j (aE h)<|I 21<|aV uP x aC<|I 4<|cG (λd=>?_) λd=>?_
  ·have d:x.num=0:=tE.1 d;exact I 8<|an (az j j<|q ⟨h,.inl d⟩)
  have d:x.num≠0:=λe=>d (by rw[e];rfl);have u:=GG x.num.natAbs x.den;have z:=Cf i.1;have A:=Cf i.2;obtain⟨B,C⟩:=ank h i;refine I 6<|cm alv x ⟨eb i,d⟩<|I 1<|cm alA (e,p,jR x.num.natAbs x.den,0) ⟨h,by show _<=jR _ _;omega,by show jR _ _<=_;omega⟩<|I 2<|aP 24 (.aa<|-qW e p x) j (by show ag.aa (IntKind.i64.wrap<|-qW e p x)=_;exact eM j R R)<|cm WN (x,-qW e p x) ⟨eb i,by show _<= -qW e p x;omega,by show -qW e p x<=_;omega⟩<|cm anh (ej x<|-qW e p x) aC ?_;by_cases o:(ej x<|-qW e p x).den=1
  ·refine cg 26 (bK<|ck o)<|I 4<|cm ala x aC<|I 3<|cm alz (e,p,0) h<|I 1<|cm L9 (iA x,nd e p) ⟨eb<|alB i,eb<|aly h⟩<|I 2 ?_;by_cases n:nd e p<iA x
   ·have r:=w6.2 n;exact c2 33<|I 5<|an (az j j<|no λc=>c.2.elim d λc=>c.2 n)
   ·have r:¬0<jA (iA x) (nd e p):=λh=>n<|w6.1 h;exact dd 33<|I 5<|an (az j j<|q ⟨h,.inr ⟨o,n⟩⟩)
  ·exact cg 26 (bK<|cq o)<|I 12<|an (az j j<|no λc=>c.2.elim d λc=>o c.1)
 ·exact cg 9 (aw h)<|I 26<|an (az j j<|no λc=>h c.1)
def pR(p:ec):Int:=
 if(6<(p.bO.length:Int)\/6<(p.ins.length:Int)\/64<(p.bQ.length:Int)\/4<(p.hr.length:Int))then 3
 else if((p.bO.length:Int)=0\/(p.bQ.length:Int)=0\/p.mode<0\/4<p.mode)then 2
 else if(p.head<0\/p.tail<p.head\/(p.bQ.length:Int)<p.tail)then 2
 else if((p.hr.length:Int)=0/\p.head≠(p.bQ.length:Int))then 2 else 0
def zC:bl:=b3 λ(p:ec)=>([jC p],True,.aa<|pR p)
def anl:bt 91 zC:=by
 refine bR [] Uc.1 ?_;intro(p:ec) _ H au;have a7:∀{c:Int},pR p=c->bJ (.aa c) (zC.res p):=λh=>.of (by rw[<-h];rfl);refine I 25 ?_;by_cases C:6<(p.bO.length:Int)
 ·exact cg 13 (bK<|ck C)<|I 15<|an (az j j<|a7<|aE<|.inl C)
 refine cg 13 (bK<|cq C)<|I 11 ?_;by_cases D:6<(p.ins.length:Int)
 ·exact cg 18 (bK<|ck D)<|I 15<|an (az j j<|a7<|aE<|.inr<|.inl D)
 refine cg 18 (bK<|cq D)<|I 8 ?_;by_cases o:64<(p.bQ.length:Int)
 ·exact cg 20 (bK<|ck o)<|I 15<|an (az j j<|a7<|aE<|.inr<|.inr<|.inl o)
 refine cg 20 (bK<|cq o)<|I 10 ?_;by_cases i:4<(p.hr.length:Int)
 ·exact cg 25 (bK<|ck i)<|I 12<|an (az j j<|a7<|aE<|.inr<|.inr<|.inr i)
 refine cg 25 (bK<|cq i) ?_;have F:¬(6<(p.bO.length:Int)\/6<(p.ins.length:Int)\/64<(p.bQ.length:Int)\/4<(p.hr.length:Int)):=λh=>h.elim C λh=>h.elim D λh=>h.elim o i;have d:=λ{c} h=> @a7 c<|(aw F).trans h;refine I 12 ?_;by_cases B:(p.bO.length:Int)=0
 ·exact cg 31 (bK<|ck B)<|I 15<|an (az j j<|d<|aE<|.inl B)
 refine cg 31 (bK<|cq B)<|I 8 ?_;by_cases n:(p.bQ.length:Int)=0
 ·exact cg 33 (bK<|ck n)<|I 15<|an (az j j<|d<|aE<|.inr<|.inl n)
 refine cg 33 (bK<|cq n)<|I 10 ?_;by_cases a2:p.mode<0
 ·exact cg 37 (bK<|ck a2)<|I 15<|an (az j j<|d<|aE<|.inr<|.inr<|.inl a2)
 refine cg 37 (bK<|cq a2)<|I 9 ?_;by_cases cD:4<p.mode
 ·exact cg 41 (bK<|ck cD)<|I 12<|an (az j j<|d<|aE<|.inr<|.inr<|.inr cD)
 refine cg 41 (bK<|cq cD) ?_;have hk:¬((p.bO.length:Int)=0\/(p.bQ.length:Int)=0\/p.mode<0\/4<p.mode):=λh=>h.elim B λh=>h.elim n λh=>h.elim a2 cD;have r:=λ{c} h=> @d c<|(aw hk).trans h;refine I 11 ?_;by_cases bH:p.head<0
 ·exact cg 46 (bK<|ck bH)<|I 15<|an (az j j<|r<|aE<|.inl bH)
 refine cg 46 (bK<|cq bH)<|I 13 ?_;by_cases q:p.tail<p.head
 ·exact cg 53 (bK<|ck q)<|I 15<|an (az j j<|r<|aE<|.inr<|.inl q)
 refine cg 53 (bK<|cq q)<|I 10 ?_;by_cases u:(p.bQ.length:Int)<p.tail
 ·exact cg 58 (bK<|ck u)<|I 12<|an (az j j<|r<|aE<|.inr<|.inr u)
 refine cg 58 (bK<|cq u) ?_;have G:¬(p.head<0\/p.tail<p.head\/(p.bQ.length:Int)<p.tail):=λh=>h.elim bH λh=>h.elim q u;have E:=λ{c} h=> @r c<|(aw G).trans h;refine I 11 ?_;by_cases A:(p.hr.length:Int)=0
 ·refine cg 64 (bK<|ck A)<|I 11 ?_;by_cases z:p.head≠(p.bQ.length:Int)
  ·exact cg 70 (bK<|ck z)<|I 13<|an (az j j<|E<|aE ⟨A,z⟩)
  ·exact cg 70 (bK<|cq z)<|I 14<|an (az j j<|E<|aw λh=>z h.2)
 ·exact cg 64 (bK<|cq A)<|I 20<|an (az j j<|E<|aw λh=>A h.1)
def Yt:bl:=b3 λ((p,c,e,q):ec×Nat×Int×Int)=>([jC p,.aa (c:Int)],p.bO[c]? =some (e,q),.aa (if fJ e q then 0 else 2))
def anm:bt 92 Yt:=by
 refine bR [(178,GA)] SK.1 ?_;intro⟨p,d,e,q⟩ c H au;exact I 12<|fc (e,q) c j<|I 1<|aV WL (e,q) aC<|I 4<|an (az j j dO)
def Ha:ac (Nat×Nat):=[(0,0),(0,1),(0,1),(0,0),(1,1),(1,1),(1,1),(1,1),(2,2),(2,2),(2,2),(2,2),(2,2),(2,2),(3,3),(4,4)]
def CF:ac ag:=Ha.flatMap λp=>[.aa (p.1:Int),.aa (p.2:Int)]
def nj(U:Nat):Nat:=(Ha.getD U (0,0)).1
def tc(U:Nat):Nat:=(Ha.getD U (0,0)).2
def Yu:∀U,U<16->CF.drop (U*2)= .aa (nj U:Int):: .aa (tc U:Int)::CF.drop (U*2+2):=by
 intro U h;rcases(show U=0\/U=1\/U=2\/U=3\/U=4\/U=5\/U=6\/U=7\/U=8\/U=9\/U=10\/U=11\/U=12\/U=13\/U=14\/U=15 by omega)with h|h|h|h|h|h|h|h|h|h|h|h|h|h|h|h<;>subst h<;>rfl
def Hb:∀U,U<16->nj U<=4/\tc U<=4:=by decide +kernel
def n1(H:bh):Prop:=∃c el h aU,H 3=some (.cells c el h aU)/\∀d,cB d CF [] c
def n1.up{H c:bh}(h:cF H c):n1 H->n1 c:=λ⟨n,el,d,aU,i,j⟩=>⟨n,el,d,aU,h _ _ i,j⟩
def g4(n:Int):ac ag:=[.aa n]
def e0(n:gD):ac Int:=[n.a,n.b,n.c,n.d]
def qX(n:gD):Bool:=((e0 n).drop<|tc n.op.toNat).all (λx=>x==0)&&(n.v.isEmpty||decide (n.op=3))
def Yv:bl:=pF n1 n1.up λ(n:gD)=>([.agg<|kI n],1<=n.op/\n.op<=15,.b<|qX n)
def Yw{l:ac Int}{k:Nat}(ax:k<l.length)(h:(l.take k).all (λx=>x==0)=true)(aL:l[k]=0):(l.take<|k+1).all (λx=>x==0)=true:=by
 rw[kd ax,An,h,aL];rfl
def ann:bt 181 Yv:=by
 refine sa [] Uk.1 ?_;intro(n:gD) ⟨(T:1<=n.op),(V:n.op<=15)⟩ H au ⟨Y,el,S,aU,B,D⟩;obtain⟨U,E⟩:∃U:Nat,n.op=(U:Int):=⟨n.op.toNat,R⟩;have N:n.op.toNat=U:=R
 have aT:U<16:=R
 obtain⟨_,X⟩:=Hb U aT;have C:=Yu U aT;have h:qX n=(((e0 n).drop<|tc U).all (λx=>x==0)&&(n.v.isEmpty||decide (n.op=3))):=by unfold qX;rw[N]
 generalize tc U=u at *;refine I 26<|aP 16 (.aa (U:Int)) j (by rw[<-E])<|RC B D (J:=U) ?_;refine aP 17 (.ip<|.aa (nj U:Int):: .aa (u:Int)::CF.drop (U*2+2)) j (by rw[C])<|I 2<|kF 1 g4 (e0 n) ?_;refine eL (afp (p:=u) (q:=4) j j dC j R al) ?_;obtain⟨A,d⟩:∃A,A=if 4=u then 0 else u:=dC;rw[<-d];refine I 5<|eA (L:=Nat) (λk=>k<=4-u/\(((e0 n).drop u).take k).all (λx=>x==0)=true) (λ(k:Nat)=>⟨[.c 172<|kI n,.a 368 false 1 Int g4<|e0 n],2,[(1,.p 0 0),(2,.b false),(20,.aK 1 1 A (4-u)<|4-u),(21,.aa ((4-u:Nat):Int)),(22,.aa (k:Int))]⟩) (λk=>4-u-k) [0,1] 0 ⟨dw _,j⟩ ?_;rintro(k:Nat) ⟨W,z⟩;have G:((e0 n).drop u).length=4-u:=by rw[k7];rfl
 refine I 3 ?_;by_cases F:k<4-u
 ·refine dd 23<|I 10<|mG ?_;rw[aw R]at d;have d:=d.symm;subst d;have O:(e0 n)[u+k]? =some ((e0 n).drop u)[k]:=by rw[<-oa,nq R]
  refine nP ((e0 n).drop u)[k] O ?_;refine I 7 ?_;by_cases r:((e0 n).drop u)[k]=0
  ·exact c2 27<|I 8<|cd 28 ((k+1:Nat):Int)<|I 2<|bW [0,1] (k+1) ⟨R,R,Yw R z r⟩ bB
  ·refine cg 27 (bK<|ck r)<|I 14<|an (az j j<|.of<|bK ?_);rw[h];have:((e0 n).drop u).all (λx=>x==0)=false:=by
    rw[List.all_eq_false];exact⟨((e0 n).drop u)[k],kc<|by rw[G];exact F,by simpa using r⟩
   rw[this];rfl
 ·refine c2 23 ?_;have Q:((e0 n).drop u).all (λx=>x==0)=true:=by
   rw[iG R]at z;exact z
  rw[Q,Bool.true_and]at h;refine I 14 ?_;by_cases i:n.v=[]
  ·exact aP 31 (.b true) j (by rw[i];rfl)<|I 9<|an (az j j<|.of (bK<|by rw[h,i];rfl))
  ·exact aP 31 (.b false) j (bK<|by simpa using i)<|I 12<|an (az j j<|.of<|bK (by rw[h];cases M:n.v with|nil=>exact absurd M i|cons a l=>rfl))
structure dj where
 b8:ac ci
 eh:ac Int
def iC(t:dj):ac ag:=[.s t.b8,.c6 1 Int g4 t.eh]
structure dR where
 b8:ac ci
 iN:Int
 dr:ac dj
def k6(s:dR):ac ag:=[.s s.b8,.aa s.iN,.c6 2 dj iC s.dr]
structure MN where
 Yx:Int
 bg:ac ci
 af:ac ci
 err:ac ci
 low:ac dR
 high:ac dR
structure ano where
 kind:Int
 iN:Int
 cut:ac ci
 fx:ac MN
 st:ac MN
def td:Nat:=140737488355328
def xo{j:Type}(f:j->j->Bool):ac j->ac j->Bool
 |[],[]=>true
 |x::a,y::b=>f x y&&xo f a b
 |_,_=>false
def anp(m n:Int):Bool:=decide (m=n)
def FX(s t:dj):Bool:=decide (s.b8=t.b8)&&xo anp s.eh t.eh
def Yy(s t:dR):Bool:=decide (s.b8=t.b8)&&(decide (s.iN=t.iN)&&xo FX s.dr t.dr)
def Yz(x y:MN):Bool:=decide (x.Yx=y.Yx)&&(decide (x.bg=y.bg)&&(decide (x.af=y.af)&&(decide (x.err=y.err)&&(xo Yy x.low y.low&&xo Yy x.high y.high))))
def ur(x y:ano):Bool:=decide (x.kind=y.kind)&&(decide (x.iN=y.iN)&&(decide (x.cut=y.cut)&&(xo Yz x.fx y.fx&&xo Yz x.st y.st)))
abbrev fo:=ac ci×ac ci
def si(x:fo):ac ag:=[.s x.1,.s x.2]
def anq(P r:Nat):Nat:=if r<2^P then r else(2^P+r%2^P)*2^(r/2^P-1)
def anr(p:Int):Nat:=(p-1).toNat
def ans(e p:Int):Nat:=(gC e+p-2).toNat
def ant(P:Nat)(r:Int):Int:=r.sign*(anq P r.natAbs:Nat)
def cgz(e p r:Int):Rat:=mkRat (ant (anr p) r)<|2^ans e p
def Hc(n:Nat):hv (dI n):=by
 refine⟨uZ n,GU n,?_⟩;unfold dI dec;split
 ·exact .inl j
 ·right;rename_i o;have c:=sW (b:=10) al n;have i:=gL (b:=10) al n;rcases od (aW 10 n)with h|⟨dc,d,h⟩
  ·exact absurd ((na al).1 h) o
  ·rw[oe]at h;rw[h]at c i;have u:=(zm (b:=10) c).2;have r:=i d av;rw[h,ri];intro q;have:=congrArg UInt8.toNat<|Option.some.inj q;rw[Cp r]at this;have:48+d=48:=this;omega
def MO{n m:Nat}(h:dI n=dI m):n=m:=by rw[<-zx n,h,zx]
def anu(b:Prop)[Decidable b](n:Nat)(t:ac ci):df ((if b then[45]else[])++dI n++t)=(decide b,dI n++t):=by
 by_cases d:b
 ·rw[aE d,ck d];rfl
 ·rw[aw d,cq d];have i:=Hc n;cases h:dI n with
  |nil=>exact absurd h (uZ n)
  |cons c l=>
   have:=i.2.1 c (by rw[h];simp);show(if c=45 then _ else _)=_;rw[aw λe=>by subst e;simp at this];rfl
def anv(x:Rat):dq (hc x)=some x:=by
 have hm:mkRat (hx (decide (x.num<0)) x.num.natAbs) x.den=x:=by
  have:hx (decide (x.num<0)) x.num.natAbs=x.num:=(w3 x).symm;rw[this];exact Dp x
 have d:¬(decide (x.num<0)=true/\dI x.num.natAbs=[48]):=λ⟨i,n⟩=>by
  have i:=hO i;have:=MO (m:=0) n;omega
 unfold hc dq;rw[anu];by_cases c:x.den=1
 ·rw[aE c,rb,Mo<|GV<|GU _];rw[aE ⟨Hc _,d⟩,zx];rw[c]at hm;rw[hm]
 ·rw[aw c,Cr (GV<|GU _) j];simp only;rw[aE ⟨Hc _,d⟩,zx,zx,aE ⟨Hc _,λh=>x.den_nz<|MO h,λh=>c<|MO<|h.trans MP,x.reduced⟩,hm]
theorem anw{k:Nat}{x:Rat}(h:b9 k x):(hc x).length<=20*k+4:=by
 have c:=G5 h.1;have d:=G5 h.2;unfold hc;rw[kz,kz];have:(if x.num<0 then([45]:ac ci)else[]).length<=1:=by grind
 have:(if x.den=1 then([]:ac ci)else 47::dI x.den).length<=1+(dI x.den).length:=by grind
 omega
end Go.bA.c3
namespace Go.bA.c3
def eW:Nat->Nat->Nat
 |_,0=>1
 |0,_+1=>0
 |n+1,k+1=>eW n k+eW n (k+1)
def MQ(bg:Rat)(n:Nat)(c:Nat->Rat)(p:Nat):Nat->Rat
 |0=>c p
 |J+1=>if p<n then MQ bg n c p J+bg*MQ bg n c (p+1) (J+1)else c p
termination_by J=>(n-p,J)
def bZ(g:Nat->Rat):Nat->Nat->Rat
 |p,0=>g p
 |0,_+1=>g 0
 |p+1,r+1=>bZ g (p+1) r+bZ g p r
open Go.bA
def Hd{j:Nat}(h:0<j):(j:Rat)≠0:=λe=>by
 have:j=0:=by exact_mod_cast e
 omega
theorem MR(x:Rat):x*(x.den:Rat)=(x.num:Rat):=by
 have h:(x.den:Rat)≠0:=Hd<|kQ x.den_nz;have:=Dp x;rw[Ao]at this
 grind
set_option maxRecDepth 100000
set_option maxHeartbeats 4000000
variable{x y:Rat}{a b:Nat}
def te(n:Int):Rat:=mkRat n 1
def anx(n:Int):(te n).num=n/\(te n).den=1:=by
 obtain⟨a,b⟩:=uL n 1 al;unfold te;rw[a,b];simp
def CG:bl:=b3 λ((x,y):Rat×Rat)=>([cc x,cc y],b9 268435456 x/\b9 268435456 y,cc<|x*y)
def MS(n m:Bool)(a b:Nat):bu (n != m) (a*b)=bu n a*bu m b:=by cases n<;>cases m<;>simp[bu,xX,Int.mul_neg]
def He:bt 15 CG:=by
 refine bR [(62,uN),(61,uH),(54,uM)] Tc.1 ?_;intro⟨x,y⟩ ⟨(c:b9 _ x),(d:b9 _ y)⟩ H au;refine I 13<|cm s0 (x.num.natAbs,y.num.natAbs) ⟨cP c.1,cP d.1⟩<|I 1<|cm nW x aC<|I 1<|cm nW y aC<|cm s0 (x.den,y.den) ⟨cP c.2,cP d.2⟩<|I 5<|cm oN (decide (x.num<0) != decide (y.num<0),x.num.natAbs*y.num.natAbs,x.den*y.den) ⟨cP<|ka c.1 d.1,cP<|ka c.2 d.2,nw x.den_nz y.den_nz⟩<|I 4<|an (az j j<|.of<|congrArg cc ?_);show mkRat (bu _ _) _=x*y;rw[MS,<-w3,<-w3,Rat.mul_def']
def YA:bl:=b3 λ((x,y):Rat×Rat)=>([cc x,cc y],b9 268435456 x/\b9 268435456 y/\0<y.num,.bq [cc<|mkRat (x.num*(y.den:Int))<|x.den*y.num.natAbs,.aa 0])
def anz:bt 60 YA:=by
 refine bR [(17,uO),(62,uN),(61,uH),(54,uM)] To.1 ?_;intro⟨x,y⟩ ⟨(c:b9 _ x),(d:b9 _ y),(i:0<y.num)⟩ H au;refine I 12<|aV uP y aC<|I 3<|cG (λh=>?_) λh=>?_
 ·have h:y.num=0:=tE.1 h;omega
 refine I 5<|cm nW y aC<|I 2<|cm s0 (x.num.natAbs,y.den) ⟨cP c.1,cP d.2⟩<|I 1<|cm nW x aC<|I 2<|cm s0 (x.den,y.num.natAbs) ⟨cP c.2,cP d.1⟩<|I 5<|cm oN (decide (x.num<0) != decide (y.num<0),x.num.natAbs*y.den,x.den*y.num.natAbs) ⟨cP<|ka c.1 d.2,cP<|ka c.2 d.1,nw x.den_nz R⟩<|I 5<|an (az j j<|.of<|congrArg (λq=>ag.bq [cc q,.aa 0]) ?_);show mkRat (bu (decide (x.num<0) != decide (y.num<0)) _) _=_;rw[cq (show¬y.num<0 by omega),MS,<-w3];rfl
theorem anA(h:0<y.num):mkRat (x.num*(y.den:Int)) (x.den*y.num.natAbs)=x/y:=by
 have i:=MR x;have d:=MR y;have n:=Hd<|kQ x.den_nz;have o:=Hd<|kQ y.den_nz;have e:((y.num.natAbs:Nat):Rat)=(y.num:Rat):=by
  have:((y.num.natAbs:Nat):Int)=y.num:=Int.natAbs_of_nonneg R
  exact_mod_cast congrArg (λz:Int=>(z:Rat)) this
 have ah:(y.num:Rat)≠0:=λc=>by
  have:y.num=0:=by exact_mod_cast c
  omega
 have j:y≠0:=λc=>ah (by rw[<-d,c];grind);rw[Ao]
 push_cast
 rw[e,<-i,<-d]
 grind
theorem YB(n:Int):te n=(n:Rat):=by unfold te;rw[Ao];grind
def YC{n:Int}(aF: -9223372036854775808<=n)(aL:n<9223372036854775808):b9 2 (te n):=GD n aF aL
def YD:bl:=b3 λ((a,b):Nat×Nat)=>([.aa (a:Int),.aa (b:Int)],a<9223372036854775808/\b<9223372036854775808/\0<b,.bq [cc<|(a:Rat)/(b:Rat),.aa 0])
def anB:bt 12 YD:=by
 refine bR [(59,w4),(60,YA)] T6.1 ?_;intro⟨a,b⟩ ⟨(h:a<_),(i:b<_),(d:0<b)⟩ H au;refine I 9<|aV uQ (a:Int) ⟨by show -9223372036854775808<=(a:Int);omega,by show(a:Int)<9223372036854775808;omega⟩<|I 1<|aV uQ (b:Int) ⟨by show -9223372036854775808<=(b:Int);omega,by show(b:Int)<9223372036854775808;omega⟩ ?_;have c:(te (b:Int)).num=(b:Int):=(anx _).1;exact aV anz (te (a:Int),te (b:Int)) ⟨eb<|YC R R,eb<|YC R R,by rw[c];omega⟩<|aP 10 (.bq [cc<|(a:Rat)/(b:Rat),.aa 0]) j (by show ag.bq [cc<|mkRat _ _,_]=_;rw[anA<|by rw[c];omega,YB,YB];push_cast;rfl)<|I 7<|an (az j j dO)
def jg(n:Nat):ac ag:=[.aa (n:Int)]
def x1{j:Type}(n:Nat)(f:Nat->j):ac j:=(List.range n).map f
def u6(aF:b9 a x)(aL:b9 b y):b9 (a+b) (x*y):=by
 rw[Rat.mul_def'];exact nc (by rw[tF];exact ka aF.1 aL.1) (ka aF.2 aL.2)<|nw x.den_nz y.den_nz
def YE(j:a<18446744073709551616)(aA:b<18446744073709551616)(bX:0<b):b9 2 ((a:Rat)/(b:Rat)):=by
 have:=nc (n:=a) (h5 R) (h5 aA) R;rw[Ao]at this;exact this
def YF(K:ac (Nat×dL)){f:d7}(aZ:cJ){S:bl}(ms:S.L->ac (bv×ag))(jd:∀l,S.pre l->∀p∈ms l,∃cp:fr,cp.ok p.1=true)
 (h:∀l,S.pre l->∀H au ad,S.hp H->Fit H [] au [] 0->cB H (S.args l) [] ad->∃(bP:ac ag) (ch:ac fm),cB H bP [] ad/\mI H ch (ms l)/\iJ ⟨b7 aI (cj bS.ctx<|bG K)<|bx+1,bx+1,f,H,[],au,Lf ch au.ae aZ.res⟩ aZ.body ⟨[],0,hJ 0 bP⟩)
 (u:aI.get f=some aZ:=by kernel_rfl) (aD:∀l,(S.args l).length<=aZ.aM:=by exactλ_=>hP j) (D:∀l,S.res l= .g (fB<|ms l):=by exactλ_=>j):bt f S:=agl bS.ea eo (bG K) u ms D aD jd h
def YG:bl:=b3 λ((f,g,x):Poly×Poly×Rat)=>([.g<|fB<|eZ f,.g<|fB<|eZ g,cc x],f.eB/\g.eB/\f.jx/\(∀p∈f,p.1.gB/\b9 100000000 p.2)/\(∀p∈g,p.1.gB/\b9 50000000 p.2)/\b9 50000000 x/\f.length<=1000000/\g.length<=1000000,.g<|fB<|eZ<|fC f x g)
structure MT(f:Poly)(W P:Poly):Prop where
 all:∀p∈P,p.1.gB∧b9 200000001 p.2∧(p.1∉W.map (·.1)->p∈f)
variable{H:bh}{g:Poly}{p:aO×Rat}{es:ac f7}{seen:ac Nat}{m:f7}{k:aO}
def anC{f W:Poly}(j:f.eB)(E:∀p∈f,p.1.gB/\b9 100000000 p.2)(u:∀p∈g,p.1.gB/\b9 50000000 p.2)(D:b9 50000000 x)(h:MT f W (fC f x W))(hp:p∈g)(ah:p.1∉W.map (·.1)):MT f (W++[p]) (fC f x<|W++[p]):=by
 rw[WC];refine⟨λq C=>?_⟩;rcases(mJ (s5 j) p.1 (p.2*x) q).1 C with⟨d,n,G⟩|⟨d,n⟩
 ·have hm:=u6 (u p hp).2 D;have B:b9 100000000 (b8 (fC f x W) p.1):=by
   by_cases c:∃y,(p.1,y)∈fC f x W
   ·obtain⟨y,i⟩:=c;rw[kG (s5 j) i];exact(E _<|(h.all _ i).2.2 ah).2
   ·rw[qJ λr o e=>c ⟨r.2,by rw[<-e];exact o⟩];exact⟨cP<|h5 al,cP<|h5 al⟩
  refine⟨by rw[d];exact(u p hp).1,by rw[n];exact eb<|uU hm B,λc=>absurd ?_ c⟩;rw[d];simp
 ·obtain⟨A,z,F⟩:=h.all q d;exact⟨A,z,λc=>F λe=>c<|by rw[oY];exact nu _ e⟩
def left(es:ac f7)(seen:ac Nat):Nat:=(es.filter λm=>decide (m.born∉seen)).length
def xp(hm:m∈es)(h:m.born∉seen):left es (seen++[m.born])<left es seen:=by
 unfold left;have key:∀l:ac f7,(l.filter λq=>decide (q.born∉seen++[m.born])).length<=(l.filter λm=>decide (m.born∉seen)).length/\(m∈l->(l.filter λq=>decide (q.born∉seen++[m.born])).length<(l.filter λm=>decide (m.born∉seen)).length):=by
  intro l
  induction l with
  |nil=>exact⟨dt _,λh=>by cases h⟩
  |cons x l d=>
   rw[C7,C7];by_cases i:x.born∈seen
   ·have n:x.born∈seen++[m.born]:=nu _ i;simp only[i,n,not_true,decide_false,pY,if_false];refine⟨d.1,λc=>?_⟩;rcases e1.1 c with rfl|c
    ·exact absurd i h
    ·exact d.2 c
   ·by_cases n:x.born=m.born
    ·have o:x.born∈seen++[m.born]:=by rw[n];simp
     simp only[i,o,not_true,not_false_eq_true,decide_false,decide_true,pY,if_false,if_true,hN];exact⟨by have:=d.1;omega,λ_=>by have:=d.1;omega⟩
    ·have o:x.born∉seen++[m.born]:=by simp only[hf,hh,not_or];exact⟨i,n⟩
     simp only[i,o,not_false_eq_true,decide_true,if_true,hN];refine⟨by have:=d.1;omega,λc=>?_⟩;rcases e1.1 c with rfl|c
     ·exact absurd j n
     ·have:=d.2 c;omega
 exact(key es).2 hm
def zD(es:ac f7)(seen:ac Nat):left es seen<=es.length:=List.length_filter_le _ _
def anD:∀{f:Poly},(∀p∈f,p.1.gB)->(∀p∈g,p.1.gB)->f.eB->∀q∈fC f x g,q.1.gB:=by
 induction g with
 |nil=>exactλh _ _=>h
 |cons p g j=>
  intro f n i d;refine j (f:=eC f p.1<|p.2*x) (λq c=>?_) (λq c=>i q<|e5 _ c)<|mK d _ _;rcases(mJ d p.1 (p.2*x) q).1 c with⟨h,_⟩|⟨h,_⟩
  ·rw[h];exact i p g5
  ·exact n q h
def anE{P:Poly}(ah:b8 P p.1≠0)(h:b8 P p.1=p.2):p∈P:=by
 induction P with
 |nil=>exact absurd j ah
 |cons q P c=>
  unfold b8 at h ah;split at h
  ·rename_i e;have:p=q:=by cases p;cases q;simp only at e h;rw[e,h]
   rw[this];exact g5
  ·rename_i e;rw[aw e]at ah;exact e5 _<|c ah h
def xq(k:aO):den H (l0 k) [] (ei k):=⟨_,j,_,_,j,j,_,_,j,j,_,_,j,j,_,_,j,j,_,_,j,j,_,_,j,j,j⟩
def anF{u v w:bv}(h:den H (cc x) [] (.agg ⟨[u,v,w]⟩)):den H (.agg [r7 (.v u)<|.b<|decide (x.num<0),r7 (.v v)<|da x.num.natAbs,r7 (.v w)<|oM x.den]) [] (.agg ⟨[u,v,w]⟩):=by
 obtain⟨E,e,A,C,i,o,D,B,z,q,w',d,n,r,c⟩:=h;have c:d=[]:=c;subst c n z i;cases e;exact⟨_,j,_,_,j,⟨j,o⟩,_,_,j,⟨j,q⟩,_,_,j,⟨j,r⟩,j⟩
def xr{clock:Nat}{ms:ac (bv×ag)}(h:hb H es clock ms){u:f7}(hm:m∈es)(E:u∈es){D:ac aO}(ax:m.key=ei k)(af:u.born∈seen↔∃k∈D,u.key=ei k):u.born∈seen++[m.born]↔∃J∈D++[k],u.key=ei J:=by
 constructor
 ·intro d;rcases hf.1 d with d|d
  ·obtain⟨J,c,i⟩:=af.1 d;exact⟨J,nu _ c,i⟩
  ·rw[hh]at d;rw[Jv h.js E hm d];exact⟨k,av,ax⟩
 ·rintro⟨J,c,i⟩;rcases hf.1 c with c|c
  ·exact nu _<|af.2 ⟨J,c,i⟩
  ·rw[hh]at c;rw[c]at i;rw[uniq h.keys E hm<|i.trans ax.symm];simp
def MU:bt 104 YG:=by
 refine YF [(15,CG),(99,zu.jb Ci)] Lw.1 (λ(f,g,x)=>eZ<|fC f x g) ?_ ?_
 ·rintro⟨f,g,x⟩ ⟨(z:f.eB),(V:g.eB),(Z:f.jx),E,M,_⟩ p hp;obtain⟨q,d,rfl⟩:=cW.1 hp;exact⟨_,pL<|anD (λp hp=>(E p hp).1) (λp hp=>(M p hp).1) z q d⟩
 rintro⟨f,g,x⟩ ⟨(z:f.eB),(V:g.eB),(Z:f.jx),E,M,(a':b9 _ x),(a0:f.length<=_),(aT:g.length<=_)⟩ H au a1 _ aU aI;obtain⟨v1,aX,rfl,aJ,aZ,aW,rfl,aK,a2,aH,rfl,aL,af⟩:=aI;have af:aH=[]:=af;subst af;obtain⟨ew,n,ag,rfl,al,C⟩:=aJ;obtain⟨ft,T,ai,rfl,ar,G⟩:=aK;have aG:=Mf V;refine⟨[.v<|.map<|some ew,.v<|.map<|some ft,cc x],(fC f x g).map<|qQ<|(qP n).oP g,⟨_,_,j,j,_,_,j,j,_,_,j,aL,j⟩,?_,?_⟩
 ·refine Mh (zv z Z) λp hp u v w Y=>?_;unfold gu.oP at Y;split at Y
  ·cases Y
  ·rename_i B;have aa:=kG (s5 z) (k:=p.1) (x:=p.2) hp;rw[Ck z aG,qJ (P:=g) λq d e=>B<|cW.2 ⟨q,d,e⟩,Rat.zero_mul,Al]at aa;have az:p∈f:=anE (by rw[aa];exact zv z Z p hp) aa;obtain⟨m,hm,U⟩:=uS C az;obtain⟨q,d,aV,aY,w',i,A,O,J⟩:=uR C hm;have:=key_inj<|U.symm.trans i;have aS:q.2=p.2:=by rw[<-kG z (k:=q.1) (x:=q.2) d,<-this];exact kG z az
   rw[<-this,Y]at O;cases O;rw[<-aS,<-A];exact J
 have aM:∀{cb:Nat} {L:gu} {P:Poly},(∀p∈P,p.1.gB)->∀p∈eY cb L P,(fr.arr .i64 6).ok p.1=true:=λaN p hp=>by
  obtain⟨q,d,rfl⟩:=cW.1 hp;exact pL<|aN q d
 show iJ _ (.seq _<|.seq _<|.seq (.seq _<|.block _<|.loop _)<|.seq (.seq _<|.block _<|.loop _) _) _;refine hX<|gz ?_;refine I 4<|an ?_;refine hX<|gz ?_;refine I 1<|B1 ?_;refine I 2<|an ?_;refine zc (L:=Unit) (λ_=>True) (λ_=>⟨[.c 45<|gA x,.g<|ho<|eY au.ae (qP n) f],2,[(1,.v<|.map<|some ft),(5,.p 0 0),(7,.mp 1)]⟩) ?_ ?_
 ·refine hX<|gz ?_;refine I 2<|wV al ?_;refine I 1<|an ?_;refine uy ?_;refine wS (L:=ac Nat×ac aO) (λ(seen,D)=>(∀s∈seen,s<ag)/\∀m∈n,m.born∈seen↔∃k∈D,m.key=ei k)
   (λ(seen,D)=>⟨[.c 45<|gA x,.g<|ho<|eY au.ae (qP n)<|f.filter λq=>decide (q.1∈D),.g<|lB ew ag seen],3,[(1,.v<|.map<|some ft),(5,.p 0 0),(7,.mp 1),(14,.p 2 0)]⟩)
   (λl=>left n l.1) [0,1,2] ([],[]) ⟨(λs h=>by cases h),λm _=>⟨(λh=>by cases h),λ⟨k,h,_⟩=>by cases h⟩⟩ ?_ (bB (aF:=⟨gj,⟨_,j,?_⟩,gj,aC⟩)) ?_
  ·show left n []<bx+1;have i:=zD n [];have A:=C.len;unfold eZ at A;rw[hz]at A;unfold bx;omega
  ·show a4.g _=a4.g _;rw[List.filter_eq_nil_iff.2 λq _=>av];rfl
  rintro⟨seen,D⟩ ⟨S,F⟩;refine hX<|uz (k:=2) (r:=ew) (clock:=ag) (seen:=seen) (es:=n) j j al S (λm hm R=>?_) λao=>?_
  ·refine I 2<|an ?_;refine gz ?_;refine I 7 ?_;obtain⟨p,hp,u,v,w,i,A,O,J⟩:=uR C hm;refine wW (l0 p.1) (.agg [r7 (.v u)<|.b<|decide (p.2.num<0),r7 (.v v)<|da p.2.num.natAbs,r7 (.v w)<|oM p.2.den]) al hm C.js (C.born m hm) (λab _=>?_) (λab hle=>?_) ?_
   ·rw[i];exact xq p.1
   ·rw[A];rw[A]at J;exact anF<|iw hle _ (cf.refl _) J
   refine I 12 ?_;have B:p.1∉D:=λe=>R<|(F m hm).2 ⟨p.1,e,i⟩;have ax:=alm (cb:=au.ae) (L:=qP n) z hp B;rw[O]at ax;refine Si (eY au.ae (qP n)<|f.filter λq=>decide (q.1∈D++[p.1])) ax (w5 p.1) (aM λq d=>(E q (q9.1 d).1).1) ?_ (jd:=pL (E p hp).1);refine I 2<|an ⟨[0,1,2],(seen++[m.born],D++[p.1]),⟨xp hm R,λs o=>?_,λah Q=>?_⟩,Ru ⟨j,j,j,j,aC⟩ gj gj gj⟩
   ·rcases hf.1 o with o|o
    ·exact S s o
    ·rw[hh]at o;rw[o];exact C.born m hm
   ·exact xr C hm Q i<|F ah Q
  ·have e:(f.filter λq=>decide (q.1∈D))=f:=z4.2 λq d=>by
    obtain⟨m,hm,U⟩:=uS C d;obtain⟨k,B,ak⟩:=(F m hm).1<|ao m hm;rw[key_inj<|U.symm.trans ak];exact ck B
   refine I 2<|an ?_;refine gz ?_;refine I 4<|an ?_;show ly 0 _ _ _;refine⟨[0,1],(),aC,?_⟩;exact Rm ⟨j,j,j,aC⟩ gj ⟨_,j,by show a4.g _=a4.g _;rw[e]⟩
 rintro⟨⟩ _;refine zc (L:=Unit) (λ_=>True) (λ_=>⟨[.g<|ho<|eY au.ae ((qP n).oP g)<|fC f x g],1,[(7,.mp 0)]⟩) ?_ ?_
 ·refine hX<|gz ?_;refine I 2<|wV ar ?_;refine I 1<|an ?_;refine uy ?_;refine wS (L:=ac Nat×Poly) (λ(seen,W)=>(∀s∈seen,s<ai)/\(∀m∈T,m.born∈seen↔∃k∈W.map (·.1),m.key=ei k)/\(∀p∈W,p∈g)/\(W.map (·.1)).Nodup/\MT f W (fC f x W))
   (λ(seen,W)=>⟨[.c 45<|gA x,.g<|ho<|eY au.ae ((qP n).oP W)<|fC f x W,.g<|lB ft ai seen],3,[(5,.p 0 0),(7,.mp 1),(24,.p 2 0)]⟩)
   (λl=>left T l.1) [0,1,2] ([],[]) ⟨(λs h=>by cases h),(λm _=>⟨(λh=>by cases h),λ⟨k,h,_⟩=>by cases h⟩),(λp h=>by cases h),oc,⟨λp hp=>⟨(E p hp).1,eb (E p hp).2,λ_=>hp⟩⟩⟩ ?_ (bB (aF:=⟨gj,⟨_,j,?_⟩,gj,aC⟩)) ?_
  ·show left T []<bx+1;have i:=zD T [];have A:=G.len;unfold eZ at A;rw[hz]at A;unfold bx;omega
  ·show a4.g _=a4.g _;rw[ali];rfl
  rintro⟨seen,W⟩ ⟨S,F,aj,aA,ad⟩;refine hX<|uz (k:=2) (r:=ft) (clock:=ai) (seen:=seen) (es:=T) j j ar S (λm hm R=>?_) λao=>?_
  ·refine I 2<|an ?_;refine gz ?_;refine I 7 ?_;obtain⟨p,hp,u,v,w,i,A,O,J⟩:=uR G hm;refine wW (l0 p.1) (cc p.2) ar hm G.js (G.born m hm) (λab _=>?_) (λab hle=>?_) ?_
   ·rw[i];exact xq p.1
   ·exact iw hle _ (cf.refl _) J
   refine I 11 ?_;have B:p.1∉W.map (·.1):=λe=>R<|(F m hm).2 ⟨p.1,e,i⟩;refine cm He (p.2,x) ⟨eb (M p hp).2,eb a'⟩<|I 2<|zg Cj 1 (au.ae,(qP n).oP W,fC f x W,p.1,p.2*x) ⟨s5 z,λq d=>⟨(ad.all q d).1,eb (ad.all q d).2.1⟩,(M p hp).1,eb<|u6 (M p hp).2 a'⟩ (dt _) ?_;refine I 2 ?_;have aQ:=anC z E M a' ad hp B;refine an ⟨[0,1,2],(seen++[m.born],W++[p]),⟨xp hm R,λs o=>?_,λah Q=>?_,λq d=>?_,?_,aQ⟩,Ru ⟨j,j,j,aC⟩ gj ⟨_,j,by show a4.g _=a4.g _;rw[alj,WC]⟩ gj⟩
   ·rcases hf.1 o with o|o
    ·exact S s o
    ·rw[hh]at o;rw[o];exact G.born m hm
   ·rw[oY];exact xr G hm Q i<|F ah Q
   ·rcases hf.1 d with d|d
    ·exact aj q d
    ·rw[hh]at d;rw[d];exact hp
   ·rw[oY];exact z9.2 ⟨aA,av,λa ay b aD e=>by simp at aD;rw[e,aD]at ay;exact B ay⟩
  ·have aE:∀p,p∈W↔p∈g:=λp=>⟨aj p,λhp=>by
    obtain⟨m,hm,U⟩:=uS G hp;obtain⟨k,B,ak⟩:=(F m hm).1<|ao m hm;obtain⟨q,d,aP⟩:=cW.1 B;have N:q.1=p.1:=aP.trans<|key_inj<|ak.symm.trans U;have X:q.2=p.2:=by
     have i:=kG V (k:=q.1) (x:=q.2)<|aj q d;rw[N,kG V (k:=p.1) (x:=p.2) hp]at i;exact i.symm
    have:q=p:=by cases q;cases p;simp only at N X;rw[N,X]
    rw[<-this];exact d⟩
   have N:=alk (qP n) aE;have X:=alh (x:=x) z Z aA aG aE;refine I 2<|an ?_;refine gz ?_;refine I 4<|an ?_;show ly 0 _ _ _;refine⟨[1],(),aC,?_⟩;exact⟨av,j,⟨⟨_,j,by show a4.g _=a4.g _;rw[N,X]⟩,aC⟩,⟨j,aC⟩,j⟩
 rintro⟨⟩ _;refine gz ?_;exact I 7<|an ⟨.inr j,0,j,_,_,j,Mg _,.refl _⟩
def aO.add(k J:aO):aO:=⟨k.a+J.a,k.b+J.b,k.c+J.c,k.d+J.d,k.e+J.e,k.f+J.f⟩
def anG{u J:aO}(h:k.add J=u.add J):k=u:=by
 cases k;cases u;unfold aO.add at h;simp at h⊢;omega
abbrev mP:=ac<|(aO×Rat)×(aO×Rat)
variable{f:Poly}{w:(aO×Rat)×(aO×Rat)}
def e8(W:mP):Poly:=W.foldl (λP w=>eC P (w.1.1.add w.2.1)<|w.1.2*w.2.2) []
def u7{W:mP}:e8 (W++[w])=eC (e8 W) (w.1.1.add w.2.1) (w.1.2*w.2.2):=by
 unfold e8;rw[List.foldl_append];rfl
def xt{j:Type}{p:ac j->Prop}(bX:p [])(aF:∀l a,p l->p (l++[a]))(l:ac j):p l:=by
 have:∀r:ac j,p r.reverse:=λr=>by
  induction r with
  |nil=>exact bX
  |cons a r c=>rw[List.reverse_cons];exact aF _ _ c
 have:=this l.reverse
 rwa [Ds]at this
def tf(W:mP):(e8 W).eB:=xt (p:=λW=>(e8 W).eB) List.Pairwise.nil (λW w h=>by rw[u7];exact mK h _ _) W
def Hf(W:mP):(e8 W).jx:=xt (p:=λW=>(e8 W).jx) (λp hp=>by cases hp) (λW w h=>by rw[u7];exact Ca (tf W) h _ _) W
def kv:ac Rat->Rat
 |[]=>0
 |x::l=>x+kv l
theorem Hg:∀l m:ac Rat,kv (l++m)=kv l+kv m
 |[],m=>by show kv m=0+kv m;rw[Al]
 |x::l,m=>by show x+kv (l++m)=x+kv l+kv m;rw[Hg l m,Du]
def anH{l m:ac Rat}(h:l.Perm m):kv l=kv m:=by
 induction h with
 |nil=>rfl
 |cons x _ d=>show x+_=x+_;rw[d]
 |swap x y l=>show y+(x+kv l)=x+(y+kv l);rw[<-Du,Rat.add_comm y x,Du]
 |trans _ _ c i=>exact c.trans i
def anI(w:(aO×Rat)×(aO×Rat)):Rat:=w.1.2*w.2.2
def at_(s:aO)(W:mP):ac Rat:=(W.filter λw=>decide (w.1.1.add w.2.1=s)).map anI
theorem MV(W:mP):∀s,b8 (e8 W) s=kv (at_ s W):=xt (p:=λW=>∀s,b8 (e8 W) s=kv (at_ s W)) (λs=>j) (λW w d s=>by
 rw[u7,VV<|tf W];unfold at_;rw[List.filter_append,oY,Hg];have c:=d s;unfold at_ at c;by_cases h:s=w.1.1.add w.2.1
 ·rw[aE h,<-h,c];have:[w].filter (λw=>decide (w.1.1.add w.2.1=s))=[w]:=by simp[h]
  rw[this];show _=_+(w.1.2*w.2.2+0);rw[Dv,Rat.add_comm]
 ·rw[aw h,c];have:[w].filter (λw=>decide (w.1.1.add w.2.1=s))=[]:=by grind
  rw[this];show _=_+0;rw[Dv]) W
def kJ(f g:Poly):mP:=f.flatMap λp=>g.map λq=>(p,q)
def xu:w∈kJ f g↔w.1∈f/\w.2∈g:=by
 unfold kJ;simp only[sl,cW];constructor
 ·rintro⟨p,hp,q,h,rfl⟩;exact⟨hp,h⟩
 ·rintro⟨c,d⟩;exact⟨w.1,c,w.2,d,j⟩
def Hh(h:f.eB):f.Nodup:=h.imp λ{p q} c e=>by rw[e]at c;exact aO.oL _ c
def YH(j:f.Nodup)(u:g.Nodup):(kJ f g).Nodup:=by
 induction f with
 |nil=>exact oc
 |cons p f h=>
  rw[tz]at j;refine z9.2 ⟨n9.2<|u.imp λ{a b} i e=>i<|congrArg Prod.snd e,h j.2,λa d b c e=>?_⟩;obtain⟨q,_,rfl⟩:=cW.1 d;rw[<-e]at c;exact j.1 (xu.1 c).1
def anJ{W V:mP}(j:W.Nodup)(u:V.Nodup)(h:∀w,w∈W↔w∈V):e8 W=e8 V:=
 VW (tf W) (tf V) (Hf W) (Hf V) λk=>by
  rw[MV,MV];exact anH<|(((C9 j u).2 h).filter _).map _
theorem MW{j:Type}[DecidableEq j]:∀{l m:ac j},l.Nodup->(∀x∈l,x∈m)->l.length<=m.length
 |[],_,_,_=>dw _
 |x::l,m,ah,h=>by
  rw[tz]at ah;have c:=h x g5;have:=MW (m:=m.erase x) ah.2 λy d=>by
   have i:=h y<|e5 _ d;exact(List.mem_erase_of_ne λe=>ah.1<|by rw[<-e];exact d).2 i
  rw[List.length_erase_of_mem c]at this;have hp:=List.length_pos_of_mem c;simp;omega
def anK{W:mP}(j:f.eB)(D:W.Nodup)(h:∀w∈W,w.1∈f/\w.2∈g)(s:aO):(at_ s W).length<=g.length:=by
 unfold at_;rw[hz];have ah:(W.filter λw=>decide (w.1.1.add w.2.1=s)).Nodup:=D.sublist De;have:=MW (l:=(W.filter λw=>decide (w.1.1.add w.2.1=s)).map (·.2)) (by
  refine n9.2<|ah.imp_of_mem λ{a b} r E A e=>A ?_;obtain⟨I,o⟩:=q9.1 r;obtain⟨B,F⟩:=q9.1 E;have C:=hO o;have i:=hO F;rw[<-e]at i;have c:=anG<|C.trans i.symm;have d:=kG j (h a I).1;have z:=kG j (h b B).1;rw[c]at d;have q:=d.symm.trans z;have u:=Prod.ext c q;exact Prod.ext u e) λx n=>by
   obtain⟨w,G,rfl⟩:=cW.1 n;exact(h w (q9.1 G).1).2
 rw[hz]at this;exact this
theorem YI{m:Nat}:∀{l:ac Rat},(∀x∈l,b9 m x)->b9 (l.length*(m+1)+2) (kv l)
 |[],_=>eb ⟨h5 al,h5 al⟩ av
 |x::l,h=>by
  have aF:=uU (h x g5)<|YI λy c=>h y<|e5 _ c;refine eb aF ?_;rw[hN,e2];omega
def YJ{W:mP}(j:f.eB)(u:W.Nodup)(h:∀w∈W,w.1∈f/\w.2∈g)(D:∀p∈f,b9 a p.2)(E:∀p∈g,b9 b p.2):∀p∈e8 W,b9 (g.length*(a+b+1)+2) p.2:=λp hp=>by
 rw[<-kG (tf W) hp,MV];refine eb (YI (m:=a+b) λx c=>?_) ?_
 ·obtain⟨w,n,rfl⟩:=cW.1 c;obtain⟨d,i⟩:=h w (q9.1 n).1;exact u6 (D _ d)<|E _ i
 ·exact Dk (lI _<|anK j u h p.1) 2
def aO.ik(k:aO):Prop:=k.a<2048/\k.b<2048/\k.c<2048/\k.d<2048/\k.e<2048/\k.f<2048
def MX{J:aO}(h:k.ik)(u:J.ik):(k.add J).gB:=by unfold aO.ik at h u;unfold aO.gB aO.add;simp only;omega
def xv(h:k.ik):k.gB:=by unfold aO.ik at h;unfold aO.gB;omega
def YK:∀W:mP,(∀w∈W,(w.1.1.add w.2.1).gB)->∀p∈e8 W,p.1.gB:=λW=>xt (p:=λW=>(∀w∈W,(w.1.1.add w.2.1).gB)->∀p∈e8 W,p.1.gB) (λ_ p hp=>by cases hp) (λW w d h p hp=>by
 rw[u7]at hp;rcases(mJ (tf W) _ _ p).1 hp with⟨c,_⟩|⟨c,_⟩
 ·rw[c];exact h w av
 ·exact d (λw i=>h w<|nu _ i) p c) W
end Go.bA.c3
namespace Go.bA.c3
open Go.bA Go.bA.Sym
set_option maxRecDepth 100000
set_option maxHeartbeats 4000000
section
variable{aq:eX}{K:ac dH}{own:ac a4}{aB:Nat}{e:bU}
def MY{n z a9 U J:Nat}{bG:f6}{x i:ce}{d:Tmp}{ay:ac Tmp}{back:Nat}{l:ac (bm×cr)}{bf:ac a4}{a7:bU}{aX b0:Nat}(u:b5.ok aq ⟨K,.d l bf ((d,.p a9<|U+J*z)::a7) aX b0,⟨own,aB,(d,.p a9<|U+J*z)::e⟩⟩)
 (D:a6 (dZ ay a7) x=some (.p a9 U):=by rfl) (af:a6 (dZ ay a7) i=some (.i bG (J:Int)):=by rfl) (ba:J<n:=by decide) (aA:back<aX:=by decide):b5.ok aq ⟨K,.d ((⟨some d,.rl n z x i,none⟩,.read back ay)::l) bf a7 aX b0,⟨own,aB,e⟩⟩:=
 k2 (d:=some d) (s:=⟨own,aB,e⟩) aA (λH C st h c _ _=>by
  obtain⟨b,A,B⟩:=c.ar D;have q:h.ar i= .int bG (J:Int):=c.ar af;refine⟨_,⟨b,A,j⟩,λr _ _=>?_⟩;show sw n z x i aq.call h r=_;unfold sw;rw[B,kZ,Sym.eg,q,mB,pv,ga R,m1];rfl) u
end
def anL(k:aO):gu.jQ (λ_=>none) k=λ_=>none:=funext λc=>by unfold gu.jQ;split<;>rfl
def anM{a b:Nat}(j:a<4096)(aA:b<4096):ag.aa (IntKind.i64.wrap<|(a:Int)+(b:Int))=ag.aa ((a+b:Nat):Int):=by
 rw[fP R R];rfl
def anN(k J:aO)(i:Nat):ac ag:=[.aa ((if 0<i then k.a+J.a else k.a:Nat):Int),.aa ((if 1<i then k.b+J.b else k.b:Nat):Int),.aa ((if 2<i then k.c+J.c else k.c:Nat):Int),
 .aa ((if 3<i then k.d+J.d else k.d:Nat):Int),.aa ((if 4<i then k.e+J.e else k.e:Nat):Int),.aa ((if 5<i then k.f+J.f else k.f:Nat):Int)]
def YL:bl:=b3 λ((f,g,a,b):Poly×Poly×Nat×Nat)=>([.g<|fB<|eZ f,.g<|fB<|eZ g],f.eB/\g.eB/\(∀p∈f,p.1.ik/\b9 a p.2)/\(∀p∈g,p.1.ik/\b9 b p.2)/\a+b<=200000000/\g.length*(a+b+1)+2<=268435456/\f.length<=1000000/\g.length<=1000000,.g<|fB<|eZ<|e8<|kJ f g)
def MZ:bt 102 YL:=by
 refine YF [(15,CG),(99,zu.jb Ci)] Lv.1 (λ(f,g,_,_)=>eZ<|e8<|kJ f g) ?_ ?_
 ·rintro⟨f,g,a,b⟩ ⟨(V:f.eB),(aj:g.eB),B,C,_⟩ p hp;obtain⟨q,A,rfl⟩:=cW.1 hp;exact⟨_,pL<|YK _ (λw z=>MX (B _ (xu.1 z).1).1 (C _ (xu.1 z).2).1) q A⟩
 rintro⟨f,g,a,b⟩ ⟨(V:f.eB),(aj:g.eB),B,C,(bp:a+b<=_),(a6:List.length g*(a+b+1)+2<=_),(bs:f.length<=_),(bj:g.length<=_)⟩ H au bu _ bn a1;obtain⟨v1,br,rfl,b',bg,bd,rfl,ba,ay⟩:=a1;have ay:bd=[]:=ay;subst ay;obtain⟨ew,a',X,rfl,aF,J⟩:=b';obtain⟨ft,ah,ak,rfl,aI,M⟩:=ba;have aZ:=Hh V;have bh:=Hh aj;refine⟨[.v<|.map<|some ew,.v<|.map<|some ft],(e8<|kJ f g).map<|qQ λ_=>none,M0,?_,?_⟩
 ·exact Mh (Hf _) λp hp u v w bb=>by cases bb
 show iJ _ (.seq _<|.seq _<|.seq (.seq _<|.block _<|.loop _) _) _;refine hX<|gz ?_;refine I 3<|an ?_;refine hX<|gz ?_;refine I 1<|B1 ?_;refine I 2<|an ?_;refine zc (L:=Unit) (λ_=>True) (λ_=>⟨[.g<|ho<|eY au.ae (λ_=>none)<|e8<|kJ f g],1,[(5,.mp 0)]⟩) ?_ ?_
 ·refine hX<|gz ?_;refine I 2<|wV aF ?_;refine I 1<|an ?_;refine uy ?_;refine wS (L:=ac Nat×ac aO×mP) (λ(seen,G,W)=>(∀s∈seen,s<X)/\(∀m∈a',m.born∈seen↔∃k∈G,m.key=ei k)/\W.Nodup/\(∀w∈W,w.1∈f/\w.2∈g)/\∀w,w.1∈f->w.2∈g->(w∈W↔w.1.1∈G))
   (λ(seen,G,W)=>⟨[.g<|ho<|eY au.ae (λ_=>none)<|e8 W,.g<|lB ew X seen],2,[(1,.v<|.map<|some ft),(5,.mp 0),(14,.p 1 0)]⟩)
   (λl=>left a' l.1) [0,1] ([],[],[]) ⟨(λs h=>by cases h),(λm _=>⟨(λh=>by cases h),λ⟨k,h,_⟩=>by cases h⟩),oc,(λw h=>by cases h),λw _ _=>⟨(λh=>by cases h),λh=>by cases h⟩⟩ ?_ bB ?_
  ·show left a' []<bx+1;have Z:=zD a' [];have S:=J.len;unfold eZ at S;rw[hz]at S;unfold bx;omega
  rintro⟨seen,G,W⟩ ⟨aW,aG,aQ,aT,aP⟩;refine hX<|uz (k:=1) (r:=ew) (clock:=X) (seen:=seen) (es:=a') j j aF aW (λm hm aU=>?_) λaH=>?_
  ·refine I 2<|an ?_;refine hX<|gz ?_;refine I 2<|an ?_;refine uy ?_;refine hX<|gz ?_;refine I 1 ?_;obtain⟨p,hp,u,v,w,Z,S,bl,a0⟩:=uR J hm;refine wW (l0 p.1) (cc p.2) aF hm J.js (J.born m hm) (λax _=>?_) (λax hle=>?_) ?_
   ·rw[Z];exact xq p.1
   ·exact iw hle _ (cf.refl _) a0
   have ad:p.1∉G:=λe=>aU<|(aG m hm).2 ⟨p.1,e,Z⟩;refine I 7<|an ?_;refine hX<|gz ?_;refine I 2<|wV aI ?_;refine I 1<|an ?_;refine uy ?_;refine wS (L:=ac Nat×ac aO×mP) (λ(D,O,n)=>(∀s∈D,s<ak)/\(∀m∈ah,m.born∈D↔∃k∈O,m.key=ei k)/\n.Nodup/\(∀w∈n,w.1∈f/\w.2∈g)/\∀w,w.1∈f->w.2∈g->(w∈n↔w.1.1∈G\/w.1=p/\w.2.1∈O))
    (λ(D,O,n)=>⟨[.g<|ho<|eY au.ae (λ_=>none)<|e8 n,.g<|lB ew X<|seen++[m.born],.c 197 [.aa (p.1.a:Int),.aa (p.1.b:Int),.aa (p.1.c:Int),.aa (p.1.d:Int),.aa (p.1.e:Int),.aa (p.1.f:Int)],.c 45<|gA p.2,.g<|lB ft ak D],5,[(1,.v<|.map<|some ft),(5,.mp 0),(14,.p 1 0),(6,.p 2 0),(7,.p 3 0),(21,.p 4 0)]⟩)
    (λl=>left ah l.1) [0,1,2,3,4] ([],[],W) ⟨(λs h=>by cases h),(λm _=>⟨(λh=>by cases h),λ⟨k,h,_⟩=>by cases h⟩),aQ,aT,λw Q F=>(aP w Q F).trans ⟨.inl,λh=>h.elim id λh=>by cases h.2⟩⟩ ?_
    bB ?_
   ·show left ah []<bx+1;have Z:=zD ah [];have S:=M.len;unfold eZ at S;rw[hz]at S;unfold bx;omega
   rintro⟨D,O,n⟩ ⟨aX,ar,ao,T,aA⟩;refine hX<|uz (k:=4) (r:=ft) (clock:=ak) (seen:=D) (es:=ah) j j aI aX (λY N aM=>?_) λaH=>?_
   ·refine I 2<|an ?_;refine gz ?_;refine I 7 ?_;obtain⟨q,A,bq,bg,B4,aD,bk,a2,cD⟩:=uR M N;refine wW (l0 q.1) (cc q.2) aI N M.js (M.born Y N) (λax _=>?_) (λax hle=>?_) ?_
    ·rw[aD];exact xq q.1
    ·exact iw hle _ (cf.refl _) cD
    have bc:q.1∉O:=λe=>aM<|(ar Y N).2 ⟨q.1,e,aD⟩;have aY:=xv (B p hp).1;have a8:=xv (C q A).1;refine I 22 ?_;refine eu (L:=Nat) (λi=>i<=6) (λ(i:Nat)=>⟨[.g<|ho<|eY au.ae (λ_=>none)<|e8 n,.g<|lB ew X<|seen++[m.born],.c 197 [.aa (p.1.a:Int),.aa (p.1.b:Int),.aa (p.1.c:Int),.aa (p.1.d:Int),.aa (p.1.e:Int),.aa (p.1.f:Int)],.c 45<|gA p.2,.g<|lB ft ak<|D++[Y.born],
     .c 197 [.aa (q.1.a:Int),.aa (q.1.b:Int),.aa (q.1.c:Int),.aa (q.1.d:Int),.aa (q.1.e:Int),.aa (q.1.f:Int)],.c 45<|gA q.2,.c 197<|anN p.1 q.1 i],8,
     [(1,.v<|.map<|some ft),(5,.mp 0),(14,.p 1 0),(6,.p 2 0),(7,.p 3 0),(21,.p 4 0),(8,.p 5 0),(9,.p 6 0),(10,.p 7 0),(28,.aa (i:Nat))]⟩)
     (λi=>6-i) [0,1,2,3,4,5,6,7] 0 R (by show 6-0<bx+1;unfold bx;omega)
     bB ?_
    rintro(i:Nat) af;rcases(show i=0\/i=1\/i=2\/i=3\/i=4\/i=5\/i=6 by omega)with rfl|rfl|rfl|rfl|rfl|rfl|rfl
    rotate_left 6
    ·refine I 15<|cm He (p.2,q.2) ⟨eb (B p hp).2 R,eb (C q A).2 R⟩<|I 2 ?_;have a5:(p,q)∉n:=λe=>((aA (p,q) hp A).1 e).elim ad λh=>bc h.2;refine zg Cj 0 (au.ae,λ_=>none,e8 n,p.1.add q.1,p.2*q.2) ⟨tf n,λr aN=>⟨YK n (λw z=>MX (B _ (T w z).1).1 (C _ (T w z).2).1) r aN,eb (YJ V ao T (λp hp=>(B p hp).2) (λp hp=>(C p hp).2) r aN) a6⟩,MX (B p hp).1 (C q A).1,eb (u6 (B p hp).2 (C q A).2) R⟩ (dt _) ?_;refine I 2 ?_;refine an ⟨[0,1,2,3,4],(D++[Y.born],O++[q.1],n++[(p,q)]),⟨xp N aM,λs o=>?_,λaz ab=>xr M N ab aD<|ar az ab,?_,λw z=>?_,λw Q F=>?_⟩,
      ⟨al,j,⟨⟨_,j,by show a4.g _=a4.g _;rw[anL,u7]⟩,gj,gj,gj,gj,aC⟩,⟨j,j,j,j,j,j,aC⟩,j⟩⟩
     ·rcases hf.1 o with o|o
      ·exact aX s o
      ·rw[hh]at o;rw[o];exact M.born Y N
     ·exact z9.2 ⟨ao,av,λa aK b aS e=>by
       rw[hh]at aS;rw[e,aS]at aK;exact a5 aK⟩
     ·rcases hf.1 z with z|z
      ·exact T w z
      ·rw[hh]at z;rw[z];exact⟨hp,A⟩
     ·rw[hf,hh,aA w Q F,hf,hh];constructor
      ·rintro((h|h)|h)
       ·exact .inl h
       ·exact .inr ⟨h.1,.inl h.2⟩
       ·rw[h];exact .inr ⟨j,.inr j⟩
      ·rintro(h|⟨h,ai|ai⟩)
       ·exact .inl<|.inl h
       ·exact .inl<|.inr ⟨h,ai⟩
       ·refine .inr<|Prod.ext h<|Prod.ext ai ?_;have E:=kG aj (k:=w.2.1) (x:=w.2.2) F;rw[ai,kG aj (k:=q.1) (x:=q.2) A]at E;exact E.symm
    all_goals
     refine I 19<|MY ?_;refine I 2<|MY ?_;refine I 2<|dD 37 (.aa ((_+_:Nat):Int)) j j (anM (by simp;unfold aO.gB at aY;omega)<|by unfold aO.gB at a8;omega)<|MY ?_;refine I 8<|bW [0,1,2,3,4,5,6,7] _ ?_ ⟨al,j,?_,⟨j,j,j,j,j,j,j,j,j,j,aC⟩,j⟩
     ·exact⟨by show 6-_<6-_;decide,by show _<=6;decide⟩
     exact⟨gj,gj,gj,gj,gj,gj,gj,gj,aC⟩
   ·refine I 2<|an ?_;refine gz ?_;refine I 4<|an ?_;show ly 0 _ _ _;refine⟨[0,1],(seen++[m.born],G++[p.1],n),⟨xp hm aU,λs o=>?_,λaz ab=>xr J hm ab Z<|aG az ab,ao,T,λw Q F=>(aA w Q F).trans ?_⟩,?_⟩
    ·rcases hf.1 o with o|o
     ·exact aW s o
     ·rw[hh]at o;rw[o];exact J.born m hm
    ·rw[hf,hh];constructor
     ·exactλh=>h.imp id λh=>by rw[h.1]
     ·refineλh=>h.imp id λh=>⟨?_,?_⟩
      ·have E:=kG V (k:=w.1.1) (x:=w.1.2) Q;rw[h,kG V (k:=p.1) (x:=p.2) hp]at E;exact Prod.ext h E.symm
      ·obtain⟨aV,aL,aJ⟩:=uS M F;obtain⟨k,ad,aE⟩:=(ar aV aL).1<|aH aV aL;rw[key_inj<|aJ.symm.trans aE];exact ad
    ·exact Rm ⟨j,j,j,aC⟩ gj gj
  ·have E:e8 W=e8 (kJ f g):=anJ aQ (YH aZ bh) λw=>by
    rw[xu];refine⟨aT w,λh=>(aP w h.1 h.2).2 ?_⟩;obtain⟨m,hm,aJ⟩:=uS J h.1;obtain⟨k,ad,aE⟩:=(aG m hm).1<|aH m hm;rw[key_inj<|aJ.symm.trans aE];exact ad
   refine I 2<|an ?_;refine hX<|gz ?_;refine I 2<|an ?_;show ly 0 _ _ _;refine⟨[0],(),aC,?_⟩;exact hV ⟨j,aC⟩ ⟨_,j,by show a4.g _=a4.g _;rw[E]⟩
 rintro⟨⟩ _;refine gz ?_;exact I 7<|an ⟨.inr j,0,j,_,_,j,Mg _,.refl _⟩
end Go.bA.c3
namespace Go.bA.c3
open Go.bA
set_option maxRecDepth 100000
set_option maxHeartbeats 4000000
variable{f:d7}
instance:Coe PP dL:=⟨λS=>S.spec.K⟩
def xw(K:ac (Nat×dL))(aZ:cJ){S:PP}(h:∀l,S.pre l->∀H au,S.hp H->b5.ok ⟨b7 aI (cj bS.ctx<|bG K)<|bx+1,bx+1,f,H,[],au,FG S l aZ.res⟩ ⟨[],.c aZ.body,⟨[],0,hJ 0<|S.args l⟩⟩)
 (u:aI.get f=some aZ:=by kernel_rfl) (aD:∀l,(S.args l).length<=aZ.aM:=by exactλ_=>hP j):kD bS.ctx f S.spec:=afs bS.ea eo (bG K) u aD h
def ed(c:Int):bv:=.iface 182<|.agg #[.int .i64 c]
def anO(b:Bool)(c:Int):qE:=if b=true then .ret (.bq [])else .aR (ed c)
def zE:PP where
 L:=Bool×Int
 args:=λ(b,c)=>[.b b,.aa c]
 pre:=λ_=>True
 out:=λ(b,c)=>anO b c
def jh:kD bS.ctx 88 zE.spec:=by
 refine xw [] Ub.1 ?_;rintro⟨b,c⟩ _ H au _;cases b with
 |true=>
  exact I 8<|an (sR j j j<|bJ.refl _)
 |false=>
  refine I 10<|afv (.agg #[.int .i64 c]) ?_;refine aft ?_;exact an<|jz j
def anP(c:Int):qE:=if c=0 then .ret (.bq [])else .aR (ed c)
def Hi:PP where
 L:=Int
 args:=λc=>[.aa c]
 pre:=λ_=>True
 out:=anP
def zF:kD bS.ctx 31 Hi.spec:=by
 refine xw [(88,zE)] SD.1 ?_;intro(c:Int) _ H au _;by_cases h:c=0
 ·exact I 4<|v1 3 h<|lz jh (true,c) aC (.bq []) j<|I 1<|an (sR j j (aE h)<|bJ.refl _)
 ·exact I 4<|v0 3 h<|kp jh (false,c) aC (ed c) j<|an (jz<|aw h)
def tg(s:ac ci):qE:=match dq s with
 |some x=>.ret (cc x)
 |none=>.aR<|ed 6
def YM:PP where
 L:=ac ci
 args:=λs=>[.s s]
 pre:=λs=>s.length<=2000
 out:=tg
def Hj:kD bS.ctx 98 YM.spec:=by
 refine xw [(11,CC),(31,Hi)] Lz.1 ?_;intro(s:ac ci) (c:s.length<=2000) H au _;cases h:dq s with
 |some x=>
  exact I 8<|aV xl s c<|aP 7 (.bq [cc x,.aa 0]) j (by show jT s=_;unfold jT;rw[h])<|I 11<|lz zF (0:Int) aC (.bq []) j<|I 9<|an (sR j j (show tg s= .ret (cc x) by unfold tg;rw[h])<|bJ.refl _)
 |none=>
  exact I 8<|aV xl s c<|aP 7 (.bq [cc 0,.aa 6]) j (by show jT s=_;unfold jT;rw[h])<|I 11<|kp zF (6:Int) aC (ed 6) j<|I 1<|an (jz (show tg s= .aR (ed 6) by unfold tg;rw[h]))
def fp(l:ac Nat):Nat:=l.foldr (· +·) 0
def M1(l m:ac Nat):fp (l++m)=fp l+fp m:=by
 induction l with
 |nil=>simp[fp]
 |cons a l c=>show a+fp (l++m)=a+fp l+fp m;omega
theorem CH{B:Nat}:∀{l:ac Nat},(∀n∈l,n<=B)->fp l<=l.length*B
 |[],_=>dw _
 |a::l,h=>by
  have aF:=CH λn ah=>h n<|e5 _ ah;have c:=h a g5;show a+fp l<=(l.length+1)*B;rw[e2];omega
def YN:bl:=b3 λ(l:ac Nat)=>([.cU 1 Nat jg l],l.length<=1000/\∀n∈l,n<=1000000,.aa (fp l:Nat))
theorem anQ:bt 186 YN:=by
 refine bR [] LA.1 ?_;intro(l:ac Nat) ⟨r,c⟩ H au;have d:∀i,fp (l.take i)<=1000000000:=λi=>by
  have o:=CH (l:=l.take i) λn ah=>c n<|p4 ah;have q:(l.take i).length<=1000:=by grind
  omega
 refine I 14<|eA (λi=>i<=l.length) (λ(i:Nat)=>⟨[],0,[(5,.cU 1 Nat jg l),(6,.aa l.length),(7,.aa i),(2,.aa (fp (l.take i):Nat))]⟩) (λi=>l.length-i) [] 0 (dw _) ?_;rintro i af;refine I 6<|cG (λh=>?_) λh=>?_
 ·have h:i<l.length:=by omega
  have ah:=c _<|dx h;have o:=d i;have e:fp (l.take<|i+1)=fp (l.take i)+l[i]:=by
   rw[kd h,M1];simp[fp]
  refine I 6<|fc l[i] (a0 h) j<|I 16<|bW [] (i+1) ⟨R,R⟩ (m4 ⟨j,j,?_,?_,aC⟩)
  ·exact congrArg (λa=>some<|ag.aa a)<|by rw[fP]<;>omega
  ·exact congrArg (λa=>some<|ag.aa a)<|by rw[fP,e]<;>omega
 ·have h:i=l.length:=by omega
  refine I 12<|an (az j j<|.of ?_);show ag.aa (fp (l.take i):Nat)=ag.aa (fp l:Nat);rw[h,o1]
def anR(K:ac (Nat×dL))(aZ:cJ){S:PP}(i:Nat)(E:∀l v,S.out l= .aR v->∀(ab c:bF) (u:bv),bc c v u->bc ab v u)
 (h:∀l,S.pre l->∀H au ad,S.hp H->Fit H [] au [] 0->cB H (S.args l) [] ad->∃bP:ac ag,cB H bP [] ad/\iJ ⟨b7 aI (cj bS.ctx<|bG K)<|bx+1,bx+1,f,H,[],au,Lm S l ad i H aZ.res⟩ aZ.body ⟨[],0,hJ 0 bP⟩)
 (D:aI.get f=some aZ:=by kernel_rfl) (aD:∀l,(S.args l).length<=aZ.aM:=by exactλ_=>hP j):kD bS.ctx f S.spec:=agr bS.ea eo (bG K) D i aD E h
def anS{c:Int}{ab j:bF}{u:bv}(h:bc j (ed c) u):bc ab (ed c) u:=by
 cases h with
 |iface _ _ w h=>
  refine .iface _ _ _ ?_;cases h with
  |agg xs d n o=>
   obtain⟨d⟩:=d;obtain⟨y,r,rfl,q,i⟩:=(bI.tU n o).cons_inv;have:=i.ql;subst this;cases q;exact bc.rz<|bI.cons (.int _ _)<|bI.nil _
def aO.n(k:aO):ac Nat:=[k.a,k.b,k.c,k.d,k.e,k.f]
def aO.pS(k:aO):Nat:=fp k.n
def lE(f:Poly):Bool:=decide (f.length<=200)&&f.all λp=>decide (p.1.pS<=16)
def th(f:Poly):qE:=if lE f=true then .ret (.g<|fB<|eZ f)else .aR (ed 3)
def YO:PP where
 L:=Poly
 args:=λf=>[.g<|fB<|eZ f]
 pre:=λf=>f.eB/\(∀p∈f,p.1.gB)/\f.length<=1000000
 out:=th
def u9:kD bS.ctx 101 YO.spec:=by
 refine anR [(88,zE),(186,YN)] B3.1 0 ?_ ?_
 ·intro f v h av ak u a';have h:th f= .aR v:=h;unfold th at h;split at h
  ·cases h
  ·cases h;exact anS a'
 rintro(f:Poly) ⟨af,ab,ao⟩ H au ar _ ai S;obtain⟨v1,al,rfl,F,U⟩:=S;subst U;have T:=F;obtain⟨ew,B,G,rfl,r,c⟩:=F;have aj:(eZ f).length=f.length:=by unfold eZ;rw[hz]
 refine⟨[.v<|.map<|some ew],⟨_,_,j,j,j⟩,?_⟩;refine hX<|gz ?_;refine I 3<|an ?_;by_cases A:f.length<=200
 case neg=>
  have D:th f= .aR (ed 3):=by unfold th lE;rw[cq A];rfl
  refine hX<|gz ?_;refine I 2<|Sj (R5 r c) ?_;exact I 1<|c2 6<|kp jh (false,3) aC (ed 3) j<|an (.inr ⟨_,j,D⟩)
 refine hX<|gz ?_;refine I 2<|Sj (R5 r c) ?_;refine I 1<|dd 6<|lz jh (true,3) aC (.bq []) j<|I 1<|an ?_;refine zc (L:=Unit) (λ_=>f.all (λp=>decide (p.1.pS<=16))=true) (λ_=>⟨[],0,[(0,.v<|.map<|some ew)]⟩) ?_ ?_
 ·refine hX<|gz ?_;refine I 2<|wV r ?_;refine I 1<|an ?_;refine uy ?_;refine wS (λ(seen,o)=>(∀s∈seen,s<G)/\(∀m∈B,m.born∈seen↔∃k∈o,m.key=ei k)/\∀k∈o,k.pS<=16)
   (λ(seen,o)=>⟨[.g<|lB ew G seen],1,[(0,.v<|.map<|some ew),(9,.p 0 0)]⟩)
   (λl=>left B l.1) [0] ([],[]) ⟨(λs h=>by cases h),(λm _=>⟨(λh=>by cases h),λ⟨k,h,_⟩=>by cases h⟩),λk h=>by cases h⟩ ?_ bB ?_
  ·show left B []<bx+1;have C:=zD B [];have A:=c.len;unfold bx;omega
  rintro⟨seen,o⟩ ⟨N,M,E⟩;refine hX<|uz j j r N (λm hm aa=>?_) λad=>?_
  ·refine I 2<|an ?_;refine gz ?_;refine I 7 ?_;obtain⟨p,hp,u,v,w,C,A,ag,O⟩:=uR c hm;refine wW (l0 p.1) (cc p.2) r hm c.js (c.born m hm) (λQ _=>?_) (λQ hle=>?_) ?_
   ·rw[C];exact xq p.1
   ·exact iw hle _ (cf.refl _) O
   refine I 6<|kF 1 jg p.1.n ?_;refine eL (y8 j j j j (dw _) R sC) ?_;refine kn 14 ?_ (ah:=show p.1.n.length=6-0 from rfl);refine aV anQ p.1.n ⟨by show 6<=1000;decide,λn ah=>?_⟩ ?_
   ·have Y:=ab p hp;unfold aO.gB at Y;unfold aO.n at ah;simp at ah;omega
   by_cases z:p.1.pS<=16
   ·refine I 1<|aP 16 (.b true) j (bK (ck<|by unfold aO.pS at z;omega))<|lz jh (true,3) aC (.bq []) j<|I 2<|an ⟨[0],(seen++[m.born],o++[p.1]),⟨xp hm aa,λs i=>?_,λW J=>xr c hm J C<|M W J,λk d=>?_⟩,hV ⟨j,j,aC⟩ gj⟩
    ·rcases hf.1 i with i|i
     ·exact N s i
     ·rw[hh]at i;rw[i];exact c.born m hm
    ·rcases hf.1 d with d|d
     ·exact E k d
     ·rw[hh]at d;rw[d];exact z
   ·have D:th f= .aR (ed 3):=by
     unfold th lE;rw[aw];intro e;rw[cO,il]at e;exact z<|hO<|e.2 p hp
    exact I 1<|aP 16 (.b false) j (bK (cq<|by unfold aO.pS at z;omega))<|kp jh (false,3) aC (ed 3) j<|I 1<|an (.inr ⟨_,j,D⟩)
  ·have e:f.all (λp=>decide (p.1.pS<=16))=true:=il.2 λq Z=>by
    obtain⟨m,hm,ae⟩:=uS c Z;obtain⟨k,d,X⟩:=(M m hm).1<|ad m hm;rw[key_inj<|ae.symm.trans X];exact ck<|E k d
   refine I 2<|an ?_;refine gz ?_;refine I 4<|an ?_;exact⟨[],(),e,m4 ⟨j,aC⟩⟩
 rintro⟨⟩ V;refine gz ?_;exact I 7<|an (.inl ⟨.inr j,_,_,j,j,by show th f=_;unfold th lE;rw[ck A,V];rfl,T⟩)
def bJ.YP{ms j:ac (bv×ag)}(h:pI ms j):bJ (.g<|fB ms) (.g<|fB j):=λ_ _ _ ⟨r,es,c,e,i,d⟩=>⟨r,es,c,e,i,d.Sa h⟩
theorem M3{cb:Nat}{L:gu}:∀P:Poly,pI (eY cb L P) (eZ P)
 |[]=>trivial
 |p::P=>⟨j,WA,M3 P⟩
def aO.zero:aO:=⟨0,0,0,0,0,0⟩
def YQ:bl:=b3 λ(x:Rat)=>([cc x],b9 268435456 x,.g<|fB<|eZ<|eC [] aO.zero x)
def YR:bt 105 YQ:=by
 refine bR [(99,zu.jb Ci)] Tv.1 ?_;intro x c H au;refine I 8<|B1 ?_;refine I 8<|agq Cj 1 (au.ae,λ_=>none,[],aO.zero,x) ⟨List.Pairwise.nil,(λp hp=>by cases hp),by unfold aO.gB aO.zero;decide,c⟩ (dt _) ?_;refine I 5<|Lb 9 ?_;exact I 4<|an (az j j<|bJ.YP<|M3 _)
def aO.var(i:Nat):aO:=⟨if i=0 then 1 else 0,if i=1 then 1 else 0,if i=2 then 1 else 0,if i=3 then 1 else 0,if i=4 then 1 else 0,if i=5 then 1 else 0⟩
section
variable{aq:eX}{K:ac dH}{own bo:ac a4}{aB:Nat}{e:bU}
variable{l:ac (bm×cr)}{bf:ac a4}{a7:bU}{b0:Nat}{ms:ac (bv×ag)}
def M4{d:Tmp}{ay:ac Tmp}{aX:Nat}(k:b5.ok aq ⟨K,.d l bf (j6 d a7) aX b0,⟨bo,aB+1,(d,.mp aB)::e⟩⟩)(u:mE own (.g<|ho []) some=some bo:=by rfl):b5.ok aq ⟨K,.d ((⟨some d,.o4,none⟩,.gq ay)::l) bf a7 aX b0,⟨own,aB,e⟩⟩:=by
 have:=m2 u;cases this;refine Q2 (λH c st n i z=>?_) j k;have r:Fit H (c++[st.ae]) ⟨st.h.set st.ae<|.map [] 0,st.ae+1⟩ (own++[.g<|ho []]) (aB+1):=i.add ⟨[],0,j,R6 _⟩;have q:c.length=aB:=i.len;refine⟨.map<|some st.ae,_,c++[st.ae],?_,r,⟨st.ae,by rw[<-q];simp,j⟩,cf.app _ _,λ_ _ _ B=>B.add _,k9 _,λb o _=>sO o⟩;have e:bw aq.call .o4 n st=st.ib (.map [] 0) λid st=>.ok (.map<|some id) n st:=rfl;rw[e,gF]
def anT{cp:fr}{m k v:ce}{J:Nat}{E a:ag}{u:bv}{aX:Nat}(D:ac (bv×ag))(N:uB ms u a D)(Q:uD E u)(I:∀p∈ms,cp.ok p.1=true)(bG:b5.ok aq ⟨K,.d l (bf.map λ_=>.x) a7 (aX+1) aB,⟨bo,aB,e⟩⟩)(hm:a6 e m=some (.mp J):=by rfl)(ba:own[J]? =some (.g<|ho ms):=by rfl)
 (ax:a6 e k=some E:=by rfl) (G:a6 e v=some a:=by rfl) (fH:iV a=true:=by rfl) (jd:cp.ok u=true:=by rfl) (F:hn own J (.g<|ho D) some=some bo:=by rfl):b5.ok aq ⟨K,.d ((⟨none,.ext<|.eO cp m k v,none⟩,.dF)::l) bf a7 aX b0,⟨own,aB,e⟩⟩:=by
 have:=ih F;cases this;refine KW (a:=.bq []) (λH O st C i q n=>?_) bG;obtain⟨v1,ak,r,h,L,M,o,c,z,A,B,_⟩:=(R7 hm ba ax Q G fH jd I N) H O st C q n;exact⟨v1,ak,r,h,L,M,o,c,z,A _ _ _ i,B⟩
def anU(t:Nat){c:dk}{k:Nat}(bG:b5.ok aq ⟨K,.c c,⟨bo,aB,(t,.g<|fB ms)::e⟩⟩)(D:dp e t=some (.mp k):=by rfl)(ax:own[k]? =some (.g<|ho ms):=by rfl)(E:hn own k .x some=some bo:=by rfl):b5.ok aq ⟨K,.c c,⟨own,aB,e⟩⟩:=by
 have F:=ih E;cases F;intro H G st C A i o;obtain⟨b,n,z⟩:=o.get t _ D;obtain⟨⟨es,B,a2,d⟩,_⟩:=i.own k _ b ax n;have hle:=r1 i ax j n;refine bG (fA H st b) G st C (A.fA i ax j n) (i.fA ax j n) ⟨(o.mono hle<|cf.refl _).pl,λu q h=>?_⟩;rw[lW]at h;cases r:Nat.beq t u with
 |false=>rw[r]at h;exact(o.mono hle<|cf.refl _).get u q h
 |true=>
  rw[r]at h;cases h;rw[<-dM r];exact⟨b,es,B,z,by unfold fA;rw[aE j];exact a2,d.mono hle⟩
end
variable{s:ac ci}{x:Rat}{l:ac Int}
def anV{k:aO}{a:ag}:uB [] (ei k) a [(ei k,a)]:=⟨av,av,(λp hp=>by cases hp),(λp hp=>by simp at hp;exact .inl hp),j⟩
def YS:bl:=b3 λ(i:Nat)=>([.aa (i:Int)],i<6,.g<|fB<|eZ [(aO.var i,1)])
def anW:bt 103 YS:=by
 refine bR [(59,w4)] Ud.1 ?_;intro(i:Nat) (af:i<6) H au;rcases(show i=0\/i=1\/i=2\/i=3\/i=4\/i=5 by omega)with rfl|rfl|rfl|rfl|rfl|rfl
 all_goals
  refine I 15<|eL (sQ j j al) ?_;refine I 5<|cm uQ (1:Int) ⟨al,al⟩<|M4 ?_;refine I 1<|anT [(ei ⟨_,_,_,_,_,_⟩,cc 1)] anV (w5 _) (λp hp=>by cases hp) ?_ (jd:=pL<|by unfold aO.gB;decide);refine I 2<|fz j ?_;refine anU 2 ?_;exact I 1<|an (az j j dO)
def hy(s:ac ci):be Rat:=if g3 s=0 then some (sg s)else none
def Hk(h:hy s=some x):g3 s=0/\sg s=x:=by
 unfold hy at h;split at h
 ·cases h;exact⟨‹_›,j⟩
 ·cases h
def Hl(h:hy s=none):g3 s≠0:=λe=>by
 unfold hy at h;rw[aE e]at h;cases h
def anX(h:hy s=some x):dq s=some x:=by
 obtain⟨c,d⟩:=Hk h;unfold sg at d;rw[aE c]at d;unfold g3 at c;split at c
 case isFalse=>cases c
 split at c
 case isTrue=>cases c
 split at c
 case isFalse=>cases c
 rename_i j;obtain⟨y,i⟩:=zZ.1 j;rw[i]at d⊢;rw[<-d];rfl
def YT(h:hy s=some x):b9 250 x:=by
 rw[<-(Hk h).2];exact anf s
def YU(h:hy s=some x):pQ s= .bq [cc x,.aa 0]:=by unfold pQ;rw[(Hk h).1,(Hk h).2]
def anY(h:hy s=none):pQ s= .bq [cc 0,.aa<|g3 s]:=by unfold pQ;rw[G6<|Hl h]
def CI(s:ac ci):qE:=match hy s with
 |some x=>.ret (cc x)
 |none=>.aR<|ed<|g3 s
def M5(h:hy s=some x):CI s= .ret (cc x):=by unfold CI;rw[h]
def M6(h:hy s=none):CI s= .aR (ed<|g3 s):=by unfold CI;rw[h]
def M7:PP where
 L:=ac ci
 args:=λs=>[.s s]
 pre:=λs=>s.length<=1048576
 out:=CI
def Hm:kD bS.ctx 98 M7.spec:=by
 refine xw [(11,Yl),(31,Hi)] Lz.1 ?_;intro(s:ac ci) (c:s.length<=1048576) H au _;cases h:hy s with
 |some x=>
  exact I 8<|aV Ym s c<|aP 7 (.bq [cc x,.aa 0]) j (YU h)<|I 11<|lz zF (0:Int) aC (.bq []) j<|I 9<|an (sR j j (M5 h)<|bJ.refl _)
 |none=>
  exact I 8<|aV Ym s c<|aP 7 (.bq [cc 0,.aa<|g3 s]) j (anY h)<|I 11<|kp zF (g3 s) aC (ed<|g3 s) (aw<|Hl h)<|I 1<|an (jz<|M6 h)
def n2(l:ac Int)(J i:Nat):Int:=if i<J then l.getD i 0 else 0
def CJ(l:ac Int)(J:Nat):ac ag:=[.aa<|n2 l J 0,.aa<|n2 l J 1,.aa<|n2 l J 2,.aa<|n2 l J 3,.aa<|n2 l J 4,.aa<|n2 l J 5]
def nk(l:ac Int):aO:=⟨(l.getD 0 0).toNat,(l.getD 1 0).toNat,(l.getD 2 0).toNat,(l.getD 3 0).toNat,(l.getD 4 0).toNat,(l.getD 5 0).toNat⟩
def va(l:ac Int):Bool:=l.all λk=>decide (0<=k/\k<=16)
def anZ{J:Nat}(h:J<l.length){i:Nat}:n2 l (J+1) i=if i=J then l[J]else n2 l J i:=by
 unfold n2;by_cases e:i=J
 ·subst e;rw[aE R,aE j,sq,nq h];rfl
 ·rw[aw e];by_cases c:i<J
  ·rw[aE c,aE R]
  ·rw[aw c,aw R]
def M8(h:va l=true)(J i:Nat):0<=n2 l J i/\n2 l J i<=16:=by
 unfold n2;split
 ·rw[sq];cases e:l[i]? with
  |none=>exact⟨al,al⟩
  |some x=>
   have:=il.1 h x<|hg e;exact hO this
 ·exact⟨al,al⟩
def M9(h:va l=true)(i:Nat):((l.getD i 0).toNat:Int)=n2 l l.length i:=by
 have c:=M8 h (i+1) i;unfold n2 at *;split
 ·omega
 ·rw[sq,sm R];rfl
def an0(h:va l=true):ag.agg (CJ l l.length)=l0 (nk l):=by
 show _=ag.agg [_,_,_,_,_,_];unfold CJ nk;simp only[M9 h]
def vb(n:Nat)(t:dj):Bool:=decide (t.eh.length=n)&&va t.eh&&decide ((nk t.eh).pS<=16)
def pT(n:Nat)(t:dj):qE:=match hy t.b8 with
 |some x=>if vb n t=true then .ret (.bq [l0<|nk t.eh,cc x])else .aR (ed 7)
 |none=>.aR<|ed<|g3 t.b8
def YV:PP where
 L:=ec×dj
 args:=λ(p,t)=>[jC p,.agg<|iC t]
 pre:=λ(p,t)=>t.b8.length<=3000/\p.ins.length<=6
 out:=λ(p,t)=>pT p.ins.length t
def YW:ev:=ko λ(l:ac Nat)=>([.a 197 false 1 Nat jg l],[.aK 0 1 0 l.length l.length],l.length<=1000/\∀n∈l,n<=1000000,[.a 197 false 1 Nat jg l],.aa (fp l:Nat))
theorem an1:bt 186 YW:=by
 refine kH [] LA.1 ?_;intro(l:ac Nat) ⟨r,c⟩ H i0 au af;obtain⟨u,rfl⟩:∃b,i0=[b]:=mg.1 af;have d:∀i,fp (l.take i)<=1000000000:=λi=>by
  have o:=CH (l:=l.take i) λn ah=>c n<|p4 ah;have q:(l.take i).length<=1000:=by grind
  omega
 refine I 14<|eA (λi=>i<=l.length) (λ(i:Nat)=>⟨[.a 197 false 1 Nat jg l],1,[(5,.aK 0 1 0 l.length l.length),(6,.aa l.length),(7,.aa i),(2,.aa (fp (l.take i):Nat))]⟩) (λi=>l.length-i) [0] 0 (dw _) ?_;rintro i af;refine I 6<|cG (λh=>?_) λh=>?_
 ·have h:i<l.length:=by omega
  have ah:=c _<|dx h;have o:=d i;have e:fp (l.take<|i+1)=fp (l.take i)+l[i]:=by
   rw[kd h,M1];simp[fp]
  refine I 6<|mG ?_;refine nP l[i] (show l[0+i]? =some l[i] by rw[iE];exact a0 h) ?_;refine I 15<|bW [0] (i+1) ⟨R,R⟩ (bB (aL:=⟨j,j,?_,?_,aC⟩))
  ·exact congrArg (λa=>some<|ag.aa a)<|by rw[fP]<;>omega
  ·exact congrArg (λa=>some<|ag.aa a)<|by rw[fP,e]<;>omega
 ·have h:i=l.length:=by omega
  refine I 12<|an ⟨.inr j,⟨_,j,j,.of ?_⟩,[0],j,hV aC jN⟩;show ag.aa (fp (l.take i):Nat)=ag.aa (fp l:Nat);rw[h,o1]
def YX:kD bS.ctx 100 YV.spec:=by
 refine xw [(98,M7),(88,zE),(186,YW)] U0.1 ?_;rintro⟨p,t⟩ ⟨(D:t.b8.length<=3000),(hp:p.ins.length<=6)⟩ H au _;cases z:hy t.b8 with
 |none=>
  exact I 12<|kp Hm t.b8 (cC D al) (ed<|g3 t.b8) (M6 z)<|I 1<|an (jz<|by show pT _ _=_;unfold pT;rw[z])
 |some x=>
 have bad:vb p.ins.length t≠true->pT p.ins.length t= .aR (ed 7):=λh=>by unfold pT;rw[z];exact aw h
 refine I 12<|lz Hm t.b8 (cC D al) (cc x) (M5 z)<|I 12 ?_;by_cases E:t.eh.length=p.ins.length
 case neg=>
  exact c2 17<|kp jh (false,7) aC (ed 7) j<|I 1<|an (jz (bad<|by unfold vb;rw[cq E];simp))
 refine dd 17<|lz jh (true,7) aC (.bq []) j<|I 12<|eu (L:=Nat) (λd=>d<=t.eh.length/\va (t.eh.take d)=true) (λ(d:Nat)=>⟨[.c 27<|iB p,.c 80<|iC t,.c 197<|CJ t.eh d,.c 45<|gA x],4,[(4,.p 2 0),(5,.p 3 0),(20,.c6 1 Int g4 t.eh),(21,.aa t.eh.length),(22,.aa (d:Nat))]⟩) (λd=>t.eh.length-d) [0,1,2,3] 0 ⟨dw _,j⟩ (by show t.eh.length-0<bx+1;unfold bx;omega) g1 ?_;rintro(d:Nat) ⟨T,o⟩;refine I 6<|cG (λh=>?_) λh=>?_
 ·have h:d<t.eh.length:=by omega
  have J:t.eh≠[]:=λe=>by rw[e]at h;exact p2 _ h
  refine ix 20 (.cU 1 Int g4 t.eh) j (.kW J)<|I 7<|fc t.eh[d] (a0 h) j<|ix 20 (.c6 1 Int g4 t.eh) rfl .c6<|I 9 ?_;have C:¬(0<=t.eh[d]/\t.eh[d]<=16)->pT p.ins.length t= .aR (ed 7):=λah=>bad λe=>by
   unfold vb at e;rw[cO,cO]at e;exact ah<|hO<|il.1 e.1.2 _<|dx h
  by_cases A:0<=t.eh[d]
  case neg=>
   exact c2 28<|I 4<|kp jh (false,7) aC (ed 7) j<|I 6<|an (jz<|C λe=>A e.1)
  refine dd 28<|I 5 ?_;by_cases r:t.eh[d]<=16
  case neg=>
   exact c2 31<|I 1<|kp jh (false,7) aC (ed 7) j<|I 6<|an (jz<|C λe=>r e.2)
  refine dd 31<|I 1<|lz jh (true,7) aC (.bq []) j<|I 5 ?_;have S:va (t.eh.take<|d+1)=true:=by
   unfold va at o⊢;rw[kd h,An,o,xO,List.all_nil,ck ⟨A,r⟩];rfl
  rcases(show d=0\/d=1\/d=2\/d=3\/d=4\/d=5 by omega)with rfl|rfl|rfl|rfl|rfl|rfl
  all_goals
   refine eL (sQ j j al) ?_;refine I 8 ?_;refine bW [0,1,2,3] (_+1) ⟨by show _-(_+1)<_-_;omega,h,S⟩<|bB (aF:=⟨gj,gj,⟨_,j,?_⟩,gj,aC⟩);unfold CJ;simp only[anZ h];rfl
 ·have h:d=t.eh.length:=by omega
  rw[h,o1]at o;have B:=an0 o;rw[<-h]at B;have B:CJ t.eh d=(nk t.eh).n.flatMap jg:=ag.agg.inj B;rw[B];refine I 7<|kF 2 jg (nk t.eh).n ?_;refine eL (y8 (p:=0) (q:=6) j j j j (dw _) R sC) ?_;refine k3 an1 2 (nk t.eh).n ⟨by show 6<=1000;decide,λn ah=>?_⟩ ?_
  ·show n<=1000000;have u:=λi=>M8 o t.eh.length i;have Q:=λi=>M9 o i;have A:=u 0;have N:=u 1;have O:=u 2;have G:=u 3;have F:=u 4;have M:=u 5;rw[<-Q]at A N O G F M;unfold aO.n nk at ah;simp only[e1,List.not_mem_nil,or_false]at ah;omega
  refine Rx 2 ?_;refine I 1 ?_;by_cases r:(nk t.eh).pS<=16
  case neg=>
   refine aP 40 (.b false) j (bK (cq<|by show¬((fp (nk t.eh).n:Nat):Int)<=16;unfold aO.pS at r;omega))<|kp jh (false,7) aC (ed 7) j<|I 1 ?_;exact an (jz (bad λe=>by
    unfold vb at e;rw[cO,cO]at e;exact r<|hO e.2))
  refine aP 40 (.b true) j (bK (ck<|by show((fp (nk t.eh).n:Nat):Int)<=16;unfold aO.pS at r;omega))<|lz jh (true,7) aC (.bq []) j<|I 11 ?_;refine an (sR j j (show pT _ _= .ret (.bq [l0<|nk t.eh,cc x]) by
   unfold pT vb;rw[z];exact aE<|by rw[ck E,o,ck r];rfl)<|bJ.refl _)
def YY{v k:Nat}(h:v<10^k)(ax:k<=2000):dP 250 v:=sb<|eR h<|cC (jG al ax) R
def YZ(D:s.length<=2000)(h:dq s=some x):b9 250 x:=by
 obtain⟨P,q,o,_,_,E,F,A,z,B⟩:=CB D;by_cases n:jB (df s).1 P q o
 ·obtain⟨c,d,a2⟩:=n;have r:=YY (l3 c.2.1) R;cases o with
  |false=>
   have e:=z ⟨c,d,a2⟩ j;rw[h]at e;cases e;exact nc (by rw[nf];exact r) (cP<|h5 al) al
  |true=>
   obtain⟨i,u,C⟩:=a2 j;have g8:b6 q≠0:=λh=>u<|sf i h;have e:=B ⟨c,d,a2⟩ j;rw[h]at e;split at e
   ·cases e;exact nc (by rw[nf];exact r) (YY (l3 i.2.1) R) g8
   ·cases e
 ·rw[A n]at h;cases h
def Y0(h:dq s=some x):tg s= .ret (cc x):=by unfold tg;rw[h]
def Y1(h:dq s=none):tg s= .aR (ed 6):=by unfold tg;rw[h]
abbrev gm:=Rat×Rat
variable{k:Nat}{t:dj}{a:Rat}{v:Nat}{l6:aO×Rat}{P:Poly}
def lF(s:gm):ac ag:=gA s.1++gA s.2
def gM:ac fo->be (ac gm)
 |[]=>some []
 |s::l=>match dq s.1 with
  |some a=>(match dq s.2 with
   |some b=>(gM l).map ((a,b)::·)
   |none=>none)
  |none=>none
def qY(ad:ac gm):Bool:=ad.all λv=>decide (¬v.2<v.1)
def xx(n:Nat)(l:ac fo):qE:=if l.length=n then(match gM l with
 |some c=>if qY c=true then .ret (.cU 6 gm lF c)else .aR (ed 7)
 |none=>.aR<|ed 6)else .aR (ed 2)
def an2{s:fo}{l:ac fo}{ad:ac gm}{b:Rat}(j:dq s.1=some a)(aA:dq s.2=some b):(gM<|s::l).map (ad++·)=(gM l).map ((ad++[(a,b)])++·):=by
 have e:gM (s::l)=(gM l).map ((a,b)::·):=by
  show(match dq s.1 with|some a=>(match dq s.2 with|some b=>(gM l).map ((a,b)::·)|none=>none)|none=>none)=_;rw[j,aA]
 rw[e];cases gM l with
 |none=>rfl
 |some w=>show some (ad++(a,b)::w)=some ((ad++[(a,b)])++w);rw[rh];rfl
def Hn{s:fo}{l:ac fo}(j:dq s.1=none):gM (s::l)=none:=by
 show(match dq s.1 with|some a=>(match dq s.2 with|some b=>(gM l).map ((a,b)::·)|none=>none)|none=>none)=_;rw[j]
def Ho{s:fo}{l:ac fo}(j:dq s.1=some a)(aA:dq s.2=none):gM (s::l)=none:=by
 show(match dq s.1 with|some a=>(match dq s.2 with|some b=>(gM l).map ((a,b)::·)|none=>none)|none=>none)=_;rw[j,aA]
theorem Na:∀{l:ac fo} {ad:ac gm},(∀s∈l,s.1.length<=2000/\s.2.length<=2000)->gM l=some ad->∀v∈ad,b9 250 v.1/\b9 250 v.2
 |[],ad,_,h,v,c=>by cases h;cases c
 |s::l,ad,i,h,v,c=>by
  cases j:dq s.1 with
  |none=>rw[Hn j]at h;cases h
  |some a=>
   cases aA:dq s.2 with
   |none=>rw[Ho j aA]at h;cases h
   |some b=>
    have e:gM (s::l)=(gM l).map ((a,b)::·):=by
     show(match dq s.1 with|some a=>(match dq s.2 with|some b=>(gM l).map ((a,b)::·)|none=>none)|none=>none)=_;rw[j,aA]
    rw[e]at h;cases d:gM l with
    |none=>rw[d]at h;cases h
    |some w=>
     rw[d]at h;cases h;rcases e1.1 c with rfl|c
     ·have:=i s g5;exact⟨YZ this.1 j,YZ this.2 aA⟩
     ·exact Na (λt n=>i t<|e5 _ n) d v c
def Y2{y:Rat}:jA x y<=0↔¬y<x:=by
 unfold jA;by_cases h:x<y
 ·rw[aE h];exact⟨λ_=>so.2<|Rat.le_of_lt h,λ_=>al⟩
 ·rw[aw h];by_cases c:x=y
  ·rw[aE c];subst c;exact⟨λ_=>h,λ_=>al⟩
  ·rw[aw c];exact⟨λg=>absurd g al,λg=>absurd (Rat.le_antisymm (so.1 g)<|so.1 h) c⟩
def Y3:PP where
 L:=ec×ac fo
 args:=λ(p,l)=>[jC p,.c6 2 fo si l]
 pre:=λ(p,l)=>p.ins.length<=6/\∀s∈l,s.1.length<=2000/\s.2.length<=2000
 out:=λ(p,l)=>xx p.ins.length l
def an3(l:ac fo)(k:Nat):ac gm->cl
 |[]=>⟨[],0,[(16,.c6 2 fo si l),(17,.aa (l.length:Int)),(18,.aa (k:Nat)),(4,.nl)]⟩
 |v::ad=>⟨[.a 162 true 6 gm lF<|v::ad],1,[(16,.c6 2 fo si l),(17,.aa (l.length:Int)),(18,.aa (k:Nat)),(4,.aK 0 6 0 (ad.length+1)<|ad.length+1)]⟩
def Y4:kD bS.ctx 33 Y3.spec:=by
 refine xw [(98,YM),(88,zE),(106,Gv)] T8.1 ?_;rintro⟨p,l⟩ ⟨(hp:p.ins.length<=6),(B:∀s∈l,s.1.length<=2000/\s.2.length<=2000)⟩ H au _;refine I 14 ?_;by_cases D:l.length=p.ins.length
 case neg=>
  exact c2 14<|kp jh (false,2) aC (ed 2) j<|I 1<|an (jz (show xx _ l=_ from aw D))
 have u:∀{U:qE},(match gM l with
  |some c=>if qY c=true then qE.ret (.cU 6 gm lF c)else .aR (ed 7)
  |none=>.aR<|ed 6)=U->xx p.ins.length l=U:=λh=>(aE D).trans h
 refine dd 14<|lz jh (true,2) aC (.bq []) j<|I 11<|eu (L:=Nat×ac gm) (λ(k,c)=>k<=l.length/\c.length=k/\gM l=(gM<|l.drop k).map (c++·)) (λ(k,c)=>an3 l k c) (λx=>l.length-x.1) [] (0,[]) ⟨dw _,j,by rw[iQ];cases gM l<;>rfl⟩ (by show l.length-0<bx+1;unfold bx;omega) g1 ?_;rintro⟨k,c⟩ ⟨J,z,d⟩;by_cases aT:k<l.length
 ·have hm:=B l[k]<|kc aT;have F:l≠[]:=λe=>by rw[e]at aT;exact p2 _ aT
  rw[gp aT]at d;rcases c with _|⟨v,c⟩<;>(
   refine I 3<|dd 19<|ix 16 (.cU 2 fo si l) j (.kW F)<|I 10<|fc l[k] (a0 aT) j<|ix 16 (.c6 2 fo si l) rfl .c6 ?_;refine st ?_;cases q:dq l[k].1 with
   |none=>
    exact wN Hj l[k].1 hm.1 (ed 6) (Y1 q)<|I 5<|an (jz (u<|by rw[d,Hn q];rfl))
   |some a=>
   refine wM Hj l[k].1 hm.1 (cc a) (Y0 q)<|st ?_;cases n:dq l[k].2 with
   |none=>
    exact wN Hj l[k].2 hm.2 (ed 6) (Y1 n)<|I 5<|an (jz (u<|by rw[d,Ho q n];rfl))
   |some b=>
   refine wM Hj l[k].2 hm.2 (cc b) (Y0 n)<|I 3 ?_;have A:=d.trans (an2 q n)
   (try refine K0 lF [(a,b)] (jt (ai:=lF) [(a,b)] j) ?_);(try refine K1 (ai:=lF) [(a,b)] (jt (ai:=lF) [(a,b)] j) ?_ (ah:=av) (aA:=by show(5*(c.length+1+1)+1792)*113<=1125899906842624;have:=z;simp only[hN]at this;omega))
   refine I 6<|cd 32 ((k+1:Nat):Int)<|I 2 ?_
   first
    |exact bW [2] (k+1,[(a,b)]) ⟨by show l.length-(k+1)<l.length-k;omega,aT,by have:=z;simp only[Db]at this;show 0+1=k+1;omega,A⟩ bB
    |exact bW [3] (k+1,_::(_++[(a,b)])) ⟨by show l.length-(k+1)<l.length-k;omega,aT,by have:=z;simp only[hN]at this;simp;omega,A⟩<|bB (aL:=⟨j,j,j,congrArg (λk=>some<|ag.aK 3 6 0 k k) av,aC⟩))
 ·have G:k=l.length:=by omega
  subst G;have d:gM l=some c:=by
   rw[d,sn];show some (c++[])=_;rw[rb]
  have E:qY c≠true->xx p.ins.length l= .aR (ed 7):=λh=>u (by rw[d];exact aw h);have C:qY c=true->xx p.ins.length l= .ret (.cU 6 gm lF c):=λh=>u (by rw[d];exact aE h);rcases c with _|⟨v,c⟩
  ·refine I 3<|c2 19<|I 18<|eu (L:=Unit) (λ_=>True) (λ_=>⟨[],0,[(35,.aa 0),(34,.aa 0),(4,.nl)]⟩) (λ_=>0) [] () aC (by show 0<bx+1;unfold bx;decide) g1 ?_;rintro _ _;exact I 19<|an (sR j j (C j) bJ.nl)
  ·refine I 3<|c2 19<|I 18<|eu (L:=Nat) (λi=>i<=c.length+1/\qY ((v::c).take i)=true) (λ(i:Nat)=>⟨[.a 162 true 6 gm lF<|v::c],1,[(35,.aa (i:Nat)),(34,.aa ((c.length+1:Nat):Int)),(33,.aK 0 6 0 (c.length+1)<|c.length+1),(4,.aK 0 6 0 (c.length+1)<|c.length+1)]⟩) (λi=>c.length+1-i) [0] 0 ⟨dw _,j⟩ (by show c.length+1-0<bx+1;have:=z;simp only[hN]at this;unfold bx;omega) g1 ?_;rintro(i:Nat) ⟨af,n⟩;refine I 6<|cG (λh=>?_) λh=>?_
   ·have h:i<(v::c).length:=by show i<c.length+1;omega
    refine I 6<|mG ?_;refine Fx (v::c)[i] (show(v::c)[0+i]? =some (v::c)[i] by rw[iE];exact a0 h) ?_;have ah:=Na B d _<|kc h;refine I 9<|aV L9 ((v::c)[i].1,(v::c)[i].2) ⟨eb ah.1,eb ah.2⟩<|I 1 ?_;by_cases r:(v::c)[i].2<(v::c)[i].1
    ·refine v0 44 (λg=>Y2.1 g r) ?_;exact kp jh (false,7) aC (ed 7) j<|I 5<|an (jz<|E λe=>hO (il.1 e _<|kc h) r)
    ·refine v1 44 (Y2.2 r)<|lz jh (true,7) aC (.bq []) j<|I 7<|bW [0] (i+1) ⟨by show c.length+1-(i+1)<c.length+1-i;omega,R,?_⟩ bB;unfold qY at n⊢;rw[kd h,An,n,xO,List.all_nil,ck r];rfl
   ·have h:i=(v::c).length:=by show i=c.length+1;omega
    rw[h,o1]at n;refine I 8<|kn 47 ?_;exact I 4<|an (sR j j (C n)<|bJ.refl _)
def an4(h:v<10^k):dP (k/9+1) v:=by
 refine sb<|xH h ?_
 calc 10^k<=10^(9*(k/9+1)):=jG al R
  _=(10^9)^(k/9+1):=re 10 9 (k/9+1)
  _<=4294967296^(k/9+1):=xY al _
def Y5{m:Nat}(h:v<10^k)(ax:k<=m):dP (m/9+2) v:=cP (an4 h) R
def an5(h:dq s=some x):b9 (s.length/9+2) x:=by
 obtain⟨P,q,o,_,_,z,B,C,A,D⟩:=CB<|dt s.length;by_cases n:jB (df s).1 P q o
 ·obtain⟨c,d,a2⟩:=n;have r:=Y5 (l3 c.2.1) z;cases o with
  |false=>
   have e:=A ⟨c,d,a2⟩ j;rw[h]at e;cases e;exact nc (by rw[nf];exact r) (cP (h5 al) R) al
  |true=>
   obtain⟨i,u,E⟩:=a2 j;have g8:b6 q≠0:=λh=>u<|sf i h;have e:=D ⟨c,d,a2⟩ j;rw[h]at e;split at e
   ·cases e;exact nc (by rw[nf];exact r) (Y5 (l3 i.2.1) B) g8
   ·cases e
 ·rw[C n]at h;cases h
def l7(n:Nat)(t:dj):Except Int (aO×Rat):=match hy t.b8 with
 |some x=>if vb n t=true then .ok (nk t.eh,x)else .error 7
 |none=>.error<|g3 t.b8
def an6{n:Nat}(h:l7 n t= .ok l6):pT n t= .ret (.bq [l0 l6.1,cc l6.2]):=by
 unfold l7 at h;unfold pT;cases c:hy t.b8 with
 |none=>rw[c]at h;cases h
 |some x=>
  rw[c]at h;dsimp only at h⊢;split at h
  ·cases h;rename_i e;exact aE e
  ·cases h
def an7{n:Nat}{c:Int}(h:l7 n t= .error c):pT n t= .aR (ed c):=by
 unfold l7 at h;unfold pT;cases d:hy t.b8 with
 |none=>rw[d]at h;cases h;rfl
 |some x=>
  rw[d]at h;dsimp only at h⊢;split at h
  ·cases h
  ·cases h;rename_i e;exact aw e
def an8(h:va l=true):(nk l).ik:=by
 have c:=λi=>M8 h l.length i;have u:=λi=>M9 h i;have o:=c 0;have q:=c 1;have r:=c 2;have j:=c 3;have d:=c 4;have n:=c 5;rw[<-u]at o q r j d n;unfold aO.ik nk;dsimp only;omega
def Y6{n:Nat}(h:l7 n t= .ok l6):l6.1.ik/\b9 (t.b8.length/9+2) l6.2:=by
 unfold l7 at h;cases c:hy t.b8 with
 |none=>rw[c]at h;cases h
 |some x=>
  rw[c]at h;dsimp only at h;split at h
  ·rename_i e;cases h;unfold vb at e;rw[cO,cO]at e;exact⟨an8 e.1.2,an5<|anX c⟩
  ·cases h
def kK(n:Nat):Poly->ac dj->Except Int Poly
 |P,[]=>.ok P
 |P,t::l=>match l7 n t with
  |.ok l6=>kK n (eC P l6.1 l6.2) l
  |.error c=>.error c
def jD(l:ac dj):Nat:=fp<|l.map λt=>t.b8.length/9+3
def Y7(ax:2<=k):b9 k 0:=⟨cP (h5 al) ax,cP (h5 al) ax⟩
def Hp(ax:2<=k)(h:∀p∈P,b9 k p.2)(J:aO):b9 k (b8 P J):=by
 induction P with
 |nil=>exact Y7 ax
 |cons p P c=>
  unfold b8;split
  ·exact h p g5
  ·exact c λq d=>h q<|e5 _ d
def Nb{a b:Nat}(u:2<=a)(D:P.eB)(h:∀p∈P,p.1.ik/\b9 a p.2){k:aO}(ax:k.ik)(j:b9 b x):∀p∈eC P k x,p.1.ik/\b9 (b+a+1) p.2:=λp hp=>by
 rcases(mJ D k x p).1 hp with⟨c,d,_⟩|⟨c,_⟩
 ·rw[c,d];exact⟨ax,uU j<|Hp u (λq i=>(h q i).2) k⟩
 ·exact⟨(h p c).1,eb (h p c).2 R⟩
theorem Y8{n:Nat}:∀{l:ac dj} {P f:Poly} {a:Nat},2<=a->P.eB->P.jx->(∀p∈P,p.1.ik/\b9 a p.2)->kK n P l= .ok f->f.eB/\f.jx/\∀p∈f,p.1.ik/\b9 (a+jD l) p.2
 |[],P,f,a,_,d,ah,h,e=>by cases e;exact⟨d,ah,h⟩
 |t::l,P,f,a,o,d,ah,h,e=>by
  unfold kK at e;cases j:l7 n t with
  |error c=>rw[j]at e;cases e
  |ok l6=>
   rw[j]at e;have ax:=Y6 j;have i:=Y8 R (mK d l6.1 l6.2) (Ca d ah l6.1 l6.2) (Nb o d h ax.1 ax.2) e;refine⟨i.1,i.2.1,λp hp=>⟨(i.2.2 p hp).1,eb (i.2.2 p hp).2 ?_⟩⟩;show t.b8.length/9+2+a+1+jD l<=a+(t.b8.length/9+3+jD l);omega
structure iO where
 c:Rat
 k:Int
 f:Poly
def vc(x:iO):ac ag:=gA x.c++[.aa x.k,.g<|fB<|eZ x.f]
def kL(n:Nat)(s:dR):Except Int iO:=match hy s.b8 with
 |some c=>if¬c<0/\-1<=s.iN/\s.iN<(n:Int)then(match kK n [] s.dr with
  |.ok f=>.ok ⟨c,s.iN,f⟩
  |.error e=>.error e)else .error 7
 |none=>.error<|g3 s.b8
def h0(n:Nat):ac dR->Except Int (ac iO)
 |[]=>.ok []
 |s::l=>match kL n s with
  |.ok x=>(match h0 n l with
   |.ok xs=>.ok (x::xs)
   |.error e=>.error e)
  |.error e=>.error e
def l8(bL:ac gm)(x:iO):be Poly:=
 if lE x.f=true then
  let g:=e8 (kJ x.f x.f)
  if lE g=true then
   (if 0<=x.k then
    let b:=bL.getD x.k.toNat (0,0)
    let v:Poly:=[(aO.var x.k.toNat,1)]
    let c:=e8 (kJ g<|e8<|kJ (fC v (-1)<|eC [] aO.zero b.1)<|fC (eC [] aO.zero b.2) (-1) v)
    if lE c=true then some c else none
   else some g)
  else none
 else none
def kb(bL:ac gm):Poly->ac iO->be Poly
 |S,[]=>some S
 |S,x::l=>match l8 bL x with
  |some g=>if lE (fC S x.c g)=true then kb bL (fC S x.c g) l else none
  |none=>none
def vd(n:Nat)(bL:ac gm)(l:ac dR):qE:=
 if l.length<=20/\(∀s∈l,s.dr.length<=200)then(match h0 n l with
  |.ok xs=>(match kb bL [] xs with
   |some S=>.ret (.g<|fB<|eZ S)
   |none=>.aR<|ed 3)
  |.error e=>.aR<|ed e)else .aR (ed 3)
def Nc:PP where
 L:=ec×ac gm×ac dR
 args:=λ(p,bL,l)=>[jC p,.cU 6 gm lF bL,.c6 3 dR k6 l]
 pre:=λ(p,bL,l)=>p.ins.length<=6/\bL.length=p.ins.length/\(∀v∈bL,b9 250 v.1/\b9 250 v.2)/\∀s∈l,s.b8.length<=3000/\(∀t∈s.dr,t.b8.length<=3000)/\jD s.dr<=1000
 out:=λ(p,bL,l)=>vd p.ins.length bL l
theorem CK:∀(P:Poly) (k:aO) (x:Rat),(eC P k x).length<=P.length+1
 |[],k,x=>by unfold eC;split<;>simp
 |p::P,k,x=>by
  have:=CK P k x;unfold eC;split
  ·split<;>simp<;>omega
  ·split
   ·split<;>simp<;>omega
   ·simp;omega
def an9(W:mP):(e8 W).length<=W.length:=xt (p:=λW=>(e8 W).length<=W.length) (dt _) (λW w c=>by
 rw[u7,kz];have:=CK (e8 W) (w.1.1.add w.2.1)<|w.1.2*w.2.2;show _<=W.length+1;omega) W
def aoa(f g:Poly):(kJ f g).length=f.length*g.length:=by
 unfold kJ
 induction f with
 |nil=>simp
 |cons p f c=>rw[tx,kz,hz,c,hN,e2];omega
theorem Y9{x:Rat}:∀(W P:Poly),(fC P x W).length<=P.length+W.length
 |[],P=>dt _
 |p::W,P=>by
  have aF:=Y9 (x:=x) W<|eC P p.1<|p.2*x;have c:=CK P p.1<|p.2*x;show(fC (eC P p.1<|p.2*x) x W).length<=P.length+(W.length+1);omega
theorem Za{Q:aO->Prop}{x:Rat}:∀{W P:Poly},P.eB->(∀p∈P,Q p.1)->(∀p∈W,Q p.1)->∀p∈fC P x W,Q p.1
 |[],P,_,h,_,p,hp=>h p hp
 |w::W,P,j,h,c,p,hp=>Za (mK j w.1<|w.2*x) (λq cz=>by
  rcases(mJ j w.1 (w.2*x) q).1 cz with⟨aF,_⟩|⟨aF,_⟩
  ·rw[aF];exact c w g5
  ·exact h q aF) (λq cz=>c q<|e5 _ cz) p hp
def aob{W:Poly}{a b c:Nat}(D:2<=a)(aA:2<=b)(j:P.eB)(G:W.eB)(F:∀p∈P,b9 a p.2)(E:∀p∈W,b9 b p.2)(u:b9 c x):∀p∈fC P x W,b9 (b+c+a+1) p.2:=λp hp=>by
 have e:=kG (s5 j) hp;rw[Ck j<|Mf G]at e;rw[<-e];exact uU (u6 (Hp aA E p.1) u)<|Hp D F p.1
def aoc{Q:aO->Prop}(W:mP):(∀w∈W,Q<|w.1.1.add w.2.1)->∀p∈e8 W,Q p.1:=xt (p:=λW=>(∀w∈W,Q<|w.1.1.add w.2.1)->∀p∈e8 W,Q p.1) (λ_ p hp=>by cases hp) (λW w d h p hp=>by
 rw[u7]at hp;rcases(mJ (tf W) _ _ p).1 hp with⟨c,_⟩|⟨c,_⟩
 ·rw[c];exact h w<|hf.2<|.inr<|hh.2 j
 ·exact d (λv i=>h v<|hf.2<|.inl i) p c) W
def aO.le(n:Nat)(k:aO):Prop:=k.a<=n/\k.b<=n/\k.c<=n/\k.d<=n/\k.e<=n/\k.f<=n
def aod{m n:Nat}{k J:aO}(h:k.le m)(u:J.le n):(k.add J).le (m+n):=by
 unfold aO.le at h u ⊢;unfold aO.add;dsimp only;omega
def Hq{n:Nat}{k:aO}(h:k.le n)(ah:n<2048):k.ik:=by unfold aO.le at h;unfold aO.ik;omega
def aoe(i:Nat):(aO.var i).le 1:=by unfold aO.le aO.var;dsimp only;refine⟨?_,?_,?_,?_,?_,?_⟩<;>split<;>decide
def Hr:aO.zero.le 1:=by unfold aO.le aO.zero;decide
structure e9(n m a:Nat)(f:Poly):Prop where
 s:f.eB
 z:f.jx
 l:f.length<=n
 k:∀p∈f,p.1.le m
 b:∀p∈f,b9 a p.2
variable{m b:Nat}
def e9.var(i:Nat):e9 1 1 2 [(aO.var i,1)]:=
 ⟨H4 _ _,(λp hp=>by rw[hh]at hp;rw[hp];exact av),dt _,(λp hp=>by rw[hh]at hp;rw[hp];exact aoe i),(λp hp=>by rw[hh]at hp;rw[hp];exact(⟨h5 al,h5 al⟩:b9 2 1))⟩
def e9.nil:e9 0 1 2 []:=⟨List.Pairwise.nil,(λp hp=>by cases hp),dt _,(λp hp=>by cases hp),(λp hp=>by cases hp)⟩
def e9.put{n a:Nat}{f:Poly}{k:aO}(h:e9 n m a f)(u:2<=a)(ax:k.le m)(j:b9 b x):e9 (n+1) m (b+a+1) (eC f k x):=
 ⟨mK h.s k x,Ca h.s h.z k x,cC (CK f k x)<|Dk h.l 1,λp hp=>by
  rcases(mJ h.s k x p).1 hp with⟨c,_⟩|⟨c,_⟩
  ·rw[c];exact ax
  ·exact h.k p c,λp hp=>by
  rcases(mJ h.s k x p).1 hp with⟨_,d,_⟩|⟨c,_⟩
  ·rw[d];exact uU j<|Hp u h.b k
  ·exact eb (h.b p c) R⟩
def e9.zG{n d a c:Nat}{f g:Poly}(h:e9 n m a f)(j:e9 d m b g)(D:2<=a)(aA:2<=b)(u:b9 c x):e9 (n+d) m (b+c+a+1) (fC f x g):=
 ⟨s5 h.s,zv h.s h.z,cC (Y9 g f)<|Nat.add_le_add h.l j.l,Za h.s h.k j.k,aob D aA h.s j.s h.b j.b u⟩
theorem e9.e8{n u m d a b:Nat}{f g:Poly}(h:e9 n m a f)(j:e9 u d b g):e9 (n*u) (m+d) (u*(a+b+1)+2) (e8<|kJ f g):=
 ⟨tf _,Hf _,cC (an9 _)<|by rw[aoa];exact Af h.l j.l,aoc _ λw c=>aod (h.k _ (xu.1 c).1)<|j.k _ (xu.1 c).2,
  λp hp=>eb (YJ h.s (YH (Hh h.s)<|Hh j.s) (λw c=>xu.1 c) h.b j.b p hp)<|Dk (lI _ j.l) 2⟩
def e9.fit{n a:Nat}{f:Poly}(h:e9 n m a f)(j:lE f=true):e9 200 16 a f:=by
 unfold lE at j;rw[cO]at j;refine⟨h.s,h.z,hO j.1,λp hp=>?_,h.b⟩;have i:=hO<|il.1 j.2 p hp;have e:p.1.pS=p.1.a+(p.1.b+(p.1.c+(p.1.d+(p.1.e+(p.1.f+0))))):=rfl;unfold aO.le;omega
theorem Zb{n:Nat}:∀{l:ac dj} {P f:Poly},kK n P l= .ok f->f.length<=P.length+l.length
 |[],P,f,e=>by cases e;exact dt _
 |t::l,P,f,e=>by
  unfold kK at e;cases j:l7 n t with
  |error c=>rw[j]at e;cases e
  |ok l6=>
   rw[j]at e;have h:=Zb e;have:=CK P l6.1 l6.2;rw[hN];omega
structure nM(n:Nat)(x:iO):Prop where
 f:e9 200 2047 1002 x.f
 c:b9 250 x.c
 a9: -1<=x.k
 bH:x.k<(n:Int)
def aof{n:Nat}{s:dR}{x:iO}(bX:s.b8.length<=3000)(aF:jD s.dr<=1000)(aL:s.dr.length<=200)(h:kL n s= .ok x):nM n x:=by
 unfold kL at h;cases i:hy s.b8 with
 |none=>rw[i]at h;cases h
 |some c=>
  rw[i]at h;dsimp only at h;split at h
  ·rename_i j;cases d:kK n [] s.dr with
   |error e=>rw[d]at h;cases h
   |ok f=>
    rw[d]at h;cases h;obtain⟨q,r,o⟩:=Y8 (dt 2) List.Pairwise.nil (λp hp=>by cases hp) (λp hp=>by cases hp) d;have u:=Zb d;refine⟨⟨q,r,by rw[Db]at u;show f.length<=200;omega,λp hp=>?_,λp hp=>eb (o p hp).2 R⟩,YT i,j.2.1,j.2.2⟩;have:=(o p hp).1;unfold aO.ik at this;unfold aO.le;omega
  ·cases h
theorem Hs{n:Nat}:∀{l:ac dR} {xs:ac iO},(∀s∈l,s.b8.length<=3000/\jD s.dr<=1000/\s.dr.length<=200)->h0 n l= .ok xs->∀x∈xs,nM n x
 |[],xs,_,h,x,c=>by cases h;cases c
 |s::l,xs,d,h,x,c=>by
  unfold h0 at h;cases aF:kL n s with
  |error e=>rw[aF]at h;cases h
  |ok y=>
   rw[aF]at h;cases aL:h0 n l with
   |error e=>rw[aL]at h;cases h
   |ok j=>
    rw[aL]at h;cases h;rcases e1.1 c with rfl|c
    ·have:=d s g5;exact aof this.1 this.2.1 this.2.2 aF
    ·exact Hs (λt i=>d t<|e5 _ i) aL x c
